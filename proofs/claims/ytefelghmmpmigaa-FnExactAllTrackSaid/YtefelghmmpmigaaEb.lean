/- A plain evaluator over the code of a function, and the proof that it tells the truth (second part) -/
import Derived.Test.YtefelghmmpmigaaEa
import Derived.Maps.Own
namespace Go.Ev
set_option linter.unusedVariables false
set_option linter.unusedSimpArgs false
open Go.RowKit

section
variable {P : Program} {tb : Nat → Ti} {base n : Nat} {w0 : World} {env : Nat → AV} {h h' h2 : Heap} {a : Act} {w w' : World} {hv hv' hv2 : Nat → Value} {L L' L2 : Nat → Option Lb} {X X' : Nat → Prop} {lf : AV → Value → Prop} {A A' : Nat → Prop} {id0 : Nat}
/-- behind a call: what it handed back is set aside -/
theorem Sim.after (S : Sim tb base w0 n ⟨env, h⟩ a w hv L X) (hb : Below w.heap.size w w') {F : List Nat} (hF : ∀ g ∈ F, w.heap.size ≤ g ∧ g < w'.heap.size) :
    Sim tb base w0 n ⟨env, h⟩ a w' hv (fun g => if g < w.heap.size then L g else none) (fun g => X g ∨ g ∈ F) ∧ ∀ y u F', VRel tb h hv X w y u F' → VRel tb h hv (fun g => X g ∨ g ∈ F) w' y u F' := by
  have okA : ∀ g, Ok hv w X g → Ok hv w' (fun g => X g ∨ g ∈ F) g := fun g hg => ⟨Nat.lt_of_lt_of_le hg.1 hb.size, hg.2.1, fun hx => hx.elim hg.2.2 (fun hm => by have := (hF g hm).1; have := hg.1; omega)⟩
  have hval : ∀ y u F', VRel tb h hv X w y u F' → VRel tb h hv (fun g => X g ∨ g ∈ F) w' y u F' := fun y u F' r => Rel.imp (fun _ _ h => h) okA (fun g hg => hb.block g hg.1) r
  refine ⟨{ below := S.below.trans (hb.mono S.size), size := Nat.le_trans S.size hb.size, defers := S.defers, tmps := S.tmps, vals := fun t => ?_, blks := fun id b hid => ?_, lab := fun id g hg => ?_, noneH := S.noneH, xlt := fun g hx => ?_ }, hval⟩
  · obtain ⟨F', r⟩ := S.vals t
    exact ⟨F', hval _ _ _ r⟩
  · have hB := S.reset.blks id b hid
    cases b with
    | dead => exact hB
    | row e g bb cs =>
      obtain ⟨m, us, h1, h2, h3, h4⟩ := hB
      refine ⟨m, us, owns_kept h1 fun g hg => hb.block g (S.lab id g (blkOf_own hg)).2.2.1, h2, h3, fun j c u hc hu => ?_⟩
      obtain ⟨F', q1, q2, q3⟩ := h4 j c u hc hu
      exact ⟨F', q1.imp (fun _ _ h => h) (fun k hk => ⟨okA k hk.1, hk.2⟩) (fun k hk => hb.block k hk.1.1), q2, q3⟩
    | box t cs =>
      obtain ⟨g, us, h1, h2, h3, h4, h5⟩ := hB
      have hg : blkOf (hv id) = some g := by rw [h1]; rfl
      refine ⟨g, us, h1, (hb.block g (S.lab id g hg).2.2.1).trans h2, h3, h4, fun j c u hc hu => ?_⟩
      obtain ⟨F', r⟩ := h5 j c u hc hu
      exact ⟨F', hval _ _ _ r⟩
    | mp t es =>
      obtain ⟨g, ents, clock, h1, h2, h3, h4⟩ := hB
      have hg : blkOf (hv id) = some g := by rw [h1]; rfl
      refine ⟨g, ents, clock, h1, (hb.block g (S.lab id g hg).2.2.1).trans h2, h3, fun j kv hj => ?_⟩
      obtain ⟨m, h5, h6, h7⟩ := h4 j kv hj
      exact ⟨m, h5, h6.imp (fun _ _ h => h) (fun _ h => h) (fun _ h => h.elim), h7.imp (fun _ _ h => h) (fun _ h => h) (fun _ h => h.elim)⟩
    | ext m cs =>
      obtain ⟨v, h1, h2⟩ := hB
      exact ⟨v, h1, h2.imp (fun _ _ h => h) (fun _ h => h) (fun k hk => hb.block k (Nat.lt_of_lt_of_le hk S.size))⟩
  · obtain ⟨h1, h2, h3, h4⟩ := S.reset.lab id g hg
    exact ⟨h1, h2, Nat.lt_of_lt_of_le h3 hb.size, fun hx => hx.elim h4 (fun hm => by have := (hF g hm).1; omega)⟩
  · rcases hx with hx | hx
    · exact ⟨Nat.lt_of_lt_of_le (S.xlt g hx).1 hb.size, (S.xlt g hx).2⟩
    · exact ⟨(hF g hx).2, Nat.le_trans S.size (hF g hx).1⟩
/-- less is set aside, and its labels are new -/
theorem Sim.lessX (S : Sim tb base w0 n ⟨env, h⟩ a w hv L X) (hX : ∀ g, X' g → X g) (hL : ∀ g, ¬ X g → L' g = L g) : Sim tb base w0 n ⟨env, h⟩ a w hv L' X' ∧ ∀ y u F', VRel tb h hv X w y u F' → VRel tb h hv X' w y u F' := by
  have okA : ∀ g, Ok hv w X g → Ok hv w X' g := fun g hg => ⟨hg.1, hg.2.1, fun hx => hg.2.2 (hX g hx)⟩
  have hval : ∀ y u F', VRel tb h hv X w y u F' → VRel tb h hv X' w y u F' := fun y u F' r => Rel.imp (fun _ _ h => h) okA (fun _ _ => rfl) r
  refine ⟨{ below := S.below, size := S.size, defers := S.defers, tmps := S.tmps, vals := fun t => ?_, blks := fun id b hid => ?_, lab := fun id g hg => ?_, noneH := S.noneH, xlt := fun g hx => S.xlt g (hX g hx) }, hval⟩
  · obtain ⟨F', r⟩ := S.vals t
    exact ⟨F', hval _ _ _ r⟩
  · have hB := S.blks id b hid
    cases b with
    | dead => exact hB
    | row e g bb cs =>
      obtain ⟨m, us, h1, h2, h3, h4⟩ := hB
      refine ⟨m, us, h1, h2, h3, fun j c u hc hu => ?_⟩
      obtain ⟨F', q1, q2, q3⟩ := h4 j c u hc hu
      exact ⟨F', q1.imp (fun _ _ h => h) (fun k hk => ⟨okA k hk.1, hk.2⟩) (fun _ _ => rfl), q2, fun k hk => ⟨(hL k (q1.foot k hk).1.2.2).trans (q3 k hk).1, (q3 k hk).2⟩⟩
    | box t cs =>
      obtain ⟨g, us, h1, h2, h3, h4, h5⟩ := hB
      refine ⟨g, us, h1, h2, h3, h4, fun j c u hc hu => ?_⟩
      obtain ⟨F', r⟩ := h5 j c u hc hu
      exact ⟨F', hval _ _ _ r⟩
    | mp t es => exact hB
    | ext m cs => exact hB
  · obtain ⟨h1, h2, h3, h4⟩ := S.lab id g hg
    exact ⟨(hL g h4).trans h1, h2, h3, fun hx => h4 (hX g hx)⟩
/-- what importing keeps -/
structure Imported (tb : Nat → Ti) (base : Nat) (w0 : World) (n : Nat) (env : Nat → AV) (a : Act) (w : World) (h h' : Heap) (hv hv' : Nat → Value) (L' : Nat → Option Lb) (X X' : Nat → Prop) (F : List Nat) : Prop where
  sim : Sim tb base w0 n ⟨env, h'⟩ a w hv' L' X'
  val : ∀ y u F', VRel tb h hv X w y u F' → VRel tb h' hv' X' w y u F'
  rest : ∀ g, X g → g ∉ F → X' g
open Classical in
theorem import1_sound (S : Sim tb base w0 n ⟨env, h⟩ a w hv L X) {d : Option Nat} {j : Nat} {r : AV} {v : Value} {F : List Nat} (hR : Res1 tb w r v F) (hN : F.Nodup) (hF : ∀ g ∈ F, X g) {K : AV → Heap → Prop} (hK : import1 d j r h K) :
    ∃ c h' hv' L' X', K c h' ∧ Imported tb base w0 n env a w h h' hv hv' L' X X' F ∧ VRel tb h' hv' X' w c v [] ∧ v.oneCell' = true := by
  unfold import1 at hK
  split at hK
  · rename_i e m cs
    obtain ⟨us, Fs, ho, hl, h1, hr, rfl⟩ := hR
    obtain ⟨hid, hK⟩ := newB_inv hK
    rw [List.nodup_append] at hN
    obtain ⟨_, hN2, hN3⟩ := hN
    have hmem : ∀ j k, j < cs.length → k ∈ Fs j → k ∈ (List.range cs.length).flatMap Fs := fun j k hj hk => List.mem_flatMap.2 ⟨j, List.mem_range.2 hj, hk⟩
    have huniq : ∀ (l : List Nat) (Fs : Nat → List Nat), (l.flatMap Fs).Nodup → ∀ i j, i ∈ l → j ∈ l → ∀ k, k ∈ Fs i → k ∈ Fs j → i = j ∨ False := by
      intro l
      induction l with
      | nil => intro Fs _ i j hi; simp at hi
      | cons x l ih =>
        intro Fs hn i j hi hj k hki hkj
        rw [List.flatMap_cons, List.nodup_append] at hn
        rcases List.mem_cons.1 hi with rfl | hi'
        · rcases List.mem_cons.1 hj with rfl | hj'
          · exact .inl rfl
          · exact absurd rfl (hn.2.2 k hki k (List.mem_flatMap.2 ⟨j, hj', hkj⟩))
        · rcases List.mem_cons.1 hj with rfl | hj'
          · exact absurd rfl (hn.2.2 k hkj k (List.mem_flatMap.2 ⟨i, hi', hki⟩))
          · exact ih Fs hn.2.1 i j hi' hj' k hki hkj
    let X2 : Nat → Prop := fun g => X g ∧ g ∉ (List.range cs.length).flatMap Fs
    let L2 : Nat → Option Lb := fun g => if hg : ∃ j, j < cs.length ∧ g ∈ Fs j then some (.pend (Classical.choose hg)) else L g
    have hin : ∀ j k, j < cs.length → k ∈ Fs j → X k := fun j k hj hk => hF k (List.mem_append_right _ (hmem j k hj hk))
    obtain ⟨S2, v2⟩ := S.lessX (X' := X2) (L' := L2) (fun g hg => hg.1) (fun g hg => by
      have : ¬ ∃ j, j < cs.length ∧ g ∈ Fs j := fun ⟨j, hj, hk⟩ => hg (hin j g hj hk)
      simp only [L2, dif_neg this])
    have hblk : ∀ g, v.ownBlock = some g → X g ∧ g ∉ (List.range cs.length).flatMap Fs := fun g hg => ⟨hF g (List.mem_append_left _ (by simp [hg])), fun hm => hN3 g (by simp [hg]) g hm rfl⟩
    have hNj : ∀ j, j < cs.length → (Fs j).Nodup := by
      intro j hj
      have key : ∀ (l : List Nat), (l.flatMap Fs).Nodup → j ∈ l → (Fs j).Nodup := by
        intro l
        induction l with
        | nil => intro _ h; simp at h
        | cons x l ih =>
          intro hn hjl
          rw [List.flatMap_cons, List.nodup_append] at hn
          rcases List.mem_cons.1 hjl with rfl | hjl
          · exact hn.1
          · exact ih hn.2.1 hjl
      exact key _ hN2 (List.mem_range.2 hj)
    have hC : RowCells tb base hv L2 X2 w false .pend cs us := by
      refine ⟨hl.1, h1, fun j c u hc hu => ?_⟩
      have hj : j < cs.length := (List.getElem?_eq_some_iff.1 hc).1
      refine ⟨Fs j, (hr j c u hc hu).imp (fun _ _ h => h) (fun k hk => ⟨⟨(S.xlt k (hin j k hj hk)).1, fun i hi => (S.lab i k hi).2.2.2 (hin j k hj hk), fun hx => hx.2 (hmem j k hj hk)⟩, fun _ => hk⟩) (fun _ _ => rfl), hNj j hj, fun k hk => ⟨?_, (S.xlt k (hin j k hj hk)).2⟩⟩
      have hg : ∃ j, j < cs.length ∧ k ∈ Fs j := ⟨j, hj, hk⟩
      simp only [L2, dif_pos hg]
      have hs := Classical.choose_spec hg
      rcases huniq _ Fs hN2 _ _ (List.mem_range.2 hs.1) (List.mem_range.2 hj) k hs.2 hk with e | e
      · rw [e]
      · exact e.elim
    obtain ⟨hv3, L3, S3, r3, v3⟩ := S2.newRowX (id := tag d j) hid hl.2 hC (w' := w) (m := m) (v := v) (fun _ _ _ => rfl) (Nat.le_refl _) ⟨rfl, rfl, rfl⟩ (owns_base ho fun g hg => (S.xlt g (hblk g hg).1).2) (fun g hg => .inr (hblk g hg))
    refine ⟨_, _, hv3, L3, _, hK, ⟨S3, fun y u F' r => v3 _ _ _ (v2 _ _ _ r), fun g hg hn => ⟨⟨hg, fun hm => hn (List.mem_append_right _ hm)⟩, fun hb => hn (List.mem_append_left _ (by rw [← owns_blk ho, hb]; simp))⟩⟩, r3, ?_⟩
    obtain ⟨Ad, cap, rfl, _⟩ := owns_reads ho
    rfl
  · obtain ⟨rfl, rfl⟩ := hR
    exact ⟨_, h, hv, L, X, hK, ⟨S, fun _ _ _ r => r, fun _ hg _ => hg⟩, .int _ _, rfl⟩
  · obtain ⟨rfl, rfl⟩ := hR
    exact ⟨_, h, hv, L, X, hK, ⟨S, fun _ _ _ r => r, fun _ hg _ => hg⟩, .bool _, rfl⟩
  · obtain ⟨rfl, rfl⟩ := hR
    exact ⟨_, h, hv, L, X, hK, ⟨S, fun _ _ _ r => r, fun _ hg _ => hg⟩, .str _, rfl⟩
  · exact hK.elim
end
end Go.Ev
namespace Go.Ev
set_option linter.unusedVariables false
set_option linter.unusedSimpArgs false
open Go.RowKit

section
variable {P : Program} {tb : Nat → Ti} {base n : Nat} {w0 : World} {env : Nat → AV} {h h' h2 : Heap} {a : Act} {w w' : World} {hv hv' hv2 : Nat → Value} {L L' L2 : Nat → Option Lb} {X X' X2 : Nat → Prop} {lf : AV → Value → Prop} {A A' : Nat → Prop} {id0 : Nat} {F0 F1 : List Nat}
theorem Imported.trans (i1 : Imported tb base w0 n env a w h h' hv hv' L' X X' F0) (i2 : Imported tb base w0 n env a w h' h2 hv' hv2 L2 X' X2 F1) : Imported tb base w0 n env a w h h2 hv hv2 L2 X X2 (F0 ++ F1) :=
  ⟨i2.sim, fun y u F r => i2.val _ _ _ (i1.val _ _ _ r), fun g hg hn => i2.rest g (i1.rest g hg (fun hm => hn (List.mem_append_left _ hm))) (fun hm => hn (List.mem_append_right _ hm))⟩
theorem importA_sound {d : Option Nat} : ∀ (cs : List AV) (us : List Value) (F : List Nat) (h : Heap) (hv : Nat → Value) (L : Nat → Option Lb) (X : Nat → Prop) (j : Nat), Sim tb base w0 n ⟨env, h⟩ a w hv L X → ResL (Res1 tb w) cs us F → F.Nodup → (∀ g ∈ F, X g) →
    ∀ {K : List AV → Heap → Prop}, importA d cs j h K → ∃ vs h' hv' L' X', K vs h' ∧ Imported tb base w0 n env a w h h' hv hv' L' X X' F ∧ us.length = vs.length ∧ (∀ u ∈ us, u.oneCell' = true) ∧
      ∀ (j : Nat) (c : AV) (u : Value), vs[j]? = some c → us[j]? = some u → VRel tb h' hv' X' w c u []
  | [], [], F, h, hv, L, X, j, S, hR, _, _, K, hK => ⟨[], h, hv, L, X, hK, by
      have hF : F = [] := hR
      subst hF
      exact ⟨S, fun _ _ _ r => r, fun _ hg _ => hg⟩, rfl, fun u hu => by simp at hu, fun j c u hc => by simp at hc⟩
  | c :: cs, u :: us, F, h, hv, L, X, j, S, hR, hN, hF, K, hK => by
    obtain ⟨F0, F1, rfl, hR0, hR1⟩ := hR
    rw [List.nodup_append] at hN
    have hK' : import1 d j c h fun v h => importA d cs (j + 1) h fun vs h => K (v :: vs) h := hK
    obtain ⟨c', h1, hv1, L1, X1, q1, i1, r1, o1⟩ := import1_sound S hR0 hN.1 (fun g hg => hF g (List.mem_append_left _ hg)) hK'
    obtain ⟨vs, h2, hv2, L2, X2, q2, i2, l2, o2, r2⟩ := importA_sound cs us F1 h1 hv1 L1 X1 (j + 1) i1.sim hR1 hN.2.1 (fun g hg => i1.rest g (hF g (List.mem_append_right _ hg)) (fun hm => hN.2.2 g hm g hg rfl)) q1
    refine ⟨c' :: vs, h2, hv2, L2, X2, q2, i1.trans i2, by simp [l2], fun x hx => ?_, fun k c u hc hu => ?_⟩
    · rcases List.mem_cons.1 hx with rfl | hx
      · exact o1
      · exact o2 x hx
    · cases k with
      | zero =>
        simp only [List.getElem?_cons_zero, Option.some.injEq] at hc hu
        subst hc hu
        exact i2.val _ _ _ r1
      | succ k => exact r2 k c u (by simpa using hc) (by simpa using hu)
  | [], _ :: _, F, _, _, _, _, _, _, hR, _, _, _, _ => hR.elim
  | _ :: _, [], F, _, _, _, _, _, _, hR, _, _, _, _ => hR.elim
theorem import2_sound (S : Sim tb base w0 n ⟨env, h⟩ a w hv L X) {d : Option Nat} {j : Nat} {r : AV} {v : Value} {F : List Nat} (hR : Res2 tb w r v F) (hN : F.Nodup) (hF : ∀ g ∈ F, X g) {K : AV → Heap → Prop} (hK : import2 d j r h K) :
    ∃ c h' hv' L' X', K c h' ∧ Imported tb base w0 n env a w h h' hv hv' L' X X' F ∧ VRel tb h' hv' X' w c v [] := by
  unfold import2 at hK
  split at hK
  · obtain ⟨us, rfl, hR⟩ := hR
    obtain ⟨vs, h', hv', L', X', q1, q2, q3, q4, q5⟩ := importA_sound _ us F h hv L X j S hR hN hF hK
    exact ⟨_, h', hv', L', X', q1, q2, .agg vs us (fun _ => []) [] q3 q4 q5 (by rw [flatMap_nil]) List.nodup_nil⟩
  · rename_i hne
    have hR1 : Res1 tb w r v F := by
      cases r <;> first | exact hR | exact absurd rfl (hne _)
    obtain ⟨c, h', hv', L', X', q1, q2, q3, _⟩ := import1_sound S hR1 hN hF hK
    exact ⟨c, h', hv', L', X', q1, q2, q3⟩
theorem importT_sound {d : Option Nat} : ∀ (cs : List AV) (us : List Value) (F : List Nat) (h : Heap) (hv : Nat → Value) (L : Nat → Option Lb) (X : Nat → Prop) (j : Nat), Sim tb base w0 n ⟨env, h⟩ a w hv L X → ResL (Res2 tb w) cs us F → F.Nodup → (∀ g ∈ F, X g) →
    ∀ {K : List AV → Heap → Prop}, importT d cs j h K → ∃ vs h' hv' L' X', K vs h' ∧ Imported tb base w0 n env a w h h' hv hv' L' X X' F ∧ us.length = vs.length ∧
      ∀ (j : Nat) (c : AV) (u : Value), vs[j]? = some c → us[j]? = some u → VRel tb h' hv' X' w c u []
  | [], [], F, h, hv, L, X, j, S, hR, _, _, K, hK => ⟨[], h, hv, L, X, hK, by
      have hF : F = [] := hR
      subst hF
      exact ⟨S, fun _ _ _ r => r, fun _ hg _ => hg⟩, rfl, fun j c u hc => by simp at hc⟩
  | c :: cs, u :: us, F, h, hv, L, X, j, S, hR, hN, hF, K, hK => by
    obtain ⟨F0, F1, rfl, hR0, hR1⟩ := hR
    rw [List.nodup_append] at hN
    have hK' : import2 d j c h fun v h => importT d cs (j + 5) h fun vs h => K (v :: vs) h := hK
    obtain ⟨c', h1, hv1, L1, X1, q1, i1, r1⟩ := import2_sound S hR0 hN.1 (fun g hg => hF g (List.mem_append_left _ hg)) hK'
    obtain ⟨vs, h2, hv2, L2, X2, q2, i2, l2, r2⟩ := importT_sound cs us F1 h1 hv1 L1 X1 (j + 5) i1.sim hR1 hN.2.1 (fun g hg => i1.rest g (hF g (List.mem_append_right _ hg)) (fun hm => hN.2.2 g hm g hg rfl)) q1
    refine ⟨c' :: vs, h2, hv2, L2, X2, q2, i1.trans i2, by simp [l2], fun k c u hc hu => ?_⟩
    cases k with
    | zero =>
      simp only [List.getElem?_cons_zero, Option.some.injEq] at hc hu
      subst hc hu
      exact i2.val _ _ _ r1
    | succ k => exact r2 k c u (by simpa using hc) (by simpa using hu)
  | [], _ :: _, F, _, _, _, _, _, _, hR, _, _, _, _ => hR.elim
  | _ :: _, [], F, _, _, _, _, _, _, hR, _, _, _, _ => hR.elim
theorem importR_sound (S : Sim tb base w0 n ⟨env, h⟩ a w hv L X) {d : Option Nat} {r : AV} {v : Value} {F : List Nat} (hR : Res3 tb w r v F) (hN : F.Nodup) (hF : ∀ g ∈ F, X g) {K : AV → Heap → Prop} (hK : importR d r h K) :
    ∃ c h' hv' L' X', K c h' ∧ Sim tb base w0 n ⟨env, h'⟩ a w hv' L' X' ∧ VRel tb h' hv' X' w c v [] := by
  unfold importR at hK
  split at hK
  · obtain ⟨us, rfl, hR⟩ := hR
    obtain ⟨vs, h', hv', L', X', q1, q2, q3, q4⟩ := importT_sound _ us F h hv L X 0 S hR hN hF hK
    exact ⟨_, h', hv', L', X', q1, q2.sim, .tup vs us (fun _ => []) [] q3 q4 (by rw [flatMap_nil]) List.nodup_nil⟩
  · rename_i hne
    have hR2 : Res2 tb w r v F := by
      cases r <;> first | exact hR | exact absurd rfl (hne _)
    obtain ⟨c, h', hv', L', X', q1, q2, q3⟩ := import2_sound S hR2 hN hF hK
    exact ⟨c, h', hv', L', X', q1, q2.sim, q3⟩
def FnOk (P : Program) (f : Nat) : Prop := ∃ fn, P.funcs[f]? = some fn ∧ (fn.name == "runtime.NumGoroutine") = false ∧ fn.body.isNone = false
/-- what the evaluator may take of the callees -/
def Sound (P : Program) (tb : Nat → Ti) (R : Nat → List AV → AV → Prop) : Prop := ∀ f args r, R f args r → FnOk P f ∧ Ctr P tb f args r
theorem call_sound {R : Nat → List AV → AV → Prop} (hR : Sound P tb R) (S : Sim tb base w0 n ⟨env, h⟩ a w hv L X) {d : Option Nat} {f : AV} {vf : Value} {Ff : List Nat} (rf : VRel tb h hv X w f vf Ff) {args : List AV} {vs : Array Value} (hl : vs.size = args.length)
    (hr : ∀ (j : Nat) (c : AV) (u : Value), args[j]? = some c → vs[j]? = some u → ∃ F, VRel tb h hv X w c u F) {K : AV → Heap → Prop} {N : Value → World → Prop} (hN : Yield tb base w0 n env a K N) (hK : callF tb R d f args h K) :
    ∃ g vs', (do let dd ← Deferred.ofValue vf vs; invoke dd.target dd.args : Sem Next).run P w = .ok (.enter g vs') w ∧ Calls P g vs' w (fun e w' => ∃ v, e = .returned v ∧ N v w') := by
  unfold callF at hK
  split at hK
  · rename_i g caps
    cases rf with
    | leaf h => exact h.elim
    | fn f cs us Fs hcl hcr =>
      split at hK
      rotate_left
      · exact hK.elim
      obtain ⟨r, hRr, hK⟩ := hK
      obtain ⟨⟨fn, h1, h2, h3⟩, hC⟩ := hR _ _ _ hRr
      have hC := (Ctr_iff (lend_isW tb h _)).1 hC
      refine ⟨g, vs ++ us.toArray, ?_, (hC (vs ++ us.toArray) w (by rw [mapR_eq]; simp [hl, hcl]) (fun j c u hc hu => ?_)).mono fun e w' he => ?_⟩
      · have h2' : fn.name ≠ "runtime.NumGoroutine" := beq_eq_false_iff_ne.1 h2
        have h3' : fn.body ≠ none := fun e => by rw [e] at h3; cases h3
        simp [Deferred.ofValue, invoke, callFunc, h1, h2', h3']
      · rw [mapR_eq, List.getElem?_map] at hc
        obtain ⟨c0, hc0, rfl⟩ := Option.map_eq_some_iff.1 hc
        by_cases hj : j < args.length
        · rw [List.getElem?_append_left hj] at hc0
          rw [Array.getElem?_append_left (by omega)] at hu
          obtain ⟨F, r0⟩ := hr j c0 u hc0 hu
          exact ⟨_, lend3_rel S r0⟩
        · rw [List.getElem?_append_right (by omega)] at hc0
          rw [Array.getElem?_append_right (by omega), hl] at hu
          exact ⟨_, lend3_rel S (hcr _ c0 u hc0 (by simpa using hu))⟩
      · obtain ⟨v, F, rfl, q1, q2, q3, q4⟩ := he
        obtain ⟨S', hval⟩ := S.after q4 q3
        obtain ⟨c, h', hv', L', X', k1, k2, k3⟩ := importR_sound S' q1 q2 (fun g hg => .inr hg) hK
        exact ⟨v, rfl, hN _ _ _ _ _ _ _ _ k1 k2 k3⟩
  · exact hK.elim
end
end Go.Ev
namespace Go.Ev
set_option linter.unusedVariables false
set_option linter.unusedSimpArgs false
open Go.RowKit
/-! maps -/
section
variable {P : Program} {tb : Nat → Ti} {base n : Nat} {w0 : World} {env : Nat → AV} {h h' : Heap} {a : Act} {w w' : World} {hv hv' : Nat → Value} {L L' : Nat → Option Lb} {X X' : Nat → Prop}
theorem keyB1_cases {k : Tk} {a : AV} (h : keyB1 k a) : (∃ q n, k = .int q ∧ a = .int q n ∧ (Lit.int q n).wf = true) ∨ ∃ b, k = .bool ∧ a = .bool b := by
  cases k with
  | int q =>
    cases a with
    | int q' n => obtain ⟨rfl, h⟩ := (h : q' = q ∧ _); exact .inl ⟨_, _, rfl, rfl, h⟩
    | _ => exact (h : False).elim
  | bool =>
    cases a with
    | bool b => exact .inr ⟨b, rfl, rfl⟩
    | _ => exact (h : False).elim
  | _ => exact (h : False).elim
theorem keyB1_inj {k : Tk} {a b : AV} {lf lf' : AV → Value → Prop} (h0 : ∀ a v, lf a v → ¬ isFlat a = true) (h0' : ∀ a v, lf' a v → ¬ isFlat a = true) {A A' : Nat → Prop} {w w' : World} {u : Value} {F F' : List Nat} (ha : keyB1 k a) (hb : keyB1 k b) (ra : Rel tb lf A w a u F) (rb : Rel tb lf' A' w' b u F') : a = b := by
  rcases keyB1_cases ha with ⟨q, n, rfl, rfl, _⟩ | ⟨x, rfl, rfl⟩
  · rcases keyB1_cases hb with ⟨q', n', e, rfl, _⟩ | ⟨x, e, rfl⟩
    · cases e
      cases ra with
      | leaf h => exact absurd rfl (h0 _ _ h)
      | int k n =>
        generalize hy : AV.int q n' = y at rb
        cases rb with
        | leaf h => subst hy; exact absurd rfl (h0' _ _ h)
        | int k n => exact hy.symm ▸ rfl
        | _ => cases hy
    · cases e
  · rcases keyB1_cases hb with ⟨q', n', e, rfl, _⟩ | ⟨y, e, rfl⟩
    · cases e
    · cases ra with
      | leaf h => exact absurd rfl (h0 _ _ h)
      | bool x =>
        generalize hy : AV.bool y = z at rb
        cases rb with
        | leaf h => subst hy; exact absurd rfl (h0' _ _ h)
        | bool x => exact hy.symm ▸ rfl
        | _ => cases hy
theorem no_flat (a : AV) (v : Value) (h : noLeaf a v) : ¬ isFlat a = true := h.elim
theorem leaf_flat (a : AV) (v : Value) (hl : Leaf tb h hv a v) : ¬ isFlat a = true := fun hh => by
  cases a <;> first | exact (hl : False) | cases hh
theorem keyB_cases {t : Nat} {a : AV} (h : keyB tb t a) : (∃ m e cs, (tb t).k = .arr m e ∧ a = .agg cs ∧ cs.length = m ∧ ∀ c ∈ cs, keyB1 (tb e).k c) ∨ ((∀ m e, (tb t).k ≠ .arr m e) ∧ keyB1 (tb t).k a) := by
  unfold keyB at h
  cases hk : (tb t).k with
  | arr m e =>
    rw [hk] at h
    cases a with
    | agg cs => exact .inl ⟨m, e, cs, rfl, rfl, h.1, h.2⟩
    | _ => exact (h : False).elim
  | _ => rw [hk] at h; exact .inr ⟨fun m e e' => (by cases e'), h⟩
theorem keyB_inj {t : Nat} {a b : AV} {lf lf' : AV → Value → Prop} (h0 : ∀ a v, lf a v → ¬ isFlat a = true) (h0' : ∀ a v, lf' a v → ¬ isFlat a = true) (h1 : ∀ cs v, ¬ lf (.agg cs) v) (h1' : ∀ cs v, ¬ lf' (.agg cs) v)
    {A A' : Nat → Prop} {w w' : World} {u : Value} {F F' : List Nat} (ha : keyB tb t a) (hb : keyB tb t b) (ra : Rel tb lf A w a u F) (rb : Rel tb lf' A' w' b u F') : a = b := by
  rcases keyB_cases ha with ⟨m, e, cs, hk, rfl, hl, hc⟩ | ⟨hk, hc⟩
  · rcases keyB_cases hb with ⟨m', e', ds, hk', rfl, hl', hd⟩ | ⟨hk', _⟩
    · rw [hk] at hk'
      cases hk'
      congr 1
      generalize hx : AV.agg cs = x at ra
      generalize hy : AV.agg ds = y at rb
      cases ra with
      | leaf h => subst hx; exact absurd h (h1 _ _)
      | agg cs1 us Fs F hul hu1 hr hF hN =>
        cases hx
        generalize hz : (Value.agg us.toArray) = z at rb
        cases rb with
        | leaf h => subst hy; exact absurd h (h1' _ _)
        | agg cs2 us2 Fs2 F2 hul2 hu2 hr2 hF2 hN2 =>
          cases hy
          have hz : us = us2 := by injection hz with hz; simpa using hz
          subst hz
          refine List.ext_getElem (by omega) fun i hi hi' => ?_
          exact keyB1_inj h0 h0' (hc _ (List.getElem_mem hi)) (hd _ (List.getElem_mem hi')) (hr i _ (us[i]'(by omega)) (List.getElem?_eq_getElem hi) (List.getElem?_eq_getElem _)) (hr2 i _ (us[i]'(by omega)) (List.getElem?_eq_getElem hi') (List.getElem?_eq_getElem _))
        | _ => cases hy
      | _ => cases hx
    · exact absurd hk (hk' _ _)
  · rcases keyB_cases hb with ⟨m', e', ds, hk', rfl, hl', hd⟩ | ⟨hk', hd⟩
    · exact absurd hk' (hk _ _)
    · exact keyB1_inj h0 h0' hc hd ra rb
/-- a flat value is what it is in whatever memory -/
theorem flat_free {v : AV} {u : Value} {F : List Nat} {lf : AV → Value → Prop} {A : Nat → Prop} (h0 : ∀ a v, lf a v → ¬ isFlat a = true) (hf : isFlat v = true) (r : Rel tb lf A w v u F) : ∀ w', KeyR tb w' v u := fun w' => by
  cases r with
  | int k n => exact .int k n
  | bool b => exact .bool b
  | str s => exact .str s
  | leaf h => exact absurd hf (h0 _ _ h)
  | _ => cases hf
theorem keyB1_flat {k : Tk} {a : AV} (ha : keyB1 k a) : isFlat a = true := by
  rcases keyB1_cases ha with ⟨q, n, rfl, rfl, _⟩ | ⟨x, rfl, rfl⟩ <;> rfl
theorem keyB_free {t : Nat} {a : AV} {u : Value} {F : List Nat} (ha : keyB tb t a) (r : VRel tb h hv X w a u F) : ∀ w', KeyR tb w' a u := fun w' => by
  rcases keyB_cases ha with ⟨m, e, cs, hk, rfl, hl, hc⟩ | ⟨hk, hc⟩
  · obtain ⟨us, rfl, q1, q2, q3⟩ := agg_inv r
    refine .agg cs us (fun _ => []) [] q1 q2 (fun j c u hcj hu => ?_) (by rw [flatMap_nil]) List.nodup_nil
    obtain ⟨F, r⟩ := q3 j c u hcj hu
    exact flat_free leaf_flat (keyB1_flat (hc c (List.mem_of_getElem? hcj))) r w'
  · exact flat_free leaf_flat (keyB1_flat hc) r w'
theorem key1_val {k : Tk} {a : AV} {v v' : Value} {A A' : Nat → Prop} {w w' : World} {F F' : List Nat} (hb : keyB1 k a) (r : Rel tb noLeaf A w a v F) (r' : Rel tb noLeaf A' w' a v' F') : v = v' := by
  rcases keyB1_cases hb with ⟨q, n, rfl, rfl, _⟩ | ⟨x, rfl, rfl⟩
  · cases r with
    | leaf h => exact h.elim
    | int => cases r' with
      | leaf h => exact h.elim
      | int => rfl
  · cases r with
    | leaf h => exact h.elim
    | bool => cases r' with
      | leaf h => exact h.elim
      | bool => rfl
theorem key_val {t : Nat} {a : AV} {v v' : Value} (hb : keyB tb t a) (r : KeyR tb w a v) (r' : KeyR tb w a v') : v = v' := by
  unfold KeyR at r r'
  rcases keyB_cases hb with ⟨m, e, cs, hk, rfl, hl, hc⟩ | ⟨hk, hc⟩
  · generalize hx : AV.agg cs = x at r
    generalize hy : AV.agg cs = y at r'
    generalize ([] : List Nat) = G at r
    generalize ([] : List Nat) = G' at r'
    cases r with
    | leaf h => exact h.elim
    | agg cs1 us Fs F hul hu1 hr hF hN =>
      cases hx
      cases r' with
      | leaf h => exact h.elim
      | agg cs2 us2 Fs2 F2 hul2 hu2 hr2 hF2 hN2 =>
        cases hy
        have : us = us2 := by
          refine List.ext_getElem (by omega) fun i hi hi' => ?_
          have hci : cs[i]? = some (cs[i]'(by omega)) := List.getElem?_eq_getElem _
          exact key1_val (hc _ (List.getElem_mem _)) (hr i _ _ hci (List.getElem?_eq_getElem hi)) (hr2 i _ _ hci (List.getElem?_eq_getElem hi'))
        rw [this]
      | _ => cases hy
    | _ => cases hx
  · exact key1_val hc r r'
/-- what is looked for, in the entries -/
theorem find_sound {kt : Nat} (hM : Maps.Keyed P kt) (hk : ∀ (a : AV) (u : Value) (w : World), keyB tb kt a → KeyR tb w a u → ∃ l, keyOf P kt u = some l) {ents : Array MapEntry} {es : List (AV × AV)}
    (hl : ents.size = es.length) (hn : (es.map Prod.fst).Nodup) (hin : ∀ kv ∈ es, keyB tb kt kv.1) (hr : ∀ (j : Nat) (kv : AV × AV), es[j]? = some kv → ∃ m : MapEntry, ents[j]? = some m ∧ KeyR tb w kv.1 m.key ∧ KeyR tb w kv.2 m.val)
    {k : AV} {u : Value} (hkb : keyB tb kt k) (hku : KeyR tb w k u) {o : Option (Nat × AV)} (hf : findK k es o) :
    (∃ l, keyOf P kt u = some l) ∧ (o = none → (Instr.findKey kt u ents.toList).run P w = .ok none w) ∧
      ∀ p, o = some p → ∃ m, ents[p.1]? = some m ∧ m.key = u ∧ KeyR tb w p.2 m.val ∧ (Instr.findKey kt u ents.toList).run P w = .ok (some (p.1, m.val)) w := by
  obtain ⟨l, hlu⟩ := hk k u w hkb hku
  refine ⟨⟨l, hlu⟩, ?_⟩
  have get : ∀ (j : Nat) (m : MapEntry), ents[j]? = some m → ∃ kv, es[j]? = some kv ∧ KeyR tb w kv.1 m.key ∧ KeyR tb w kv.2 m.val := fun j m hm => by
    have hj : j < es.length := by rw [← hl]; exact (Array.getElem?_eq_some_iff.1 hm).1
    obtain ⟨m', h1, h2, h3⟩ := hr j _ (List.getElem?_eq_getElem hj)
    rw [hm] at h1
    cases h1
    exact ⟨_, List.getElem?_eq_getElem hj, h2, h3⟩
  have same : ∀ (j : Nat) (m : MapEntry) (kv : AV × AV), ents[j]? = some m → es[j]? = some kv → m.key = u → kv.1 = k := fun j m kv hm hkv he => by
    obtain ⟨kv', h1, h2, _⟩ := get j m hm
    rw [hkv] at h1
    cases h1
    rw [he] at h2
    exact keyB_inj no_flat no_flat (fun _ _ h => h) (fun _ _ h => h) (hin kv (List.mem_of_getElem? hkv)) hkb h2 hku
  have hF := hM.find w hlu ents.toList (fun e he => by
    obtain ⟨j, hj⟩ := List.getElem?_of_mem he
    obtain ⟨kv, h1, h2, _⟩ := get j e (by simpa using hj)
    exact hk _ _ w (hin kv (List.mem_of_getElem? h1)) h2)
  cases o with
  | none =>
    refine ⟨fun _ => ?_, fun p e => (by cases e)⟩
    rcases hF with ⟨h1, _⟩ | ⟨j, e, h1, h2, h3⟩
    · exact h1
    · exfalso
      obtain ⟨kv, q1, _⟩ := get j e (by simpa using h2)
      exact hf kv (List.mem_of_getElem? q1) (same j e kv (by simpa using h2) q1 h3)
  | some p =>
    refine ⟨fun e => (by cases e), fun p' e' => ?_⟩
    cases e'
    have hp : es[p.1]? = some (k, p.2) := hf
    obtain ⟨m, h1, h2, h3⟩ := hr _ _ hp
    have hmu : m.key = u := by
      rcases hF with ⟨_, g2⟩ | ⟨j, e, g1, g2, g3⟩
      · exact key_val hkb h2 hku
      · have hj : j = p.1 := by
          obtain ⟨kv, q1, _⟩ := get j e (by simpa using g2)
          have q2 := same j e kv (by simpa using g2) q1 g3
          have hj1 := (List.getElem?_eq_some_iff.1 q1).1
          have hj2 := (List.getElem?_eq_some_iff.1 hp).1
          refine (List.getElem_inj (xs := es.map Prod.fst) (i := j) (j := p.1) (h₀ := by simpa using hj1) (h₁ := by simpa using hj2) hn).1 ?_
          have e1 : es[j] = kv := (List.getElem?_eq_some_iff.1 q1).2
          have e2 : es[p.1] = (k, p.2) := (List.getElem?_eq_some_iff.1 hp).2
          simp [e1, e2, q2]
        subst hj
        have g2' : ents[p.1]? = some e := by simpa using g2
        rw [h1] at g2'
        cases g2'
        exact g3
    refine ⟨m, h1, hmu, h3, ?_⟩
    rcases hF with ⟨_, g2⟩ | ⟨j, e, g1, g2, g3⟩
    · exact absurd hmu (g2 m (by have := Array.mem_of_getElem? h1; simpa using this))
    · have hj : j = p.1 := by
        obtain ⟨kv, q1, _⟩ := get j e (by simpa using g2)
        have q2 := same j e kv (by simpa using g2) q1 g3
        have hj1 := (List.getElem?_eq_some_iff.1 q1).1
        have hj2 := (List.getElem?_eq_some_iff.1 hp).1
        refine (List.getElem_inj (xs := es.map Prod.fst) (i := j) (j := p.1) (h₀ := by simpa using hj1) (h₁ := by simpa using hj2) hn).1 ?_
        have e1 : es[j] = kv := (List.getElem?_eq_some_iff.1 q1).2
        have e2 : es[p.1] = (k, p.2) := (List.getElem?_eq_some_iff.1 hp).2
        simp [e1, e2, q2]
      subst hj
      have g2' : ents[p.1]? = some e := by simpa using g2
      rw [h1] at g2'
      cases g2'
      exact g1
theorem Sim.newMap (S : Sim tb base w0 n ⟨env, h⟩ a w hv L X) {id t : Nat} (hid : h id = none) :
    ∃ hv' L', Sim tb base w0 n ⟨env, h.put id (.mp t [])⟩ a (w.alloc (.map #[] 0)) hv' L' X ∧ VRel tb (h.put id (.mp t [])) hv' X (w.alloc (.map #[] 0)) (.map id) (.map (some w.heap.size)) [] := by
  have S := S.reset
  have hne : ∀ i b, h i = some b → i ≠ id := by rintro i b hb rfl; rw [hid] at hb; cases hb
  have hkeep : ∀ i b, h i = some b → (h.put id (.mp t [])) i = some b ∧ upd hv id (.map (some w.heap.size)) i = hv i :=
    fun i b hb => ⟨by rw [put_other h _ (hne i b hb)]; exact hb, upd_other _ _ (hne i b hb)⟩
  have T : Trans tb base h (h.put id (.mp t [])) hv (upd hv id (.map (some w.heap.size))) (fun g => if g < w.heap.size then L g else none)
      (upd (fun g => if g < w.heap.size then L g else none) w.heap.size (some (.own id 0))) X X w (w.alloc (.map #[] 0)) id := {
    hh := fun i hi => put_other h _ hi
    hhv := fun i hi => upd_other _ _ hi
    leaf := fun a v hl => leaf_keep hkeep hl
    mem := fun g hg _ _ => Below.heap_alloc w _ g hg
    size := by simp
    os := rfl, tape := rfl, output := rfl
    new := fun g hg => by
      rw [upd_same] at hg
      have hg : w.heap.size = g := by injection hg
      subst hg
      exact ⟨.inr (.inl (Nat.le_refl _)), by simp, upd_same _ _ _, fun hx => by have := (S.xlt _ hx).1; omega⟩
    lab := fun g i j hi hL => by
      by_cases hg : g < w.heap.size
      · rw [upd_other _ _ (by omega)]; exact hL
      · simp [if_neg hg] at hL
    hX := fun g _ hx => .inl hx
    xlt := fun g hx => by have := S.xlt g hx; simp; omega }
  refine ⟨_, _, S.trans T (fun b hb => ?_) (fun hb => by rw [put_same] at hb; cases hb), .leaf ⟨t, [], w.heap.size, put_same _ _ _, upd_same _ _ _, rfl⟩⟩
  rw [put_same] at hb
  injection hb with hb
  subst hb
  exact ⟨w.heap.size, #[], 0, upd_same _ _ _, heap_alloc_new w _, ⟨rfl, List.nodup_nil, fun kv hkv => by simp at hkv⟩, fun j kv hj => by simp at hj⟩
theorem makeMap_sound (S : Sim tb base w0 n ⟨env, h⟩ a w hv L X) {t : Nat} {d : Option Nat} {K : AV → Heap → Prop} {N : Value → World → Prop} (hN : Yield tb base w0 n env a K N) (hK : makeMapA tb d t h K) :
    ∃ u w', (Instr.makeMap t none).run P w = .ok u w' ∧ N u w' := by
  unfold makeMapA at hK
  split at hK
  · obtain ⟨hid, hK⟩ := newB_inv hK
    obtain ⟨hv', L', S', r⟩ := S.newMap (t := t) hid
    exact ⟨_, _, rfl, hN _ _ _ _ _ _ _ _ hK S' r⟩
  · exact hK.elim
/-- the block of a map -/
theorem Sim.mapBlk (S : Sim tb base w0 n ⟨env, h⟩ a w hv L X) {id t : Nat} {es : List (AV × AV)} (hid : h id = some (.mp t es)) {v : Value} {F : List Nat} (r : VRel tb h hv X w (.map id) v F) :
    ∃ g ents clock, v = .map (some g) ∧ hv id = .map (some g) ∧ w.heap[g]? = some (.map ents clock) ∧ (ents.size = es.length ∧ (es.map Prod.fst).Nodup ∧ ∀ kv ∈ es, keyIn tb t kv.1) ∧
      ∀ (j : Nat) (kv : AV × AV), es[j]? = some kv → ∃ m : MapEntry, ents[j]? = some m ∧ KeyR tb w kv.1 m.key ∧ KeyR tb w kv.2 m.val := by
  obtain ⟨t', es', g, h1, h2, rfl⟩ := r.map_inv
  obtain ⟨g', ents, clock, h3, h4, h5, h6⟩ := S.blks _ _ hid
  rw [h2] at h3
  injection h3 with h3
  injection h3 with h3
  subst h3
  exact ⟨g, ents, clock, rfl, h2, h4, h5, h6⟩
theorem lookup_sound (hT : TbOk P tb) (S : Sim tb base w0 n ⟨env, h⟩ a w hv L X) {t : Nat} {m k : AV} {vm vk : Value} {Fm Fk : List Nat} (rm : VRel tb h hv X w m vm Fm) (rk : VRel tb h hv X w k vk Fk) {ok : Bool} {K : AV → Prop} (hK : lookupA tb t m k ok h K) :
    ∃ y u, K y ∧ (Instr.lookup t vm vk ok).run P w = .ok u w ∧ VRel tb h hv X w y u [] := by
  unfold lookupA at hK
  split at hK
  · rename_i kt vt ht
    have hTy := hT.kind (t := t) (by rw [ht]; simp)
    obtain ⟨d, hu, _, hk⟩ := hTy.und
    rw [ht] at hk
    obtain ⟨rfl, _⟩ := hk
    obtain ⟨hM, hKey, hZ⟩ := hTy.keys kt vt ht
    split at hK
    · rename_i q hq
      obtain ⟨i, hi, hz⟩ := hZ q hq
      have hzero : (zeroValue vt).run P w = .ok (.int q 0) w := by simp [zeroValue, typeInfo, hi, hz]
      split at hK
      · split at hK
        · rename_i id _ t' es hid
          split at hK
          · rename_i hbt
            have e := Nat.eq_of_beq_eq_true hbt
            subst e
            obtain ⟨hkb, o, hf, hK⟩ := hK
            obtain ⟨g, ents, clock, rfl, _, h4, ⟨h5, h6, h7⟩, h8⟩ := S.mapBlk hid rm
            have h7' : ∀ kv ∈ es, keyB tb kt kv.1 := fun kv hkv => by have := h7 kv hkv; unfold keyIn at this; rw [ht] at this; exact this
            obtain ⟨⟨l, hl⟩, hfind⟩ := find_sound hM hKey h5 h6 h7' h8 hkb (keyB_free hkb rk w) hf
            have hc := hM.check w ents.isEmpty hl
            cases o with
            | none =>
              have hfind := hfind.1 rfl
              refine ⟨_, if ok then .tuple #[.int q 0, .bool false] else .int q 0, hK, by simp [Instr.lookup, run_underlying hu, MapKept.run_getObj_map h4, hc, hfind, hzero, Result.andThen], ?_⟩
              cases ok
              · exact .int q 0
              · refine .tup _ [.int q 0, .bool false] (fun _ => []) [] rfl (fun j c u hc hu => ?_) (by rw [flatMap_nil]) List.nodup_nil
                match j with
                | 0 => simp at hc hu; subst hc hu; exact .int _ _
                | 1 => simp at hc hu; subst hc hu; exact .bool _
                | j + 2 => simp at hc
            | some p =>
              obtain ⟨m, g1, g2, g3, g4⟩ := hfind.2 p rfl
              refine ⟨_, if ok then .tuple #[m.val, .bool true] else m.val, hK, by simp [Instr.lookup, run_underlying hu, MapKept.run_getObj_map h4, hc, g4, hzero, Result.andThen], ?_⟩
              have r3 : VRel tb h hv X w p.2 m.val [] := g3.imp (fun _ _ h => h.elim) (fun _ h => h.elim) (fun _ h => h.elim)
              cases ok
              · exact r3
              · refine .tup _ [m.val, .bool true] (fun _ => []) [] rfl (fun j c u hc hu => ?_) (by rw [flatMap_nil]) List.nodup_nil
                match j with
                | 0 => simp at hc hu; subst hc hu; exact r3
                | 1 => simp at hc hu; subst hc hu; exact .bool _
                | j + 2 => simp at hc
          · exact hK.elim
        · exact hK.elim
      · exact hK.elim
    · exact hK.elim
  · exact hK.elim
theorem mapUpdate_sound (hT : TbOk P tb) (S : Sim tb base w0 n ⟨env, h⟩ a w hv L X) {t : Nat} {m k v : AV} {vm vk vv : Value} {Fm Fk Fv : List Nat} (rm : VRel tb h hv X w m vm Fm) (rk : VRel tb h hv X w k vk Fk) (rv : VRel tb h hv X w v vv Fv) {K : AV → Heap → Prop} {N : Value → World → Prop} (hN : Yield tb base w0 n env a K N)
    (hK : mapUpdateA tb t m k v h K) : ∃ w', (Instr.mapUpdate t vm vk vv).run P w = .ok () w' ∧ N undef w' := by
  unfold mapUpdateA at hK
  split at hK
  · rename_i kt vt ht
    have hTy := hT.kind (t := t) (by rw [ht]; simp)
    obtain ⟨d, hu, _, hk⟩ := hTy.und
    rw [ht] at hk
    obtain ⟨rfl, _⟩ := hk
    obtain ⟨hM, hKey, hZ⟩ := hTy.keys kt vt ht
    split at hK
    · split at hK
      · rename_i id _ t' es hid
        split at hK
        · rename_i hbt
          have e := Nat.eq_of_beq_eq_true hbt
          subst e
          obtain ⟨⟨hkb, hvf⟩, o, hf, es', he, hK⟩ := hK
          obtain ⟨g, ents, clock, rfl, hg, h4, ⟨h5, h6, h7⟩, h8⟩ := S.mapBlk hid rm
          have h7' : ∀ kv ∈ es, keyB tb kt kv.1 := fun kv hkv => by have := h7 kv hkv; unfold keyIn at this; rw [ht] at this; exact this
          have hki : ∀ a, keyB tb kt a → keyIn tb t' a := fun a ha => by unfold keyIn; rw [ht]; exact ha
          obtain ⟨⟨l, hl⟩, hfind⟩ := find_sound hM hKey h5 h6 h7' h8 hkb (keyB_free hkb rk w) hf
          have hc := hM.check w false hl
          have hkf := keyB_free hkb rk
          have hvf' := flat_free leaf_flat hvf rv
          have fin : ∀ (ents' : Array MapEntry) (clock' : Nat), (Instr.mapUpdate t' (.map (some g)) vk vv).run P w = .ok () (ChangeMaps.setBlock w g (.map ents' clock')) →
              (ents'.size = es'.length ∧ (es'.map Prod.fst).Nodup ∧ ∀ kv ∈ es', keyIn tb t' kv.1) →
              (∀ (j : Nat) (kv : AV × AV), es'[j]? = some kv → ∃ m : MapEntry, ents'[j]? = some m ∧ ∀ w', KeyR tb w' kv.1 m.key ∧ KeyR tb w' kv.2 m.val) →
              ∃ w', (Instr.mapUpdate t' (.map (some g)) vk vv).run P w = .ok () w' ∧ N undef w' := by
            intro ents' clock' hrun hA hB
            have T := S.write_trans (b := .mp t' es) (b' := .mp t' es') (w' := ChangeMaps.setBlock w g (.map ents' clock')) (L' := L) hid trivial (g := g) (by rw [hg]; rfl) (fun i hi => ChangeMaps.heap_setBlock_other h4 _ hi) (by simp [ChangeMaps.setBlock]) ⟨rfl, rfl, rfl⟩ rfl (fun _ _ _ _ h => h)
            refine ⟨_, hrun, hN _ _ _ _ _ _ _ _ hK (S.trans T (fun b hb => ?_) (fun hb => by rw [put_same] at hb; cases hb)) .undef⟩
            rw [put_same] at hb
            injection hb with hb
            subst hb
            exact ⟨g, ents', clock', hg, ChangeMaps.heap_setBlock_same h4 _, hA, fun j kv hj => by
              obtain ⟨m, q1, q2⟩ := hB j kv hj
              exact ⟨m, q1, (q2 _).1, (q2 _).2⟩⟩
          have old : ∀ (j : Nat) (kv : AV × AV), es[j]? = some kv → ∃ m : MapEntry, ents[j]? = some m ∧ ∀ w', KeyR tb w' kv.1 m.key ∧ KeyR tb w' kv.2 m.val := fun j kv hj => by
            obtain ⟨m, q1, q2, q3⟩ := h8 j kv hj
            exact ⟨m, q1, fun w' => ⟨q2.imp (fun _ _ h => h) (fun _ h => h) (fun _ h => h.elim), q3.imp (fun _ _ h => h) (fun _ h => h) (fun _ h => h.elim)⟩⟩
          cases o with
          | none =>
            have hfind := hfind.1 rfl
            have he : es' = es ++ [(k, v)] := he
            subst he
            refine fin (ents.push ⟨vk, vv, clock⟩) (clock + 1) (by simp [Instr.mapUpdate, run_underlying hu, MapKept.run_getObj_map h4, hc, hfind, MapKept.run_setObj_map _ h4, Result.andThen, ChangeMaps.setBlock]) ⟨by simp [h5], ?_, fun kv hkv => ?_⟩ fun j kv hj => ?_
            · rw [List.map_append, List.nodup_append]
              refine ⟨h6, by simp, fun x hx y hy e => ?_⟩
              simp at hy
              subst hy e
              obtain ⟨kv, hkv, rfl⟩ := List.mem_map.1 hx
              exact hf kv hkv rfl
            · rcases List.mem_append.1 hkv with hkv | hkv
              · exact h7 kv hkv
              · simp at hkv; subst hkv; exact hki _ hkb
            · rcases Nat.lt_or_ge j es.length with hjl | hjl
              · rw [List.getElem?_append_left hjl] at hj
                obtain ⟨m, q1, q2⟩ := old j kv hj
                exact ⟨m, by rw [Array.getElem?_push_lt (by omega)]; rw [← q1]; exact (Array.getElem?_eq_getElem (by omega)).symm, q2⟩
              · rw [List.getElem?_append_right hjl] at hj
                have : j = es.length := by
                  have := (List.getElem?_eq_some_iff.1 hj).1
                  simp at this
                  omega
                subst this
                simp at hj
                subst hj
                exact ⟨⟨vk, vv, clock⟩, by rw [← h5]; simp, fun w' => ⟨hkf w', hvf' w'⟩⟩
          | some p =>
            have he : es' = es.set p.1 (k, v) := he
            subst he
            obtain ⟨m, g1, g2, g3, g4⟩ := hfind.2 p rfl
            have hp : es[p.1]? = some (k, p.2) := hf
            have hpl := (List.getElem?_eq_some_iff.1 hp).1
            refine fin (ents.modify p.1 (fun e' => { e' with key := vk, val := vv })) clock (by simp [Instr.mapUpdate, run_underlying hu, MapKept.run_getObj_map h4, hc, g4, g1, g2, hM.stays w hl, MapKept.run_setObj_map _ h4, Result.andThen, ChangeMaps.setBlock]) ⟨by simp [h5], ?_, fun kv hkv => ?_⟩ fun j kv hj => ?_
            · have : (es.set p.1 (k, v)).map Prod.fst = es.map Prod.fst := by
                rw [List.map_set]
                have e1 : (es.map Prod.fst)[p.1]'(by simpa using hpl) = k := by
                  have := (List.getElem?_eq_some_iff.1 hp).2
                  simp [this]
                conv => lhs; rw [← e1]
                exact List.set_getElem_self _
              rw [this]; exact h6
            · rcases List.mem_or_eq_of_mem_set hkv with h | rfl
              · exact h7 kv h
              · exact hki _ hkb
            · by_cases hjp : j = p.1
              · subst hjp
                rw [List.getElem?_set_self hpl] at hj
                cases hj
                refine ⟨{ m with key := vk, val := vv }, by rw [Array.getElem?_modify]; simp [g1], fun w' => ⟨hkf w', hvf' w'⟩⟩
              · rw [List.getElem?_set_ne (fun e => hjp e.symm)] at hj
                obtain ⟨m', q1, q2⟩ := old j kv hj
                exact ⟨m', by rw [Array.getElem?_modify, if_neg (fun e => hjp e.symm)]; exact q1, q2⟩
        · exact hK.elim
      · exact hK.elim
    · exact hK.elim
  · exact hK.elim
end
end Go.Ev
namespace Go.Ev
set_option linter.unusedVariables false
set_option linter.unusedSimpArgs false
open Go.RowKit

section
variable {P : Program} {tb : Nat → Ti} {base n : Nat} {w0 : World} {env : Nat → AV} {h h' : Heap} {a : Act} {w w' : World} {hv hv' : Nat → Value} {L L' : Nat → Option Lb} {X X' : Nat → Prop}
/-! calls that write into rows of the caller's own -/
/-- what is dropped of a value when rows of rows change -/
noncomputable def pgA (pg : Bool) (y : AV) : AV := match pg with | true => purge y | false => y
noncomputable def pgB (pg : Bool) (y : AV) : AV := match pg with | true => purge1 y | false => y
noncomputable def pgC (pg : Bool) (cs : List AV) : List AV := match pg with | true => mapR purge1 cs | false => cs
theorem purge1_rel {c : AV} {u : Value} {F : List Nat} (hleaf : ∀ a v, Leaf tb h hv a v → Leaf tb h' hv' a v) (r : VRel tb h hv X w c u F) : VRel tb h' hv' X' w' (purge1 c) u [] := by
  cases r with
  | junk v => exact .junk _
  | undef => exact .undef
  | int k n => exact .int _ _
  | bool b => exact .bool _
  | str s => exact .str _
  | nils e => exact .nils _
  | leaf hl =>
    have hl' := hleaf _ _ hl
    cases c <;> first | exact .leaf hl' | exact .junk _ | exact hl.elim
  | _ => exact .junk _
theorem purge_rel {c : AV} {u : Value} {F : List Nat} (hleaf : ∀ a v, Leaf tb h hv a v → Leaf tb h' hv' a v) (r : VRel tb h hv X w c u F) : ∃ F, VRel tb h' hv' X' w' (purge c) u F := by
  have one : purge c = purge1 c → ∃ F, VRel tb h' hv' X' w' (purge c) u F := fun e => ⟨[], by rw [e]; exact purge1_rel hleaf r⟩
  cases r with
  | agg cs us Fs F hl h1 hr hF hN =>
    refine ⟨[], ?_⟩
    show VRel tb h' hv' X' w' (.agg (mapR purge1 cs)) _ []
    rw [mapR_eq]
    refine .agg _ us (fun _ => []) _ (by simp [hl]) h1 (fun j c u hc hu => ?_) (by simp) (by simp)
    rw [List.getElem?_map] at hc
    obtain ⟨c0, hc0, rfl⟩ := Option.map_eq_some_iff.1 hc
    exact purge1_rel hleaf (hr j c0 u hc0 hu)
  | leaf hl => cases c <;> first | exact one rfl | exact hl.elim
  | _ => exact one rfl
/-- what changes when rows are rewritten -/
structure Rewr (tb : Nat → Ti) (base : Nat) (h : Heap) (hv : Nat → Value) (L : Nat → Option Lb) (X : Nat → Prop) (w w' : World) (pg : Bool) (D : Nat → Prop) (N : Nat → Option (List AV)) (Fs : Nat → Nat → List Nat) (Fr : List Nat) (C M : Nat → Prop) : Prop where
  row : ∀ i, D i → ∃ e g cs, h i = some (.row e g false cs) ∧ ∀ cs', N i = some cs' → cs'.length = cs.length ∧ ∃ m us, w'.ownsRow 0 e (tb e).sz (hv i) m us ∧ (us.length = cs'.length ∧ (tb e).sz ≠ 0) ∧ (∀ u ∈ us, u.oneCell' = true) ∧
    ∀ (j : Nat) (c : AV) (u : Value), cs'[j]? = some c → us[j]? = some u → Rel tb noLeaf (fun k => k ∈ Fs i j) w' c u (Fs i j) ∧ (Fs i j).Nodup
  own : ∀ i j k, D i → N i ≠ none → k ∈ Fs i j → M k ∧ ∀ i', blkOf (hv i') = some k → D i' ∧ N i' = none
  dis : ∀ i j i' j' k, D i → N i ≠ none → D i' → N i' ≠ none → k ∈ Fs i j → k ∈ Fs i' j' → i = i' ∧ j = j'
  mine : ∀ k, M k → base ≤ k ∧ k < w.heap.size ∧ ¬ X k ∧ ((∃ i, D i ∧ blkOf (hv i) = some k) ∨ ∃ i j, D i ∧ L k = some (.own i (j + 1)))
  ch : ∀ k, C k → M k ∧ (pg = false → ∃ i, D i ∧ blkOf (hv i) = some k)
  mem : ∀ k, k < w.heap.size → ¬ C k → w'.heap[k]? = w.heap[k]?
  fr : ∀ k ∈ Fr, k < w'.heap.size ∧ (w.heap.size ≤ k ∨ C k) ∧ (∀ i, blkOf (hv i) = some k → D i ∧ N i = none) ∧ ∀ i j, D i → N i ≠ none → k ∉ Fs i j
  size : w.heap.size ≤ w'.heap.size
  os : w'.os = w.os
  tape : w'.tape = w.tape
  output : w'.output = w.output
open Classical in
noncomputable def rwH (h : Heap) (pg : Bool) (D : Nat → Prop) (N : Nat → Option (List AV)) : Heap := fun i => if D i then (match h i with
    | some (.row e g _ _) => (match N i with | some cs' => some (.row e g false cs') | none => some .dead)
    | b => b) else (match pg with | true => purgeH h i | false => h i)
open Classical in
noncomputable def rwV (h : Heap) (hv : Nat → Value) (pg : Bool) (D : Nat → Prop) (N : Nat → Option (List AV)) : Nat → Value := fun i => if D i ∧ N i = none then .nilFunc else if ¬ D i ∧ pg = true ∧ ∃ e g cs, h i = some (.row e g true cs) then .nilFunc else hv i
open Classical in
noncomputable def rwL (L : Nat → Option Lb) (D : Nat → Prop) (N : Nat → Option (List AV)) (Fs : Nat → Nat → List Nat) : Nat → Option Lb := fun k => if hk : ∃ p : Nat × Nat, D p.1 ∧ N p.1 ≠ none ∧ k ∈ Fs p.1 p.2 then some (.own (Classical.choose hk).1 ((Classical.choose hk).2 + 1)) else L k
theorem rwV_blk {pg : Bool} {D : Nat → Prop} {N : Nat → Option (List AV)} {i k : Nat} (hb : blkOf (rwV h hv pg D N i) = some k) : blkOf (hv i) = some k ∧ ¬ (D i ∧ N i = none) ∧ rwV h hv pg D N i = hv i := by
  unfold rwV at hb ⊢
  split at hb
  · cases hb
  · rename_i h1
    split at hb
    · cases hb
    · rename_i h2
      exact ⟨hb, h1, by rw [if_neg h1, if_neg h2]⟩
theorem rwL_in {D : Nat → Prop} {N : Nat → Option (List AV)} {Fs : Nat → Nat → List Nat} (dis : ∀ i j i' j' k, D i → N i ≠ none → D i' → N i' ≠ none → k ∈ Fs i j → k ∈ Fs i' j' → i = i' ∧ j = j') {i j k : Nat} (hD : D i) (hN : N i ≠ none) (hk : k ∈ Fs i j) : rwL L D N Fs k = some (.own i (j + 1)) := by
  have hex : ∃ p : Nat × Nat, D p.1 ∧ N p.1 ≠ none ∧ k ∈ Fs p.1 p.2 := ⟨(i, j), hD, hN, hk⟩
  unfold rwL
  rw [dif_pos hex]
  have hs := Classical.choose_spec hex
  obtain ⟨e1, e2⟩ := dis _ _ _ _ k hs.1 hs.2.1 hD hN hs.2.2 hk
  rw [e1, e2]
theorem rwL_out {D : Nat → Prop} {N : Nat → Option (List AV)} {Fs : Nat → Nat → List Nat} {k : Nat} (hk : ∀ i j, D i → N i ≠ none → k ∉ Fs i j) : rwL L D N Fs k = L k := by
  unfold rwL
  exact dif_neg fun ⟨p, h1, h2, h3⟩ => hk _ _ h1 h2 h3
theorem rwH_in {pg : Bool} {D : Nat → Prop} {N : Nat → Option (List AV)} {i e g : Nat} {bb : Bool} {cs : List AV} (hD : D i) (hi : h i = some (.row e g bb cs)) : rwH h pg D N i = match N i with | some cs' => some (.row e g false cs') | none => some .dead := by
  unfold rwH
  rw [if_pos hD, hi]
theorem rwH_out {pg : Bool} {D : Nat → Prop} {N : Nat → Option (List AV)} {i : Nat} (hD : ¬ D i) : rwH h pg D N i = match pg with | true => purgeH h i | false => h i := by
  unfold rwH
  rw [if_neg hD]
theorem rwV_out {pg : Bool} {D : Nat → Prop} {N : Nat → Option (List AV)} {i : Nat} (h1 : ¬ (D i ∧ N i = none)) (h2 : ∀ e g cs, h i ≠ some (.row e g true cs)) : rwV h hv pg D N i = hv i := by
  unfold rwV
  rw [if_neg h1, if_neg (fun ⟨_, _, e, g, cs, hh⟩ => h2 e g cs hh)]
theorem leaf_rw {pg : Bool} {D : Nat → Prop} {N : Nat → Option (List AV)} {Fs : Nat → Nat → List Nat} {Fr : List Nat} {C M : Nat → Prop} (T : Rewr tb base h hv L X w w' pg D N Fs Fr C M) {a : AV} {v : Value} (hl : Leaf tb h hv a v) : Leaf tb (rwH h pg D N) (rwV h hv pg D N) a v := by
  -- a block that is no row stays what it is
  have other : ∀ i b, h i = some b → (∀ e g bb cs, b ≠ .row e g bb cs) → rwH h pg D N i = some (match pg with | true => purgeB b | false => b) ∧ rwV h hv pg D N i = hv i := by
    intro i b hi hb
    have hD : ¬ D i := fun hD => by
      obtain ⟨e, g, cs, hh, _⟩ := T.row i hD
      rw [hi] at hh
      injection hh with hh
      exact hb _ _ _ _ hh
    refine ⟨?_, rwV_out (fun h => hD h.1) (fun e g cs hh => by rw [hi] at hh; injection hh with hh; exact hb _ _ _ _ hh)⟩
    rw [rwH_out hD]
    cases pg
    · exact hi
    · simp only [purgeH, hi]
  -- a row stays with its length, or is dead
  have rows : ∀ i b, h i = some b → ∃ b', rwH h pg D N i = some b' ∧ ∀ e g bb cs', b' = .row e g bb cs' → ∃ bb0 cs, b = .row e g bb0 cs ∧ cs'.length = cs.length ∧ rwV h hv pg D N i = hv i := by
    intro i b hi
    by_cases hD : D i
    · obtain ⟨e, g, cs, hh, hn⟩ := T.row i hD
      rw [hi] at hh
      injection hh with hh
      subst hh
      rw [rwH_in hD hi]
      cases hN : N i with
      | none => exact ⟨_, rfl, fun e g bb cs' hb => by cases hb⟩
      | some cs' =>
        refine ⟨_, rfl, fun e' g' bb' cs2 hb => ?_⟩
        injection hb with q1 q2 q3 q4
        subst q1 q2 q3 q4
        exact ⟨_, _, rfl, (hn _ hN).1, rwV_out (fun h => by rw [hN] at h; cases h.2) (fun e g cs hh => by rw [hi] at hh; injection hh with hh; injection hh with _ _ hh; cases hh)⟩
    · rw [rwH_out hD]
      cases pg with
      | false => exact ⟨b, hi, fun e g bb cs' hb => by subst hb; exact ⟨_, _, rfl, rfl, by unfold rwV; rw [if_neg (fun h => hD h.1), if_neg (fun h => by cases h.2.1)]⟩⟩
      | true =>
        refine ⟨purgeB b, by simp only [purgeH, hi], fun e g bb cs' hb => ?_⟩
        cases b with
        | row e1 g1 b1 cs1 =>
          cases b1 with
          | true => cases hb
          | false =>
            injection hb with q1 q2 q3 q4
            subst q1 q2 q3 q4
            exact ⟨_, _, rfl, rfl, rwV_out (fun h => hD h.1) (fun e g cs hh => by rw [hi] at hh; injection hh with hh; injection hh with _ _ hh; cases hh)⟩
        | _ => cases hb
  unfold Leaf at hl ⊢
  split at hl
  · obtain ⟨b, h1, h2, h3⟩ := hl
    obtain ⟨b', k1, k2⟩ := rows _ _ h1
    refine ⟨b', k1, h2, fun e g bb cs' hb => ?_⟩
    obtain ⟨bb0, cs, rfl, hlen, hvv⟩ := k2 _ _ _ _ hb
    rw [hvv, hlen]
    exact h3 _ _ _ _ rfl
  · obtain ⟨t, cs', g, h1, h2⟩ := hl
    obtain ⟨q1, q2⟩ := other _ _ h1 (fun e g bb cs hb => by cases hb)
    rw [q2, q1]
    cases pg
    · exact ⟨t, cs', g, rfl, h2⟩
    · exact ⟨t, _, g, rfl, h2⟩
  · obtain ⟨b, h1, h2, h3⟩ := hl
    obtain ⟨b', k1, k2⟩ := rows _ _ h1
    refine ⟨b', k1, h2, fun e g bb cs' hb => ?_⟩
    obtain ⟨bb0, cs, rfl, hlen, hvv⟩ := k2 _ _ _ _ hb
    rw [hvv]
    exact h3 _ _ _ _ rfl
  · obtain ⟨t, es, g, h1, h2⟩ := hl
    obtain ⟨q1, q2⟩ := other _ _ h1 (fun e g bb cs hb => by cases hb)
    rw [q2, q1]
    exact ⟨t, es, g, by cases pg <;> rfl, h2⟩
  · obtain ⟨m, cs, h1, h2⟩ := hl
    obtain ⟨q1, q2⟩ := other _ _ h1 (fun e g bb cs hb => by cases hb)
    rw [q2, q1]
    exact ⟨m, cs, by cases pg <;> rfl, h2⟩
  · exact hl.elim
theorem Sim.rewrite (S : Sim tb base w0 n ⟨env, h⟩ a w hv L X) {pg : Bool} {D : Nat → Prop} {N : Nat → Option (List AV)} {Fs : Nat → Nat → List Nat} {Fr : List Nat} {C M : Nat → Prop} (T : Rewr tb base h hv L X w w' pg D N Fs Fr C M) :
    Sim tb base w0 n ⟨(purgeS pg ⟨env, h⟩).env, rwH h pg D N⟩ a w' (rwV h hv pg D N) (rwL L D N Fs) (fun g => X g ∨ g ∈ Fr) := by
  have okA : pg = false → ∀ g, Ok hv w X g → Ok (rwV h hv pg D N) w' (fun g => X g ∨ g ∈ Fr) g ∧ ¬ C g := by
    intro hpg g hg
    have hC : ¬ C g := fun hC => by
      obtain ⟨i, _, hi⟩ := (T.ch g hC).2 hpg
      exact hg.2.1 i hi
    refine ⟨⟨Nat.lt_of_lt_of_le hg.1 T.size, fun i hi => hg.2.1 i (rwV_blk hi).1, fun hx => hx.elim hg.2.2 (fun hm => ?_)⟩, hC⟩
    rcases (T.fr g hm).2.1 with h1 | h1
    · have := hg.1; omega
    · exact hC h1
  have hval : ∀ y u F', VRel tb h hv X w y u F' → ∃ F, VRel tb (rwH h pg D N) (rwV h hv pg D N) (fun g => X g ∨ g ∈ Fr) w' (pgA pg y) u F := by
    intro y u F' r
    cases hpg : pg with
    | true => exact purge_rel (fun a v hl => by have := leaf_rw T hl; rwa [hpg] at this) r
    | false =>
      refine ⟨F', Rel.imp (fun a v hl => by have := leaf_rw T hl; rwa [hpg] at this) (fun g hg => by have := (okA hpg g hg).1; rwa [hpg] at this) (fun g hg => T.mem g hg.1 (okA hpg g hg).2) r⟩
  have hval1 : ∀ y u F', VRel tb h hv X w y u F' → ∃ F, VRel tb (rwH h pg D N) (rwV h hv pg D N) (fun g => X g ∨ g ∈ Fr) w' (pgB pg y) u F := by
    intro y u F' r
    cases hpg : pg with
    | true => exact ⟨[], purge1_rel (fun a v hl => by have := leaf_rw T hl; rwa [hpg] at this) r⟩
    | false =>
      refine ⟨F', Rel.imp (fun a v hl => by have := leaf_rw T hl; rwa [hpg] at this) (fun g hg => by have := (okA hpg g hg).1; rwa [hpg] at this) (fun g hg => T.mem g hg.1 (okA hpg g hg).2) r⟩
  -- blocks of others stay
  have memO : ∀ i g, ¬ D i → blkOf (hv i) = some g → w'.heap[g]? = w.heap[g]? := by
    intro i g hD hg
    obtain ⟨l1, l2, l3, l4⟩ := S.lab i g hg
    refine T.mem g l3 fun hC => ?_
    rcases (T.mine g (T.ch g hC).1).2.2.2 with ⟨i', hD', hi'⟩ | ⟨i', j', _, hL⟩
    · exact hD (S.inj hg hi' ▸ hD')
    · rw [l1] at hL; injection hL with hL; injection hL with _ hL; omega
  have labO : ∀ i g, blkOf (rwV h hv pg D N i) = some g → ∀ i' j', D i' → N i' ≠ none → g ∉ Fs i' j' := by
    intro i g hg i' j' hD' hN' hk
    obtain ⟨hg1, hg2, _⟩ := rwV_blk hg
    exact hg2 ((T.own i' j' g hD' hN' hk).2 i hg1)
  have labRow : ∀ i j k, ¬ D i → L k = some (.own i (j + 1)) → ¬ M k := by
    intro i j k hD hL hC
    rcases (T.mine k hC).2.2.2 with ⟨i', hD', hi'⟩ | ⟨i', j', hD', hL'⟩
    · rw [(S.lab i' k hi').1] at hL; injection hL with hL; injection hL with _ hL; omega
    · rw [hL] at hL'; injection hL' with hL'; injection hL' with q1 _; exact hD (q1 ▸ hD')
  have labK : ∀ k, ¬ M k → rwL L D N Fs k = L k := fun k hC => rwL_out fun i j hD hN hk => hC (T.own i j k hD hN hk).1
  have okC : ∀ k, Ok hv w X k → ¬ C k → Ok (rwV h hv pg D N) w' (fun g => X g ∨ g ∈ Fr) k := fun k hk hC => by
    refine ⟨Nat.lt_of_lt_of_le hk.1 T.size, fun i hi => hk.2.1 i (rwV_blk hi).1, fun hx => hx.elim hk.2.2 (fun hm => ?_)⟩
    rcases (T.fr k hm).2.1 with h1 | h1
    · have := hk.1; omega
    · exact hC h1
  have rowO : ∀ i e g bb cs, ¬ D i → (bb = false ∨ pg = false) → rwV h hv pg D N i = hv i → BlkR tb base h hv L X w i (.row e g bb cs) → BlkR tb base (rwH h pg D N) (rwV h hv pg D N) (rwL L D N Fs) (fun g => X g ∨ g ∈ Fr) w' i (.row e g bb cs) := by
    intro i e g bb cs hD hb hv0 hB
    obtain ⟨m, us, h1, h2, h3, h4⟩ := hB
    refine ⟨m, us, by rw [hv0]; exact owns_kept h1 (fun k hk => memO i k hD (blkOf_own hk)), h2, h3, fun j c u hc hu => ?_⟩
    obtain ⟨F, r, hN, hL⟩ := h4 j c u hc hu
    have nc : ∀ k, Ok hv w X k ∧ (bb = false → k ∈ F) → ¬ C k := fun k hk => by
      rcases hb with hb | hb
      · exact fun hC => labRow i j k hD (hL k (hk.2 hb)).1 (T.ch k hC).1
      · exact (okA hb k hk.1).2
    refine ⟨F, r.imp (fun _ _ h => h) (fun k hk => ⟨okC k hk.1 (nc k hk), hk.2⟩) (fun k hk => T.mem k hk.1.1 (nc k hk)), hN, fun k hk => ⟨?_, (hL k hk).2⟩⟩
    rw [labK k (labRow i j k hD (hL k hk).1)]
    exact (hL k hk).1
  refine { below := ?_, size := Nat.le_trans S.size T.size, defers := S.defers, tmps := S.tmps, vals := fun t => ?_, blks := fun i b hb => ?_, lab := fun i g hg => ?_, noneH := fun i hi => ?_, xlt := fun g hx => ?_ }
  · refine ⟨T.os.trans S.below.os, T.tape.trans S.below.tape, T.output.trans S.below.output, Nat.le_trans S.below.size T.size, fun k hk => ?_⟩
    exact (T.mem k (Nat.lt_of_lt_of_le hk S.size) (fun hC => by have := (T.mine k (T.ch k hC).1).1; omega)).trans (S.below.block k hk)
  · obtain ⟨F, r⟩ := S.vals t
    obtain ⟨F', r'⟩ := hval _ _ _ r
    refine ⟨F', ?_⟩
    have e : (purgeS pg ⟨env, h⟩).env t = pgA pg (env t) := by cases pg <;> rfl
    show Rel tb _ _ w' ((purgeS pg ⟨env, h⟩).env t) _ F'
    rw [e]
    exact r'
  · have hb' : rwH h pg D N i = some b := hb
    by_cases hD : D i
    · obtain ⟨e, g, cs, hh, hn⟩ := T.row i hD
      rw [rwH_in hD hh] at hb'
      cases hN : N i with
      | none =>
        rw [hN] at hb'
        injection hb' with hb'
        subst hb'
        show blkOf (rwV h hv pg D N i) = none
        unfold rwV
        rw [if_pos ⟨hD, hN⟩]
        rfl
      | some cs' =>
        rw [hN] at hb'
        injection hb' with hb'
        subst hb'
        obtain ⟨hlen, m, us, ho, hl, h1, hr⟩ := hn _ hN
        have hNn : N i ≠ none := by rw [hN]; simp
        have hv0 : rwV h hv pg D N i = hv i := rwV_out (fun h => hNn h.2) (fun e g cs hc => by rw [hh] at hc; injection hc with hc; injection hc with _ _ hc; cases hc)
        refine ⟨m, us, by rw [hv0]; exact owns_base ho (fun k hk => (S.lab i k (blkOf_own hk)).2.1), hl, h1, fun j c u hc hu => ?_⟩
        obtain ⟨q1, q2⟩ := hr j c u hc hu
        refine ⟨Fs i j, q1.imp (fun _ _ h => h) (fun k hk => ⟨?_, fun _ => hk⟩) (fun _ _ => rfl), q2, fun k hk => ⟨rwL_in T.dis hD hNn hk, (T.mine k (T.own i j k hD hNn hk).1).1⟩⟩
        obtain ⟨c1, c2⟩ := T.own i j k hD hNn hk
        refine ⟨Nat.lt_of_lt_of_le (T.mine k c1).2.1 T.size, fun i' hi' => labO i' k hi' i j hD hNn hk, fun hx => hx.elim (T.mine k c1).2.2.1 (fun hm => (T.fr k hm).2.2.2 i j hD hNn hk)⟩
    · rw [rwH_out hD] at hb'
      have vO : (∀ e g cs, h i ≠ some (.row e g true cs)) → rwV h hv pg D N i = hv i := fun hne => rwV_out (fun h => hD h.1) hne
      have deadO : blkOf (hv i) = none → blkOf (rwV h hv pg D N i) = none := fun hnone => by
        cases hk : blkOf (rwV h hv pg D N i) with
        | none => rfl
        | some k => rw [(rwV_blk hk).1] at hnone; cases hnone
      have boxO : ∀ t cs, h i = some (.box t cs) → BlkR tb base h hv L X w i (.box t cs) → BlkR tb base (rwH h pg D N) (rwV h hv pg D N) (rwL L D N Fs) (fun g => X g ∨ g ∈ Fr) w' i (.box t (pgC pg cs)) := by
        intro t cs hi hB
        obtain ⟨g, us, h1, h2, h3, h4, h5⟩ := hB
        have hv0 := vO (fun e g cs hh => by rw [hi] at hh; injection hh with hh; cases hh)
        refine ⟨g, us, by rw [hv0]; exact h1, (memO i g hD (by rw [h1]; rfl)).trans h2, ?_, h4, fun j c u hc hu => ?_⟩
        · rw [h3]; cases pg
          · rfl
          · simp only [pgC, mapR_eq, List.length_map]
        · have hc' : ∃ c0, cs[j]? = some c0 ∧ c = pgB pg c0 := by
            cases pg
            · exact ⟨c, hc, rfl⟩
            · simp only [pgC, mapR_eq, List.getElem?_map] at hc
              obtain ⟨c0, hc0, rfl⟩ := Option.map_eq_some_iff.1 hc
              exact ⟨c0, hc0, rfl⟩
          obtain ⟨c0, hc0, rfl⟩ := hc'
          obtain ⟨F, r⟩ := h5 j c0 u hc0 hu
          exact hval1 _ _ _ r
      have mpO : ∀ t es, h i = some (.mp t es) → BlkR tb base h hv L X w i (.mp t es) → BlkR tb base (rwH h pg D N) (rwV h hv pg D N) (rwL L D N Fs) (fun g => X g ∨ g ∈ Fr) w' i (.mp t es) := by
        intro t es hi hB
        obtain ⟨g, ents, clock, h1, h2, h3, h4⟩ := hB
        have hv0 := vO (fun e g cs hh => by rw [hi] at hh; injection hh with hh; cases hh)
        refine ⟨g, ents, clock, by rw [hv0]; exact h1, (memO i g hD (by rw [h1]; rfl)).trans h2, h3, fun j kv hj => ?_⟩
        obtain ⟨m, h5, h6, h7⟩ := h4 j kv hj
        exact ⟨m, h5, h6.imp (fun _ _ h => h) (fun _ h => h) (fun _ h => h.elim), h7.imp (fun _ _ h => h) (fun _ h => h) (fun _ h => h.elim)⟩
      have extO : ∀ m cs, h i = some (.ext m cs) → BlkR tb base h hv L X w i (.ext m cs) → BlkR tb base (rwH h pg D N) (rwV h hv pg D N) (rwL L D N Fs) (fun g => X g ∨ g ∈ Fr) w' i (.ext m cs) := by
        intro m cs hi hB
        obtain ⟨v, h1, h2⟩ := hB
        have hv0 := vO (fun e g cs hh => by rw [hi] at hh; injection hh with hh; cases hh)
        exact ⟨v, by rw [hv0]; exact h1, h2.imp (fun _ _ h => h) (fun _ h => h) (fun k hk => T.mem k (Nat.lt_of_lt_of_le hk S.size) (fun hC => by have := (T.mine k (T.ch k hC).1).1; omega))⟩
      cases hpg : pg with
      | false =>
        rw [hpg] at hb'
        have hb' : h i = some b := hb'
        have hB := S.blks i b hb'
        rw [← hpg]
        cases b with
        | dead => exact deadO hB
        | row e g bb cs => exact rowO i e g bb cs hD (.inr hpg) (by unfold rwV; rw [if_neg (fun h => hD h.1), if_neg (fun h => by rw [hpg] at h; cases h.2.1)]) hB
        | box t cs => have := boxO t cs hb' hB; rw [hpg] at this ⊢; exact this
        | mp t es => exact mpO t es hb' hB
        | ext m cs => exact extO m cs hb' hB
      | true =>
        rw [hpg] at hb'
        have hb' : purgeH h i = some b := hb'
        unfold purgeH at hb'
        rw [← hpg]
        cases hi : h i with
        | none => rw [hi] at hb'; cases hb'
        | some b0 =>
          rw [hi] at hb'
          injection hb' with hb'
          subst hb'
          have hB := S.blks i b0 hi
          cases b0 with
          | dead => exact deadO hB
          | row e g bb cs =>
            cases bb with
            | true =>
              show blkOf (rwV h hv pg D N i) = none
              unfold rwV
              rw [if_neg (fun h => hD h.1), if_pos ⟨hD, hpg, e, g, cs, hi⟩]
              rfl
            | false => exact rowO i e g false cs hD (.inl rfl) (vO (fun e g cs hh => by rw [hi] at hh; injection hh with hh; injection hh with _ _ hh; cases hh)) hB
          | box t cs => have := boxO t cs hi hB; rw [hpg] at this ⊢; exact this
          | mp t es => exact mpO t es hi hB
          | ext m cs => exact extO m cs hi hB
  · obtain ⟨g1, g2, _⟩ := rwV_blk hg
    obtain ⟨l1, l2, l3, l4⟩ := S.lab i g g1
    refine ⟨(rwL_out (fun i' j' hD hN => labO i g hg i' j' hD hN)).trans l1, l2, Nat.lt_of_lt_of_le l3 T.size, fun hx => hx.elim l4 (fun hm => g2 ((T.fr g hm).2.2.1 i g1))⟩
  · have hi' : rwH h pg D N i = none := hi
    have hnone : h i = none := by
      by_cases hD : D i
      · obtain ⟨e, g, cs, hh, _⟩ := T.row i hD
        rw [rwH_in hD hh] at hi'
        cases hN : N i <;> rw [hN] at hi' <;> cases hi'
      · rw [rwH_out hD] at hi'
        cases pg with
        | false => exact hi'
        | true =>
          cases hh : h i with
          | none => rfl
          | some b => simp only [purgeH, hh] at hi'; cases hi'
    have := S.noneH i hnone
    cases hk : blkOf (rwV h hv pg D N i) with
    | none => rfl
    | some k => rw [(rwV_blk hk).1] at this; cases this
  · rcases hx with hx | hx
    · exact ⟨Nat.lt_of_lt_of_le (S.xlt g hx).1 T.size, (S.xlt g hx).2⟩
    · refine ⟨(T.fr g hx).1, ?_⟩
      rcases (T.fr g hx).2.1 with h1 | h1
      · exact Nat.le_trans S.size h1
      · exact (T.mine g (T.ch g h1).1).1
end
end Go.Ev
namespace Go.Ev
set_option linter.unusedVariables false
set_option linter.unusedSimpArgs false
open Go.RowKit

section
variable {P : Program} {tb : Nat → Ti} {R : Nat → List AV → AV → Prop} {base n : Nat} {w0 : World} {env : Nat → AV} {h h' h2 : Heap} {a : Act} {w w' : World} {hv hv' hv2 : Nat → Value} {L L' L2 : Nat → Option Lb} {X X' X2 : Nat → Prop}
theorem wp_value {o : Oper} {next : Act → World → Prop} {Q : Exit → Act → World → Prop} {u : Value} {w' : World} (hr : (execOp a.eval o).run P w = .ok (.value u) w') (hn : next (a.put o.dst u) w') : o.wp P a w next Q := by
  unfold Oper.wp
  rw [hr]
  exact hn
theorem wp_skip {o : Oper} {next : Act → World → Prop} {Q : Exit → Act → World → Prop} {w' : World} (hr : (execOp a.eval o).run P w = .ok .skip w') (hn : next (a.put o.dst undef) w') : o.wp P a w next Q := by
  unfold Oper.wp
  rw [hr]
  exact hn
theorem Sim.rhos (S : Sim tb base w0 n ⟨env, h⟩ a w hv L X) (xs : Array Operand) : (xs.map a.eval).size = (mapR (Ev.rho env) xs.toList).length ∧
    ∀ (j : Nat) (c : AV) (u : Value), (mapR (Ev.rho env) xs.toList)[j]? = some c → (xs.map a.eval)[j]? = some u → ∃ F, VRel tb h hv X w c u F := by
  rw [mapR_eq]
  refine ⟨by simp, fun j c u hc hu => ?_⟩
  rw [List.getElem?_map] at hc
  obtain ⟨x, hx, rfl⟩ := Option.map_eq_some_iff.1 hc
  rw [Array.getElem?_map] at hu
  obtain ⟨x', hx', rfl⟩ := Option.map_eq_some_iff.1 hu
  have : x = x' := by simp at hx; rw [hx] at hx'; injection hx'
  subst this
  exact S.rho x
theorem Sim.parts (S : Sim tb base w0 n ⟨env, h⟩ a w hv L X) (ps : Array (Nat × Operand)) : (ps.map fun (i, x) => (i, a.eval x)).size = (mapR (fun p => (p.1, Ev.rho env p.2)) ps.toList).length ∧
    ∀ (j : Nat) (p : Nat × AV) (q : Nat × Value), (mapR (fun p => (p.1, Ev.rho env p.2)) ps.toList)[j]? = some p → (ps.map fun (i, x) => (i, a.eval x))[j]? = some q → q.1 = p.1 ∧ ∃ F, VRel tb h hv X w p.2 q.2 F := by
  rw [mapR_eq]
  refine ⟨by simp, fun j c u hc hu => ?_⟩
  rw [List.getElem?_map] at hc
  obtain ⟨x, hx, rfl⟩ := Option.map_eq_some_iff.1 hc
  rw [Array.getElem?_map] at hu
  obtain ⟨x', hx', rfl⟩ := Option.map_eq_some_iff.1 hu
  have : x = x' := by simp at hx; rw [hx] at hx'; injection hx'
  subst this
  exact ⟨rfl, S.rho x.2⟩
theorem evOp_sound (hT : TbOk P tb) (hR : Sound P tb R) (S : Sim tb base w0 n ⟨env, h⟩ a w hv L X) (o : Oper) {K : AV → Heap → Prop} (hK : evOp tb R o env h K) {next : Act → World → Prop} {Q : Exit → Act → World → Prop}
    (hN : Yield tb base w0 n env a K (fun u w' => next (a.put o.dst u) w')) : o.wp P a w next Q := by
  unfold evOp at hK
  split at hK
  · rename_i x ho
    obtain ⟨F, r⟩ := S.rho x
    obtain ⟨F', r'⟩ := r.fixNil (ty := o.type)
    exact wp_value (by simp [execOp, ho]) (hN _ _ _ _ _ _ _ _ hK S r')
  · rename_i x ho
    obtain ⟨F, r⟩ := S.rho x
    obtain ⟨F', r'⟩ := r.fixNil (ty := o.type)
    exact wp_value (by simp [execOp, ho]) (hN _ _ _ _ _ _ _ _ hK S r')
  · rename_i c x y ho
    obtain ⟨F0, r0⟩ := S.rho c
    obtain ⟨F1, r1⟩ := S.rho x
    obtain ⟨F2, r2⟩ := S.rho y
    unfold pickA at hK
    split at hK
    · rename_i b hb
      rw [hb] at r0
      have e := r0.bool_inv
      cases b
      · exact wp_value (by simp [execOp, ho, e, asBool]) (hN _ _ _ _ _ _ _ _ hK S r2)
      · exact wp_value (by simp [execOp, ho, e, asBool]) (hN _ _ _ _ _ _ _ _ hK S r1)
    · exact hK.elim
  · rename_i t ho
    obtain ⟨u, w', k1, k2⟩ := alloc_sound hT S hN hK
    exact wp_value (by simp [execOp, ho, k1]) k2
  · rename_i t x ho
    obtain ⟨F, r⟩ := S.rho x
    obtain ⟨u, w', k1, k2⟩ := box_sound hT S r hN hK
    exact wp_value (by simp [execOp, ho, k1]) k2
  · rename_i t ps ho
    obtain ⟨hl, hr⟩ := S.parts ps
    obtain ⟨v, u, F, k1, k2, k3⟩ := build_sound hT hl hr hK
    exact wp_value (by simp only [execOp, ho]; simp [k2]) (hN _ _ _ _ _ _ _ _ k1 S k3)
  · rename_i t k ps ho
    obtain ⟨hl, hr⟩ := S.parts ps
    obtain ⟨u, w', k1, k2⟩ := buildSlice_sound hT S hl hr hN hK
    exact wp_value (by simp only [execOp, ho]; simp [k1]) k2
  · rename_i t x y ho
    obtain ⟨F1, r1⟩ := S.rho x
    obtain ⟨F2, r2⟩ := S.rho y
    obtain ⟨u, w', k1, k2⟩ := makeSlice_sound hT S r1 r2 hN hK
    exact wp_value (by simp [execOp, ho, k1]) k2
  · rename_i t x ho
    obtain ⟨F, r⟩ := S.rho x
    obtain ⟨v, u, F, k1, k2, k3⟩ := S.load hT r hK
    exact wp_value (by simp [execOp, ho, k2]) (hN _ _ _ _ _ _ _ _ k1 S k3)
  · rename_i t x y ho
    obtain ⟨F1, r1⟩ := S.rho x
    obtain ⟨F2, r2⟩ := S.rho y
    obtain ⟨F3, r3⟩ := r2.fixNil (ty := t)
    obtain ⟨w', k1, k2⟩ := store_sound hT S r1 r3 hN hK
    exact wp_skip (by simp [execOp, ho, k1]) k2
  · rename_i s x f ho
    obtain ⟨F, r⟩ := S.rho x
    obtain ⟨v, u, k1, k2, k3⟩ := fieldAddr_sound (w := w) hT r hK
    exact wp_value (by simp [execOp, ho, k2]) (hN _ _ _ _ _ _ _ _ k1 S k3)
  · rename_i s x f ho
    obtain ⟨F, r⟩ := S.rho x
    obtain ⟨v, u, F, k1, k2, k3⟩ := field_sound (w := w) hT r hK
    exact wp_value (by simp [execOp, ho, k2]) (hN _ _ _ _ _ _ _ _ k1 S k3)
  · rename_i t x i ho
    obtain ⟨F1, r1⟩ := S.rho x
    obtain ⟨F2, r2⟩ := S.rho i
    obtain ⟨v, u, k1, k2, k3⟩ := indexAddr_sound hT S r1 r2 hK
    exact wp_value (by simp [execOp, ho, k2]) (hN _ _ _ _ _ _ _ _ k1 S k3)
  · rename_i t x i ho
    obtain ⟨F1, r1⟩ := S.rho x
    obtain ⟨F2, r2⟩ := S.rho i
    obtain ⟨v, u, F, k1, k2, k3⟩ := index_sound (w := w) hT r1 r2 hK
    exact wp_value (by simp [execOp, ho, k2]) (hN _ _ _ _ _ _ _ _ k1 S k3)
  · rename_i x i ho
    obtain ⟨F, r⟩ := S.rho x
    obtain ⟨v, u, F, k1, k2, k3⟩ := extract_sound (P := P) r hK
    exact wp_value (by simp [execOp, ho, k2]) (hN _ _ _ _ _ _ _ _ k1 S k3)
  · rename_i op t x y yt ho
    obtain ⟨F1, r1⟩ := S.rho x
    obtain ⟨F2, r2⟩ := S.rho y
    obtain ⟨v, u, k1, k2, k3⟩ := bin_sound (w := w) hT r1 r2 hK x y
    refine wp_value (u := u) ?_ (hN _ _ _ _ _ _ _ _ k1 S k3)
    simp only [execOp, ho]
    rw [Sem.run_bind, k2]
    simp
  · rename_i op t x ho
    obtain ⟨F, r⟩ := S.rho x
    obtain ⟨v, u, k1, k2, k3⟩ := un_sound (P := P) r hK
    exact wp_value (by simp [execOp, ho, k2]) (hN _ _ _ _ _ _ _ _ k1 S k3)
  · rename_i t ho
    obtain ⟨u, w', k1, k2⟩ := makeMap_sound (P := P) S hN hK
    exact wp_value (by simp [execOp, ho, k1]) k2
  · rename_i t m k ok ho
    obtain ⟨F1, r1⟩ := S.rho m
    obtain ⟨F2, r2⟩ := S.rho k
    obtain ⟨v, u, k1, k2, k3⟩ := lookup_sound hT S r1 r2 hK
    exact wp_value (by simp [execOp, ho, k2]) (hN _ _ _ _ _ _ _ _ k1 S k3)
  · rename_i t m k v ho
    obtain ⟨F1, r1⟩ := S.rho m
    obtain ⟨F2, r2⟩ := S.rho k
    obtain ⟨F3, r3⟩ := S.rho v
    obtain ⟨w', k1, k2⟩ := mapUpdate_sound hT S r1 r2 r3 hN hK
    exact wp_skip (by simp [execOp, ho, k1]) k2
  · rename_i t m k v ho
    obtain ⟨F1, r1⟩ := S.rho m
    obtain ⟨F2, r2⟩ := S.rho k
    obtain ⟨F3, r3⟩ := S.rho v
    obtain ⟨w', k1, k2⟩ := mapUpdate_sound hT S r1 r2 r3 hN hK
    exact wp_skip (by simp [execOp, ho, k1]) k2
  · rename_i f first caps ho
    split at hK
    · rename_i hf
      obtain ⟨hl, hr⟩ := S.rhos caps
      have hf' : first = #[] := by simpa using hf
      obtain ⟨Fs, hFs⟩ := choose_cells [] (us := (caps.map a.eval).toList) (fun j c u hc hu => hr j c u hc (by simpa using hu))
      have r : VRel tb h hv X w (.fn f (mapR (rho env) caps.toList)) (.func (.func f) #[] (caps.map a.eval)) [] := by
        have := Rel.fn (tb := tb) (lf := Leaf tb h hv) (A := Ok hv w X) (w := w) f (mapR (rho env) caps.toList) (caps.map a.eval).toList Fs (by simpa using hl) hFs
        rwa [Array.toArray_toList] at this
      exact wp_value (by simp [execOp, ho, Instr.makeFunc, hf']) (hN _ _ _ _ _ _ _ _ hK S r)
    · exact hK.elim
  · rename_i c ho
    obtain ⟨hl, hr⟩ := S.rhos c.args
    split at hK
    · rename_i f hc
      obtain ⟨F, r⟩ := S.rho f
      obtain ⟨g, vs', k1, k2⟩ := call_sound hR S r hl hr hN hK
      have hrun : (execOp a.eval o).run P w = .ok (.enter g vs') w := by
        simp only [execOp, ho, Go.resolve, hc]
        exact k1
      unfold Oper.wp
      rw [hrun]
      refine k2.mono fun e w' he => ?_
      obtain ⟨v, rfl, hn⟩ := he
      exact hn
    · rename_i b hc
      have run : ∀ {u : Value} {w' : World}, (builtin b c.argTypes o.type (c.args.map fun | .const _ => true | _ => false) (c.args.map a.eval)).run P w = .ok (.value u) w' → (execOp a.eval o).run P w = .ok (.value u) w' := by
        intro u w' hb
        simp only [execOp, ho, Go.resolve, hc, Sem.run_bind, Sem.run_pure, Result.andThen_ok, invoke]
        exact hb
      unfold builtinA at hK
      split at hK
      · rename_i x hx
        obtain ⟨v, hv1⟩ : ∃ v, c.args.map a.eval = #[v] := by
          rw [hx] at hl
          have : (c.args.map a.eval).size = 1 := hl
          exact ⟨(c.args.map a.eval)[0], by apply Array.ext <;> simp_all⟩
        obtain ⟨F, r⟩ := hr 0 x v (by rw [hx]; rfl) (by rw [hv1]; rfl)
        split at hK
        · split at hK
          · rename_i t ht
            have ht' : c.argTypes = #[t] := by simpa using congrArg List.toArray ht
            obtain ⟨k, k1, k2⟩ := len_sound hT S r hK o.type
            exact wp_value (run (by rw [hv1, ht']; simp [builtin, k2])) (hN _ _ _ _ _ _ _ _ k1 S (.int _ _))
          · exact hK.elim
        · exact hK.elim
      · rename_i x y hx
        obtain ⟨v1, v2, hv1⟩ : ∃ v1 v2, c.args.map a.eval = #[v1, v2] := by
          rw [hx] at hl
          have : (c.args.map a.eval).size = 2 := hl
          exact ⟨(c.args.map a.eval)[0], (c.args.map a.eval)[1], by
            apply Array.ext
            · simpa using this
            · intro i h1 h2
              match i, h2 with
              | 0, _ => rfl
              | 1, _ => rfl⟩
        obtain ⟨F1, r1⟩ := hr 0 x v1 (by rw [hx]; rfl) (by rw [hv1]; rfl)
        obtain ⟨F2, r2⟩ := hr 1 y v2 (by rw [hx]; rfl) (by rw [hv1]; rfl)
        split at hK
        · split at hK
          · split at hK
            · rename_i t t' ht _ hb
              have hb := Nat.eq_of_beq_eq_true hb
              have ht' : c.argTypes = #[t, t] := by rw [← hb] at ht; simpa using congrArg List.toArray ht
              obtain ⟨u, w', k1, k2⟩ := appendA_sound hT S r1 r2 (ty := o.type) hN hK
              exact wp_value (run (by rw [hv1, ht']; simp [builtin, k1])) k2
            · exact hK.elim
          · exact hK.elim
        · obtain ⟨v, u, k1, k2, k3⟩ := max2_sound (P := P) r1 r2 hK c.argTypes o.type
          exact wp_value (run (by rw [hv1]; simp [builtin, k2])) (hN _ _ _ _ _ _ _ _ k1 S k3)
        · obtain ⟨v, u, k1, k2, k3⟩ := min2_sound (P := P) r1 r2 hK c.argTypes o.type
          exact wp_value (run (by rw [hv1]; simp [builtin, k2])) (hN _ _ _ _ _ _ _ _ k1 S k3)
        · exact hK.elim
      · exact hK.elim
    · exact hK.elim
  · exact hK.elim
end
end Go.Ev
namespace Go.Ev
set_option linter.unusedVariables false
set_option linter.unusedSimpArgs false
open Go.RowKit

section
variable {P : Program} {tb : Nat → Ti} {R : Nat → List AV → AV → Prop} {base n : Nat} {w0 : World} {env : Nat → AV} {h h' : Heap} {a : Act} {w w' : World} {hv hv' : Nat → Value} {L L' : Nat → Option Lb} {X X' : Nat → Prop}
theorem inL_iff {i : Nat} : ∀ {l : List Nat}, inL i l = true ↔ i ∈ l
  | [] => by simp [inL]
  | a :: l => by
    show (bif Nat.beq i a then true else inL i l) = true ↔ _
    cases hb : Nat.beq i a with
    | true => simp [Nat.eq_of_beq_eq_true hb]
    | false =>
      have : i ≠ a := fun e => by rw [e, Nat.beq_refl] at hb; cases hb
      simp [this, inL_iff]
theorem distinct_cons {a : Nat} {l : List Nat} (hd : distinct (a :: l) = true) : a ∉ l ∧ distinct l = true := by
  have hd' : (bif inL a l then false else distinct l) = true := hd
  cases hi : inL a l with
  | true => rw [hi] at hd'; cases hd'
  | false => rw [hi] at hd'; exact ⟨fun hm => Bool.noConfusion ((inL_iff.2 hm).symm.trans hi), hd'⟩
/-- a row of the call's own with all that it owns -/
theorem Sim.ownRow (S : Sim tb base w0 n ⟨env, h⟩ a w hv L X) {id e g off len : Nat} {cs : List AV} {v : Value} (hid : h id = some (.row e g false cs)) (hl : Leaf tb h hv (.ref id g true off len) v) :
    v = hv id ∧ len * (tb e).sz = cs.length ∧ ∃ F, Res1 tb w (.own e len cs) v F ∧ F.Nodup ∧ (∀ k ∈ F, base ≤ k ∧ k < w.heap.size ∧ ¬ X k ∧ ∃ s, L k = some (.own id s) ∧ (s = 0 → blkOf (hv id) = some k)) := by
  obtain ⟨b, h1, _, h2⟩ := hl
  rw [hid] at h1
  injection h1 with h1
  obtain ⟨_, h3⟩ := h2 _ _ _ _ h1.symm
  obtain ⟨A, cap, N, CAP, h4, h5, h6, h7, h8, h9⟩ := h3 rfl
  obtain ⟨hoff, hv', hlen⟩ := h7 rfl
  obtain ⟨m, us, q1, q2, q3, q4⟩ := S.row hid
  have hm : m = len := by
    have := q1.1
    rw [q2.1, ← hlen] at this
    exact (Nat.eq_of_mul_eq_mul_right (Nat.pos_of_ne_zero q2.2) this).symm
  subst hm
  have ex : ∀ j, ∃ F : List Nat, ∀ (c : AV) (u : Value), cs[j]? = some c → us[j]? = some u → Rel tb noLeaf (fun k => Ok hv w X k ∧ (false = false → k ∈ F)) w c u F ∧ F.Nodup ∧ ∀ k ∈ F, L k = some (.own id (j + 1)) ∧ base ≤ k := by
    intro j
    by_cases hj : j < cs.length
    · obtain ⟨F, hF⟩ := q4 j cs[j] (us[j]'(by omega)) (by simp [hj]) (by simp)
      refine ⟨F, fun c u hc hu => ?_⟩
      simp only [List.getElem?_eq_getElem hj, Option.some.injEq] at hc
      rw [List.getElem?_eq_getElem (by omega)] at hu
      injection hu with hu
      subst hc hu
      exact hF
    · exact ⟨[], fun c u hc => by rw [List.getElem?_eq_none (by omega)] at hc; cases hc⟩
  let Fs : Nat → List Nat := fun j => Classical.choose (ex j)
  have hFs : ∀ j (hj : j < cs.length), Rel tb noLeaf (fun k => Ok hv w X k ∧ (false = false → k ∈ Fs j)) w cs[j] (us[j]'(by omega)) (Fs j) ∧ (Fs j).Nodup ∧ ∀ k ∈ Fs j, L k = some (.own id (j + 1)) ∧ base ≤ k :=
    fun j hj => Classical.choose_spec (ex j) cs[j] (us[j]'(by omega)) (by simp [hj]) (by simp)
  have hblk : ∀ k, (hv id).ownBlock = some k → L k = some (.own id 0) ∧ base ≤ k ∧ k < w.heap.size ∧ ¬ X k := fun k hk => S.lab id k (blkOf_own hk)
  have lab0 : ∀ j k, j < cs.length → k ∈ Fs j → L k = some (.own id (j + 1)) := fun j k hj hk => ((hFs j hj).2.2 k hk).1
  refine ⟨hv', hlen, v.ownBlock.toList ++ (List.range cs.length).flatMap Fs, ⟨us, Fs, owns_base (hv' ▸ q1) (fun _ _ => Nat.zero_le _), q2, q3, fun j c u hc hu => ?_, rfl⟩, ?_, fun k hk => ?_⟩
  · have hj : j < cs.length := (List.getElem?_eq_some_iff.1 hc).1
    have hr := (hFs j hj).1
    rw [List.getElem?_eq_getElem hj] at hc
    rw [List.getElem?_eq_getElem (by omega)] at hu
    injection hc with hc
    injection hu with hu
    subst hc hu
    exact hr.imp (fun _ _ h => h) (fun k hk => hk.2 rfl) (fun _ _ => rfl)
  · rw [List.nodup_append]
    refine ⟨by cases v.ownBlock <;> simp, nodup_labels Fs L (fun j => .own id (j + 1)) (fun i j hij => by injection hij with _ hij; omega) _ List.nodup_range (fun j hj => (hFs j (List.mem_range.1 hj)).2.1) (fun j hj k hk => lab0 j k (List.mem_range.1 hj) hk), ?_⟩
    rintro x hx y hy rfl
    obtain ⟨j, hj, hy⟩ := List.mem_flatMap.1 hy
    have e1 := (hblk x (by rw [← hv']; simpa using hx)).1
    have e2 := lab0 j x (List.mem_range.1 hj) hy
    rw [e1] at e2
    injection e2 with e2
    injection e2 with _ e2
    omega
  · rcases List.mem_append.1 hk with hk | hk
    · have hk : (hv id).ownBlock = some k := by rw [← hv']; simpa using hk
      obtain ⟨k1, k2, k3, k4⟩ := hblk k hk
      exact ⟨k2, k3, k4, 0, k1, fun _ => blkOf_own hk⟩
    · obtain ⟨j, hj, hk⟩ := List.mem_flatMap.1 hk
      obtain ⟨r1, _, r2⟩ := hFs j (List.mem_range.1 hj)
      have hf := (r1.foot k hk).1
      exact ⟨(r2 k hk).2, hf.1, hf.2.2, j + 1, (r2 k hk).1, fun e => by omega⟩
theorem idsL_append : ∀ (l m : List AV), idsL (l ++ m) = idsL l ++ idsL m
  | [], m => rfl
  | v :: l, m => by
    show ids1 v ++ idsL (l ++ m) = (ids1 v ++ idsL l) ++ idsL m
    rw [idsL_append l m, List.append_assoc]
theorem distinct_append : ∀ {l m : List Nat}, distinct (l ++ m) = true → distinct l = true ∧ distinct m = true ∧ ∀ i, i ∈ l → i ∉ m
  | [], m, hd => ⟨rfl, hd, fun i hi => by simp at hi⟩
  | a :: l, m, hd => by
    obtain ⟨h1, h2⟩ := distinct_cons (show distinct (a :: (l ++ m)) = true from hd)
    obtain ⟨h3, h4, h5⟩ := distinct_append h2
    have ha : a ∉ l := fun hm => h1 (List.mem_append_left _ hm)
    refine ⟨?_, h4, fun i hi => ?_⟩
    · show (bif inL a l then false else distinct l) = true
      cases e : inL a l with
      | true => exact absurd (inL_iff.1 e) ha
      | false => exact h3
    · rcases List.mem_cons.1 hi with rfl | hi
      · exact fun hm => h1 (List.mem_append_right _ hm)
      · exact h5 i hi
theorem allB_hd {f : AV → Bool} {v : AV} {vs : List AV} (hb : allB f (v :: vs) = true) : f v = true ∧ allB f vs = true := by
  have hb' : (bif f v then allB f vs else false) = true := hb
  cases hf : f v with
  | false => rw [hf] at hb'; cases hb'
  | true => rw [hf] at hb'; exact ⟨rfl, hb'⟩
theorem allB_at {f : AV → Bool} : ∀ {vs : List AV}, allB f vs = true → ∀ v ∈ vs, f v = true
  | [], _, v, hv => by simp at hv
  | x :: vs, hb, v, hv => by
    obtain ⟨h1, h2⟩ := allB_hd hb
    rcases List.mem_cons.1 hv with rfl | hv
    · exact h1
    · exact allB_at h2 v hv
theorem allB_app {f : AV → Bool} : ∀ {vs us : List AV}, allB f (vs ++ us) = true → allB f vs = true ∧ allB f us = true
  | [], us, hb => ⟨rfl, hb⟩
  | v :: vs, us, hb => by
    obtain ⟨h1, h2⟩ := allB_hd (show allB f (v :: (vs ++ us)) = true from hb)
    obtain ⟨h3, h4⟩ := allB_app h2
    refine ⟨?_, h4⟩
    show (bif f v then allB f vs else false) = true
    rw [h1]; exact h3
/-- what is written of one leaf -/
theorem wOk1_cases {v : AV} (hw : wOk1 h v = true) : (∃ k i, v = .int k i) ∨ (∃ b, v = .bool b) ∨ (∃ s, v = .str s) ∨ ∃ id g off len e cs, v = .ref id g true off len ∧ h id = some (.row e g false cs) := by
  cases v with
  | int k i => exact .inl ⟨k, i, rfl⟩
  | bool b => exact .inr (.inl ⟨b, rfl⟩)
  | str s => exact .inr (.inr (.inl ⟨s, rfl⟩))
  | ref id gen full off len =>
    simp only [wOk1] at hw
    split at hw
    · split at hw
      · rename_i e g b cs hid
        cases b with
        | true => cases hw
        | false =>
          have := Nat.eq_of_beq_eq_true hw
          subst this
          exact .inr (.inr (.inr ⟨_, _, _, _, _, _, rfl, hid⟩))
      · cases hw
    · cases hw
  | _ => simp [wOk1] at hw
theorem ownA_ref {id g off len e : Nat} {cs : List AV} (hid : h id = some (.row e g false cs)) : ownA h (.ref id g true off len) = .own e len cs := by
  simp only [ownA, hid, Nat.beq_refl]
def Lab (base : Nat) (hv : Nat → Value) (L : Nat → Option Lb) (X : Nat → Prop) (w : World) (ids : List Nat) (k : Nat) : Prop := base ≤ k ∧ k < w.heap.size ∧ ¬ X k ∧ ∃ i ∈ ids, ∃ s, L k = some (.own i s) ∧ (s = 0 → blkOf (hv i) = some k)
theorem Lab.mono {ids ids' : List Nat} {k : Nat} (hs : ∀ i ∈ ids, i ∈ ids') (hl : Lab base hv L X w ids k) : Lab base hv L X w ids' k := by
  obtain ⟨h1, h2, h3, i, hi, h4⟩ := hl
  exact ⟨h1, h2, h3, i, hs i hi, h4⟩
theorem Lab.dis {ids ids' : List Nat} {k : Nat} (hd : ∀ i, i ∈ ids → i ∉ ids') (hl : Lab base hv L X w ids k) (hl' : Lab base hv L X w ids' k) : False := by
  obtain ⟨_, _, _, i, hi, s, h4, _⟩ := hl
  obtain ⟨_, _, _, i', hi', s', h5, _⟩ := hl'
  rw [h4] at h5
  injection h5 with h5
  injection h5 with h5 _
  subst h5
  exact hd _ hi hi'
theorem Sim.ownLeaf (S : Sim tb base w0 n ⟨env, h⟩ a w hv L X) {v : AV} {u : Value} {F0 : List Nat} (r : VRel tb h hv X w v u F0) (hw : wOk1 h v = true) : ∃ F, Res1 tb w (ownA h v) u F ∧ F.Nodup ∧ (∀ k ∈ F, Lab base hv L X w (ids1 v) k) ∧ u.cells.toList = [u] := by
  rcases wOk1_cases hw with ⟨k, i, rfl⟩ | ⟨b, rfl⟩ | ⟨s, rfl⟩ | ⟨id, g, off, len, e, cs, rfl, hid⟩
  · have := r.int_inv; subst this; exact ⟨[], ⟨rfl, rfl⟩, List.nodup_nil, fun k hk => by simp at hk, rfl⟩
  · have := r.bool_inv; subst this; exact ⟨[], ⟨rfl, rfl⟩, List.nodup_nil, fun k hk => by simp at hk, rfl⟩
  · have := r.str_inv; subst this; exact ⟨[], ⟨rfl, rfl⟩, List.nodup_nil, fun k hk => by simp at hk, rfl⟩
  · have hl := r.ref_inv
    obtain ⟨_, _, F, h1, h2, h3⟩ := S.ownRow hid hl
    rw [ownA_ref hid]
    refine ⟨F, h1, h2, fun k hk => ?_, ?_⟩
    · obtain ⟨q1, q2, q3, q4⟩ := h3 k hk
      exact ⟨q1, q2, q3, id, by simp [ids1], q4⟩
    · obtain ⟨_, _, ⟨A, cap, rfl⟩, _⟩ := hl
      rfl
theorem Sim.ownLeaves (S : Sim tb base w0 n ⟨env, h⟩ a w hv L X) : ∀ (ls : List AV) (us : List Value), us.length = ls.length → (∀ (j : Nat) (v : AV) (u : Value), ls[j]? = some v → us[j]? = some u → ∃ F, VRel tb h hv X w v u F) → allB (wOk1 h) ls = true → distinct (idsL ls) = true →
    ∃ F, ResL (Res1 tb w) (ls.map (ownA h)) us F ∧ F.Nodup ∧ ∀ k ∈ F, Lab base hv L X w (idsL ls) k
  | [], [], _, _, _, _ => ⟨[], rfl, List.nodup_nil, fun k hk => by simp at hk⟩
  | v :: ls, u :: us, hl, hr, hw, hd => by
    obtain ⟨w1, w2⟩ := allB_hd hw
    obtain ⟨d1, d2, d3⟩ := distinct_append (show distinct (ids1 v ++ idsL ls) = true from hd)
    obtain ⟨F0, r0⟩ := hr 0 v u rfl rfl
    obtain ⟨F1, q1, q2, q3, _⟩ := S.ownLeaf r0 w1
    obtain ⟨F2, p1, p2, p3⟩ := Sim.ownLeaves S ls us (by simpa using hl) (fun j v u hv hu => hr (j + 1) v u (by simpa using hv) (by simpa using hu)) w2 d2
    refine ⟨F1 ++ F2, ⟨F1, F2, rfl, q1, p1⟩, List.nodup_append.2 ⟨q2, p2, ?_⟩, fun k hk => ?_⟩
    · rintro x hx y hy rfl
      exact (q3 x hx).dis d3 (p3 x hy)
    · rcases List.mem_append.1 hk with hk | hk
      · exact (q3 k hk).mono fun i hi => List.mem_append_left _ hi
      · exact (p3 k hk).mono fun i hi => List.mem_append_right _ hi
  | [], _ :: _, h, _, _, _ => by simp at h
  | _ :: _, [], h, _, _, _ => by simp at h
/-- the arguments, with what they own -/
theorem Sim.ownArgs (S : Sim tb base w0 n ⟨env, h⟩ a w hv L X) : ∀ (args : List AV) (vs : List Value), vs.length = args.length → (∀ (j : Nat) (v : AV) (u : Value), args[j]? = some v → vs[j]? = some u → ∃ F, VRel tb h hv X w v u F) → allB (wOk1 h) (leaves args) = true → distinct (idsL (leaves args)) = true →
    (∃ F, ResL (Res2 tb w) (args.map (ownA2 h)) vs F ∧ F.Nodup ∧ ∀ k ∈ F, Lab base hv L X w (idsL (leaves args)) k) ∧ (leavesV vs).length = (leaves args).length ∧ ∀ (j : Nat) (v : AV) (u : Value), (leaves args)[j]? = some v → (leavesV vs)[j]? = some u → ∃ F, VRel tb h hv X w v u F
  | [], [], _, _, _, _ => ⟨⟨[], rfl, List.nodup_nil, fun k hk => by simp at hk⟩, rfl, fun j v u hv => by simp [leaves] at hv⟩
  | v :: args, u :: vs, hl, hr, hw, hd => by
    have e1 : leaves (v :: args) = cellsOf v ++ leaves args := rfl
    have e2 : leavesV (u :: vs) = u.cells.toList ++ leavesV vs := rfl
    rw [e1] at hw hd ⊢
    rw [e2]
    rw [idsL_append] at hd ⊢
    obtain ⟨w1, w2⟩ := allB_app hw
    obtain ⟨d1, d2, d3⟩ := distinct_append hd
    obtain ⟨F0, r0⟩ := hr 0 v u rfl rfl
    obtain ⟨⟨F2, p1, p2, p3⟩, p4, p5⟩ := Sim.ownArgs S args vs (by simpa using hl) (fun j v u hv hu => hr (j + 1) v u (by simpa using hv) (by simpa using hu)) w2 d2
    -- the first argument
    have first : (∃ F1, Res2 tb w (ownA2 h v) u F1 ∧ F1.Nodup ∧ ∀ k ∈ F1, Lab base hv L X w (idsL (cellsOf v)) k) ∧ u.cells.toList.length = (cellsOf v).length ∧ ∀ (j : Nat) (c : AV) (x : Value), (cellsOf v)[j]? = some c → u.cells.toList[j]? = some x → ∃ F, VRel tb h hv X w c x F := by
      have single : cellsOf v = [v] → ownA2 h v = ownA h v → (∀ c F, Res1 tb w (ownA h v) c F → Res2 tb w (ownA h v) c F) → (∃ F1, Res2 tb w (ownA2 h v) u F1 ∧ F1.Nodup ∧ ∀ k ∈ F1, Lab base hv L X w (idsL (cellsOf v)) k) ∧ u.cells.toList.length = (cellsOf v).length ∧ ∀ (j : Nat) (c : AV) (x : Value), (cellsOf v)[j]? = some c → u.cells.toList[j]? = some x → ∃ F, VRel tb h hv X w c x F := by
        intro e3 e4 e5
        rw [e3] at w1
        obtain ⟨F1, q1, q2, q3, q4⟩ := S.ownLeaf r0 (allB_hd w1).1
        rw [e3, e4, q4]
        refine ⟨⟨F1, e5 _ _ q1, q2, fun k hk => (q3 k hk).mono fun i hi => by show i ∈ ids1 v ++ []; simpa using hi⟩, rfl, fun j c x hc hx => ?_⟩
        cases j with
        | zero => simp at hc hx; subst hc hx; exact ⟨F0, r0⟩
        | succ j => simp at hc
      cases v with
      | agg cs =>
        cases r0 with
        | leaf h => exact h.elim
        | agg _ us Fs F hl3 hone hr2 hF hN =>
          have hc : ∀ (j : Nat) (c : AV) (x : Value), cs[j]? = some c → us[j]? = some x → ∃ F, VRel tb h hv X w c x F := fun j c x hc hx => ⟨_, hr2 j c x hc hx⟩
          obtain ⟨F1, q1, q2, q3⟩ := S.ownLeaves cs us hl3 hc w1 d1
          refine ⟨⟨F1, ⟨us, rfl, by rw [mapR_eq]; exact q1⟩, q2, q3⟩, by simpa [Value.cells, cellsOf] using hl3, fun j c x hc' hx => hc j c x hc' (by simpa [Value.cells] using hx)⟩
      | ref id gen full off len =>
        refine single rfl rfl fun c F hres => ?_
        unfold Res2
        split
        · rename_i heq; rw [heq] at hres; exact hres.elim
        · exact hres
      | int k i => exact single rfl rfl fun c F hres => hres
      | bool b => exact single rfl rfl fun c F hres => hres
      | str s => exact single rfl rfl fun c F hres => hres
      | _ => exact absurd (allB_hd w1).1 (by simp [wOk1])
    obtain ⟨⟨F1, q1, q2, q3⟩, q4, q5⟩ := first
    refine ⟨⟨F1 ++ F2, ⟨F1, F2, rfl, q1, p1⟩, List.nodup_append.2 ⟨q2, p2, ?_⟩, fun k hk => ?_⟩, by rw [List.length_append, List.length_append, q4, p4], fun j c x hc hx => ?_⟩
    · rintro x hx y hy rfl
      exact (q3 x hx).dis d3 (p3 x hy)
    · rcases List.mem_append.1 hk with hk | hk
      · exact (q3 k hk).mono fun i hi => List.mem_append_left _ hi
      · exact (p3 k hk).mono fun i hi => List.mem_append_right _ hi
    · by_cases hj : j < (cellsOf v).length
      · rw [List.getElem?_append_left hj] at hc
        rw [List.getElem?_append_left (by omega)] at hx
        exact q5 j c x hc hx
      · rw [List.getElem?_append_right (by omega)] at hc
        rw [List.getElem?_append_right (by omega), q4] at hx
        exact p5 _ c x hc hx
  | [], _ :: _, h, _, _, _ => by simp at h
  | _ :: _, [], h, _, _, _ => by simp at h
def newBlk (o : Option (List AV)) (e g : Nat) : Option Blk := match o with | some cs' => some (.row e g false cs') | none => some .dead
/-- what came back, row by row -/
theorem Sim.unpack (S : Sim tb base w0 n ⟨env, h⟩ a w hv L X) : ∀ (ls : List AV) (us : List Value) (vs' : List AV) (F' : List Nat), us.length = ls.length → (∀ (j : Nat) (v : AV) (u : Value), ls[j]? = some v → us[j]? = some u → ∃ F, VRel tb h hv X w v u F) →
    allB (wOk1 h) ls = true → distinct (idsL ls) = true → shW h ls vs' → ResL (ResJ tb w') vs' us F' → F'.Nodup →
    ∃ (N : Nat → Option (List AV)) (Fs : Nat → Nat → List Nat),
      (∀ i ∈ idsL ls, (∃ u ∈ us, u = hv i) ∧ ∃ e g cs, h i = some (.row e g false cs) ∧ ∀ cs', N i = some cs' → cs'.length = cs.length ∧ ∃ m us1, w'.ownsRow 0 e (tb e).sz (hv i) m us1 ∧ (us1.length = cs'.length ∧ (tb e).sz ≠ 0) ∧ (∀ u ∈ us1, u.oneCell' = true) ∧
        ∀ (j : Nat) (c : AV) (u : Value), cs'[j]? = some c → us1[j]? = some u → Rel tb noLeaf (fun k => k ∈ Fs i j) w' c u (Fs i j) ∧ (Fs i j).Nodup) ∧
      (∀ i ∈ idsL ls, N i ≠ none → (∀ j k, k ∈ Fs i j → k ∈ F') ∧ (∀ k, (hv i).ownBlock = some k → k ∈ F' ∧ ∀ i' ∈ idsL ls, N i' ≠ none → ∀ j, k ∉ Fs i' j)) ∧
      (∀ i j i' j' k, i ∈ idsL ls → N i ≠ none → i' ∈ idsL ls → N i' ≠ none → k ∈ Fs i j → k ∈ Fs i' j' → i = i' ∧ j = j') ∧
      ∀ (h0 : Heap), (∀ i ∈ idsL ls, h0 i = h i) → ∀ i, (i ∉ idsL ls → putW ls vs' h0 i = h0 i) ∧ (i ∈ idsL ls → ∀ e g bb cs, h i = some (.row e g bb cs) → putW ls vs' h0 i = newBlk (N i) e g)
  | [], [], vs', F', _, _, _, _, hs, hR, _ => by
    have hs : vs' = [] := hs
    subst hs
    exact ⟨fun _ => none, fun _ _ => [], fun i hi => by simp [idsL] at hi, fun i hi => by simp [idsL] at hi, fun i j i' j' k hi => by simp [idsL] at hi, fun h0 _ i => ⟨fun _ => rfl, fun hi => by simp [idsL] at hi⟩⟩
  | v :: ls, u :: us, [], F', _, _, _, _, hs, _, _ => hs.elim
  | v :: ls, u :: us, v' :: vs', F', hl, hr, hw, hd, hs, hR, hN => by
    obtain ⟨hs1, hs2⟩ : shW1 h v v' ∧ shW h ls vs' := hs
    obtain ⟨F0, F1, rfl, hR0, hR1⟩ := hR
    obtain ⟨hN0, hN1, hN2⟩ := List.nodup_append.1 hN
    obtain ⟨w1, w2⟩ := allB_hd hw
    obtain ⟨d1, d2, d3⟩ := distinct_append (show distinct (ids1 v ++ idsL ls) = true from hd)
    obtain ⟨N1, Fs1, k1, k2, k3, k4⟩ := Sim.unpack S ls us vs' F1 (by simpa using hl) (fun j v u hv hu => hr (j + 1) v u (by simpa using hv) (by simpa using hu)) w2 d2 hs2 hR1 hN1
    have eids : idsL (v :: ls) = ids1 v ++ idsL ls := rfl
    have eput : ∀ h0, putW (v :: ls) (v' :: vs') h0 = putW ls vs' (putW1 v v' h0) := fun _ => rfl
    -- a leaf that is no row
    have plain : ids1 v = [] → (∀ h0, putW1 v v' h0 = h0) → ∃ (N : Nat → Option (List AV)) (Fs : Nat → Nat → List Nat),
      (∀ i ∈ idsL (v :: ls), (∃ u' ∈ u :: us, u' = hv i) ∧ ∃ e g cs, h i = some (.row e g false cs) ∧ ∀ cs', N i = some cs' → cs'.length = cs.length ∧ ∃ m us1, w'.ownsRow 0 e (tb e).sz (hv i) m us1 ∧ (us1.length = cs'.length ∧ (tb e).sz ≠ 0) ∧ (∀ u ∈ us1, u.oneCell' = true) ∧
        ∀ (j : Nat) (c : AV) (u : Value), cs'[j]? = some c → us1[j]? = some u → Rel tb noLeaf (fun k => k ∈ Fs i j) w' c u (Fs i j) ∧ (Fs i j).Nodup) ∧
      (∀ i ∈ idsL (v :: ls), N i ≠ none → (∀ j k, k ∈ Fs i j → k ∈ F0 ++ F1) ∧ (∀ k, (hv i).ownBlock = some k → k ∈ F0 ++ F1 ∧ ∀ i' ∈ idsL (v :: ls), N i' ≠ none → ∀ j, k ∉ Fs i' j)) ∧
      (∀ i j i' j' k, i ∈ idsL (v :: ls) → N i ≠ none → i' ∈ idsL (v :: ls) → N i' ≠ none → k ∈ Fs i j → k ∈ Fs i' j' → i = i' ∧ j = j') ∧
      ∀ (h0 : Heap), (∀ i ∈ idsL (v :: ls), h0 i = h i) → ∀ i, (i ∉ idsL (v :: ls) → putW (v :: ls) (v' :: vs') h0 i = h0 i) ∧ (i ∈ idsL (v :: ls) → ∀ e g bb cs, h i = some (.row e g bb cs) → putW (v :: ls) (v' :: vs') h0 i = newBlk (N i) e g) := by
      intro e1 e2
      have e3 : idsL (v :: ls) = idsL ls := by rw [eids, e1]; rfl
      rw [e3]
      refine ⟨N1, Fs1, fun i hi => ?_, fun i hi hn => ?_, k3, fun h0 hh i => ?_⟩
      · obtain ⟨⟨x, hx, q⟩, q2⟩ := k1 i hi
        exact ⟨⟨x, List.mem_cons_of_mem _ hx, q⟩, q2⟩
      · obtain ⟨q1, q2⟩ := k2 i hi hn
        exact ⟨fun j k hk => List.mem_append_right _ (q1 j k hk), fun k hk => ⟨List.mem_append_right _ (q2 k hk).1, (q2 k hk).2⟩⟩
      · rw [eput, e2]
        exact k4 h0 hh i
    rcases wOk1_cases w1 with ⟨k, i, rfl⟩ | ⟨b, rfl⟩ | ⟨s, rfl⟩ | ⟨id, g, off, len, e, cs, rfl, hid⟩
    · exact plain rfl fun _ => rfl
    · exact plain rfl fun _ => rfl
    · exact plain rfl fun _ => rfl
    · have e1 : ids1 (.ref id g true off len) = [id] := rfl
      rw [e1] at d3 eids
      have hnot : id ∉ idsL ls := d3 id (List.mem_singleton.2 rfl)
      obtain ⟨F00, r0⟩ := hr 0 _ u rfl rfl
      obtain ⟨hu, hlen, _⟩ := S.ownRow hid r0.ref_inv
      have mem : ∀ i, i ∈ idsL (.ref id g true off len :: ls) ↔ i = id ∨ i ∈ idsL ls := fun i => by rw [eids]; simp
      have tops : ∀ i ∈ idsL (.ref id g true off len :: ls), ∃ u' ∈ u :: us, u' = hv i := fun i hi => by
        rcases (mem i).1 hi with rfl | hi
        · exact ⟨u, List.mem_cons_self, hu⟩
        · obtain ⟨⟨x, hx, q⟩, _⟩ := k1 i hi
          exact ⟨x, List.mem_cons_of_mem _ hx, q⟩
      have put1 : ∀ (b : Blk) (h0 : Heap), (∀ i ∈ idsL (.ref id g true off len :: ls), h0 i = h i) → (putW1 (.ref id g true off len) v' h0 = h0.put id b) → ∀ i, (i ∉ idsL (.ref id g true off len :: ls) → putW (.ref id g true off len :: ls) (v' :: vs') h0 i = h0 i) ∧ (i = id → putW (.ref id g true off len :: ls) (v' :: vs') h0 i = some b) ∧
          (i ∈ idsL ls → ∀ e5 g5 bb cs, h i = some (.row e5 g5 bb cs) → putW (.ref id g true off len :: ls) (v' :: vs') h0 i = newBlk (N1 i) e5 g5) := by
        intro b h0 hh e2 i
        have E : putW (.ref id g true off len :: ls) (v' :: vs') h0 = putW ls vs' (h0.put id b) := by rw [eput, e2]
        obtain ⟨q1, q2⟩ := k4 (h0.put id b) (fun i hi => by rw [put_other h0 b (fun (ee : i = id) => hnot (by rw [← ee]; exact hi))]; exact hh i ((mem i).2 (.inr hi))) i
        refine ⟨fun hi => ?_, fun hi => ?_, fun hi e g bb cs h2 => by rw [E]; exact q2 hi e g bb cs h2⟩
        · rw [E, q1 (fun hm => hi ((mem i).2 (.inr hm))), put_other h0 b (fun e => hi ((mem i).2 (.inl e)))]
        · subst hi
          rw [E, q1 hnot, put_same]
      have hh0 : ∀ (h0 : Heap), (∀ i ∈ idsL (.ref id g true off len :: ls), h0 i = h i) → h0 id = some (.row e g false cs) := fun h0 hh => (hh id ((mem id).2 (.inl rfl))).trans hid
      cases v' with
      | own e' n' cs' =>
        have hs1 : (match h id with | some (.row e _ _ _) => e' = e ∧ n' = len | _ => False) := hs1
        rw [hid] at hs1
        obtain ⟨rfl, rfl⟩ := hs1
        rcases hR0 with ⟨h1, _⟩ | hR0
        · cases h1
        obtain ⟨us1, Fx, o1, o2, o3, o4, rfl⟩ := hR0
        have hcl : cs'.length = cs.length := by rw [← o2.1, o1.1, hlen]
        let Gx : Nat → List Nat := fun j => if j < cs'.length then Fx j else []
        have hG : ∀ j k, k ∈ Gx j → j < cs'.length ∧ k ∈ Fx j := fun j k hk => by
          by_cases hj : j < cs'.length
          · simp only [Gx, if_pos hj] at hk; exact ⟨hj, hk⟩
          · simp only [Gx, if_neg hj] at hk; simp at hk
        obtain ⟨n1, n2, n3⟩ := List.nodup_append.1 hN0
        have hin : ∀ j k, k ∈ Gx j → k ∈ (List.range cs'.length).flatMap Fx := fun j k hk => List.mem_flatMap.2 ⟨j, List.mem_range.2 (hG j k hk).1, (hG j k hk).2⟩
        have uniq : ∀ (l : List Nat), (l.flatMap Fx).Nodup → ∀ i j, i ∈ l → j ∈ l → ∀ k, k ∈ Fx i → k ∈ Fx j → i = j := by
          intro l
          induction l with
          | nil => intro _ i j hi; simp at hi
          | cons x l ih =>
            intro hn i j hi hj k hki hkj
            rw [List.flatMap_cons, List.nodup_append] at hn
            rcases List.mem_cons.1 hi with rfl | hi'
            · rcases List.mem_cons.1 hj with rfl | hj'
              · rfl
              · exact absurd rfl (hn.2.2 k hki k (List.mem_flatMap.2 ⟨j, hj', hkj⟩))
            · rcases List.mem_cons.1 hj with rfl | hj'
              · exact absurd rfl (hn.2.2 k hkj k (List.mem_flatMap.2 ⟨i, hi', hki⟩))
              · exact ih hn.2.1 i j hi' hj' k hki hkj
        have nodupJ : ∀ (l : List Nat) (j : Nat), (l.flatMap Fx).Nodup → j ∈ l → (Fx j).Nodup := by
          intro l
          induction l with
          | nil => intro j _ h; simp at h
          | cons x l ih =>
            intro j hn hjl
            rw [List.flatMap_cons, List.nodup_append] at hn
            rcases List.mem_cons.1 hjl with rfl | hjl
            · exact hn.1
            · exact ih j hn.2.1 hjl
        have hne : ∀ i, i ∈ idsL ls → i ≠ id := fun i hi e => hnot (e ▸ hi)
        have kk0 : ∀ i, i ∈ idsL ls → upd N1 id (some cs') i ≠ none → N1 i ≠ none := fun i hi hn => by rwa [upd_other _ _ (hne i hi)] at hn
        have xF : ∀ i j k, i ∈ idsL ls → N1 i ≠ none → k ∈ Fs1 i j → k ∉ u.ownBlock.toList ++ (List.range cs'.length).flatMap Fx := fun i j k hi hn hk hm => hN2 k hm k ((k2 i hi hn).1 j k hk) rfl
        refine ⟨upd N1 id (some cs'), upd Fs1 id Gx, fun i hi => ⟨tops i hi, ?_⟩, fun i hi hn => ?_, fun i j i' j' k hi hn hi' hn' hk hk' => ?_, fun h0 hh i => ?_⟩
        · rcases (mem i).1 hi with rfl | hi
          · refine ⟨_, _, _, hid, fun cs2 hc2 => ?_⟩
            rw [upd_same] at hc2
            injection hc2 with hc2
            subst hc2
            refine ⟨hcl, _, us1, hu ▸ o1, o2, o3, fun j c x hc hx => ?_⟩
            have hj : j < cs'.length := (List.getElem?_eq_some_iff.1 hc).1
            rw [upd_same]
            simp only [Gx, if_pos hj]
            exact ⟨o4 j c x hc hx, nodupJ _ j n2 (List.mem_range.2 hj)⟩
          · rw [upd_other _ _ (hne i hi), upd_other _ _ (hne i hi)]
            exact (k1 i hi).2
        · rcases (mem i).1 hi with rfl | hi
          · rw [upd_same]
            refine ⟨fun j k hk => List.mem_append_left _ (List.mem_append_right _ (hin j k hk)), fun k hk => ?_⟩
            have hk' : k ∈ u.ownBlock.toList := by rw [hu, hk]; simp
            refine ⟨List.mem_append_left _ (List.mem_append_left _ hk'), fun i' hi' hn' j hkj => ?_⟩
            rcases (mem i').1 hi' with rfl | hi'
            · rw [upd_same] at hkj
              exact n3 k hk' k (hin j k hkj) rfl
            · rw [upd_other _ _ (hne i' hi')] at hkj
              exact xF i' j k hi' (kk0 i' hi' hn') hkj (List.mem_append_left _ hk')
          · have hn1 := kk0 i hi hn
            obtain ⟨q1, q2⟩ := k2 i hi hn1
            rw [upd_other _ _ (hne i hi)]
            refine ⟨fun j k hk => List.mem_append_right _ (q1 j k hk), fun k hk => ⟨List.mem_append_right _ (q2 k hk).1, fun i' hi' hn' j hkj => ?_⟩⟩
            rcases (mem i').1 hi' with rfl | hi'
            · rw [upd_same] at hkj
              exact hN2 k (List.mem_append_right _ (hin j k hkj)) k (q2 k hk).1 rfl
            · rw [upd_other _ _ (hne i' hi')] at hkj
              exact (q2 k hk).2 i' hi' (kk0 i' hi' hn') j hkj
        · rcases (mem i).1 hi with e4 | hm <;> rcases (mem i').1 hi' with e5 | hm'
          · rw [e4, upd_same] at hk
            rw [e5, upd_same] at hk'
            exact ⟨e4.trans e5.symm, uniq _ n2 _ _ (List.mem_range.2 (hG j k hk).1) (List.mem_range.2 (hG j' k hk').1) k (hG j k hk).2 (hG j' k hk').2⟩
          · rw [e4, upd_same] at hk
            rw [upd_other _ _ (hne i' hm')] at hk'
            exact absurd (List.mem_append_right _ (hin j k hk)) (xF i' j' k hm' (kk0 i' hm' hn') hk')
          · rw [e5, upd_same] at hk'
            rw [upd_other _ _ (hne i hm)] at hk
            exact absurd (List.mem_append_right _ (hin j' k hk')) (xF i j k hm (kk0 i hm hn) hk)
          · rw [upd_other _ _ (hne i hm)] at hk
            rw [upd_other _ _ (hne i' hm')] at hk'
            exact k3 i j i' j' k hm (kk0 i hm hn) hm' (kk0 i' hm' hn') hk hk'
        · obtain ⟨q1, q2, q3⟩ := put1 (.row e' g false cs') h0 hh (by simp only [putW1, hh0 h0 hh]) i
          refine ⟨q1, fun hi e2 g2 bb2 cs2 h2 => ?_⟩
          rcases (mem i).1 hi with rfl | hi
          · rw [hid] at h2
            injection h2 with h2
            injection h2 with z1 z2 _ _
            subst z1 z2
            rw [q2 rfl, upd_same]; rfl
          · rw [upd_other _ _ (hne i hi)]
            exact q3 hi _ _ _ _ h2
      | junk =>
        have hne : ∀ i, i ∈ idsL ls → i ≠ id := fun i hi e => hnot (e ▸ hi)
        have kk0 : ∀ i, upd N1 id none i ≠ none → i ≠ id := fun i hn e => hn (by rw [e, upd_same])
        have kk1 : ∀ i, i ∈ idsL (.ref id g true off len :: ls) → upd N1 id none i ≠ none → i ∈ idsL ls ∧ N1 i ≠ none := fun i hi hn => by
          rcases (mem i).1 hi with e | hi
          · exact absurd e (kk0 i hn)
          · exact ⟨hi, by rwa [upd_other _ _ (hne i hi)] at hn⟩
        refine ⟨upd N1 id none, Fs1, fun i hi => ⟨tops i hi, ?_⟩, fun i hi hn => ?_, fun i j i' j' k hi hn hi' hn' hk hk' => ?_, fun h0 hh i => ?_⟩
        · rcases (mem i).1 hi with rfl | hi
          · exact ⟨_, _, _, hid, fun cs2 hc2 => by rw [upd_same] at hc2; cases hc2⟩
          · rw [upd_other _ _ (hne i hi)]
            exact (k1 i hi).2
        · obtain ⟨hi, hn1⟩ := kk1 i hi hn
          obtain ⟨q1, q2⟩ := k2 i hi hn1
          refine ⟨fun j k hk => List.mem_append_right _ (q1 j k hk), fun k hk => ⟨List.mem_append_right _ (q2 k hk).1, fun i' hi' hn' j hkj => ?_⟩⟩
          obtain ⟨hi', hn1'⟩ := kk1 i' hi' hn'
          exact (q2 k hk).2 i' hi' hn1' j hkj
        · obtain ⟨hi, hn1⟩ := kk1 i hi hn
          obtain ⟨hi', hn1'⟩ := kk1 i' hi' hn'
          exact k3 i j i' j' k hi hn1 hi' hn1' hk hk'
        · obtain ⟨q1, q2, q3⟩ := put1 .dead h0 hh rfl i
          refine ⟨q1, fun hi e2 g2 bb2 cs2 h2 => ?_⟩
          rcases (mem i).1 hi with rfl | hi
          · rw [q2 rfl, upd_same]
            rfl
          · rw [upd_other _ _ (hne i hi)]
            exact q3 hi _ _ _ _ h2
      | _ => exact hs1.elim
  | [], _ :: _, _, _, h, _, _, _, _, _, _ => by simp at h
  | _ :: _, [], _, _, h, _, _, _, _, _, _ => by simp at h
/-- the memory behind a call that writes -/
theorem Sim.wcore (S : Sim tb base w0 n ⟨env, h⟩ a w hv L X) {pg : Bool} {ls : List AV} {us : List Value} {F : List Nat} (q3 : ∀ k ∈ F, Lab base hv L X w (idsL ls) k) (q4 : us.length = ls.length)
    (q5 : ∀ (j : Nat) (v : AV) (u : Value), ls[j]? = some v → us[j]? = some u → ∃ F, VRel tb h hv X w v u F) (hb1 : allB (wOk1 h) ls = true) (hb2 : distinct (idsL ls) = true) {vs' : List AV} (hsh : shW h ls vs') {F' Fr : List Nat}
    (r2 : ResL (ResJ tb w') vs' us F') (r3 : (F' ++ Fr).Nodup) (r4 : ∀ k ∈ F', k ∈ F) (r5 : ∀ k ∈ Fr, k < w'.heap.size ∧ (w.heap.size ≤ k ∨ k ∈ F ∧ (pg = false → ∃ u ∈ us, u.ownBlock = some k)))
    (r6 : w.heap.size ≤ w'.heap.size) (r7 : w'.os = w.os) (r8 : w'.tape = w.tape) (r9 : w'.output = w.output) (r10 : ∀ k, k < w.heap.size → (k ∈ F → pg = false ∧ ∀ u ∈ us, u.ownBlock ≠ some k) → w'.heap[k]? = w.heap[k]?) :
    ∃ hv' L', Sim tb base w0 n ⟨(purgeS pg ⟨env, h⟩).env, putW ls vs' (purgeS pg ⟨env, h⟩).heap⟩ a w' hv' L' (fun g => X g ∨ g ∈ Fr) := by
  obtain ⟨n1, n2, n3⟩ := List.nodup_append.1 r3
  obtain ⟨N, Fs, k1, k2, k3, k4⟩ := S.unpack (w' := w') ls us vs' F' q4 q5 hb1 hb2 hsh r2 n1
  have own : ∀ i, i ∈ idsL ls → ∀ k, blkOf (hv i) = some k → (hv i).ownBlock = some k := fun i hi k hk => by
    obtain ⟨_, e, g, cs, hid, _⟩ := k1 i hi
    obtain ⟨m, us, ho, _⟩ := S.row hid
    rw [← owns_blk ho]
    exact hk
  have hin : ∀ k, k ∈ F → ∀ i, blkOf (hv i) = some k → i ∈ idsL ls := fun k hk i hi => by
    obtain ⟨_, _, _, i0, hi0, s, hL, _⟩ := q3 k hk
    rw [(S.lab i k hi).1] at hL
    injection hL with hL
    injection hL with hL _
    exact hL ▸ hi0
  have hout : ∀ k, k ∈ F → ∀ i, blkOf (hv i) = some k → (∃ j i', i' ∈ idsL ls ∧ N i' ≠ none ∧ k ∈ Fs i' j) → i ∈ idsL ls ∧ N i = none := fun k hk i hi ⟨j, i', hi', hn', hkj⟩ => by
    have hii := hin k hk i hi
    refine ⟨hii, ?_⟩
    cases hN : N i with
    | none => rfl
    | some cs' => exact absurd hkj (((k2 i hii (by rw [hN]; simp)).2 k (own i hii k hi)).2 i' hi' hn' j)
  have T : Rewr tb base h hv L X w w' pg (fun i => i ∈ idsL ls) N Fs Fr (fun k => k ∈ F ∧ (pg = true ∨ ∃ u ∈ us, u.ownBlock = some k)) (fun k => k ∈ F) := {
    row := fun i hi => by
      obtain ⟨_, e, g, cs, hid, hn⟩ := k1 i hi
      exact ⟨e, g, cs, hid, hn⟩
    own := fun i j k hi hn hk => by
      have hkF := r4 k ((k2 i hi hn).1 j k hk)
      exact ⟨hkF, fun i' hi' => hout k hkF i' hi' ⟨j, i, hi, hn, hk⟩⟩
    dis := fun i j i' j' k hi hn hi' hn' hk hk' => k3 i j i' j' k hi hn hi' hn' hk hk'
    mine := fun k hk => by
      obtain ⟨h1, h2, h3, i, hi, s, h4, h5⟩ := q3 k hk
      refine ⟨h1, h2, h3, ?_⟩
      cases s with
      | zero => exact .inl ⟨i, hi, h5 rfl⟩
      | succ j => exact .inr ⟨i, j, hi, h4⟩
    ch := fun k hk => ⟨hk.1, fun hp => by
      rcases hk.2 with h1 | ⟨u, hu, hb⟩
      · rw [hp] at h1; cases h1
      · -- a block that a leaf owns is a row's
        obtain ⟨h1, h2, h3, i, hi, s, h4, h5⟩ := q3 k hk.1
        obtain ⟨j, hj, hju⟩ := List.mem_iff_getElem.1 hu
        have hv0 : ls[j]? = some (ls[j]'(by omega)) := List.getElem?_eq_getElem (by omega)
        obtain ⟨F0, rr⟩ := q5 j _ u hv0 (by rw [List.getElem?_eq_getElem hj, hju])
        have hmem : ls[j]'(by omega) ∈ ls := List.getElem_mem _
        have hw := allB_at hb1 _ hmem
        rcases wOk1_cases hw with ⟨kk, ii, e1⟩ | ⟨b, e1⟩ | ⟨s', e1⟩ | ⟨id, g, off, len, e, cs, e1, hid⟩
        · rw [e1] at rr; rw [rr.int_inv] at hb; cases hb
        · rw [e1] at rr; rw [rr.bool_inv] at hb; cases hb
        · rw [e1] at rr; rw [rr.str_inv] at hb; cases hb
        · rw [e1] at rr
          obtain ⟨e2, _⟩ := S.ownRow hid rr.ref_inv
          rw [e2] at hb
          have hbk := blkOf_own hb
          exact ⟨id, hin k hk.1 id hbk, hbk⟩⟩
    mem := fun k hk hC => r10 k hk fun hkF => by
      cases hp : pg with
      | true => exact absurd ⟨hkF, .inl hp⟩ hC
      | false => exact ⟨rfl, fun u hu he => hC ⟨hkF, .inr ⟨u, hu, he⟩⟩⟩
    fr := fun k hk => by
      obtain ⟨h1, h2⟩ := r5 k hk
      refine ⟨h1, ?_, fun i hi => ?_, fun i j hi hn hkj => ?_⟩
      · rcases h2 with h2 | ⟨h2, h3⟩
        · exact .inl h2
        · refine .inr ⟨h2, ?_⟩
          cases hp : pg with
          | true => exact .inl rfl
          | false => exact .inr (h3 hp)
      · have hkF : k ∈ F := by
          rcases h2 with h2 | h2
          · have := (S.lab i k hi).2.2.1; omega
          · exact h2.1
        have hii := hin k hkF i hi
        refine ⟨hii, ?_⟩
        cases hN : N i with
        | none => rfl
        | some cs' => exact absurd rfl (n3 k ((k2 i hii (by rw [hN]; simp)).2 k (own i hii k hi)).1 k hk)
      · exact n3 k ((k2 i hi hn).1 j k hkj) k hk rfl
    size := r6, os := r7, tape := r8, output := r9 }
  have S' := S.rewrite T
  have eH : putW ls vs' (purgeS pg ⟨env, h⟩).heap = rwH h pg (fun i => i ∈ idsL ls) N := by
    have same : ∀ i ∈ idsL ls, (purgeS pg ⟨env, h⟩).heap i = h i := fun i hi => by
      obtain ⟨_, e, g, cs, hid, _⟩ := k1 i hi
      cases pg with
      | false => rfl
      | true => show purgeH h i = h i; simp only [purgeH, hid, purgeB]
    funext i
    obtain ⟨p1, p2⟩ := k4 _ same i
    by_cases hi : i ∈ idsL ls
    · obtain ⟨_, e, g, cs, hid, _⟩ := k1 i hi
      rw [p2 hi _ _ _ _ hid, rwH_in hi hid]
      cases N i <;> rfl
    · rw [p1 hi, rwH_out hi]
      cases pg <;> rfl
  rw [eH]
  exact ⟨_, _, S'⟩
/-- a call that writes -/
theorem wcall_sound (hR : Sound P tb R) (S : Sim tb base w0 n ⟨env, h⟩ a w hv L X) {pg : Bool} {f : Nat} (hpg : wrDeep f = pg) {d : Option Nat} (hd : ∀ t, d = some t → t < n) {args : List AV} {vs : Array Value} (hl : vs.size = args.length)
    (hr : ∀ (j : Nat) (c : AV) (u : Value), args[j]? = some c → vs[j]? = some u → ∃ F, VRel tb h hv X w c u F) {K : St → Prop} (hK : wcallA R pg f d args ⟨env, h⟩ K) :
    FnOk P f ∧ Calls P f vs w (fun e w' => ∃ v s', e = .returned v ∧ K s' ∧ ∃ hv' L' X', Sim tb base w0 n s' (a.put d v) w' hv' L' X') := by
  unfold wcallA at hK
  split at hK
  rotate_left
  · exact hK.elim
  rename_i hb
  obtain ⟨hb1, hb2⟩ := Bool.and_eq_true_iff.1 hb
  obtain ⟨r, vs', hRr, hsh, hK⟩ := hK
  obtain ⟨hfn, hC⟩ := hR _ _ _ hRr
  refine ⟨hfn, ?_⟩
  have hC : ContractW P tb (wrDeep f) f (mapR (ownA2 h) args) (.tup [r, .tup vs']) := hC
  rw [hpg] at hC
  obtain ⟨⟨F, q1, q2, q3⟩, q4, q5⟩ := S.ownArgs args vs.toList (by simpa using hl) (fun j v u hv hu => hr j v u hv (by simpa using hu)) hb1 hb2
  have hC' := hC vs w F (by rw [mapR_eq]; exact q1) q2
  refine hC'.mono fun e w' he => ?_
  obtain ⟨v, Fr, F', rfl, r1, r2, r3, r4, r5, ⟨r6, r7, r8, r9⟩, r10⟩ := he
  obtain ⟨n1, n2, n3⟩ := List.nodup_append.1 r3
  obtain ⟨hv1, L1, S'⟩ := S.wcore (pg := pg) q3 q4 q5 hb1 hb2 hsh r2 r3 r4 r5 r6 r7 r8 r9 r10
  have hK' : importR d r (putW (leaves args) vs' (purgeS pg ⟨env, h⟩).heap) fun v h => K (St.put ⟨(purgeS pg ⟨env, h⟩).env, h⟩ d v) := by
    have : (fun (v : AV) (h' : Heap) => K (St.put ⟨(purgeS pg ⟨env, h⟩).env, h'⟩ d v)) = fun (v : AV) (h' : Heap) => K (St.put ⟨(purgeS pg ⟨env, h'⟩).env, h'⟩ d v) := by
      funext v h'
      cases pg <;> rfl
    rw [← this]
    exact hK
  obtain ⟨c, h2, hv2, L2, X2, k5, k6, k7⟩ := importR_sound S' r1 n2 (fun g hg => .inr hg) hK'
  refine ⟨v, _, rfl, k5, hv2, L2, X2, ?_⟩
  have e3 : (purgeS pg ⟨env, h2⟩).env = (purgeS pg ⟨env, h⟩).env := by cases pg <;> rfl
  rw [e3]
  exact k6.put d hd k7
end
end Go.Ev
namespace Go.Ev
set_option linter.unusedVariables false
set_option linter.unusedSimpArgs false
open Go.RowKit

section
variable {P : Program} {tb : Nat → Ti} {R : Nat → List AV → AV → Prop} {base n : Nat} {w0 : World} {env : Nat → AV} {h h' : Heap} {a : Act} {w w' : World} {hv hv' : Nat → Value} {L L' : Nat → Option Lb} {X X' : Nat → Prop}
theorem flatMap_sub {f g : Nat → List Nat} (h : ∀ k, (f k).Sublist (g k)) : ∀ l : List Nat, (l.flatMap f).Sublist (l.flatMap g)
  | [] => .slnil
  | a :: l => by
    rw [List.flatMap_cons, List.flatMap_cons]
    exact (h a).append (flatMap_sub h l)
/-- a row of a row's own is written into -/
theorem nest_set {e n i et n' j : Nat} {cs cs' : List AV} {v : Value} {F : List Nat} (hR : Res1 tb w (.own e n cs) v F) (hN : F.Nodup) (he : (tb e).sz = 1) (het : (tb et).sz = 1) (hi : cs[i]? = some (.own et n' cs')) (hj : j < n') (x : AV) (y : Value) (hy : y.oneCell' = true) (hxy : ∀ (A : Nat → Prop) (w : World), Rel tb noLeaf A w x y []) :
    ∃ (kv cap k2 cap2 : Nat) (cur : Array Value), v = .slice (some ⟨kv, 0, none⟩) n cap ∧ w.cell? ⟨kv, i, none⟩ = some (.slice (some ⟨k2, 0, none⟩) n' cap2) ∧ w.heap[k2]? = some (.cells cur et (0, 0)) ∧ j < cur.size ∧ k2 ∈ F ∧
      ∃ F', Res1 tb (w.setRow k2 (cur.toList.take j ++ [y] ++ cur.toList.drop (j + 1)).toArray) (.own e n (cs.set i (.own et n' (cs'.set j x)))) v F' ∧ F'.Nodup ∧ ∀ k ∈ F', k ∈ F := by
  obtain ⟨us, Fs, ho, ⟨hl, hz⟩, h1, hr, rfl⟩ := hR
  have hil : i < cs.length := (List.getElem?_eq_some_iff.1 hi).1
  have hiu : us[i]? = some (us[i]'(by omega)) := List.getElem?_eq_getElem (by omega)
  obtain ⟨Ad, cap, rfl, hn, hc, hb, hlen⟩ := owns_reads ho
  obtain ⟨ad, e1, hcell⟩ := hc i _ hiu
  subst e1
  have hri := hr i _ _ hi hiu
  generalize hui : us[i]'(by omega) = ui at hri hiu hcell
  generalize hG : Fs i = G at hri
  cases hri with
  | leaf h => exact h.elim
  | own _ _ _ _ us2 Fs2 F2 ho2 hl2 hA2 h12 hr2 hF2 hN2 =>
    rcases ho2.2 with ⟨p5, rfl⟩ | ⟨k2, cap2, cur, rfl, p6, p7, p8, p9, p10, p11⟩
    · omega
    have hown2 : (Value.slice (some ⟨k2, 0, none⟩) n' cap2).ownBlock = some k2 := rfl
    rcases ho.2 with ⟨q5, rfl⟩ | ⟨kv, capv, curv, q5, q6, q7, q8, q9, q10, q11⟩
    · cases q5
    injection q5 with q5 _ q12
    injection q5 with q5
    subst q5 q12
    have h2us : us2.length = n' := by rw [ho2.1, het, Nat.mul_one]
    have hj2 : j < us2.length := by omega
    have hcur : us2.length ≤ cur.size := by rw [← p11]; simp; omega
    have hk2 : k2 ∈ G := by rw [hF2, hown2]; simp
    obtain ⟨n1, n2, n3⟩ := List.nodup_append.1 hN
    have hkv : kv ≠ k2 := fun e => n3 kv (by simp [Value.ownBlock]) k2 (List.mem_flatMap.2 ⟨i, List.mem_range.2 hil, by rw [hG]; exact hk2⟩) e
    have uniq : ∀ j', j' < cs.length → j' ≠ i → k2 ∉ Fs j' := by
      have key : ∀ (l : List Nat), l.Nodup → (l.flatMap Fs).Nodup → ∀ a b, a ∈ l → b ∈ l → ∀ k, k ∈ Fs a → k ∈ Fs b → a = b := by
        intro l
        induction l with
        | nil => intro _ _ a b ha; simp at ha
        | cons x l ih =>
          intro hl hn a b ha hb k hka hkb
          rw [List.flatMap_cons, List.nodup_append] at hn
          rcases List.mem_cons.1 ha with rfl | ha'
          · rcases List.mem_cons.1 hb with rfl | hb'
            · rfl
            · exact absurd rfl (hn.2.2 k hka k (List.mem_flatMap.2 ⟨b, hb', hkb⟩))
          · rcases List.mem_cons.1 hb with rfl | hb'
            · exact absurd rfl (hn.2.2 k hkb k (List.mem_flatMap.2 ⟨a, ha', hka⟩))
            · exact ih (List.nodup_cons.1 hl).2 hn.2.1 a b ha' hb' k hka hkb
      exact fun j' hj' hne hk => hne (key _ List.nodup_range n2 j' i (List.mem_range.2 hj') (List.mem_range.2 hil) k2 hk (by rw [hG]; exact hk2))
    refine ⟨kv, cap, k2, cap2, cur, rfl, by simpa [add0] using hcell, p7, by omega, List.mem_append_right _ (List.mem_flatMap.2 ⟨i, List.mem_range.2 hil, by rw [hG]; exact hk2⟩), ?_⟩
    obtain ⟨m1, m2, m3⟩ := List.nodup_append.1 (hF2 ▸ hN2)
    have k2n : ∀ i2, i2 < cs'.length → k2 ∉ Fs2 i2 := fun i2 hi2 hk => m3 k2 (by simp [Value.ownBlock]) k2 (List.mem_flatMap.2 ⟨i2, List.mem_range.2 hi2, hk⟩) rfl
    let Fs3 : Nat → List Nat := fun k => if k = j then [] else Fs2 k
    have s3 : ∀ k, (Fs3 k).Sublist (Fs2 k) := fun k => by
      by_cases e : k = j
      · simp only [Fs3, if_pos e]; exact List.nil_sublist _
      · simp only [Fs3, if_neg e]; exact List.Sublist.refl _
    let G3 : List Nat := [k2] ++ (List.range cs'.length).flatMap Fs3
    have sG : G3.Sublist G := by
      rw [hF2, hown2]
      exact (List.Sublist.refl [k2]).append (flatMap_sub s3 _)
    let Fs4 : Nat → List Nat := fun k => if k = i then G3 else Fs k
    have s4 : ∀ k, (Fs4 k).Sublist (Fs k) := fun k => by
      by_cases e : k = i
      · simp only [Fs4, if_pos e]; rw [e, hG]; exact sG
      · simp only [Fs4, if_neg e]; exact List.Sublist.refl _
    have sF := (List.Sublist.refl (Value.slice (some ⟨kv, 0, none⟩) n cap).ownBlock.toList).append (flatMap_sub s4 (List.range cs.length))
    have oth : ∀ k, k ≠ k2 → (w.setRow k2 (cur.toList.take j ++ [y] ++ cur.toList.drop (j + 1)).toArray).heap[k]? = w.heap[k]? := fun k hk => setRow_other w k2 k _ hk
    have hheap := setRow_heap w k2 cur (cur.toList.take j ++ [y] ++ cur.toList.drop (j + 1)).toArray et (0, 0) p7
    have hn' : n' * (tb et).sz = n' := by rw [het, Nat.mul_one]
    have newOwn : (w.setRow k2 (cur.toList.take j ++ [y] ++ cur.toList.drop (j + 1)).toArray).ownsRow 0 et (tb et).sz (.slice (some ⟨k2, 0, none⟩) n' cap2) n' (us2.set j y) := by
      refine ⟨by rw [List.length_set]; exact ho2.1, .inr ⟨k2, cap2, _, rfl, p6, hheap, p8, p9, ?_, ?_⟩⟩
      · simp only [List.size_toArray, List.length_append, List.length_take, List.length_drop, Array.length_toList, List.length_cons, List.length_nil]
        omega
      · have e2 : cur.toList.take j ++ [y] ++ cur.toList.drop (j + 1) = cur.toList.set j y := by
          rw [List.set_eq_take_append_cons_drop, if_pos (by rw [Array.length_toList]; omega)]
          simp
        rw [e2, ← p11, List.take_set]
    refine ⟨_, ⟨us, Fs4, owns_kept ho fun g hg => oth g fun e => ?_, ⟨by rw [List.length_set]; exact hl, hz⟩, h1, fun j' c u hc' hu => ?_, rfl⟩, ?_, ?_⟩
    · have : kv = g := by simpa [Value.ownBlock] using hg
      exact hkv (this.trans e)
    · by_cases hji : j' = i
      · subst hji
        rw [List.getElem?_set_self hil] at hc'
        injection hc' with hc'
        rw [hiu] at hu
        injection hu with hu
        subst hc' hu
        have e4 : Fs4 j' = G3 := if_pos rfl
        rw [e4]
        refine .own et n' _ _ (us2.set j y) Fs3 _ newOwn (by simp [hl2]) (fun g hg => ?_) (fun u hu => ?_) (fun i2 c u hc hu => ?_) (by rw [List.length_set, hown2]; rfl) (sG.nodup (hF2 ▸ hN2))
        · have : k2 = g := by simpa [Value.ownBlock] using hg
          rw [← this]; simp [G3]
        · rcases List.mem_or_eq_of_mem_set hu with hu | rfl
          · exact h12 u hu
          · exact hy
        · by_cases hij : i2 = j
          · subst hij
            rw [List.getElem?_set_self (by omega)] at hc hu
            injection hc with hc
            injection hu with hu
            subst hc hu
            have e3 : Fs3 i2 = [] := if_pos rfl
            rw [e3]
            exact hxy _ _
          · rw [List.getElem?_set_ne (fun e => hij e.symm)] at hc hu
            have e3 : Fs3 i2 = Fs2 i2 := if_neg hij
            rw [e3]
            have hi2 : i2 < cs'.length := (List.getElem?_eq_some_iff.1 hc).1
            refine (hr2 i2 c u hc hu).imp (fun _ _ h => h) (fun g hg => ⟨?_, hg.2⟩) (fun g hg => oth g fun e => k2n i2 hi2 (e ▸ hg.2))
            refine List.mem_append_right _ (List.mem_flatMap.2 ⟨i2, List.mem_range.2 hi2, ?_⟩)
            rw [e3]; exact hg.2
      · rw [List.getElem?_set_ne (fun e => hji e.symm)] at hc'
        have e4 : Fs4 j' = Fs j' := if_neg hji
        rw [e4]
        exact (hr j' c u hc' hu).imp (fun _ _ h => h) (fun g hg => hg) (fun g hg => oth g fun e => uniq j' (List.getElem?_eq_some_iff.1 hc').1 hji (e ▸ hg))
    · rw [List.length_set]; exact sF.nodup hN
    · rw [List.length_set]; exact fun k hk => sF.subset hk
theorem nest4_inv {o1 : Oper} {l : List Oper} {d : N4} (h : nest4 o1 l = some d) : ∃ o2 o3 o4, l = [o2, o3, o4] ∧ (o1.op = .indexAddr d.t d.x d.i ∧ o1.dst = some d.p1 ∧ o1.guard = none) ∧ (o2.op = .load d.e (.tmp d.p1) ∧ o2.dst = some d.p2 ∧ o2.guard = none) ∧
    (o3.op = .indexAddr d.e (.tmp d.p2) d.j ∧ o3.dst = some d.p3 ∧ o3.guard = none) ∧ (o4.op = .store d.et (.tmp d.p3) d.y ∧ o4.dst = none ∧ o4.guard = none) ∧ isConst d.j = true ∧ isConst d.y = true := by
  unfold nest4 at h
  split at h
  · rename_i o2 o3 o4
    split at h
    · rename_i t x i p1 a1 a2 a3
      split at h
      · rename_i e q1 p2 b1 b2 b3
        split at h
        · rename_i e' q2 j p3 c1 c2 c3
          split at h
          · rename_i et q3 y d1 d2 d3
            split at h
            · rename_i hb
              injection h with h
              subst h
              simp only [Bool.and_eq_true] at hb
              obtain ⟨h1, h2, h3, h4, h5, h6⟩ := hb
              obtain rfl := Nat.eq_of_beq_eq_true h1
              obtain rfl := Nat.eq_of_beq_eq_true h2
              obtain rfl := Nat.eq_of_beq_eq_true h3
              obtain rfl := Nat.eq_of_beq_eq_true h4
              exact ⟨o2, o3, o4, rfl, ⟨a1, a2, a3⟩, ⟨b1, b2, b3⟩, ⟨c1, c2, c3⟩, ⟨d1, d2, d3⟩, h5, h6⟩
            · cases h
          · cases h
        · cases h
      · cases h
    · cases h
  · cases h
theorem eval_const {x : Operand} (h : isConst x = true) (a b : Act) : a.eval x = b.eval x := by
  cases x <;> first | rfl | cases h
theorem wpl_cons {ops : Array Oper} {Q : Exit → Act → World → Prop} {o : Oper} {l : List Oper} (hg : o.guard = none) (h : o.wp P a w (wpList P ops Q l) Q) : wpList P ops Q (o :: l) a w := by
  unfold wpList
  split
  · exact .inl h
  · rename_i hw; exact absurd (by simp [Region.wanted, hg]) hw
theorem nest_sound (hT : TbOk P tb) {s : St} (S : Sim tb base w0 n s a w hv L X) {o1 : Oper} {l : List Oper} {d : N4} (h4 : nest4 o1 l = some d) (hd : ∀ o ∈ o1 :: l, (match o.dst with | some t => Nat.blt t n | none => true) = true) {K : St → Prop} (hK : nestA tb d s K) {ops : Array Oper} {Q : Exit → Act → World → Prop}
    (hN : ∀ s' a' w' hv' L' X', K s' → Sim tb base w0 n s' a' w' hv' L' X' → Q .normal a' w') : wpList P ops Q (o1 :: l) a w := by
  obtain ⟨o2, o3, o4, rfl, ⟨a1, a2, a3⟩, ⟨b1, b2, b3⟩, ⟨c1, c2, c3⟩, ⟨d1, d2, d3⟩, hcj, hcy⟩ := nest4_inv h4
  have lt1 : d.p1 < n := by have := hd o1 (by simp); rw [a2] at this; exact Nat.blt_eq ▸ this
  have lt2 : d.p2 < n := by have := hd o2 (by simp); rw [b2] at this; exact Nat.blt_eq ▸ this
  have lt3 : d.p3 < n := by have := hd o3 (by simp); rw [c2] at this; exact Nat.blt_eq ▸ this
  obtain ⟨env, h⟩ := s
  unfold nestA at hK
  split at hK
  · rename_i id gen full off len hx
    split at hK
    · split at hK
      · rename_i e0 g b cs hid
        split at hK
        · split at hK
          · rename_i hbe
            obtain ⟨hg, he⟩ := Bool.and_eq_true_iff.1 hbe
            have hg := Nat.eq_of_beq_eq_true hg
            have he := Nat.eq_of_beq_eq_true he
            subst hg he
            split at hK
            · rename_i e1 ht1
              split at hK
              · rename_i e2 ht2
                split at hK
                · rename_i hbe2
                  obtain ⟨h1, h2⟩ := Bool.and_eq_true_iff.1 hbe2
                  have h1 := Nat.eq_of_beq_eq_true h1
                  have h2 := Nat.eq_of_beq_eq_true h2
                  subst h1 h2
                  split at hK
                  · rename_i ki i hi
                    split at hK
                    · rename_i kj j hj
                      split at hK
                      · rename_i ky y hy
                        obtain ⟨⟨hib, ⟨hz1, hz2⟩, hagg⟩, n', cs', hnth, hjb, _, rfl, hK⟩ := hK
                        rw [nth_eq] at hnth
                        have hid : h id = some (.row d.e g false cs) := hid
                        obtain ⟨Fx, rx⟩ := S.rho d.x
                        obtain ⟨Fi, ri⟩ := S.rho d.i
                        obtain ⟨Fj, rj⟩ := S.rho d.j
                        obtain ⟨Fy, ry⟩ := S.rho d.y
                        rw [hx] at rx
                        rw [hi] at ri
                        rw [hj] at rj
                        rw [hy] at ry
                        have ej := rj.int_inv
                        have ey := ry.int_inv
                        have hlf := rx.ref_inv
                        have hoff : off = 0 := by
                          obtain ⟨b, h1, _, h2⟩ := hlf
                          rw [hid] at h1
                          injection h1 with h1
                          obtain ⟨_, h3⟩ := h2 _ _ _ _ h1.symm
                          obtain ⟨A, cap, N, CAP, h4, h5, h6, h7, h8, h9⟩ := h3 rfl
                          exact (h7 rfl).1
                        subst hoff
                        obtain ⟨hvv, hlen, F, k1, k2, k3⟩ := S.ownRow hid hlf
                        obtain ⟨kv, cap, m2, cap2, cur, q1, q2, q3, q4, q5, F', q6, q7, q8⟩ := nest_set (tb := tb) k1 k2 hz1 hz2 hnth (show j.toNat < n' by omega) (.int ky y) (.int ky y) rfl (fun A w => .int _ _)
                        -- the first step
                        obtain ⟨y1, u1, rfl, run1, r1⟩ := indexAddr_sound hT S rx ri (t := d.t) (K := fun v => v = .eptr id g i.toNat) (by
                          unfold indexAddrA
                          simp only [ht1, hid, Nat.beq_refl]
                          exact ⟨hib, by rw [offs_eq, hz1]; simp⟩)
                        obtain ⟨bb, z1, _, z2⟩ := r1.eptr_inv
                        rw [hid] at z1
                        injection z1 with z1
                        obtain ⟨_, z3⟩ := z2 _ _ _ _ z1.symm
                        obtain ⟨kk, NN, CAP, z4, rfl⟩ := z3 rfl
                        rw [← hvv, q1] at z4
                        injection z4 with z4
                        injection z4 with z4
                        injection z4 with z4
                        subst z4
                        -- the second
                        have run2 : (Instr.loadAt d.e (.pointer (some ⟨kv, i.toNat, none⟩))).run P w = .ok (.slice (some ⟨m2, 0, none⟩) n' cap2) w := by
                          obtain ⟨_, _, ⟨dd, hu, hdd, _⟩⟩ := hT.ty (t := d.e) (by omega)
                          have hag : (isAgg d.e).run P w = .ok false w := by
                            unfold isAgg
                            rw [Sem.run_bind, run_underlying hu w]
                            rw [hagg] at hdd
                            cases dd <;> simp_all [TypeDesc.isRow]
                          simp [Instr.loadAt, Instr.sureAddr, loadVar, Sem.run_bind, hag, load, Sem.run, q2]
                        have run3 : (Instr.indexAt d.e (.slice (some ⟨m2, 0, none⟩) n' cap2) (.int kj j)).run P w = .ok (.pointer (some ⟨m2, j.toNat, none⟩)) w := by
                          obtain ⟨_, _, ⟨dd, hu, _, hk⟩⟩ := hT.kind (t := d.e) (by rw [ht2]; simp)
                          rw [ht2] at hk
                          obtain ⟨rfl, he2⟩ := hk
                          obtain ⟨⟨ie, z, hie, hsz, _⟩, _⟩ := hT.ty he2
                          have : (Instr.indexAt d.e (.slice (some ⟨m2, 0, none⟩) n' cap2) (.int kj j)).run P w = .ok (.pointer (some ((⟨m2, 0, none⟩ : Addr).add (j.toNat * (tb d.et).sz)))) w := by
                            simp [Instr.indexAt, run_underlying hu, asIntOf, hjb.1, hjb.2, sizeOf_run hie, hsz]
                          rw [this, hz2, Nat.mul_one, add0]
                        have run4 : (Instr.storeAt d.et (.pointer (some ⟨m2, j.toNat, none⟩)) (.int ky y)).run P w = .ok () (w.setRow m2 (cur.toList.take j.toNat ++ [Value.int ky y] ++ cur.toList.drop (j.toNat + 1)).toArray) := run_store_at (P := P) hT (t := d.et) (off := j.toNat) (v := .int ky y) (by omega) q3 (by rw [hz2]; rfl) (fun u hu => by simp [Value.cells] at hu; subst hu; rfl) (by omega)
                        refine wpl_cons a3 (wp_value (u := .pointer (some ⟨kv, i.toNat, none⟩)) (w' := w) (by simp only [execOp, a1]; simp [run1]) ?_)
                        rw [a2]
                        have t1 : (a.put (some d.p1) (.pointer (some ⟨kv, i.toNat, none⟩))).tmps.size = n := by simp [Act.put, S.tmps]
                        have ev1 : (a.put (some d.p1) (.pointer (some ⟨kv, i.toNat, none⟩))).eval (.tmp d.p1) = .pointer (some ⟨kv, i.toNat, none⟩) := by
                          show (a.put (some d.p1) _).tmps.getD d.p1 undef = _
                          rw [getD_put _ _ _ _ (by rw [S.tmps]; exact lt1), if_pos rfl]
                        refine wpl_cons b3 (wp_value (u := .slice (some ⟨m2, 0, none⟩) n' cap2) (w' := w) (by simp only [execOp, b1, ev1]; simp [run2]) ?_)
                        rw [b2]
                        generalize hA1 : a.put (some d.p1) (.pointer (some ⟨kv, i.toNat, none⟩)) = A1 at t1 ev1 ⊢
                        have t2 : (A1.put (some d.p2) (.slice (some ⟨m2, 0, none⟩) n' cap2)).tmps.size = n := by simp [Act.put, t1]
                        have ev2 : (A1.put (some d.p2) (.slice (some ⟨m2, 0, none⟩) n' cap2)).eval (.tmp d.p2) = .slice (some ⟨m2, 0, none⟩) n' cap2 := by
                          show (A1.put (some d.p2) _).tmps.getD d.p2 undef = _
                          rw [getD_put _ _ _ _ (by rw [t1]; exact lt2), if_pos rfl]
                        generalize hA2 : A1.put (some d.p2) (.slice (some ⟨m2, 0, none⟩) n' cap2) = A2 at t2 ev2 ⊢
                        have evj : A2.eval d.j = .int kj j := by rw [eval_const hcj A2 a]; exact ej
                        refine wpl_cons c3 (wp_value (u := .pointer (some ⟨m2, j.toNat, none⟩)) (w' := w) (by simp only [execOp, c1, ev2, evj]; simp [run3]) ?_)
                        rw [c2]
                        have t3 : (A2.put (some d.p3) (.pointer (some ⟨m2, j.toNat, none⟩))).tmps.size = n := by simp [Act.put, t2]
                        have ev3 : (A2.put (some d.p3) (.pointer (some ⟨m2, j.toNat, none⟩))).eval (.tmp d.p3) = .pointer (some ⟨m2, j.toNat, none⟩) := by
                          show (A2.put (some d.p3) _).tmps.getD d.p3 undef = _
                          rw [getD_put _ _ _ _ (by rw [t2]; exact lt3), if_pos rfl]
                        generalize hA3 : A2.put (some d.p3) (.pointer (some ⟨m2, j.toNat, none⟩)) = A3 at t3 ev3 ⊢
                        have evy : A3.eval d.y = .int ky y := by rw [eval_const hcy A3 a]; exact ey
                        refine wpl_cons d3 (wp_skip (w' := (w.setRow m2 (cur.toList.take j.toNat ++ [Value.int ky y] ++ cur.toList.drop (j.toNat + 1)).toArray)) (by simp only [execOp, d1, ev3, evy]; rw [Sem.run_bind, run4]; rfl) ?_)
                        rw [d2]
                        obtain ⟨hv1, L1, S1⟩ := S.wcore (pg := true) (w' := w.setRow m2 (cur.toList.take j.toNat ++ [Value.int ky y] ++ cur.toList.drop (j.toNat + 1)).toArray) (ls := [.ref id g true 0 len]) (us := [hv id]) (F := F) (vs' := [.own d.e len (cs.set i.toNat (.own d.et n' (cs'.set j.toNat (AV.int ky y))))]) (F' := F') (Fr := [])
                          (fun k hk => by
                            obtain ⟨c1, c2, c3, s, c4⟩ := k3 k hk
                            exact ⟨c1, c2, c3, id, by simp [idsL, ids1], s, c4⟩) rfl
                          (fun jj v u hv' hu' => by
                            match jj with
                            | 0 =>
                              injection hv' with hv'
                              injection hu' with hu'
                              subst hv' hu'
                              exact ⟨Fx, hvv ▸ rx⟩
                            | jj + 1 => cases hv')
                          (by show (bif wOk1 h (.ref id g true 0 len) then true else false) = true; simp [wOk1, hid]) rfl
                          (show shW1 h (.ref id g true 0 len) _ ∧ ([] : List AV) = [] by simp [shW1, hid])
                          (show ResL (ResJ tb _) [_] [hv id] F' from ⟨F', [], by simp, .inr (hvv ▸ q6), rfl⟩) (by simpa using q7) q8 (fun k hk => by simp at hk)
                          (by rw [setRow_size]; exact Nat.le_refl _) rfl rfl rfl
                          (fun k _ hk => setRow_other w m2 k _ fun e => by
                            subst e
                            have := (hk q5).1
                            cases this)
                        have ep : putW [.ref id g true 0 len] [.own d.e len (cs.set i.toNat (.own d.et n' (cs'.set j.toNat (.int ky y))))] (purgeS true ⟨env, h⟩).heap = (purgeS true ⟨env, h⟩).heap.put id (.row d.e g false (cs.set i.toNat (.own d.et n' (cs'.set j.toNat (.int ky y))))) := by
                          have : purgeH h id = some (.row d.e g false cs) := by simp [purgeH, hid, purgeB]
                          show putW1 (.ref id g true 0 len) (.own d.e len (cs.set i.toNat (.own d.et n' (cs'.set j.toNat (.int ky y))))) (purgeH h) = (purgeH h).put id _
                          simp [putW1, this]
                        rw [ep] at S1
                        have hK' := hK
                        subst hA1 hA2 hA3
                        refine hN _ _ _ _ _ _ hK' (((S1.put (some d.p1) (fun t ht => by injection ht with ht; subst ht; exact lt1) (.junk _)).put (some d.p2) (fun t ht => by injection ht with ht; subst ht; exact lt2) (.junk _)).put (some d.p3) (fun t ht => by injection ht with ht; subst ht; exact lt3) (.junk _))
                      · exact hK.elim
                    · exact hK.elim
                  · exact hK.elim
                · exact hK.elim
              · exact hK.elim
            · exact hK.elim
          · exact hK.elim
        · exact hK.elim
      · exact hK.elim
    · exact hK.elim
  · exact hK.elim
end
end Go.Ev
namespace Go.Ev
set_option linter.unusedVariables false
set_option linter.unusedSimpArgs false
open Go.RowKit

section
variable {P : Program} {tb : Nat → Ti} {R : Nat → List AV → AV → Prop} {base n : Nat} {w0 : World} {s : St} {a : Act} {w : World} {hv : Nat → Value} {L : Nat → Option Lb} {X : Nat → Prop}
/-- the plain state stands for the frame and the memory -/
def Stands (tb : Nat → Ti) (base : Nat) (w0 : World) (n : Nat) (s : St) (a : Act) (w : World) : Prop := ∃ hv L X, Sim tb base w0 n s a w hv L X
def dstOk (n : Nat) (o : Oper) : Bool := match o.dst with | some t => Nat.blt t n | none => true
theorem tmps_get {a : Act} {d : Nat} {b : Bool} (h : a.tmps.getD d undef = .bool b) : a.tmps[d]? = some (.bool b) := by
  rw [Array.getD_eq_getD_getElem?] at h
  cases e : a.tmps[d]? with
  | none => rw [e] at h; cases h
  | some v => rw [e] at h; simpa using h
/-- one operation, its guard looked at -/
theorem aop_sound (hT : TbOk P tb) (hR : Sound P tb R) (ops : Array Oper) (o : Oper) (hd : dstOk n o = true) (S : Stands tb base w0 n s a w) {K : St → Prop} (hK : aop tb R ops.toList o s K) {next : Act → World → Prop} {Q : Exit → Act → World → Prop}
    (hN : ∀ s' a' w', K s' → Stands tb base w0 n s' a' w' → next a' w') : if Region.wanted o (yielded ops a.tmps) then o.wp P a w next Q else next (a.put o.dst undef) w := by
  obtain ⟨hv, L, X, S⟩ := S
  have hd' : ∀ t, o.dst = some t → t < n := by
    intro t ht
    unfold dstOk at hd
    rw [ht] at hd
    exact Nat.blt_eq ▸ hd
  have exec : ∀ {K' : AV → Heap → Prop}, evOp tb R o s.env s.heap K' → (∀ v h, K' v h → K (St.put ⟨s.env, h⟩ o.dst v)) → o.wp P a w next Q := by
    intro K' hK' himp
    refine evOp_sound hT hR (env := s.env) (h := s.heap) S o hK' fun v h u w' hv' L' X' F hk hS r => ?_
    exact hN _ _ _ (himp v h hk) ⟨_, _, _, hS.put o.dst hd' r⟩
  have skip : K (s.put o.dst .undef) → next (a.put o.dst undef) w := fun hk => hN _ _ _ hk ⟨_, _, _, S.put o.dst hd' .undef⟩
  unfold aop at hK
  split at hK
  · rename_i hg
    rw [if_pos (by simp [Region.wanted, hg])]
    exact exec hK fun v h hk => hk
  · rename_i j want hg
    rw [nth_eq] at hK
    split at hK
    · rename_i d hdj
      have hdj' : (ops[j]?).bind (·.dst) = some d := by simpa using hdj
      split at hK
      · rename_i b hb
        obtain ⟨F, r⟩ := S.vals d
        rw [hb] at r
        have hy : yielded ops a.tmps j = some b := by simp [yielded, hdj', tmps_get r.bool_inv]
        have hw : Region.wanted o (yielded ops a.tmps) = (b == want) := by simp [Region.wanted, hg, hy]
        rw [hw]
        split at hK
        · cases b
          · exact skip hK
          · exact exec (K' := fun v h => K (St.put ⟨s.env, h⟩ o.dst v)) hK fun v h hk => hk
        · cases b
          · exact exec (K' := fun v h => K (St.put ⟨s.env, h⟩ o.dst v)) hK fun v h hk => hk
          · exact skip hK
      · rename_i hb
        obtain ⟨F, r⟩ := S.vals d
        rw [hb] at r
        have hu := r.undef_inv
        have hy : yielded ops a.tmps j = none := by
          rw [Array.getD_eq_getD_getElem?] at hu
          simp only [yielded, hdj', Option.bind_some]
          cases e : a.tmps[d]? with
          | none => rfl
          | some v => rw [e] at hu; simp at hu; subst hu; rfl
        rw [if_neg (by simp [Region.wanted, hg, hy])]
        exact skip hK
      · exact hK.elim
    · exact hK.elim
/-- the same with calls that write -/
theorem aopW_sound (hT : TbOk P tb) (hR : Sound P tb R) (ops : Array Oper) (o : Oper) (hd : dstOk n o = true) (S0 : Stands tb base w0 n s a w) {K : St → Prop} (hK : aopW tb R ops.toList o s K) {next : Act → World → Prop} {Q : Exit → Act → World → Prop}
    (hN : ∀ s' a' w', K s' → Stands tb base w0 n s' a' w' → next a' w') : if Region.wanted o (yielded ops a.tmps) then o.wp P a w next Q else next (a.put o.dst undef) w := by
  obtain ⟨hv, L, X, S⟩ := id S0
  have hd' : ∀ t, o.dst = some t → t < n := by
    intro t ht
    unfold dstOk at hd
    rw [ht] at hd
    exact Nat.blt_eq ▸ hd
  have exec : ∀ {K' : AV → Heap → Prop}, evOp tb R o s.env s.heap K' → (∀ v h, K' v h → K (St.put ⟨s.env, h⟩ o.dst v)) → o.wp P a w next Q := by
    intro K' hK' himp
    refine evOp_sound hT hR (env := s.env) (h := s.heap) S o hK' fun v h u w' hv' L' X' F hk hS r => ?_
    exact hN _ _ _ (himp v h hk) ⟨_, _, _, hS.put o.dst hd' r⟩
  have skip : K (s.put o.dst .undef) → next (a.put o.dst undef) w := fun hk => hN _ _ _ hk ⟨_, _, _, S.put o.dst hd' .undef⟩
  have wexec : ∀ {c : Call} {f : Nat} {pg : Bool}, o.op = .call c → c.callee = .value (.func f) → wrDeep f = pg → wcallA R pg f o.dst (mapR (rho s.env) c.args.toList) s K → o.wp P a w next Q := by
    intro c f pg ho hc hpg hK'
    obtain ⟨hl, hr⟩ := Sim.rhos (env := s.env) (h := s.heap) S c.args
    obtain ⟨⟨fn, h1, h2, h3⟩, hC⟩ := wcall_sound (env := s.env) (h := s.heap) hR S hpg hd' hl hr hK'
    have hrun : (execOp a.eval o).run P w = .ok (.enter f (c.args.map a.eval)) w := by
      have h2' : fn.name ≠ "runtime.NumGoroutine" := beq_eq_false_iff_ne.1 h2
      have h3' : fn.body ≠ none := fun e => by rw [e] at h3; cases h3
      simp [execOp, ho, Go.resolve, hc, Deferred.ofValue, invoke, callFunc, h1, h2', h3', Act.eval]
    unfold Oper.wp
    rw [hrun]
    refine hC.mono fun e w' he => ?_
    obtain ⟨v, s', rfl, hk, hv', L', X', hS⟩ := he
    exact hN _ _ _ hk ⟨_, _, _, hS⟩
  have plain : evOp tb R o s.env s.heap (fun v h => K (St.put ⟨s.env, h⟩ o.dst v)) → o.wp P a w next Q := fun hK => exec (K' := fun v h => K (St.put ⟨s.env, h⟩ o.dst v)) hK fun v h hk => hk
  unfold aopW at hK
  split at hK
  · rename_i hg
    rw [if_pos (by simp [Region.wanted, hg])]
    unfold op1 at hK
    split at hK
    · rename_i c ho
      split at hK
      · rename_i f hc
        split at hK
        · rename_i hw; exact wexec ho hc hw hK
        · rename_i hw
          split at hK
          · exact wexec ho hc hw hK
          · exact plain hK
      · exact plain hK
    · exact plain hK
  · exact aop_sound hT hR ops o hd S0 hK hN
theorem aops_sound (hT : TbOk P tb) (hR : Sound P tb R) (ops : Array Oper) {Q : Exit → Act → World → Prop} {K : St → Prop} (hN : ∀ s' a' w', K s' → Stands tb base w0 n s' a' w' → Q .normal a' w') : ∀ (l : List Oper), (∀ o ∈ l, dstOk n o = true) → ∀ (s : St) (a : Act) (w : World), Stands tb base w0 n s a w → aops tb R ops.toList l K s → wpList P ops Q l a w
  | [], _, s, a, w, S, hK => hN s a w hK S
  | o :: l, hd, s, a, w, S, hK => by
    have hK0 : (match nest4 o l with | some d => nestA tb d s K | none => aopW tb R ops.toList o s (aops tb R ops.toList l K)) := hK
    split at hK0
    · rename_i d h4
      obtain ⟨hv, L, X, S⟩ := S
      exact nest_sound hT S h4 hd hK0 fun s' a' w' hv' L' X' hk hS => hN s' a' w' hk ⟨hv', L', X', hS⟩
    have hK' : aopW tb R ops.toList o s (aops tb R ops.toList l K) := hK0
    have := aopW_sound hT hR ops o (hd o List.mem_cons_self) S hK' (next := wpList P ops Q l) (Q := Q) (fun s' a' w' hk hS => aops_sound hT hR ops hN l (fun o ho => hd o (List.mem_cons_of_mem _ ho)) s' a' w' hS hk)
    unfold wpList
    split
    · rename_i hw; rw [if_pos hw] at this; exact .inl this
    · rename_i hw; rw [if_neg hw] at this; exact this
theorem least {p : Nat → Prop} (h : ∃ k, p k) : ∃ k, p k ∧ ∀ j, p j → k ≤ j := by
  obtain ⟨k, hk⟩ := h
  induction k using Nat.strongRecOn with
  | _ k ih =>
    by_cases hj : ∃ j, j < k ∧ p j
    · obtain ⟨j, hj, hp⟩ := hj
      exact ih j hj hp
    · exact ⟨k, hk, fun j hp => Nat.le_of_not_lt fun hlt => hj ⟨j, hlt, hp⟩⟩
open Classical in
noncomputable def leastOf (p : Nat → Prop) : Nat := if h : ∃ k, p k then Classical.choose (least h) else 0
theorem leastOf_spec {p : Nat → Prop} (h : ∃ k, p k) : p (leastOf p) := by unfold leastOf; rw [dif_pos h]; exact (Classical.choose_spec (least h)).1
theorem leastOf_le {p : Nat → Prop} {k : Nat} (h : p k) : leastOf p ≤ k := by unfold leastOf; rw [dif_pos ⟨k, h⟩]; exact (Classical.choose_spec (least ⟨k, h⟩)).2 k h
/-- what the plain reading promises holds -/
def QOk (tb : Nat → Ti) (base : Nat) (w0 : World) (n : Nat) (Q : Exit → St → Prop) (Q' : Exit → Act → World → Prop) : Prop := ∀ e s a w, Q e s → Stands tb base w0 n s a w → Q' e a w
end
end Go.Ev
namespace Go.Ev
set_option linter.unusedVariables false
set_option linter.unusedSimpArgs false
open Go.RowKit

section
variable {P : Program} {tb : Nat → Ti} {R : Nat → List AV → AV → Prop} {base n : Nat} {w0 : World} {env : Nat → AV} {h h' h2 : Heap} {a : Act} {w w' : World} {hv hv' hv2 : Nat → Value} {L L' L2 : Nat → Option Lb} {X : Nat → Prop}
/-- a result that goes out as it is -/
theorem res1_of {c : AV} {u : Value} {F : List Nat} {A : Nat → Prop} (r : Rel tb noLeaf (fun k => A k ∧ k ∈ F) w c u F) (hc : resOk tb c = true) : Res1 tb w c u F := by
  cases r with
  | int k i => exact ⟨rfl, rfl⟩
  | bool b => exact ⟨rfl, rfl⟩
  | str s => exact ⟨rfl, rfl⟩
  | own e m cs v us Fs F ho hl hA h1 hr hF hN =>
    refine ⟨us, Fs, ho, ⟨hl, ?_⟩, h1, fun j c u hc hu => (hr j c u hc hu).imp (fun _ _ h => h) (fun g hg => hg.2) (fun _ _ => rfl), hF⟩
    have : Nat.blt 0 (tb e).sz = true := hc
    have h0 : 0 < (tb e).sz := Nat.blt_eq ▸ this
    omega
  | leaf h => exact h.elim
  | _ => simp [resOk] at hc
theorem resOks_cons {c : AV} {cs : List AV} (h : resOks tb (c :: cs) = true) : resOk tb c = true ∧ resOks tb cs = true := by
  have h' : (bif resOk tb c then resOks tb cs else false) = true := h
  cases hc : resOk tb c with
  | false => rw [hc] at h'; cases h'
  | true => rw [hc] at h'; exact ⟨rfl, h'⟩
/-- what was set down carries labels from 'k0' on -/
def Marked (base : Nat) (L : Nat → Option Lb) (k0 k1 : Nat) (F : List Nat) : Prop := F.Nodup ∧ ∀ g ∈ F, base ≤ g ∧ ∃ k, k0 ≤ k ∧ k < k1 ∧ L g = some (.pend k)
theorem Marked.append {k0 k1 k2 : Nat} {F G : List Nat} (h1 : Marked base L k0 k1 F) (h2 : Marked base L k1 k2 G) (h01 : k0 ≤ k1) (h12 : k1 ≤ k2) : Marked base L k0 k2 (F ++ G) := by
  refine ⟨List.nodup_append.2 ⟨h1.1, h2.1, ?_⟩, fun g hg => ?_⟩
  · rintro x hx y hy rfl
    obtain ⟨_, k, _, q1, q2⟩ := h1.2 x hx
    obtain ⟨_, k', q3, _, q4⟩ := h2.2 x hy
    rw [q2] at q4
    injection q4 with q4
    injection q4 with q4
    omega
  · rcases List.mem_append.1 hg with hg | hg
    · obtain ⟨b, k, q0, q1, q2⟩ := h1.2 g hg
      exact ⟨b, k, q0, by omega, q2⟩
    · obtain ⟨b, k, q0, q1, q2⟩ := h2.2 g hg
      exact ⟨b, k, by omega, q1, q2⟩
theorem Marked.step {k0 k1 : Nat} {F : List Nat} (h1 : Marked base L k0 k1 F) (ks : KillStep tb w X h h' hv hv' L L') : Marked base L' k0 k1 F :=
  ⟨h1.1, fun g hg => by
    obtain ⟨b, k, q0, q1, q2⟩ := h1.2 g hg
    exact ⟨b, k, q0, q1, ks.lab g k q2⟩⟩
theorem resL_of : ∀ (cs : List AV) (us : List Value) (k0 : Nat), RowCells tb base hv L X w false (fun j => .pend (k0 + j)) cs us → resOks tb cs = true → ∃ F, ResL (Res1 tb w) cs us F ∧ Marked base L k0 (k0 + cs.length) F
  | [], [], k0, _, _ => ⟨[], rfl, List.nodup_nil, fun g hg => by simp at hg⟩
  | c :: cs, u :: us, k0, hC, ho => by
    obtain ⟨h1, h2⟩ := resOks_cons ho
    obtain ⟨F0, r, hN, hL⟩ := hC.2.2 0 c u rfl rfl
    obtain ⟨F1, q1, q2⟩ := resL_of cs us (k0 + 1) ⟨by simpa using hC.1, fun u hu => hC.2.1 u (List.mem_cons_of_mem _ hu), fun j c' u' hc hu => by
      obtain ⟨F, r, hN, hL⟩ := hC.2.2 (j + 1) c' u' (by simpa using hc) (by simpa using hu)
      exact ⟨F, r, hN, fun k hk => by have := hL k hk; simp only at this; show L k = some (.pend (k0 + 1 + j)) ∧ base ≤ k; rw [show k0 + 1 + j = k0 + (j + 1) by omega]; exact this⟩⟩ h2
    refine ⟨F0 ++ F1, ⟨F0, F1, rfl, res1_of (A := fun k => Ok hv w X k) (r.imp (fun _ _ h => h) (fun k hk => ⟨hk.1, hk.2 rfl⟩) (fun _ _ => rfl)) h1, q1⟩, ?_⟩
    have m1 : Marked base L k0 (k0 + 1) F0 := ⟨hN, fun g hg => ⟨(hL g hg).2, k0, Nat.le_refl _, by omega, (hL g hg).1⟩⟩
    have := m1.append q2 (by omega) (by omega)
    rwa [show k0 + 1 + cs.length = k0 + (c :: cs).length by simp; omega] at this
  | [], _ :: _, _, hC, _ => by have := hC.1; simp at this
  | _ :: _, [], _, hC, _ => by have := hC.1; simp at this
theorem resolve_sound (S : Sim tb base w0 n ⟨env, h⟩ a w hv L X) {v : AV} {u : Value} {F : List Nat} (r : VRel tb h hv X w v u F) {K : AV → Heap → Prop} (hK : resolve tb v h K) (k0 : Nat) :
    ∃ c h' hv' L' F' k1, K c h' ∧ Sim tb base w0 n ⟨env, h'⟩ a w hv' L' X ∧ Res2 tb w c u F' ∧ Marked base L' k0 k1 F' ∧ k0 ≤ k1 ∧ KillStep tb w X h h' hv hv' L L' := by
  unfold resolve at hK
  split at hK
  · obtain ⟨us, rfl, hl, h1, h2⟩ := agg_inv r
    obtain ⟨cs', h', hv', L', q1, q2, q3, q4, q5⟩ := absorb_sound _ us h hv L k0 S hl h2 hK
    split at q1
    · rename_i ho
      rw [q4 rfl] at q3
      obtain ⟨F', m1, m2⟩ := resL_of cs' us k0 q3 ho
      exact ⟨_, h', hv', L', F', _, q1, q2, ⟨us, rfl, m1⟩, m2, by omega, q5⟩
    · exact q1.elim
  · rename_i hne
    obtain ⟨c, h', hv', L', q1, q2, ⟨F', q3, q4, q5⟩, q6, q7, q8⟩ := absorb1_sound S r hK k0
    split at q1
    · rename_i ho
      have hr1 := res1_of (A := fun k => Ok hv' w X k) (q3.imp (fun _ _ h => h) (fun k hk => ⟨hk.1, hk.2 (q7 rfl)⟩) (fun _ _ => rfl)) ho
      refine ⟨c, h', hv', L', F', k0 + 1, q1, q2, ?_, ⟨q4, fun g hg => ⟨(q5 g hg).2, k0, Nat.le_refl _, by omega, (q5 g hg).1⟩⟩, by omega, q8⟩
      cases c <;> first | exact hr1 | exact hr1.elim
    · exact q1.elim
theorem resVals_sound (hT : TbOk P tb) : ∀ (l : List ResultVar) (h : Heap) (hv : Nat → Value) (L : Nat → Option Lb) (k0 : Nat), Sim tb base w0 n ⟨env, h⟩ a w hv L X → ∀ {K : List AV → Heap → Prop}, resVals tb env l h K →
    ∃ vs us h' hv' L' F k1, K vs h' ∧ (l.mapM (fun (v : ResultVar) => match v with | .tmp t => (pure (a.tmps.getD t undef) : Sem Value) | .cell b t => do loadVar t (← asAddr (a.tmps.getD b undef)))).run P w = .ok us w ∧ us.length = vs.length ∧
      ResL (Res2 tb w) vs us F ∧ Marked base L' k0 k1 F ∧ k0 ≤ k1 ∧ KillStep tb w X h h' hv hv' L L'
  | [], h, hv, L, k0, S, K, hK => ⟨[], [], h, hv, L, [], k0, hK, rfl, rfl, rfl, ⟨List.nodup_nil, fun g hg => by simp at hg⟩, Nat.le_refl _, .refl⟩
  | v :: l, h, hv, L, k0, S, K, hK => by
    have hK' : resVal1 tb env v h fun v h => resVals tb env l h fun vs h => K (v :: vs) h := hK
    have key : ∀ (x : AV) (u : Value) (F : List Nat), VRel tb h hv X w x u F → resolve tb x h (fun v h => resVals tb env l h fun vs h => K (v :: vs) h) →
        (match v with | .tmp t => (pure (a.tmps.getD t undef) : Sem Value) | .cell b t => do loadVar t (← asAddr (a.tmps.getD b undef))).run P w = .ok u w →
        ∃ vs us h' hv' L' F k1, K vs h' ∧ ((v :: l).mapM (fun (v : ResultVar) => match v with | .tmp t => (pure (a.tmps.getD t undef) : Sem Value) | .cell b t => do loadVar t (← asAddr (a.tmps.getD b undef)))).run P w = .ok us w ∧ us.length = vs.length ∧
          ResL (Res2 tb w) vs us F ∧ Marked base L' k0 k1 F ∧ k0 ≤ k1 ∧ KillStep tb w X h h' hv hv' L L' := by
      intro x u F r hk hrun
      obtain ⟨c, h1, hv1, L1, F1, k1, p1, S1, p2, p3, p4, p5⟩ := resolve_sound S r hk k0
      obtain ⟨vs, us, h2, hv2, L2, F2, k2, q1, q2, q3, q4, q5, q6, q7⟩ := resVals_sound hT l h1 hv1 L1 k1 S1 p1
      refine ⟨c :: vs, u :: us, h2, hv2, L2, F1 ++ F2, k2, q1, ?_, by simp [q3], ⟨F1, F2, rfl, p2, q4⟩, (p3.step q7).append q5 p4 q6, by omega, p5.trans q7⟩
      rw [List.mapM_cons, Sem.run_bind, hrun]
      simp only [Result.andThen_ok, Sem.run_bind, q2, Sem.run_pure]
    unfold resVal1 at hK'
    split at hK'
    · rename_i t
      obtain ⟨F, r⟩ := S.vals t
      exact key _ _ F r hK' rfl
    · rename_i b t
      obtain ⟨F, r⟩ := S.vals b
      obtain ⟨y, u, F', k1, k2, k3⟩ := S.load hT r hK'
      refine key y u F' k3 k1 ?_
      cases hv : a.tmps.getD b undef with
      | pointer ad =>
        cases ad with
        | some ad =>
          have hv' : a.tmps.getD b undef = .pointer (some ad) := hv
          rw [hv'] at k2
          show (do loadVar t (← asAddr (a.tmps.getD b undef)) : Sem Value).run P w = _
          rw [hv', Sem.run_bind]
          simpa [asAddr, Instr.loadAt, Instr.sureAddr] using k2
        | none => rw [show a.tmps.getD b undef = .pointer none from hv] at k2; simp [Instr.loadAt, Instr.sureAddr, stuck] at k2
      | _ =>
        exfalso
        simp only [hv] at k2
        simp [Instr.loadAt, Instr.sureAddr, stuck] at k2
theorem Rel.flt {lf : AV → Value → Prop} {A : Nat → Prop} {a : AV} {v : Value} {F : List Nat} (h : Rel tb lf A w a v F) : ∀ g ∈ F, g < w.heap.size := by
  induction h with
  | own e n cs v us Fs F ho hl hA h1 hr hF hN ih =>
    subst hF
    intro g hg
    rcases List.mem_append.1 hg with hg | hg
    · exact (ho.lt g (by simpa using hg)).2
    · obtain ⟨j, hj, hg⟩ := List.mem_flatMap.1 hg
      have hj := List.mem_range.1 hj
      exact ih j cs[j] (us[j]'(by omega)) (by simp [hj]) (by simp) g hg
  | agg cs us Fs F hl h1 hr hF hN ih =>
    subst hF
    intro g hg
    obtain ⟨j, hj, hg⟩ := List.mem_flatMap.1 hg
    have hj := List.mem_range.1 hj
    exact ih j cs[j] (us[j]'(by omega)) (by simp [hj]) (by simp) g hg
  | tup cs us Fs F hl hr hF hN ih =>
    subst hF
    intro g hg
    obtain ⟨j, hj, hg⟩ := List.mem_flatMap.1 hg
    have hj := List.mem_range.1 hj
    exact ih j cs[j] (us[j]'(by omega)) (by simp [hj]) (by simp) g hg
  | _ => intro g hg; simp at hg
theorem res1_lt {c : AV} {u : Value} {F : List Nat} (h : Res1 tb w c u F) : ∀ g ∈ F, g < w.heap.size := by
  unfold Res1 at h
  split at h
  · obtain ⟨_, rfl⟩ := h; intro g hg; simp at hg
  · obtain ⟨_, rfl⟩ := h; intro g hg; simp at hg
  · obtain ⟨_, rfl⟩ := h; intro g hg; simp at hg
  · rename_i e m cs
    obtain ⟨us, Fs, ho, hl, h1, hr, rfl⟩ := h
    intro g hg
    rcases List.mem_append.1 hg with hg | hg
    · exact (ho.lt g (by simpa using hg)).2
    · obtain ⟨j, hj, hg⟩ := List.mem_flatMap.1 hg
      have hj := List.mem_range.1 hj
      exact (hr j cs[j] (us[j]'(by omega)) (by simp [hj]) (by simp)).flt g hg
  · exact h.elim
theorem resL_lt {R : AV → Value → List Nat → Prop} (hR : ∀ c u F, R c u F → ∀ g ∈ F, g < w.heap.size) : ∀ (cs : List AV) (us : List Value) (F : List Nat), ResL R cs us F → ∀ g ∈ F, g < w.heap.size
  | [], [], F, h, g, hg => by have hF : F = [] := h; subst hF; simp at hg
  | c :: cs, u :: us, F, h, g, hg => by
    obtain ⟨F0, F1, rfl, h0, h1⟩ := h
    rcases List.mem_append.1 hg with hg | hg
    · exact hR c u F0 h0 g hg
    · exact resL_lt hR cs us F1 h1 g hg
  | [], _ :: _, F, h, _, _ => h.elim
  | _ :: _, [], F, h, _, _ => h.elim
theorem res2_lt {c : AV} {u : Value} {F : List Nat} (h : Res2 tb w c u F) : ∀ g ∈ F, g < w.heap.size := by
  unfold Res2 at h
  split at h
  · obtain ⟨us, _, h⟩ := h
    exact resL_lt (fun c u F h => res1_lt h) _ _ _ h
  · exact res1_lt h
theorem results_eq (fn : Func) (tmps : Array Value) : results fn tmps = (do
    let vs ← fn.results.mapM fun (v : ResultVar) => (match v with | .tmp t => (pure (tmps.getD t undef) : Sem Value) | .cell b t => do loadVar t (← asAddr (tmps.getD b undef)))
    pure (if h : vs.size = 1 then vs[0] else .tuple vs)) := by
  unfold results
  congr 1
theorem body_post (hT : TbOk P tb) {fn : Func} {r : AV} {Rp : Ending → World → Prop} (hRp : ∀ v w' F, Res3 tb w' r v F → F.Nodup → (∀ g ∈ F, base ≤ g ∧ g < w'.heap.size) → Below base w0 w' → Rp (.returned v) w') : QOk tb base w0 n (bodyQ fn tb r) (bodyPost P fn Rp) := by
  have key : ∀ (s : St) (a : Act) (w : World), resVals tb s.env fn.results.toList s.heap (fun vs _ => oneOr vs = r) → Stands tb base w0 n s a w → a.defers = [] ∧ ∃ v, (results fn a.tmps).run P w = .ok v w ∧ Rp (.returned v) w := by
    intro s a w hq hS
    obtain ⟨hv, L, X, S⟩ := hS
    obtain ⟨vs, us, h', hv', L', F, k1, q1, q2, q3, q4, q5, _, _⟩ := resVals_sound (a := a) (P := P) (env := s.env) hT fn.results.toList s.heap hv L 0 S hq
    have hlt : ∀ g ∈ F, base ≤ g ∧ g < w.heap.size := by
      intro g hg
      refine ⟨(q5.2 g hg).1, ?_⟩
      exact resL_lt (fun c u F h => res2_lt h) _ _ _ q4 g hg
    refine ⟨S.defers, (if h : us.toArray.size = 1 then us.toArray[0] else .tuple us.toArray), ?_, ?_⟩
    · rw [results_eq, Sem.run_bind]
      have : (fn.results.mapM fun (v : ResultVar) => (match v with | .tmp t => (pure (a.tmps.getD t undef) : Sem Value) | .cell b t => do loadVar t (← asAddr (a.tmps.getD b undef)))).run P w = .ok us.toArray w := by
        rw [Array.mapM_eq_mapM_toList, Sem.run_map, q2]
        rfl
      rw [this]
      rfl
    · refine hRp _ _ F ?_ q5.1 hlt S.below
      rw [← q1]
      match vs, us, q3, q4 with
      | [c], [u], _, q4 =>
        obtain ⟨F0, F1, rfl, h0, h1⟩ := q4
        have h1 : F1 = [] := h1
        subst h1
        rw [List.append_nil]
        show Res3 tb w c u F0
        cases c <;> first | exact h0 | exact h0.elim
      | [], [], _, q4 => exact ⟨[], rfl, q4⟩
      | c :: c' :: cs, u :: u' :: us, _, q4 =>
        have hne : ¬ (u :: u' :: us).toArray.size = 1 := by simp
        rw [dif_neg hne]
        exact ⟨_, rfl, q4⟩
      | [c], u :: u' :: us, h, _ => simp at h
      | c :: c' :: cs, [u], h, _ => simp at h
      | [], _ :: _, h, _ => simp at h
      | _ :: _, [], h, _ => simp at h
  intro e s a w hq hS
  cases e with
  | normal => exact key s a w hq hS
  | ret => exact key s a w hq hS
  | _ => exact hq.elim
end
end Go.Ev
namespace Go.Ev
set_option linter.unusedVariables false
set_option linter.unusedSimpArgs false
open Go.RowKit

section
variable {P : Program} {tb : Nat → Ti} {R : Nat → List AV → AV → Prop} {base n : Nat} {w0 : World} {n0 : Nat} {s : St} {env : Nat → AV} {h h' h2 : Heap} {a : Act} {w w' : World} {hv hv' hv2 : Nat → Value} {L L' L2 : Nat → Option Lb} {X : Nat → Prop}
theorem Src.eq_iff {a b : Src} (h : a.eq b = true) : a = b := by
  cases a <;> cases b <;> simp [Src.eq] at h <;> simp_all
theorem Src.eq_refl (a : Src) : a.eq a = true := by cases a <;> simp [Src.eq]
theorem memS_pos : ∀ {l : List Src} {x : Src}, memS x l = true → l[posS x l]? = some x
  | [], _, h => by cases h
  | y :: l, x, h => by
    have h' : (bif x.eq y then true else memS x l) = true := h
    show (y :: l)[(bif x.eq y then 0 else posS x l + 1)]? = some x
    cases he : x.eq y with
    | true => simp [Src.eq_iff he]
    | false =>
      rw [he] at h'
      simpa using memS_pos h'
theorem memS_of_get : ∀ {l : List Src} {k : Nat} {x : Src}, l[k]? = some x → memS x l = true
  | [], _, _, h => by simp at h
  | y :: l, k, x, h => by
    show (bif x.eq y then true else memS x l) = true
    cases he : x.eq y with
    | true => rfl
    | false =>
      cases k with
      | zero => simp at h; subst h; rw [Src.eq_refl] at he; cases he
      | succ k => exact memS_of_get (by simpa using h)
theorem mapI_get {α β : Type} (f : Nat → α → β) : ∀ (l : List α) (k i : Nat), (mapI f l k)[i]? = (l[i]?).map (f (k + i))
  | [], _, _ => by simp [mapI]
  | a :: l, k, i => by
    show (f k a :: mapI f l (k + 1))[i]? = _
    cases i with
    | zero => simp
    | succ i => simp [mapI_get f l (k + 1) i, show k + 1 + i = k + (i + 1) by omega]
theorem renC_get (ids : List Src) (id : Nat) : ∀ (cs : List AV) (k i : Nat), (renC tb h ids id cs k)[i]? = (cs[i]?).map (renAt tb h ids (.nilB id (k + i)))
  | [], _, _ => by simp [renC]
  | a :: l, k, i => by
    show (renAt tb h ids (.nilB id k) a :: renC tb h ids id l (k + 1))[i]? = _
    cases i with
    | zero => simp
    | succ i => simp [renC_get ids id l (k + 1) i, show k + 1 + i = k + (i + 1) by omega]
theorem renC_len (ids : List Src) (id : Nat) : ∀ (cs : List AV) (k : Nat), (renC tb h ids id cs k).length = cs.length
  | [], _ => rfl
  | a :: l, k => by
    show (renAt tb h ids (.nilB id k) a :: renC tb h ids id l (k + 1)).length = _
    simp [renC_len ids id l (k + 1)]
theorem asl_get (f : Nat → AV) : ∀ (lv : List Nat) (i : Nat), asl (mapR (fun t => (t, f t)) lv) i = f i ∨ asl (mapR (fun t => (t, f t)) lv) i = .junk
  | [], _ => .inr rfl
  | t :: lv, i => by
    show (bif Nat.beq i t then f t else asl (mapR (fun t => (t, f t)) lv) i) = f i ∨ (bif Nat.beq i t then f t else asl (mapR (fun t => (t, f t)) lv) i) = .junk
    cases hb : Nat.beq i t with
    | true => left; rw [Nat.eq_of_beq_eq_true hb]; rfl
    | false => exact asl_get f lv i
/-- the memory behind the new numbers -/
noncomputable def hvN (s : St) (ids : List Src) (hv : Nat → Value) (k : Nat) : Value := match ids[k]? with
  | some (.old id) => if posS (.old id) ids = k then (match s.heap id with | some .dead => .nilFunc | none => .nilFunc | _ => hv id) else .nilFunc
  | some x => if posS x ids = k then .slice none 0 0 else .nilFunc
  | none => .nilFunc
noncomputable def LN (ids : List Src) (L : Nat → Option Lb) (g : Nat) : Option Lb := match L g with
  | some (.own id j) => if memS (.old id) ids = true then some (.own (posS (.old id) ids) j) else none
  | l => l
theorem hvN_blk {s : St} {ids : List Src} {k g : Nat} (h : blkOf (hvN s ids hv k) = some g) : ∃ id, ids[k]? = some (.old id) ∧ posS (.old id) ids = k ∧ blkOf (hv id) = some g := by
  unfold hvN at h
  split at h
  · rename_i id hid
    split at h
    · rename_i hp
      split at h
      · cases h
      · cases h
      · exact ⟨id, hid, hp, h⟩
    · cases h
  · split at h <;> cases h
  · cases h
theorem lenN_mul {len sz : Nat} (h : sz ≠ 0) : lenN (len * sz) sz = len := by
  unfold lenN
  split
  · simp
  · exact Nat.mul_div_cancel len (Nat.pos_of_ne_zero h)
theorem owns_one {b e z m : Nat} {u : Value} {us : List Value} (ho : w.ownsRow b e z u m us) : u.oneCell' = true := by
  rcases ho.2 with q | ⟨g, cap, cur, q, _⟩
  · rw [q.1]; rfl
  · rw [q]; rfl
theorem Stands.canon (S : Stands tb base w0 n s a w) (lv : List Nat) : Stands tb base w0 n (Ev.canon tb lv s) a w := by
  obtain ⟨hv, L, X, S⟩ := S
  unfold Ev.canon
  generalize idsB s.heap (idsB s.heap (collect lv s) (collect lv s)) (idsB s.heap (collect lv s) (collect lv s)) = ids
  have heap' : ∀ k, (rename tb lv ids s).heap k = (ids[k]?).map (renK tb s ids k) := fun k => by
    show hp (mapI (renK tb s ids) ids 0) k = _
    unfold hp
    rw [nth_eq, mapI_get, Nat.zero_add]
  have okA : ∀ g, Ok hv w X g → Ok (hvN s ids hv) w X g := fun g hg => ⟨hg.1, fun k hk => by
    obtain ⟨id, _, _, hb⟩ := hvN_blk hk
    exact hg.2.1 id hb, hg.2.2⟩
  have hold : ∀ id b, memS (.old id) ids = true → s.heap id = some b → b ≠ .dead → (rename tb lv ids s).heap (posS (.old id) ids) = some (renB tb s ids (.old id)) ∧ hvN s ids hv (posS (.old id) ids) = hv id := by
    intro id b hm hb hd
    have hp := memS_pos hm
    refine ⟨by rw [heap', hp]; simp [renK, Nat.beq_refl], ?_⟩
    unfold hvN
    rw [hp]
    simp only [if_true, hb]
    cases b <;> first | rfl | exact absurd rfl hd
  have hnil : ∀ x, (∀ id, x ≠ .old id) → memS x ids = true → (rename tb lv ids s).heap (posS x ids) = some (renB tb s ids x) ∧ hvN s ids hv (posS x ids) = .slice none 0 0 := by
    intro x hx hm
    have hp := memS_pos hm
    refine ⟨by rw [heap', hp]; simp [renK, Nat.beq_refl], ?_⟩
    unfold hvN
    rw [hp]
    cases x with
    | old id => exact absurd rfl (hx id)
    | nilT t => simp
    | nilB id j => simp
  have refR : ∀ (v : AV) (u : Value) (F : List Nat), VRel tb s.heap hv X w v u F → VRel tb (rename tb lv ids s).heap (hvN s ids hv) X w (renRef tb s.heap ids v) u [] := by
    intro v u F r
    have up : ∀ {c : AV} {u : Value} {F : List Nat}, Rel tb noLeaf (Ok hv w X) w c u F → Rel tb noLeaf (Ok (hvN s ids hv) w X) w c u F := fun r => r.imp (fun _ _ h => h) okA (fun _ _ => rfl)
    cases r with
    | junk v => exact .junk _
    | undef => exact .undef
    | int k n => exact .int _ _
    | bool b => exact .bool _
    | str s => exact .str _
    | nils e => exact .nils _
    | leaf hl =>
      cases v with
      | ref id gen full off len =>
        simp only [renRef]
        split
        · rename_i e g b cs hid
          split
          · rename_i hb
            simp only [Bool.and_eq_true] at hb
            have hg := Nat.eq_of_beq_eq_true hb.1
            subst hg
            obtain ⟨q1, q2⟩ := hold id _ hb.2 hid (by simp)
            obtain ⟨b1, e1, e0, e2⟩ := hl
            rw [hid] at e1
            injection e1 with e1
            obtain ⟨_, e3⟩ := e2 _ _ _ _ e1.symm
            have hsz : (tb e).sz ≠ 0 := by
              obtain ⟨m, us, _, hl, _⟩ := S.blks id _ hid
              exact hl.2
            cases full with
            | true =>
              have hlen : lenN cs.length (tb e).sz = len ∧ off = 0 := by
                obtain ⟨A, cap, N, CAP, _, _, _, h7, _⟩ := e3 rfl
                obtain ⟨h8, _, h9⟩ := h7 rfl
                exact ⟨by rw [← h9]; exact lenN_mul hsz, h8⟩
              obtain ⟨hlen, rfl⟩ := hlen
              show VRel tb (rename tb lv ids s).heap (hvN s ids hv) X w (.ref (posS (.old id) ids) 0 true 0 (lenN cs.length (tb e).sz)) u []
              rw [hlen]
              refine .leaf ⟨_, q1, e0, fun e' g' bb' cs' hb' => ?_⟩
              simp only [renB, hid] at hb'
              injection hb' with w1 w2 w3 w4
              subst w1 w2 w3 w4
              refine ⟨Nat.le_refl _, fun _ => ?_⟩
              rw [q2]
              exact e3 rfl
            | false =>
              refine .leaf ⟨_, q1, e0, fun e' g' bb' cs' hb' => ?_⟩
              simp only [renB, hid] at hb'
              injection hb' with w1 w2 w3 w4
              subst w1 w2 w3 w4
              refine ⟨Nat.le_refl _, fun _ => ?_⟩
              rw [q2]
              exact e3 rfl
          · exact .junk _
        · exact .junk _
      | ptr id off =>
        simp only [renRef]
        split
        · rename_i t cs hid
          split
          · rename_i hb
            obtain ⟨q1, q2⟩ := hold id _ hb hid (by simp)
            obtain ⟨t1, cs1, g, e1, e2, e3⟩ := hl
            simp only [renB, hid] at q1
            exact .leaf ⟨_, _, g, q1, q2.trans e2, e3⟩
          · exact .junk _
        · exact .junk _
      | map id =>
        simp only [renRef]
        split
        · rename_i t es hid
          split
          · rename_i hb
            obtain ⟨q1, q2⟩ := hold id _ hb hid (by simp)
            obtain ⟨t1, cs1, g, e1, e2, e3⟩ := hl
            simp only [renB, hid] at q1
            exact .leaf ⟨_, _, g, q1, q2.trans e2, e3⟩
          · exact .junk _
        · exact .junk _
      | eptr id gen off => exact .junk _
      | xr id => exact .junk _
      | _ => exact hl.elim
    | lit n cap cs Ad us Fs hn hz hl hc hA h1 hr => exact .lit n cap cs Ad us Fs hn hz hl hc (fun ad e hne => okA _ (hA ad e hne)) h1 (fun j c u hc hu => up (hr j c u hc hu))
    | own e n cs v us Fs F ho hl hA h1' hr hF hN =>
      have := Rel.view noOwn_leaf (Rel.own (lf := Leaf tb (rename tb lv ids s).heap (hvN s ids hv)) (A := Ok (hvN s ids hv) w X) e n cs u us Fs F ho hl (fun g hg => okA _ (hA g hg)) h1' (fun j c u hc hu => (hr j c u hc hu).imp (fun _ _ h => h) (fun g hg => ⟨okA g hg.1, hg.2⟩) (fun _ _ => rfl)) hF hN) (owns_one ho)
      exact this
    | tptr cs off ad us Fs hl hc hA h1 hr => exact .tptr cs off ad us Fs hl hc (fun hne => okA _ (hA hne)) h1 (fun j c u hc hu => up (hr j c u hc hu))
    | agg cs us Fs F hl h1' hr hF hN => exact .junk _
    | tup cs us Fs F hl hr hF hN => exact .junk _
    | fn f cs us Fs hl hr => exact .junk _
  have atR : ∀ (v : AV) (u : Value) (F : List Nat) (src : Src), VRel tb s.heap hv X w v u F → (∀ id, src ≠ .old id) → (∀ e, v = .nils e → renB tb s ids src = nilRow tb (some (.nils e))) → VRel tb (rename tb lv ids s).heap (hvN s ids hv) X w (renAt tb s.heap ids src v) u [] := by
    intro v u F src r hsrc hn
    cases v with
    | nils e =>
      have hu := r.nils_inv
      subst hu
      simp only [renAt]
      split
      · rename_i hb
        simp only [Bool.and_eq_true] at hb
        obtain ⟨q1, q2⟩ := hnil src hsrc hb.1
        rw [hn e rfl] at q1
        simp only [nilRow, hb.2] at q1
        refine .leaf ⟨_, q1, ⟨none, 0, rfl⟩, fun e' g' bb' cs' hb' => ?_⟩
        injection hb' with w1 w2 w3 w4
        subst w1 w2 w3 w4
        refine ⟨Nat.le_refl _, fun _ => ⟨none, 0, 0, 0, q2, rfl, by simp, fun _ => ⟨rfl, q2.symm, by simp⟩, by simp, Nat.le_refl _⟩⟩
      · exact .junk _
    | fn f caps =>
      simp only [renAt, mapR_eq]
      cases r with
      | leaf hl => exact hl.elim
      | fn f cs us Fs hl hr =>
        refine .fn f _ us (fun _ => []) (by simp [hl]) fun j c u hc hu => ?_
        rw [List.getElem?_map] at hc
        cases hj : caps[j]? with
        | none => rw [hj] at hc; cases hc
        | some c0 => rw [hj] at hc; cases hc; exact refR _ _ _ (hr j _ _ hj hu)
    | agg cs =>
      simp only [renAt, mapR_eq]
      cases r with
      | leaf hl => exact hl.elim
      | agg cs us Fs F hl h1 hr hF hN =>
        refine .agg _ us (fun _ => []) _ (by simp [hl]) h1 (fun j c u hc hu => ?_) (by simp) (by simp)
        rw [List.getElem?_map] at hc
        cases hj : cs[j]? with
        | none => rw [hj] at hc; cases hc
        | some c0 => rw [hj] at hc; cases hc; exact refR _ _ _ (hr j _ _ hj hu)
    | _ => exact refR _ _ _ r
  refine ⟨hvN s ids hv, LN ids L, X, S.below, S.size, S.defers, S.tmps, fun t => ?_, fun k b hb => ?_, fun k g hg => ?_, fun k hk => ?_, S.xlt⟩
  · show ∃ F, Rel tb (Leaf tb (rename tb lv ids s).heap (hvN s ids hv)) (Ok (hvN s ids hv) w X) w (asl (mapR (fun t => (t, renAt tb s.heap ids (.nilT t) (s.env t))) lv) t) (a.tmps.getD t undef) F
    rcases asl_get (fun t => renAt tb s.heap ids (.nilT t) (s.env t)) lv t with e | e
    · rw [e]
      obtain ⟨F, r⟩ := S.vals t
      exact ⟨_, atR _ _ _ (.nilT t) r (fun id h => by cases h) (fun e he => by simp only [renB, he])⟩
    · rw [e]; exact ⟨[], .junk _⟩
  · rw [heap'] at hb
    cases hx : ids[k]? with
    | none => rw [hx] at hb; cases hb
    | some x =>
      rw [hx] at hb
      simp only [Option.map_some, Option.some.injEq] at hb
      by_cases hp : posS x ids = k
      · have hb' : renB tb s ids x = b := by rw [← hb]; simp [renK, hp, Nat.beq_refl]
        have nilCase : ∀ v, (∀ id, x ≠ .old id) → renB tb s ids x = nilRow tb v → BlkR tb base (rename tb lv ids s).heap (hvN s ids hv) (LN ids L) X w k b := by
          intro v hold' hv'
          have q2 : hvN s ids hv k = .slice none 0 0 := by
            unfold hvN
            rw [hx]
            cases x with
            | old id => exact absurd rfl (hold' id)
            | nilT t => simp [hp]
            | nilB id j => simp [hp]
          rw [hv'] at hb'
          unfold nilRow at hb'
          split at hb'
          · rename_i e
            split at hb'
            · rename_i hz
              subst hb'
              have hz' := Nat.blt_eq ▸ hz
              refine ⟨0, [], by rw [q2]; exact World.ownsRow_nil w base e (tb e).sz, ⟨rfl, by omega⟩, by simp, fun j c u hc hu => by simp at hc⟩
            · subst hb'
              show blkOf (hvN s ids hv k) = none
              rw [q2]; rfl
          · subst hb'
            show blkOf (hvN s ids hv k) = none
            rw [q2]; rfl
        cases x with
        | nilT t => exact nilCase (some (s.env t)) (fun id h => by cases h) rfl
        | nilB id j =>
          cases hid : s.heap id with
          | none => exact nilCase none (fun id h => by cases h) (by simp [renB, hid, nilRow])
          | some bb =>
            cases bb with
            | box t cs => exact nilCase (nth cs j) (fun id h => by cases h) (by simp [renB, hid])
            | _ => exact nilCase none (fun id h => by cases h) (by simp [renB, hid, nilRow])
        | old id =>
          have hm : memS (.old id) ids = true := memS_of_get hx
          cases hid : s.heap id with
          | none =>
            simp only [renB, hid] at hb'
            subst hb'
            show blkOf (hvN s ids hv k) = none
            simp [hvN, hx, hid, blkOf]
          | some bb =>
            have hB := S.blks id bb hid
            cases bb with
            | dead =>
              simp only [renB, hid] at hb'
              subst hb'
              show blkOf (hvN s ids hv k) = none
              simp [hvN, hx, hid, blkOf]
            | row e g bb cs =>
              obtain ⟨q1, q2⟩ := hold id _ hm hid (by simp)
              rw [hp] at q1 q2
              simp only [renB, hid] at hb'
              subst hb'
              obtain ⟨m, us, ho, hl, h1, hr⟩ := hB
              refine ⟨m, us, by rw [q2]; exact ho, hl, h1, fun j c u hc hu => ?_⟩
              obtain ⟨F, r, hN, hF⟩ := hr j c u hc hu
              refine ⟨F, r.imp (fun _ _ h => h) (fun g hg => ⟨okA g hg.1, hg.2⟩) (fun _ _ => rfl), hN, fun g hg => ⟨?_, (hF g hg).2⟩⟩
              simp only [LN, (hF g hg).1, hm, if_true, hp]
            | box t cs =>
              obtain ⟨q1, q2⟩ := hold id _ hm hid (by simp)
              rw [hp] at q1 q2
              simp only [renB, hid] at hb'
              subst hb'
              obtain ⟨g, us, e1, e2, hl, h1, hr⟩ := hB
              refine ⟨g, us, q2.trans e1, e2, ?_, h1, fun j c u hc hu => ?_⟩
              · rw [hl]; exact (renC_len ids id cs 0).symm
              · rw [renC_get, Nat.zero_add] at hc
                cases hj : cs[j]? with
                | none => rw [hj] at hc; cases hc
                | some c0 =>
                  rw [hj] at hc
                  cases hc
                  obtain ⟨F, r⟩ := hr j _ _ hj hu
                  exact ⟨_, atR _ _ _ (.nilB id j) r (fun id h => by cases h) (fun e he => by simp only [renB, hid, nth_eq, hj, he])⟩
            | mp t es =>
              obtain ⟨q1, q2⟩ := hold id _ hm hid (by simp)
              rw [hp] at q1 q2
              simp only [renB, hid] at hb'
              subst hb'
              obtain ⟨g, ents, clock, e1, e2, hl, hr⟩ := hB
              exact ⟨g, ents, clock, q2.trans e1, e2, hl, hr⟩
            | ext m cs =>
              simp only [renB, hid] at hb'
              subst hb'
              obtain ⟨v, k1, _⟩ := hB
              show blkOf (hvN s ids hv k) = none
              simp [hvN, hx, hid, hp, k1, blkOf]
      · have hb' : b = .dead := by rw [← hb]; simp [renK, beq_ne hp]
        subst hb'
        show blkOf (hvN s ids hv k) = none
        cases hbk : blkOf (hvN s ids hv k) with
        | none => rfl
        | some g =>
          obtain ⟨id, h1, h2, _⟩ := hvN_blk hbk
          rw [hx] at h1
          cases h1
          exact absurd h2 hp
  · obtain ⟨id, h1, h2, h3⟩ := hvN_blk hg
    obtain ⟨l1, l2⟩ := S.lab id g h3
    refine ⟨?_, l2⟩
    simp only [LN, l1, memS_of_get h1, if_true, h2]
  · rw [heap'] at hk
    have : ids[k]? = none := by cases hx : ids[k]? with | none => rfl | some x => rw [hx] at hk; cases hk
    simp [hvN, this, blkOf]
end
end Go.Ev
namespace Go.Ev
set_option linter.unusedVariables false
set_option linter.unusedSimpArgs false

/-! an operation reads what it reads: a larger heap gives the same -/
def Sub (h h' : Heap) : Prop := ∀ i b, h i = some b → h' i = some b
def Fr (d : Option Nat) (h h' : Heap) : Prop := ∀ k, k < 16 → h (tag d k) = none → h' (tag d k) = none
def puts (ps : List (Nat × Blk)) (h : Heap) : Heap := ps.foldl (fun h p => h.put p.1 p.2) h
def PDet {α : Type} (F : (α → Prop) → Prop) : Prop := ∀ K, F K → ∃ v, K v ∧ ∀ K', K' v → F K'
def RDet {α : Type} (F : Heap → (α → Prop) → Prop) : Prop := ∀ h K, F h K → ∃ v, K v ∧ ∀ h' K', Sub h h' → K' v → F h' K'
def Det (C : Blk → Bool) {α : Type} (d : Option Nat) (F : Heap → (α → Heap → Prop) → Prop) : Prop := ∀ h K, F h K → ∃ v ps, K v (puts ps h) ∧ (∀ p ∈ ps, (h p.1 = none ∧ ∃ k, k < 16 ∧ p.1 = tag d k) ∨ ∃ b, h p.1 = some b ∧ C b = true) ∧ ∀ h' K', Sub h h' → Fr d h h' → K' v (puts ps h') → F h' K'
theorem put_at (h : Heap) (id : Nat) (b : Blk) (i : Nat) : h.put id b i = if i = id then some b else h i := by
  by_cases e : i = id
  · subst e; rw [if_pos rfl, put_same]
  · rw [if_neg e, put_other h b e]
theorem Sub.put {h h' : Heap} (hs : Sub h h') (id : Nat) (b : Blk) : Sub (h.put id b) (h'.put id b) := fun i c hc => by
  rw [put_at] at hc ⊢
  split <;> rename_i e
  · rw [if_pos e] at hc; exact hc
  · rw [if_neg e] at hc; exact hs _ _ hc
theorem Sub.puts {h h' : Heap} (hs : Sub h h') : ∀ (ps : List (Nat × Blk)), Sub (puts ps h) (puts ps h')
  | [] => hs
  | p :: ps => Sub.puts (hs.put p.1 p.2) ps
theorem Fr.put {d : Option Nat} {h h' : Heap} (hf : Fr d h h') (id : Nat) (b : Blk) : Fr d (h.put id b) (h'.put id b) := fun k hk hc => by
  rw [put_at] at hc ⊢
  split <;> rename_i e
  · rw [if_pos e] at hc; cases hc
  · rw [if_neg e] at hc; exact hf k hk hc
theorem Fr.puts {d : Option Nat} {h h' : Heap} (hf : Fr d h h') : ∀ (ps : List (Nat × Blk)), Fr d (puts ps h) (puts ps h')
  | [] => hf
  | p :: ps => Fr.puts (hf.put p.1 p.2) ps
theorem puts_append (ps qs : List (Nat × Blk)) (h : Heap) : puts (ps ++ qs) h = puts qs (puts ps h) := List.foldl_append ..
theorem puts_none : ∀ {ps : List (Nat × Blk)} {h : Heap} {i : Nat}, puts ps h i = none → h i = none
  | [], h, i, hi => hi
  | p :: ps, h, i, hi => by
    have : h.put p.1 p.2 i = none := puts_none (ps := ps) hi
    rw [put_at] at this
    split at this
    · cases this
    · exact this
theorem puts_other : ∀ {ps : List (Nat × Blk)} {h : Heap} {i : Nat}, (∀ p ∈ ps, p.1 ≠ i) → puts ps h i = h i
  | [], h, i, _ => rfl
  | p :: ps, h, i, hi => by
    have := puts_other (ps := ps) (h := h.put p.1 p.2) (fun q hq => hi q (List.mem_cons_of_mem _ hq))
    exact this.trans (put_other h p.2 (fun e => hi p List.mem_cons_self e.symm))
section
variable {C : Blk → Bool} {α β : Type} {d : Option Nat}
theorem PDet.r {F : (α → Prop) → Prop} (h : PDet F) : RDet (fun _ => F) := fun hp K hK => by
  obtain ⟨v, h1, h2⟩ := h K hK
  exact ⟨v, h1, fun h' K' _ hk => h2 K' hk⟩
theorem RDet.det {F : Heap → (α → Prop) → Prop} (h : RDet F) : Det C d (fun hp K => F hp fun v => K v hp) := fun hp K hK => by
  obtain ⟨v, h1, h2⟩ := h hp _ hK
  exact ⟨v, [], h1, (by simp), fun h' K' hs _ hk => h2 h' _ hs hk⟩
theorem Det.ret (v : α) : Det C d (fun hp K => K v hp) := fun hp K hK => ⟨v, [], hK, by simp, fun h' K' _ _ hk => hk⟩
theorem Det.bind {F : Heap → (α → Heap → Prop) → Prop} {G : α → Heap → (β → Heap → Prop) → Prop} (hF : Det C d F) (hG : ∀ v, Det C d (G v)) : Det C d (fun hp K => F hp fun v h1 => G v h1 K) := fun hp K hK => by
  obtain ⟨v, ps, h1, h2, h3⟩ := hF hp _ hK
  obtain ⟨v2, qs, k1, k2, k3⟩ := hG v _ _ h1
  refine ⟨v2, ps ++ qs, by rw [puts_append]; exact k1, fun p hp => ?_, fun h' K' hs hf hk => ?_⟩
  · rcases List.mem_append.1 hp with hp | hp
    · exact h2 p hp
    · rcases k2 p hp with h | h
      · exact .inl ⟨puts_none h.1, h.2⟩
      · by_cases hq : ∃ q ∈ ps, q.1 = p.1
        · obtain ⟨q, hq, e⟩ := hq
          rw [← e]; exact h2 q hq
        · obtain ⟨b, hb, hc⟩ := h
          rw [puts_other (fun q hq' e => hq ⟨q, hq', e⟩)] at hb
          exact .inr ⟨b, hb, hc⟩
  · refine h3 h' _ hs hf (k3 _ _ (hs.puts ps) (hf.puts ps) ?_)
    rw [puts_append] at hk
    exact hk
theorem Det.map {F : Heap → (α → Heap → Prop) → Prop} (f : α → β) (hF : Det C d F) : Det C d (fun hp K => F hp fun v h1 => K (f v) h1) := hF.bind fun v => Det.ret (f v)
theorem Det.and {A : Prop} {F : Heap → (α → Heap → Prop) → Prop} (hF : Det C d F) : Det C d (fun hp K => A ∧ F hp K) := fun hp K hK => by
  obtain ⟨v, ps, h1, h2, h3⟩ := hF hp K hK.2
  exact ⟨v, ps, h1, h2, fun h' K' hs hf hk => ⟨hK.1, h3 h' K' hs hf hk⟩⟩
theorem Det.false : Det C (α := α) d (fun _ _ => False) := fun _ _ h => h.elim
theorem RDet.false : RDet (α := α) (fun _ _ => False) := fun _ _ h => h.elim
theorem PDet.false : PDet (α := α) (fun _ => False) := fun _ h => h.elim
theorem PDet.ret (v : α) : PDet (fun K => K v) := fun _ h => ⟨v, h, fun _ h => h⟩
theorem PDet.and {A : Prop} {F : (α → Prop) → Prop} (hF : PDet F) : PDet (fun K => A ∧ F K) := fun K hK => by
  obtain ⟨v, h1, h2⟩ := hF K hK.2
  exact ⟨v, h1, fun K' hk => ⟨hK.1, h2 K' hk⟩⟩
theorem PDet.ex {γ : Type} {F : γ → (α → Prop) → Prop} (hF : ∀ c, PDet (F c)) : PDet (fun K => ∃ c, F c K) := fun K ⟨c, hK⟩ => by
  obtain ⟨v, h1, h2⟩ := hF c K hK
  exact ⟨v, h1, fun K' hk => ⟨c, h2 K' hk⟩⟩
theorem PDet.map {F : (α → Prop) → Prop} (f : α → β) (hF : PDet F) : PDet (fun K => F fun v => K (f v)) := fun K hK => by
  obtain ⟨v, h1, h2⟩ := hF _ hK
  exact ⟨f v, h1, fun K' hk => h2 _ hk⟩
theorem RDet.and {A : Prop} {F : Heap → (α → Prop) → Prop} (hF : RDet F) : RDet (fun h K => A ∧ F h K) := fun h K hK => by
  obtain ⟨v, h1, h2⟩ := hF h K hK.2
  exact ⟨v, h1, fun h' K' hs hk => ⟨hK.1, h2 h' K' hs hk⟩⟩
/-- reading a block -/
theorem RDet.blk (id : Nat) {G : Option Blk → (α → Prop) → Prop} (hn : ∀ K, ¬ G none K) (hG : ∀ b, PDet (G (some b))) : RDet (fun h K => G (h id) K) := fun h K hK => by
  have hK : G (h id) K := hK
  cases hb : h id with
  | none => rw [hb] at hK; exact (hn K hK).elim
  | some b =>
    rw [hb] at hK
    obtain ⟨v, h1, h2⟩ := hG b K hK
    exact ⟨v, h1, fun h' K' hs hk => by show G (h' id) K'; rw [hs id b hb]; exact h2 K' hk⟩
theorem Det.blk (id : Nat) {G : Option Blk → Heap → (α → Heap → Prop) → Prop} (hn : ∀ h K, ¬ G none h K) (hG : ∀ b, Det C d (fun h K => h id = some b ∧ G (some b) h K)) : Det C d (fun h K => G (h id) h K) := fun h K hK => by
  have hK : G (h id) h K := hK
  cases hb : h id with
  | none => rw [hb] at hK; exact (hn h K hK).elim
  | some b =>
    rw [hb] at hK
    obtain ⟨v, ps, h1, h2, h3⟩ := hG b h K ⟨hb, hK⟩
    exact ⟨v, ps, h1, h2, fun h' K' hs hf hk => by show G (h' id) h' K'; rw [hs id b hb]; exact (h3 h' K' hs hf hk).2⟩
theorem Det.put {id : Nat} {b0 b : Blk} (hc : C b0 = true) (v : α) : Det C d (fun h K => h id = some b0 ∧ K v (h.put id b)) := fun h K hK => by
  refine ⟨v, [(id, b)], hK.2, fun p hp => ?_, fun h' K' hs _ hk => ⟨hs _ _ hK.1, hk⟩⟩
  simp at hp
  subst hp
  exact .inr ⟨b0, hK.1, hc⟩
theorem Det.keep {id : Nat} {b : Blk} {F : Heap → (α → Heap → Prop) → Prop} (hF : Det C d F) : Det C d (fun h K => h id = some b ∧ F h K) := fun h K hK => by
  obtain ⟨v, ps, h1, h2, h3⟩ := hF h K hK.2
  exact ⟨v, ps, h1, h2, fun h' K' hs hf hk => ⟨hs _ _ hK.1, h3 h' K' hs hf hk⟩⟩
theorem Det.newB (j : Nat) (b : Blk) (v : AV) : Det C d (fun h K => newB d j b h K v) := fun h K hK => by
  unfold Ev.newB at hK
  split at hK
  · rename_i hj
    split at hK
    · rename_i hn
      have hj' : j < 16 := Nat.blt_eq ▸ hj
      refine ⟨v, [(tag d j, b)], hK, fun p hp => ?_, fun h' K' hs hf hk => ?_⟩
      · simp at hp; subst hp; exact .inl ⟨hn, j, hj', rfl⟩
      · unfold Ev.newB
        simp only [hj, hf j hj' hn]
        exact hk
    · exact hK.elim
  · exact hK.elim
end
end Go.Ev
namespace Go.Ev
set_option linter.unusedVariables false
set_option linter.unusedSimpArgs false

section
variable {C : Blk → Bool} {α β : Type} {d : Option Nat} {tb : Nat → Ti} {R : Nat → List AV → AV → Prop}
theorem Det.iff {F G : Heap → (α → Heap → Prop) → Prop} (hF : Det C d F) (h : ∀ hp K, F hp K ↔ G hp K) : Det C d G := by
  have : F = G := funext fun hp => funext fun K => propext (h hp K)
  exact this ▸ hF
theorem Det.ex {γ : Type} {F : γ → Heap → (α → Heap → Prop) → Prop} (hF : ∀ c, Det C d (F c)) : Det C d (fun h K => ∃ c, F c h K) := fun h K ⟨c, hK⟩ => by
  obtain ⟨v, ps, h1, h2, h3⟩ := hF c h K hK
  exact ⟨v, ps, h1, h2, fun h' K' hs hf hk => ⟨c, h3 h' K' hs hf hk⟩⟩
theorem Det.putC {id : Nat} {b0 b : Blk} {A : Prop} (hc : C b0 = true) (v : α) : Det C d (fun h K => h id = some b0 ∧ A ∧ K v (h.put id b)) :=
  (Det.and (A := A) (Det.put (id := id) (b0 := b0) (b := b) hc v)).iff fun h K => ⟨fun ⟨a, b, c⟩ => ⟨b, a, c⟩, fun ⟨a, b, c⟩ => ⟨b, a, c⟩⟩
theorem Det.putBind {id : Nat} {b0 b : Blk} (hc : C b0 = true) {G : Heap → (β → Heap → Prop) → Prop} (hG : Det C d G) : Det C d (fun h K => h id = some b0 ∧ G (h.put id b) K) :=
  (Det.put (id := id) (b0 := b0) (b := b) hc ()).bind (G := fun _ => G) fun _ => hG
theorem Det.putBindC {id : Nat} {b0 b : Blk} {A : Prop} (hc : C b0 = true) {G : Heap → (β → Heap → Prop) → Prop} (hG : Det C d G) : Det C d (fun h K => h id = some b0 ∧ A ∧ G (h.put id b) K) :=
  (Det.and (A := A) (Det.putBind (id := id) (b0 := b0) (b := b) hc hG)).iff fun h K => ⟨fun ⟨a, b, c⟩ => ⟨b, a, c⟩, fun ⟨a, b, c⟩ => ⟨b, a, c⟩⟩
theorem Det.no {id : Nat} {b0 : Blk} : Det C (α := α) d (fun h K => h id = some b0 ∧ False) := fun _ _ h => h.2.elim
theorem Det.lets {x : List AV} {F : List AV → Heap → (α → Heap → Prop) → Prop} (hF : Det C d (F x)) : Det C d (fun h K => Ev.lets x fun y => F y h K) :=
  hF.iff fun h K => ⟨fun hk => ⟨_, rfl, hk⟩, fun ⟨_, e, hk⟩ => e ▸ hk⟩
theorem Det.letsE {A B : Prop} {id : Nat} {x : List AV} {F : List AV → Heap → (α → Heap → Prop) → Prop} {b0 : Blk} (hF : Det C d (fun h K => h id = some b0 ∧ A ∧ F x h K)) : Det C d (fun h K => h id = some b0 ∧ A ∧ Ev.lets x fun y => F y h K) :=
  hF.iff fun h K => ⟨fun ⟨a, b, hk⟩ => ⟨a, b, _, rfl, hk⟩, fun ⟨a, b, _, e, hk⟩ => ⟨a, b, e ▸ hk⟩⟩
theorem readC_p (ti : Ti) (cs : List AV) (off : Nat) : PDet (readC ti cs off) := by
  obtain ⟨sz, bt, agg, flat, zero, k⟩ := ti
  cases sz with
  | zero => exact PDet.false
  | succ n =>
    cases agg with
    | true => exact PDet.ex fun vs => .and (.and (.ret _))
    | false => exact PDet.ex fun vs => .and (.ret _)
theorem absorb1_d (hr : ∀ e g b cs, C (.row e g b cs) = true) (al : Bool) (v : AV) : Det C d (fun h K => absorb1 al v h K) := by
  cases v with
  | int k n => exact Det.ret _
  | bool b => exact Det.ret _
  | str b => exact Det.ret _
  | nils e => exact Det.ret _
  | lit n cs => cases al; exact Det.false; exact Det.ret _
  | ref id gen full off n =>
    cases full with
    | false => exact Det.false
    | true =>
      refine Det.blk id (G := fun b h (K : AV → Heap → Prop) => match b with | some (.row e g false cs) => (match Nat.beq g gen with | true => K (.own e n cs) (h.put id .dead) | false => False) | _ => False) (fun _ _ h => h) fun b => ?_
      cases b with
      | row e g bb cs =>
        cases bb with
        | true => exact Det.no
        | false =>
          show Det C d (fun h (K : AV → Heap → Prop) => h id = some (.row e g false cs) ∧ (match Nat.beq g gen with | true => K (.own e n cs) (h.put id .dead) | false => False))
          cases Nat.beq g gen with
          | true => exact Det.put (hr _ _ _ _) _
          | false => exact Det.no
      | _ => exact Det.no
  | _ => exact Det.false
theorem absorb_d (hr : ∀ e g b cs, C (.row e g b cs) = true) (al : Bool) : ∀ (vs : List AV), Det C d (fun h K => absorb al vs h K)
  | [] => Det.ret _
  | v :: vs => (absorb1_d hr al v).bind fun c => (absorb_d hr al vs).map (c :: ·)
theorem loadA_r (t : Nat) (a : AV) : RDet (fun h K => loadA tb t a h K) := by
  cases a with
  | ptr id off =>
    refine RDet.blk id (G := fun b K => match b with | some (.box _ cs) => readC (tb t) cs off K | _ => False) (fun _ h => h) fun b => ?_
    cases b with
    | box t' cs => exact readC_p _ _ _
    | _ => exact PDet.false
  | eptr id gen off =>
    refine RDet.blk id (G := fun b K => match b with | some (.row _ g _ cs) => (match Nat.beq g gen with | true => readC (tb t) cs off K | false => False) | _ => False) (fun _ h => h) fun b => ?_
    cases b with
    | row e g bb cs =>
      show PDet (fun K => match Nat.beq g gen with | true => readC (tb t) cs off K | false => False)
      cases Nat.beq g gen with
      | true => exact readC_p _ _ _
      | false => exact PDet.false
    | _ => exact PDet.false
  | tptr cs off => exact (readC_p (tb t) cs off).r
  | _ => exact RDet.false
theorem known_d {ti : Ti} {F : Heap → (α → Heap → Prop) → Prop} (hF : Det C d F) : Det C d (fun h K => known ti (F h K)) := by
  obtain ⟨sz, bt, agg, flat, zero, k⟩ := ti
  cases sz with
  | zero => exact Det.false
  | succ n => exact hF
theorem storeA_d (ha : ∀ b, C b = true) (t : Nat) (a x : AV) : Det C d (fun h K => storeA tb t a x h K) := by
  cases a with
  | ptr id off =>
    refine Det.blk id (G := fun b h (K : AV → Heap → Prop) => match b with | some (.box t' cs) => ((cellOk x = true ∧ (cellsOf x).length = (tb t).sz) ∧ off + (tb t).sz ≤ cs.length) ∧ lets (splice cs off (cellsOf x)) fun cs' => K .undef (h.put id (.box t' cs')) | _ => False) (fun _ _ h => h) fun b => ?_
    cases b with
    | box t' cs => exact Det.letsE (B := True) (F := fun y h (K : AV → Heap → Prop) => K .undef (h.put id (.box t' y))) (Det.putC (ha _) _)
    | _ => exact Det.no
  | eptr id gen off =>
    refine Det.blk id (G := fun b h (K : AV → Heap → Prop) => match b with
      | some (.row _ g _ _) => (match Nat.beq g gen with
        | true => absorb true (cellsOf x) h fun vs h => (match h id with
          | some (.row e g b cs) => (cellOk x = true ∧ vs.length = (tb t).sz ∧ off + (tb t).sz ≤ cs.length) ∧ lets (splice cs off vs) fun cs' => K .undef (h.put id (.row e g (b || anyLit vs) cs'))
          | _ => False)
        | false => False)
      | _ => False) (fun _ _ h => h) fun b => ?_
    cases b with
    | row e g bb cs =>
      show Det C d (fun h (K : AV → Heap → Prop) => h id = some (.row e g bb cs) ∧ (match Nat.beq g gen with
        | true => absorb true (cellsOf x) h fun vs h => (match h id with
          | some (.row e g b cs) => (cellOk x = true ∧ vs.length = (tb t).sz ∧ off + (tb t).sz ≤ cs.length) ∧ lets (splice cs off vs) fun cs' => K .undef (h.put id (.row e g (b || anyLit vs) cs'))
          | _ => False)
        | false => False))
      cases Nat.beq g gen with
      | false => exact Det.no
      | true =>
        refine Det.keep ((absorb_d (fun _ _ _ _ => ha _) true (cellsOf x)).bind fun vs => ?_)
        refine Det.blk id (G := fun b h (K : AV → Heap → Prop) => match b with
          | some (.row e g b cs) => (cellOk x = true ∧ vs.length = (tb t).sz ∧ off + (tb t).sz ≤ cs.length) ∧ lets (splice cs off vs) fun cs' => K .undef (h.put id (.row e g (b || anyLit vs) cs'))
          | _ => False) (fun _ _ h => h) fun b => ?_
        cases b with
        | row e g bb cs => exact Det.letsE (B := True) (F := fun y h (K : AV → Heap → Prop) => K .undef (h.put id (.row e g (bb || anyLit vs) y))) (Det.putC (ha _) _)
        | _ => exact Det.no
    | _ => exact Det.no
  | _ => exact Det.false
theorem appendTo_d (hr : ∀ e g b cs, C (.row e g b cs) = true) (e : Nat) (s : AV) (nb : Bool) (new : List AV) (n : Nat) : Det C d (fun h K => appendTo tb d e s nb new n h K) := by
  cases s with
  | nils e' => exact Det.and (Det.lets (F := fun y h (K : AV → Heap → Prop) => newB d 0 (.row e 0 nb y) h K (.ref (tag d 0) 0 true 0 n)) (Det.newB _ _ _))
  | ref id gen full off len =>
    refine Det.blk id (G := fun b h (K : AV → Heap → Prop) => match b with
      | some (.row e' g b cs) => (match Nat.beq e' e && Nat.beq g gen with
        | true => (match full with
          | true => (len + n) * (tb e).bytes ≤ 140737488355328 ∧ lets (cs ++ new) fun cs' => K (.ref id (gen + 1) true 0 (len + n)) (h.put id (.row e (gen + 1) (b || nb) cs'))
          | false => (match off with
            | 0 => (len + n) * (tb e).bytes ≤ 140737488355328 ∧ lets (cs.take (len * (tb e).sz) ++ new) fun cs' => newB d 0 (.row e 0 (b || nb) cs') (h.put id .dead) K (.ref (tag d 0) 0 true 0 (len + n))
            | _ + 1 => False))
        | false => False)
      | _ => False) (fun _ _ h => h) fun b => ?_
    cases b with
    | row e' g b cs =>
      show Det C d (fun h (K : AV → Heap → Prop) => h id = some (.row e' g b cs) ∧ (match Nat.beq e' e && Nat.beq g gen with
        | true => (match full with
          | true => (len + n) * (tb e).bytes ≤ 140737488355328 ∧ lets (cs ++ new) fun cs' => K (.ref id (gen + 1) true 0 (len + n)) (h.put id (.row e (gen + 1) (b || nb) cs'))
          | false => (match off with
            | 0 => (len + n) * (tb e).bytes ≤ 140737488355328 ∧ lets (cs.take (len * (tb e).sz) ++ new) fun cs' => newB d 0 (.row e 0 (b || nb) cs') (h.put id .dead) K (.ref (tag d 0) 0 true 0 (len + n))
            | _ + 1 => False))
        | false => False))
      cases Nat.beq e' e && Nat.beq g gen with
      | false => exact Det.no
      | true =>
        cases full with
        | true => exact Det.letsE (B := True) (F := fun y h (K : AV → Heap → Prop) => K (.ref id (gen + 1) true 0 (len + n)) (h.put id (.row e (gen + 1) (b || nb) y))) (Det.putC (hr _ _ _ _) _)
        | false =>
          cases off with
          | zero => exact Det.letsE (B := True) (F := fun y h (K : AV → Heap → Prop) => newB d 0 (.row e 0 (b || nb) y) (h.put id .dead) K (.ref (tag d 0) 0 true 0 (len + n))) (Det.putBindC (hr _ _ _ _) (Det.newB _ _ _))
          | succ k => exact Det.no
    | _ => exact Det.no
  | _ => exact Det.false
theorem appendA_d (hr : ∀ e g b cs, C (.row e g b cs) = true) (t : Nat) (s x : AV) : Det C d (fun h K => appendA tb d t s x h K) := by
  show Det C d (fun h (K : AV → Heap → Prop) => match (tb t).k with
    | .slice e => (match x with
      | .nils _ => appendTo tb d e s false [] 0 h K
      | .lit n cs => (match (tb e).flat with
        | true => (allFlat cs = true ∧ cs.length = n * (tb e).sz) ∧ appendTo tb d e s false cs n h K
        | false => ∃ cs', (cs' = cs.map view ∧ cs.length = n * (tb e).sz) ∧ appendTo tb d e s true cs' n h K)
      | .ref id gen true _ n => (match h id with
        | some (.row e' g b cs) => (match Nat.beq e' e && Nat.beq g gen with
          | true => (match (tb e).flat with
            | true => allFlat cs = true ∧ appendTo tb d e s false cs n h K
            | false => appendTo tb d e s b cs n (h.put id .dead) K)
          | false => False)
        | _ => False)
      | _ => False)
    | _ => False)
  cases (tb t).k with
  | slice e =>
    cases x with
    | nils _ => exact appendTo_d hr _ _ _ _ _
    | lit n cs =>
      show Det C d (fun h (K : AV → Heap → Prop) => match (tb e).flat with
        | true => (allFlat cs = true ∧ cs.length = n * (tb e).sz) ∧ appendTo tb d e s false cs n h K
        | false => ∃ cs', (cs' = cs.map view ∧ cs.length = n * (tb e).sz) ∧ appendTo tb d e s true cs' n h K)
      cases (tb e).flat with
      | true => exact Det.and (appendTo_d hr _ _ _ _ _)
      | false => exact Det.ex fun cs' => Det.and (appendTo_d hr _ _ _ _ _)
    | ref id gen full off n =>
      cases full with
      | false => exact Det.false
      | true =>
        refine Det.blk id (G := fun b h (K : AV → Heap → Prop) => match b with
          | some (.row e' g b cs) => (match Nat.beq e' e && Nat.beq g gen with
            | true => (match (tb e).flat with
              | true => allFlat cs = true ∧ appendTo tb d e s false cs n h K
              | false => appendTo tb d e s b cs n (h.put id .dead) K)
            | false => False)
          | _ => False) (fun _ _ h => h) fun b => ?_
        cases b with
        | row e' g b cs =>
          show Det C d (fun h (K : AV → Heap → Prop) => h id = some (.row e' g b cs) ∧ (match Nat.beq e' e && Nat.beq g gen with
            | true => (match (tb e).flat with
              | true => allFlat cs = true ∧ appendTo tb d e s false cs n h K
              | false => appendTo tb d e s b cs n (h.put id .dead) K)
            | false => False))
          cases Nat.beq e' e && Nat.beq g gen with
          | false => exact Det.no
          | true =>
            cases (tb e).flat with
            | true => exact Det.keep (Det.and (appendTo_d hr _ _ _ _ _))
            | false => exact Det.putBind (hr _ _ _ _) (appendTo_d hr _ _ _ _ _)
        | _ => exact Det.no
    | _ => exact Det.false
  | _ => exact Det.false
end
end Go.Ev
namespace Go.Ev
set_option linter.unusedVariables false
set_option linter.unusedSimpArgs false

section
variable {C : Blk → Bool} {α β : Type} {d : Option Nat} {tb : Nat → Ti} {R : Nat → List AV → AV → Prop}
theorem PDet.ite {b : Bool} {F G : (α → Prop) → Prop} (hF : PDet F) (hG : PDet G) : PDet (fun (K : α → Prop) => match b with | .true => F K | .false => G K) := by cases b; exact hG; exact hF
theorem lenOf_r (t : Nat) (v : AV) : RDet (fun h K => lenOf tb t h v K) := by
  show RDet (fun h (K : Nat → Prop) => match (tb t).k with
    | .slice _ => (match v with
      | .nils _ => K 0
      | .ref _ _ _ _ n => K n
      | .lit n _ => K n
      | _ => False)
    | .str => (match v with
      | .str s => K s.size
      | _ => False)
    | .map _ _ => (match v with
      | .map id => (match h id with | some (.mp _ es) => K es.length | _ => False)
      | _ => False)
    | _ => False)
  cases (tb t).k with
  | slice e => cases v <;> first | exact RDet.false | exact (PDet.ret _).r
  | str => cases v <;> first | exact RDet.false | exact (PDet.ret _).r
  | map k e =>
    cases v with
    | map id =>
      refine RDet.blk id (G := fun b (K : Nat → Prop) => match b with | some (.mp _ es) => K es.length | _ => False) (fun _ h => h) fun b => ?_
      cases b with
      | mp t es => exact PDet.ret _
      | _ => exact PDet.false
    | _ => exact RDet.false
  | _ => exact RDet.false
theorem allB_cons (f : AV → Bool) (v : AV) (vs : List AV) : allB f (v :: vs) = (bif f v then allB f vs else false) := rfl
theorem allB_mono {f g : AV → Bool} : ∀ {vs : List AV}, (∀ v ∈ vs, f v = true → g v = true) → allB f vs = true → allB g vs = true
  | [], _, _ => rfl
  | v :: vs, hv, h => by
    rw [allB_cons] at h ⊢
    cases hf : f v with
    | false => rw [hf] at h; cases h
    | true =>
      rw [hf] at h
      rw [hv v List.mem_cons_self hf]
      exact allB_mono (fun u hu => hv u (List.mem_cons_of_mem _ hu)) h
theorem allB_mem {f : AV → Bool} : ∀ {vs : List AV}, allB f vs = true → ∀ v ∈ vs, f v = true
  | [], _, v, hv => by cases hv
  | u :: vs, h, v, hv => by
    rw [allB_cons] at h
    cases hf : f u with
    | false => rw [hf] at h; cases h
    | true =>
      rw [hf] at h
      rcases List.mem_cons.1 hv with rfl | hv
      · exact hf
      · exact allB_mem h v hv
theorem lendOk_sub {h h' : Heap} (hs : Sub h h') {v : AV} (hv : lendOk h v = true) : lendOk h' v = true ∧ lend tb h' v = lend tb h v := by
  cases v with
  | ref id gen full off len =>
    simp only [lendOk] at hv
    split at hv
    · rename_i e g bb cs hb
      simp only [lendOk, lend, hs _ _ hb, hb, hv, and_self]
    · cases hv
  | xr id =>
    simp only [lendOk] at hv
    split at hv
    · rename_i n cs hb
      simp only [lendOk, lend, hs _ _ hb, hb, and_self]
    · cases hv
  | _ => exact ⟨rfl, rfl⟩
theorem map_lend {h h' : Heap} (hs : Sub h h') {vs : List AV} (hv : allB (lendOk h) vs = true) : allB (lendOk h') vs = true ∧ mapR (lend tb h') vs = mapR (lend tb h) vs := by
  refine ⟨allB_mono (fun v _ hf => (lendOk_sub (tb := tb) hs hf).1) hv, ?_⟩
  rw [mapR_eq, mapR_eq]
  exact List.map_congr_left fun v hm => (lendOk_sub hs (allB_mem hv v hm)).2
theorem lend2_cases (v : AV) : (∃ cs, v = .agg cs) ∨ (∃ id off, v = .ptr id off) ∨ (∀ h, lendOk2 h v = lendOk h v ∧ lend2 tb h v = lend tb h v) := by
  cases v with
  | agg cs => exact .inl ⟨_, rfl⟩
  | ptr id off => exact .inr (.inl ⟨_, _, rfl⟩)
  | _ => exact .inr (.inr fun h => ⟨rfl, rfl⟩)
theorem lend3_cases (v : AV) : (∃ f cs, v = .fn f cs) ∨ (∀ h, lendOk3 h v = lendOk2 h v ∧ lend3 tb h v = lend2 tb h v) := by
  cases v with
  | fn f cs => exact .inl ⟨_, _, rfl⟩
  | _ => exact .inr fun h => ⟨rfl, rfl⟩
theorem lendOk2_sub {h h' : Heap} (hs : Sub h h') {v : AV} (hv : lendOk2 h v = true) : lendOk2 h' v = true ∧ lend2 tb h' v = lend2 tb h v := by
  rcases lend2_cases (tb := tb) v with ⟨cs, rfl⟩ | ⟨id, off, rfl⟩ | he
  · obtain ⟨h1, h2⟩ := map_lend (tb := tb) hs (vs := cs) hv
    exact ⟨h1, congrArg AV.agg h2⟩
  · simp only [lendOk2] at hv
    split at hv
    · rename_i t cs hb
      obtain ⟨h1, h2⟩ := map_lend (tb := tb) hs hv
      simp only [lendOk2, lend2, hs _ _ hb, hb, h1, h2, and_self]
    · cases hv
  · rw [(he h).1] at hv
    rw [(he h).2, (he h').1, (he h').2]
    exact lendOk_sub hs hv
theorem lendOk3_sub {h h' : Heap} (hs : Sub h h') {v : AV} (hv : lendOk3 h v = true) : lendOk3 h' v = true ∧ lend3 tb h' v = lend3 tb h v := by
  rcases lend3_cases (tb := tb) v with ⟨f, caps, rfl⟩ | he
  · have hv : allB (lendOk2 h) caps = true := hv
    refine ⟨allB_mono (fun v _ hf => (lendOk2_sub (tb := tb) hs hf).1) hv, ?_⟩
    show AV.fn f (mapR _ caps) = AV.fn f (mapR _ caps)
    rw [mapR_eq, mapR_eq]
    exact congrArg _ (List.map_congr_left fun v hm => (lendOk2_sub hs (allB_mem hv v hm)).2)
  · rw [(he h).1] at hv
    rw [(he h).2, (he h').1, (he h').2]
    exact lendOk2_sub hs hv
theorem import1_d (j : Nat) (v : AV) : Det C d (fun h K => import1 d j v h K) := by
  cases v with
  | own e n cs => exact Det.newB _ _ _
  | int k n => exact Det.ret _
  | bool b => exact Det.ret _
  | str b => exact Det.ret _
  | _ => exact Det.false
theorem importA_d : ∀ (vs : List AV) (j : Nat), Det C d (fun h K => importA d vs j h K)
  | [], _ => Det.ret _
  | v :: vs, j => (import1_d j v).bind fun c => (importA_d vs (j + 1)).map (c :: ·)
theorem import2_d (j : Nat) (v : AV) : Det C d (fun h K => import2 d j v h K) := by
  have key := import1_d (C := C) (d := d) j v
  cases v with
  | agg cs => exact (importA_d cs j).map AV.agg
  | _ => exact key
theorem importT_d : ∀ (vs : List AV) (j : Nat), Det C d (fun h K => importT d vs j h K)
  | [], _ => Det.ret _
  | v :: vs, j => (import2_d j v).bind fun c => (importT_d vs (j + 5)).map (c :: ·)
theorem importR_d (r : AV) : Det C d (fun h K => importR d r h K) := by
  have key := import2_d (C := C) (d := d) 0 r
  cases r with
  | tup vs => exact (importT_d vs 0).map AV.tup
  | _ => exact key
theorem callF_d (f : AV) (args : List AV) : Det C d (fun h K => callF tb R d f args h K) := by
  cases f with
  | fn g caps =>
    intro h K hK
    have hK : (match allB (lendOk3 h) (args ++ caps) with | true => ∃ r, R g (mapR (lend3 tb h) (args ++ caps)) r ∧ importR d r h K | false => False) := hK
    cases hb : allB (lendOk3 h) (args ++ caps) with
    | false => rw [hb] at hK; exact hK.elim
    | true =>
      rw [hb] at hK
      obtain ⟨r, hR, hK⟩ := hK
      obtain ⟨v, ps, h1, h2, h3⟩ := importR_d r h K hK
      refine ⟨v, ps, h1, h2, fun h' K' hs hf hk => ?_⟩
      show (match allB (lendOk3 h') (args ++ caps) with | true => ∃ r, R g (mapR (lend3 tb h') (args ++ caps)) r ∧ importR d r h' K' | false => False)
      rw [allB_mono (fun v _ hf => (lendOk3_sub (tb := tb) hs hf).1) hb]
      refine ⟨r, ?_, h3 h' K' hs hf hk⟩
      have : mapR (lend3 tb h') (args ++ caps) = mapR (lend3 tb h) (args ++ caps) := by
        rw [mapR_eq, mapR_eq]
        exact List.map_congr_left fun v hm => (lendOk3_sub hs (allB_mem hb v hm)).2
      rw [this]; exact hR
  | _ => exact Det.false
theorem fillK_p (place : Nat → Option (Nat × Nat)) : ∀ (ps : List (Nat × AV)) (cs : List AV), PDet (fillK place ps cs)
  | [], cs => PDet.ret _
  | p :: ps, cs => by
    show PDet (fun (K : List AV → Prop) => match place p.1 with
      | some (o, z) => (match (cellOk p.2 && Nat.beq (cellsOf p.2).length z) && Nat.ble (o + z) cs.length with
        | true => fillK place ps (splice cs o (cellsOf p.2)) K
        | false => False)
      | none => False)
    cases place p.1 with
    | none => exact PDet.false
    | some oz =>
      obtain ⟨o, z⟩ := oz
      exact PDet.ite (fillK_p place ps _) PDet.false
theorem max2_p (x y : AV) : PDet (max2A x y) := by cases x <;> first | exact PDet.false | (cases y <;> first | exact PDet.false | exact PDet.ret _)
theorem min2_p (x y : AV) : PDet (min2A x y) := by cases x <;> first | exact PDet.false | (cases y <;> first | exact PDet.false | exact PDet.ret _)
theorem builtinA_d (b : Builtin) (hr : b = .append → ∀ e g b cs, C (.row e g b cs) = true) (ts : List Nat) (args : List AV) : Det C d (fun h K => builtinA tb b d ts args h K) := by
  match args with
  | [] => exact Det.false
  | [x] =>
    cases b <;> try exact Det.false
    match ts with
    | [] => exact Det.false
    | [t] => exact Det.map (d := d) (fun n : Nat => AV.int .i64 n) (RDet.det (d := d) (F := fun h K => lenOf tb t h x K) (lenOf_r t x))
    | _ :: _ :: _ => exact Det.false
  | [x, y] =>
    cases b <;> try exact Det.false
    · match ts with
      | [] => exact Det.false
      | [_] => exact Det.false
      | [t, t'] =>
        show Det C d (fun h (K : AV → Heap → Prop) => match Nat.beq t t' with | true => appendA tb d t x y h K | false => False)
        cases Nat.beq t t' with
        | true => exact appendA_d (hr rfl) t x y
        | false => exact Det.false
      | _ :: _ :: _ :: _ => exact Det.false
    · first | exact (max2_p x y).r.det | exact (min2_p x y).r.det
    · first | exact (max2_p x y).r.det | exact (min2_p x y).r.det
  | _ :: _ :: _ :: _ => exact Det.false
theorem fieldAddr_p (s f : Nat) (x : AV) : PDet (fieldAddrA tb s x f) := by
  show PDet (fun (K : AV → Prop) => match (tb s).k with
    | .struct os _ => (match nth os f with
      | some o => (match x with
        | .ptr id off => K (.ptr id (off + o))
        | .eptr id gen off => K (.eptr id gen (off + o))
        | .tptr cs off => K (.tptr cs (off + o))
        | _ => False)
      | none => False)
    | _ => False)
  cases (tb s).k with
  | struct os ts =>
    show PDet (fun (K : AV → Prop) => match nth os f with
      | some o => (match x with
        | .ptr id off => K (.ptr id (off + o))
        | .eptr id gen off => K (.eptr id gen (off + o))
        | .tptr cs off => K (.tptr cs (off + o))
        | _ => False)
      | none => False)
    cases nth os f with
    | none => exact PDet.false
    | some o => cases x <;> first | exact PDet.false | exact PDet.ret _
  | _ => exact PDet.false
theorem field_p (s f : Nat) (x : AV) : PDet (fieldA tb s x f) := by
  show PDet (fun (K : AV → Prop) => match (tb s).k with
    | .struct os ts => (match x with
      | .agg cs => (match nth os f with
        | some o => (match nth ts f with | some t => readC (tb t) cs o K | none => False)
        | none => False)
      | _ => False)
    | _ => False)
  cases (tb s).k with
  | struct os ts =>
    cases x with
    | agg cs =>
      show PDet (fun (K : AV → Prop) => match nth os f with
        | some o => (match nth ts f with | some t => readC (tb t) cs o K | none => False)
        | none => False)
      cases nth os f with
      | none => exact PDet.false
      | some o =>
        cases nth ts f with
        | none => exact PDet.false
        | some t => exact readC_p _ _ _
    | _ => exact PDet.false
  | _ => exact PDet.false
theorem indexAddr_r (t : Nat) (x i : AV) : RDet (fun h K => indexAddrA tb t x i h K) := by
  cases i with
  | int ki i =>
    show RDet (fun h (K : AV → Prop) => match (tb t).k with
      | .slice e => (match x with
        | .ref id gen full off len => (match h id with
          | some (.row _ g _ cs) => (match Nat.beq g gen with
            | true => (0 ≤ i ∧ i < len) ∧ K (.eptr id gen (offs off i.toNat (tb e).sz))
            | false => False)
          | _ => False)
        | .lit n cs => (0 ≤ i ∧ i < n) ∧ K (.tptr cs (offs 0 i.toNat (tb e).sz))
        | _ => False)
      | .arr n e => (match x with
        | .ptr id off => (0 ≤ i ∧ i < n) ∧ K (.ptr id (offs off i.toNat (tb e).sz))
        | .eptr id gen off => (0 ≤ i ∧ i < n) ∧ K (.eptr id gen (offs off i.toNat (tb e).sz))
        | .tptr cs off => (0 ≤ i ∧ i < n) ∧ K (.tptr cs (offs off i.toNat (tb e).sz))
        | _ => False)
      | _ => False)
    cases (tb t).k with
    | slice e =>
      cases x with
      | ref id gen full off len =>
        refine RDet.blk id (G := fun b (K : AV → Prop) => match b with
          | some (.row _ g _ cs) => (match Nat.beq g gen with
            | true => (0 ≤ i ∧ i < len) ∧ K (.eptr id gen (offs off i.toNat (tb e).sz))
            | false => False)
          | _ => False) (fun _ h => h) fun b => ?_
        cases b with
        | row e g bb cs => exact PDet.ite (PDet.and (PDet.ret _)) PDet.false
        | _ => exact PDet.false
      | lit n cs => exact (PDet.and (PDet.ret _)).r
      | _ => exact RDet.false
    | arr n e => cases x <;> first | exact RDet.false | exact (PDet.and (PDet.ret _)).r
    | _ => exact RDet.false
  | _ => exact RDet.false
theorem index_p (t : Nat) (x i : AV) : PDet (indexA tb t x i) := by
  cases i with
  | int ki i =>
    show PDet (fun (K : AV → Prop) => match (tb t).k with
      | .arr n e => (match x with
        | .agg cs => (0 ≤ i ∧ i < n) ∧ readC (tb e) cs (offs 0 i.toNat (tb e).sz) K
        | _ => False)
      | .str => (match x with
        | .str s => ∃ b, 0 ≤ i ∧ s.data[i.toNat]? = some b ∧ K (.int .u8 b.toNat)
        | _ => False)
      | _ => False)
    cases (tb t).k with
    | arr n e =>
      cases x with
      | agg cs => exact PDet.and (readC_p _ _ _)
      | _ => exact PDet.false
    | str =>
      cases x with
      | str s => exact PDet.ex fun b => .and (.and (.ret _))
      | _ => exact PDet.false
    | _ => exact PDet.false
  | _ => exact PDet.false
theorem intBin_p (op : BinOp) (k : IntKind) (x y : Int) : PDet (intBin op k x y) := by cases op <;> first | exact PDet.false | exact PDet.ret _ | exact PDet.and (PDet.ret _)
theorem binA_p (op : BinOp) (t : Nat) (x y : AV) : PDet (binA tb op t x y) := by
  cases x with
  | int k a =>
    cases y with
    | int k' b => exact PDet.ite (intBin_p _ _ _ _) PDet.false
    | _ => exact PDet.false
  | bool a =>
    cases y with
    | bool b =>
      show PDet (fun (K : AV → Prop) => match (tb t).k with
        | .bool => (match op with | .eql => K (.bool (a == b)) | .neq => K (.bool (a != b)) | _ => False)
        | _ => False)
      cases (tb t).k with
      | bool => cases op <;> first | exact PDet.false | exact PDet.ret _
      | _ => exact PDet.false
    | _ => exact PDet.false
  | str a =>
    cases y with
    | str b => cases op <;> first | exact PDet.false | exact PDet.ret _
    | _ => exact PDet.false
  | _ => exact PDet.false
theorem unA_p (op : UnOp) (x : AV) : PDet (unA op x) := by cases op <;> first | exact PDet.false | (cases x <;> first | exact PDet.false | exact PDet.ret _)
theorem buildA_p (t : Nat) (ps : List (Nat × AV)) : PDet (buildA tb t ps) := by
  show PDet (fun (K : AV → Prop) => match (tb t).k with
    | .struct os ts => fillK (structPlace tb os ts) ps (tb t).zero fun cs => K (.agg (mapR view cs))
    | .arr _ e => fillK (fun i => some (i * (tb e).sz, (tb e).sz)) ps (tb t).zero fun cs => K (.agg (mapR view cs))
    | _ => False)
  cases (tb t).k with
  | struct os ts => exact (fillK_p _ _ _).map fun cs => AV.agg (mapR view cs)
  | arr n e => exact (fillK_p _ _ _).map fun cs => AV.agg (mapR view cs)
  | _ => exact PDet.false
theorem buildSlice_d (hr : ∀ e g b cs, C (.row e g b cs) = true) (t n : Nat) (ps : List (Nat × AV)) : Det C d (fun h K => buildSliceA tb d t n ps h K) := by
  show Det C d (fun h (K : AV → Heap → Prop) => match (tb t).k with
    | .slice e => (match Nat.ble (n * (tb e).sz) 16777216 with
      | true => fillK (fun i => some (i * (tb e).sz, (tb e).sz)) ps (replZ n (tb e).zero) fun cs => absorb true cs h fun cs h => newB d 0 (.row e 0 (anyLit cs) cs) h K (.ref (tag d 0) 0 true 0 n)
      | false => False)
    | _ => False)
  cases (tb t).k with
  | slice e =>
    show Det C d (fun h (K : AV → Heap → Prop) => match Nat.ble (n * (tb e).sz) 16777216 with
      | true => fillK (fun i => some (i * (tb e).sz, (tb e).sz)) ps (replZ n (tb e).zero) fun cs => absorb true cs h fun cs h => newB d 0 (.row e 0 (anyLit cs) cs) h K (.ref (tag d 0) 0 true 0 n)
      | false => False)
    cases Nat.ble (n * (tb e).sz) 16777216 with
    | true => exact ((fillK_p _ _ _).r.det).bind (G := fun cs h K => absorb true cs h fun cs h => newB d 0 (.row e 0 (anyLit cs) cs) h K (.ref (tag d 0) 0 true 0 n)) fun cs => (absorb_d hr true cs).bind fun cs => Det.newB _ _ _
    | false => exact Det.false
  | _ => exact Det.false
theorem makeSlice_d (t : Nat) (n c : AV) : Det C d (fun h K => makeSliceA tb d t n c h K) := by
  show Det C d (fun h (K : AV → Heap → Prop) => match (tb t).k with
    | .slice e => (match n with
      | .int _ a => (match c with
        | .int _ b => a = b ∧ (0 ≤ a ∧ a * (tb e).bytes ≤ 281474976710656) ∧
          lets (replZ a.toNat (mapR nilOwn (tb e).zero)) fun cs => newB d 0 (.row e 0 false cs) h K (.ref (tag d 0) 0 true 0 a.toNat)
        | _ => False)
      | _ => False)
    | _ => False)
  cases (tb t).k with
  | slice e =>
    cases n with
    | int _ a =>
      cases c with
      | int _ b => exact Det.and (Det.and (Det.lets (F := fun y h (K : AV → Heap → Prop) => newB d 0 (.row e 0 false y) h K (.ref (tag d 0) 0 true 0 a.toNat)) (Det.newB _ _ _)))
      | _ => exact Det.false
    | _ => exact Det.false
  | _ => exact Det.false
theorem pick_p (c a b : AV) : PDet (pickA c a b) := by
  cases c with
  | bool v => cases v; exact PDet.ret _; exact PDet.ret _
  | _ => exact PDet.false
theorem extract_p (x : AV) (i : Nat) : PDet (extractA x i) := by
  cases x with
  | tup vs => exact PDet.ex fun v => .and (.ret _)
  | _ => exact PDet.false
end
end Go.Ev
