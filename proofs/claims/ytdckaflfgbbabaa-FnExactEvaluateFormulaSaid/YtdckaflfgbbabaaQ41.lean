-- written by a program of this session (a turned copy of the kit's print) out of the translation
-- squeezed
-- compact
import Derived.Test.YtdckaflfgbbabaaQ0
import Derived.Test.YtdckaflfgbbabaaQ16
namespace Go.Proofs.Ytdckaflfgbbabaa.Q
open Go.RowKit Go.Proofs.YtdckaflfgbbabaaW.PrintWords Go.Proofs.YtdckaflfgbbabaaW.PrintLast Go.Proofs.YtdckaflfgbbabaaW.PrintMore
attribute [local go_sem] max2_int min2_int max_two min_two max_three min_three max_four min_four   -- for this text's walks alone
set_option linter.unusedVariables false
set_option linter.unusedSimpArgs false

/-! ### impl_free: function 58 -/
abbrev T3 := Bool × Bool × Bool
def frCells (o : T3) : Array Value := #[.bool o.1, .bool o.2.1, .bool o.2.2]
def frSet (o : T3) (j : Int) (b : Bool) : T3 := (if j = 0 then b else o.1, if j = 1 then b else o.2.1, if j = 2 then b else o.2.2)
def frOr (o r : T3) : T3 := (o.1 || r.1, o.2.1 || r.2.1, o.2.2 || r.2.2)
def frGet (o : T3) (j : Nat) : Bool := if j = 0 then o.1 else if j = 1 then o.2.1 else o.2.2
def frAtom (op x y z : Int) : Option T3 :=
 if op = 1 ∨ op = 2 then (if 0 ≤ x ∧ x < 3 ∧ 0 ≤ y ∧ y < 3 then some (frSet (frSet (false, false, false) x true) y true) else none)
 else if op = 3 then (if 0 ≤ x ∧ x < 3 ∧ 0 ≤ y ∧ y < 3 ∧ 0 ≤ z ∧ z < 3 then some (frSet (frSet (frSet (false, false, false) x true) y true) z true) else none)
 else if op = 4 ∨ op = 5 then (if 0 ≤ x ∧ x < 3 then some (frSet (false, false, false) x true) else none)
 else some (false, false, false)
mutual
def impl_free.l0 : Nat → List S48 → Int → T3 → List Int → Int → Option T3
 | 0, _, _, _, _, _ => none
 | k + 1, l0, a1, o, ks, i => if i < (ks.length : Int) then (if 0 ≤ i then ((impl_free.f k l0 (rd ks i)).bind fun r => impl_free.l0 k l0 a1 (frOr o r) ks (wrap64 (i + 1))) else none)
  else (if (rd_T48 l0 a1).f0 = 9 ∨ (rd_T48 l0 a1).f0 = 10 then (if 0 ≤ (rd_T48 l0 a1).f1 ∧ (rd_T48 l0 a1).f1 < 3 then some (frSet o (rd_T48 l0 a1).f1 false) else none) else some o)
def impl_free.f : Nat → List S48 → Int → Option T3
 | 0, _, _ => none
 | k + 1, l0, a1 => if 0 ≤ a1 then (if a1 < (l0.length : Int) then ((frAtom (rd_T48 l0 a1).f0 (rd_T48 l0 a1).f1 (rd_T48 l0 a1).f2 (rd_T48 l0 a1).f3).bind fun o => (impl_Node_kids.f k (rd_T48 l0 a1).f0 (rd_T48 l0 a1).f1 (rd_T48 l0 a1).f2 (rd_T48 l0 a1).f3).bind fun b => impl_free.l0 k l0 a1 o b.1 0) else none) else none
end
theorem frCells_set (o : T3) (j : Int) (h0 : 0 ≤ j) (h3 : j < 3) (b : Bool) : (frCells o).setIfInBounds j.toNat (.bool b) = frCells (frSet o j b) := by
 have : j = 0 ∨ j = 1 ∨ j = 2 := by omega
 rcases this with rfl | rfl | rfl <;> simp [frCells, frSet]
theorem frCells_get (o : T3) (j : Int) (h0 : 0 ≤ j) (h3 : j < 3) : (frCells o)[j.toNat]? = some (.bool (frGet o j.toNat)) := by
 have : j = 0 ∨ j = 1 ∨ j = 2 := by omega
 rcases this with rfl | rfl | rfl <;> rfl
theorem frSet_comm (o : T3) (i j : Int) (b : Bool) : frSet (frSet o i b) j b = frSet (frSet o j b) i b := by
 simp only [frSet]; congr 1
 ·split <;> split <;> rfl
 congr 1 <;> (split <;> split <;> rfl)
structure FreeAt (w wr : World) (o : T3) (n : S48) : Prop where
 arr : wr.heap[w.heap.size + 1]? = some (.cells (frCells o) 63 (0, 0))
 res : wr.heap[w.heap.size]? = some (.cells (frCells (false, false, false)) 63 (0, 0))
 nod : wr.heap[w.heap.size + 2]? = some (.cells #[.int .i64 n.f0, .int .i64 n.f1, .int .i64 n.f2, .int .i64 n.f3] 48 (0, 0))
 bel : Below w.heap.size w wr
theorem FreeAt.start (w : World) (n : S48) : FreeAt w (((w.alloc (.cells #[.bool false, .bool false, .bool false] 63)).alloc (.cells #[.bool false, .bool false, .bool false] 63)).alloc (.cells #[.int .i64 n.f0, .int .i64 n.f1, .int .i64 n.f2, .int .i64 n.f3] 48)) (false, false, false) n := by
 have hs : (w.alloc (.cells #[.bool false, .bool false, .bool false] 63)).heap.size = w.heap.size + 1 := by simp
 have hs2 : ((w.alloc (.cells #[.bool false, .bool false, .bool false] 63)).alloc (.cells #[.bool false, .bool false, .bool false] 63)).heap.size = w.heap.size + 2 := by simp
 have h1 := blk_new (w.alloc (.cells #[.bool false, .bool false, .bool false] 63)) (.cells #[.bool false, .bool false, .bool false] 63); rw [hs] at h1; have h2 := blk_new ((w.alloc (.cells #[.bool false, .bool false, .bool false] 63)).alloc (.cells #[.bool false, .bool false, .bool false] 63)) (.cells #[.int .i64 n.f0, .int .i64 n.f1, .int .i64 n.f2, .int .i64 n.f3] 48); rw [hs2] at h2; exact ⟨yR h1 _, yR (yR (blk_new w _) _) _, h2, yO (yO (yO (zV _ _) _) _) _⟩
theorem FreeAt.set {w wr : World} {o : T3} {n : S48} (H : FreeAt w wr o n) (j : Int) (h0 : 0 ≤ j) (h3 : j < 3) (b : Bool) : FreeAt w (wr.setCell ⟨w.heap.size + 1, j.toNat, none⟩ (.bool b)) (frSet o j b) n := by
 refine ⟨?_, blk_far H.res (by simp) _, blk_far H.nod (by simp) _, H.bel.setCell (by simp) _⟩; have := blk_set H.arr j.toNat (.bool b); rwa [frCells_set o j h0 h3] at this
theorem FreeAt.drew {w wr : World} {o : T3} {n : S48} (H : FreeAt w wr o n) : FreeAt w wr.drew o n := ⟨H.arr, H.res, H.nod, yP H.bel⟩
theorem FreeAt.n0 {w wr : World} {o : T3} {n : S48} (H : FreeAt w wr o n) : wr.cell? ⟨w.heap.size + 1 + 1, 0, none⟩ = some (.int .i64 n.f0) := yV H.nod 0
theorem FreeAt.n1 {w wr : World} {o : T3} {n : S48} (H : FreeAt w wr o n) : wr.cell? ⟨w.heap.size + 1 + 1, 1, none⟩ = some (.int .i64 n.f1) := yV H.nod 1
theorem FreeAt.n2 {w wr : World} {o : T3} {n : S48} (H : FreeAt w wr o n) : wr.cell? ⟨w.heap.size + 1 + 1, 2, none⟩ = some (.int .i64 n.f2) := yV H.nod 2
theorem FreeAt.n3 {w wr : World} {o : T3} {n : S48} (H : FreeAt w wr o n) : wr.cell? ⟨w.heap.size + 1 + 1, 3, none⟩ = some (.int .i64 n.f3) := yV H.nod 3
theorem FreeAt.c {w wr : World} {o : T3} {n : S48} (H : FreeAt w wr o n) (j : Int) (h0 : 0 ≤ j) (h3 : j < 3) : wr.cell? ⟨w.heap.size + 1, j.toNat, none⟩ = some (.bool (frGet o j.toNat)) := by
 rw [yV H.arr, frCells_get o j h0 h3]
theorem FreeAt.z {w wr : World} {o : T3} {n : S48} (H : FreeAt w wr o n) (j : Nat) : wr.frozen? ⟨w.heap.size + 1, j, none⟩ = false := yW H.arr j
theorem FreeAt.below {w wr w2 : World} {o : T3} {n : S48} (H : FreeAt w wr o n) (hb : Below wr.heap.size wr w2) : FreeAt w w2 o n :=
 ⟨yU H.arr hb, yU H.res hb, yU H.nod hb, below_then H.bel H.bel.size hb⟩
theorem FreeAt.row {w wc w6 : World} {o : T3} {n : S48} {v : Value} {ks : List Int} (H : FreeAt w wc o n) (h : Kd.R (Kd.int .i64) 3 w6 wc.heap.size (fun _ => True) v ks) : Kd.R (Kd.int .i64) 3 w6 w.heap.size (fun k => w.heap.size + 3 ≤ k) v ks :=
 Kd.R_lower (zP (Kd.R_bound h) (fun k hk => by have := zX H.nod; have := hk.2.1; omega)) (by have := zX H.nod; omega)
theorem row_set {w w6 : World} {v u : Value} {ks : List Int} {j : Nat} (h : Kd.R (Kd.int .i64) 3 w6 w.heap.size (fun k => w.heap.size + 3 ≤ k) v ks) : Kd.R (Kd.int .i64) 3 (w6.setCell ⟨w.heap.size + 1, j, none⟩ u) w.heap.size (fun k => w.heap.size + 3 ≤ k) v ks :=
 zQ h (fun k hk => by show k ≠ w.heap.size + 1; omega) u
theorem fr_info (o : T3) : (Try.prog.info? 63).map (·.size) = some (frCells o).size := by kernel_rfl
theorem fr_one (o : T3) : (frCells o).all (·.oneCell') = true := by simp [frCells, Value.oneCell']
def frMix (o r : T3) (j : Nat) : T3 := (if 0 < j then o.1 || r.1 else o.1, if 1 < j then o.2.1 || r.2.1 else o.2.1, if 2 < j then o.2.2 || r.2.2 else o.2.2)
theorem frMix_0 (o r : T3) : frMix o r 0 = o := rfl
theorem frMix_3 (o r : T3) : frMix o r 3 = frOr o r := rfl
theorem frMix_s0 (o r : T3) : frSet (frMix o r 0) 0 (frGet (frMix o r 0) 0 || frGet r 0) = frMix o r 1 := rfl
theorem frMix_s1 (o r : T3) : frSet (frMix o r 1) 1 (frGet (frMix o r 1) 1 || frGet r 1) = frMix o r 2 := rfl
theorem frMix_s2 (o r : T3) : frSet (frMix o r 2) 2 (frGet (frMix o r 2) 2 || frGet r 2) = frMix o r 3 := rfl
theorem impl_free.mono_l : ∀ k, (∀ y0 y1, LeO (impl_free.f k y0 y1) (impl_free.f (k + 1) y0 y1)) ∧ (∀ y0 y1 y2 y3 y4, LeO (impl_free.l0 k y0 y1 y2 y3 y4) (impl_free.l0 (k + 1) y0 y1 y2 y3 y4))
 | 0 => ⟨fun _ _ r h => by simp [impl_free.f] at h, fun _ _ _ _ _ r h => by simp [impl_free.l0] at h⟩
 | k + 1 => by
  obtain ⟨ih0, ih1⟩ := impl_free.mono_l k; refine ⟨?_, ?_⟩
  ·intro y0 y1; unfold impl_free.f
   repeat' first
   | exact ih0 _ _
   | exact ih1 _ _ _ _ _
   | exact impl_Node_kids.mono _ _ _ _ _
   | (with_reducible exact LeO.refl _)
   | exact LeO.none _
   | refine LeO.ite ?_ ?_
   | refine LeO.bind ?_ (fun _ => ?_)
  ·intro y0 y1 y2 y3 y4; unfold impl_free.l0
   repeat' first
   | exact ih0 _ _
   | exact ih1 _ _ _ _ _
   | (with_reducible exact LeO.refl _)
   | exact LeO.none _
   | refine LeO.ite ?_ ?_
   | refine LeO.bind ?_ (fun _ => ?_)
theorem impl_free.mono : ∀ a0 a1 k, LeO (impl_free.f k a0 a1) (impl_free.f (k + 1) a0 a1) := fun a0 a1 k => (impl_free.mono_l k).1 a0 a1
theorem FreeAt.or {w wr : World} {o r : T3} {n : S48} (j : Nat) (h : j < 3) (H : FreeAt w wr (frMix o r j) n) (b : Bool) (hb : (frGet (frMix o r j) j || frGet r j) = b) : FreeAt w (wr.setCell ⟨w.heap.size + 1, j, none⟩ (.bool b)) (frMix o r (j + 1)) n := by
 have := H.set (j : Int) (by omega) (by omega) b; have e : frSet (frMix o r j) (j : Int) b = frMix o r (j + 1) := by
  subst hb; have hj : j = 0 ∨ j = 1 ∨ j = 2 := by omega
  rcases hj with rfl | rfl | rfl
  ·exact frMix_s0 o r
  ·exact frMix_s1 o r
  exact frMix_s2 o r
 rwa [e, Int.toNat_natCast] at this
theorem frMix_far (o r : T3) (j : Nat) (h : j < 3) : frGet (frMix o r j) j = frGet o j := by
 have hj : j = 0 ∨ j = 1 ∨ j = 2 := by omega
 rcases hj with rfl | rfl | rfl <;> rfl
theorem fr_index0 (r : T3) (w : World) : (Instr.index 63 (.agg (frCells r)) (.int .i64 0)).run Try.prog w = .ok (.bool (frGet r 0)) w := by kernel_rfl
theorem fr_index1 (r : T3) (w : World) : (Instr.index 63 (.agg (frCells r)) (.int .i64 1)).run Try.prog w = .ok (.bool (frGet r 1)) w := by kernel_rfl
theorem fr_index2 (r : T3) (w : World) : (Instr.index 63 (.agg (frCells r)) (.int .i64 2)).run Try.prog w = .ok (.bool (frGet r 2)) w := by kernel_rfl
set_option maxHeartbeats 8000000 in
set_option maxRecDepth 100000 in
theorem impl_free.calls (k : Nat) : ∀ (A0 : Option Addr) (c0 : Nat) (l0 : List (S48)) (a1 : Int) (r : T3) (w : World) (hr0 : Kd.C k48 w A0 l0.length l0) (hc0 : l0.length ≤ c0) (h : impl_free.f k l0 a1 = some r),
  Calls Try.prog 58 #[.slice A0 l0.length c0, .int .i64 a1] w fun e w' => e = .returned (.agg (frCells r)) ∧ Below w.heap.size w w' := by
 induction k using Nat.strongRecOn with
 | _ k ih =>
 intro A0 c0 l0 a1 r w hr0 hc0 h; cases k with
 | zero => exact absurd h (by simp [impl_free.f])
 | succ k =>
 simp only [impl_free.f] at h; have hu48 := Try.underlying48; have HR0 := yA hr0; have HC0 := yA hc0; clear hr0 hc0; by_cases h0 : 0 ≤ a1
 case neg => rw [if_neg h0] at h; exact absurd h (by simp)
 by_cases h1 : a1 < (l0.length : Int)
 case neg => rw [if_pos h0, if_neg h1] at h; exact absurd h (by simp)
 rw [if_pos h0, if_pos h1] at h; obtain ⟨o, hat, h⟩ := Option.bind_eq_some_iff.1 h; obtain ⟨⟨ks, kb⟩, hk, h⟩ := Option.bind_eq_some_iff.1 h; replace h : impl_free.l0 k l0 a1 o ks 0 = some r := h; have H := yA h; have HK := yA hk; clear h hk; have HAD : ∃ A, A0 = some A := by
  obtain ⟨ad, e, _⟩ := at_T48 HR0.out a1 h0 h1; exact ⟨_, e⟩
 obtain ⟨ad286, e286, hx286_0, hx286_1, hx286_2, hx286_3⟩ := at_T48 HR0.out a1 h0 h1; cases e286; have HB2 : Below w.heap.size w ((w.alloc (.cells #[.bool false, .bool false, .bool false] 63)).alloc (.cells #[.bool false, .bool false, .bool false] 63)) := yO (yO (zV _ _) _) _; replace hx286_0 := (HB2.cell (zE w _ hx286_0)).trans hx286_0; replace hx286_1 := (HB2.cell (zE w _ hx286_1)).trans hx286_1; replace hx286_2 := (HB2.cell (zE w _ hx286_2)).trans hx286_2; replace hx286_3 := (HB2.cell (zE w _ hx286_3)).trans hx286_3; clear HB2 HAD; replace h0 := eq_true h0; replace h1 := eq_true h1; have hat := yA hat; obtain ⟨n, hn⟩ : ∃ n, rd_T48 l0 a1 = n := ⟨_, rfl⟩
 rw [hn] at hx286_0 hx286_1 hx286_2 hx286_3 hat HK; have HN := yA hn; clear hn; go_enter Try.func58, Try.ntmps58; go_upto_region 3 with fail
 go_cut [19] from 14 to 18 (fun v19 wc => v19 = .int .i64 n.f0 ∧ FreeAt w wc (false, false, false) n)
 case first =>
  go_wp2_with fail
  go_meet; exact ⟨rfl, FreeAt.start w n⟩
 case rest =>
  obtain ⟨rfl, HF⟩ := hcut; clear hx286_0 hx286_1 hx286_2 hx286_3; go_upto_block 0 with fail
  go_cut [20] from 19 to 45 (fun _ wc => FreeAt w wc o n)
  case first =>
   have hat := hat.out; clear H HK HN HR0 HC0; unfold frAtom at hat
   by_cases e1 : n.f0 = 1 ∨ n.f0 = 2
   ·rw [if_pos e1] at hat; by_cases b1 : 0 ≤ n.f1 ∧ n.f1 < 3 ∧ 0 ≤ n.f2 ∧ n.f2 < 3
    ·rw [if_pos b1] at hat; obtain rfl := zU hat; obtain ⟨q1, q2, q3, q4⟩ := b1; have G1 := HF.set n.f1 q1 q2 true; have G2 := G1.set n.f2 q3 q4 true; have x1 := HF.n1; have x2 := HF.n2; have y2 := G1.n2; have k1 := HF.c n.f1 q1 q2; have k2 := G1.c n.f2 q3 q4; have z1 := HF.z n.f1.toNat; have z2 := G1.z n.f2.toNat; have HG := yA G2; clear G1 G2 hat; replace q1 := eq_true q1; replace q2 := eq_true q2; replace q3 := eq_true q3; replace q4 := eq_true q4; rcases e1 with e1 | e1 <;>
     ·rw [e1]; go_wp2; go_region
      all_goals (go_wp2; go_meet; exact HG.out.drew)
    rw [if_neg b1] at hat; exact absurd hat (by simp)
   rw [if_neg e1] at hat; have f1 : (n.f0 = 1) = False := eq_false (fun h => e1 (Or.inl h)); have f2 : (n.f0 = 2) = False := eq_false (fun h => e1 (Or.inr h)); clear e1; by_cases e3 : n.f0 = 3
   ·rw [if_pos e3] at hat; by_cases b1 : 0 ≤ n.f1 ∧ n.f1 < 3 ∧ 0 ≤ n.f2 ∧ n.f2 < 3 ∧ 0 ≤ n.f3 ∧ n.f3 < 3
    ·rw [if_pos b1] at hat; obtain rfl := zU hat; obtain ⟨q1, q2, q3, q4, q5, q6⟩ := b1; have G1 := HF.set n.f1 q1 q2 true; have G2 := G1.set n.f2 q3 q4 true; have G3 := G2.set n.f3 q5 q6 true; have x1 := HF.n1; have x2 := HF.n2; have x3 := HF.n3; have y2 := G1.n2; have y3 := G1.n3; have y4 := G2.n3; have k1 := HF.c n.f1 q1 q2; have k2 := G1.c n.f2 q3 q4; have k3 := G2.c n.f3 q5 q6; have z1 := HF.z n.f1.toNat; have z2 := G1.z n.f2.toNat; have z3 := G2.z n.f3.toNat; have HG := yA G3; clear G1 G2 G3 hat; replace q1 := eq_true q1; replace q2 := eq_true q2; replace q3 := eq_true q3; replace q4 := eq_true q4; replace q5 := eq_true q5; replace q6 := eq_true q6; rw [e3]; go_wp2; go_region
     all_goals (go_wp2; go_meet; exact HG.out.drew)
    rw [if_neg b1] at hat; exact absurd hat (by simp)
   rw [if_neg e3] at hat; have f3 : (n.f0 = 3) = False := eq_false e3; clear e3; by_cases e4 : n.f0 = 4 ∨ n.f0 = 5
   ·rw [if_pos e4] at hat; by_cases b1 : 0 ≤ n.f1 ∧ n.f1 < 3
    ·rw [if_pos b1] at hat; obtain rfl := zU hat; obtain ⟨q1, q2⟩ := b1; have HG := yA (HF.set n.f1 q1 q2 true); have x1 := HF.n1; have k1 := HF.c n.f1 q1 q2; have z1 := HF.z n.f1.toNat; clear hat; replace q1 := eq_true q1; replace q2 := eq_true q2; rcases e4 with e4 | e4 <;>
     ·rw [e4]; go_wp2; go_meet; exact HG.out
    rw [if_neg b1] at hat; exact absurd hat (by simp)
   rw [if_neg e4] at hat; have f4 : (n.f0 = 4) = False := eq_false (fun h => e4 (Or.inl h)); have f5 : (n.f0 = 5) = False := eq_false (fun h => e4 (Or.inr h)); clear e4; obtain rfl := zU hat; have g1 : (n.f0 == 1) = false := by simp [f1]
   have g2 : (n.f0 == 2) = false := by simp [f2]
   have g3 : (n.f0 == 3) = false := by simp [f3]
   have g4 : (n.f0 == 4) = false := by simp [f4]
   have g5 : (n.f0 == 5) = false := by simp [f5]
   go_wp2; go_meet; exact HF
  case rest =>
   clear HF hat; have HF := hcut; clear hcut; have x0 := HF.n0; have x1 := HF.n1; have x2 := HF.n2; have x3 := HF.n3; have HF := yA HF; go_wp2_with ((go_at_call 52; refine (impl_Node_kids.calls k n.f0 n.f1 n.f2 n.f3 ks kb _ HK.out).mono ?_; rintro e w6 ⟨v288, rfl, ho, hb⟩; obtain ⟨Ao, co, eo⟩ := Kd.R_slice ho; subst eo; have HO := yA (HF.out.row ho); have HF2 := yA (HF.out.below hb); clear ho hb x0 x1 x2 x3))
   clear HF; go_loopg [53] k (fun kq v53 w' => ∃ (i : Int) (oo : T3), v53 = .int .i64 i ∧ Aside0 (impl_free.l0 kq l0 a1 oo ks i = some r) ∧ Aside0 (kq ≤ k) ∧ Aside0 (Kd.R (Kd.int .i64) 3 w' w.heap.size (fun k => w.heap.size + 3 ≤ k) (.slice Ao ks.length co) ks) ∧ Aside0 (FreeAt w w' oo n))
   case atStart => exact ⟨0, o, rfl, H, ⟨zT _⟩, HO, HF2⟩
   case round =>
    clear H HO HF2; obtain ⟨i, oo, rfl, HA, HK1, HO, HF⟩ := hrel; cases gk with
    | zero => exact absurd HA.out (by simp [impl_free.l0])
    | succ k1 =>
     have H := HA.out; clear HA; simp only [impl_free.l0] at H; by_cases c8 : i < (ks.length : Int)
     ·by_cases i0 : 0 ≤ i
      case neg => rw [if_pos c8, if_neg i0] at H; exact absurd H (by simp)
      rw [if_pos c8, if_pos i0] at H; obtain ⟨r1, hr1, H⟩ := Option.bind_eq_some_iff.1 H; replace H := yA H; have HR1 := yA hr1; clear hr1; obtain ⟨ad291, e291, hx291_0⟩ := Kd.at_int (zN HO.out).2.2 i i0 c8; cases e291; have HL := yA c8; replace i0 := eq_true i0; replace c8 := eq_true c8; go_wp2_with ((go_at_call 58; refine (ih k1 (by have := HK1.out; omega) _ _ l0 (rd ks i) r1 _ ?side1 HC0.out HR1.out).mono ?_; (case side1 => exact yM HR0.out HF.out.bel); rintro e w7 ⟨rfl, hb⟩; have HO7 := yA (yK HO.out hb); have HF7 := yA (HF.out.below hb); clear hb HO HF hx291_0))
      go_loopg [60] 3 (fun g v60 w' => ∃ j : Nat, v60 = .int .i64 (j : Int) ∧ g + j = 3 ∧ Aside0 (FreeAt w w' (frMix oo r1 j) n) ∧ Aside0 (Kd.R (Kd.int .i64) 3 w' w.heap.size (fun k => w.heap.size + 3 ≤ k) (.slice (some ad291) ks.length co) ks))
      case atStart => exact ⟨0, rfl, rfl, HF7, HO7⟩
      case round =>
       clear HF7 HO7; obtain ⟨j, rfl, hj, HF, HO⟩ := hrel; have hj4 : j = 0 ∨ j = 1 ∨ j = 2 ∨ j = 3 := by omega
       rcases hj4 with rfl | rfl | rfl | rfl
       ·obtain ⟨g1, rfl⟩ : ∃ g1, gk = g1 + 1 := ⟨gk - 1, by omega⟩
        have k1 := HF.out.c 0 (by decide) (by decide); have z1 := HF.out.z 0; have ix := fr_index0 r1; have HT := yA (HF.out.or 0 (by decide) true); have HE := yA (HF.out.or 0 (by decide) false); cases hb1 : frGet (frMix oo r1 0) 0 <;> cases hb2 : frGet r1 0
        all_goals (
         rw [show ((0 : Int).toNat) = 0 from rfl, hb1] at k1; rw [hb2] at ix; go_wp2; go_roundg g1
         case measure => omega
         case rel => exact ⟨1, rfl, by omega, ⟨by first | exact HE.out (by rw [hb1, hb2]; rfl) | exact HT.out (by rw [hb1, hb2]; rfl)⟩, ⟨row_set HO.out⟩⟩)
       ·obtain ⟨g1, rfl⟩ : ∃ g1, gk = g1 + 1 := ⟨gk - 1, by omega⟩
        have k1 := HF.out.c 1 (by decide) (by decide); have z1 := HF.out.z 1; have ix := fr_index1 r1; have HT := yA (HF.out.or 1 (by decide) true); have HE := yA (HF.out.or 1 (by decide) false); cases hb1 : frGet (frMix oo r1 1) 1 <;> cases hb2 : frGet r1 1
        all_goals (
         rw [show ((1 : Int).toNat) = 1 from rfl, hb1] at k1; rw [hb2] at ix; go_wp2; go_roundg g1
         case measure => omega
         case rel => exact ⟨2, rfl, by omega, ⟨by first | exact HE.out (by rw [hb1, hb2]; rfl) | exact HT.out (by rw [hb1, hb2]; rfl)⟩, ⟨row_set HO.out⟩⟩)
       ·obtain ⟨g1, rfl⟩ : ∃ g1, gk = g1 + 1 := ⟨gk - 1, by omega⟩
        have k1 := HF.out.c 2 (by decide) (by decide); have z1 := HF.out.z 2; have ix := fr_index2 r1; have HT := yA (HF.out.or 2 (by decide) true); have HE := yA (HF.out.or 2 (by decide) false); cases hb1 : frGet (frMix oo r1 2) 2 <;> cases hb2 : frGet r1 2
        all_goals (
         rw [show ((2 : Int).toNat) = 2 from rfl, hb1] at k1; rw [hb2] at ix; go_wp2; go_roundg g1
         case measure => omega
         case rel => exact ⟨3, rfl, by omega, ⟨by first | exact HE.out (by rw [hb1, hb2]; rfl) | exact HT.out (by rw [hb1, hb2]; rfl)⟩, ⟨row_set HO.out⟩⟩)
       go_wp2; go_roundg k1
       case measure => have := HK1.out; omega
       case rel => exact ⟨wrap64 (i + 1), frOr oo r1, rfl, H, ⟨by have := HK1.out; omega⟩, HO, HF⟩
     rw [if_neg c8] at H; have c9 := HF.out.n0; have c10 := HF.out.n1; by_cases hq : n.f0 = 9 ∨ n.f0 = 10
     ·rw [HN.out, if_pos hq] at H; by_cases hx : 0 ≤ n.f1 ∧ n.f1 < 3
      ·rw [if_pos hx] at H; obtain rfl := zU H; obtain ⟨q1, q2⟩ := hx; have HG := yA (HF.out.set n.f1 q1 q2 false); have kk := HF.out.c n.f1 q1 q2; have zz := HF.out.z n.f1.toNat; replace q1 := eq_true q1; replace q2 := eq_true q2; rcases hq with hq | hq <;>
       ·rw [hq] at c9; go_wp2_with (first | ((with_reducible refine gate_dst (N := 85) rfl ?_); refine wpList_load_row rfl 63 (.tmp 5) rfl (w.heap.size + 1) rfl 63 (frCells (frSet oo n.f1 false)) (0, 0) _ HG.out.arr Try.underlying63 rfl (fr_info _) ?_) | ((with_reducible refine gate_store (t := 63) (p := 4) rfl ?_); refine wpList_store_row rfl 63 (.tmp 4) (.tmp 85) rfl w.heap.size (frCells (frSet oo n.f1 false)) rfl rfl 63 (frCells (false, false, false)) HG.out.res (fr_info _) rfl (fr_one _) ?_))
        exact bodyPost_ret (v := .agg (frCells (frSet oo n.f1 false))) (results_cell_row Try.results58 _ _ w.heap.size 63 (frCells (frSet oo n.f1 false)) (0, 0) _ rfl (setRow_heap _ _ _ _ _ _ HG.out.res) Try.underlying63 rfl (fr_info _)) rfl ⟨rfl, below_setRow HG.out.bel (zT _) _⟩
      rw [if_neg hx] at H; exact absurd H (by simp)
     rw [HN.out, if_neg hq] at H; obtain rfl := zU H; have g1 : (n.f0 == 9) = false := by simp; exact fun h => hq (Or.inl h)
     have g2 : (n.f0 == 10) = false := by simp; exact fun h => hq (Or.inr h)
     go_wp2_with (first | ((with_reducible refine gate_dst (N := 85) rfl ?_); refine wpList_load_row rfl 63 (.tmp 5) rfl (w.heap.size + 1) rfl 63 (frCells oo) (0, 0) _ HF.out.arr Try.underlying63 rfl (fr_info _) ?_) | ((with_reducible refine gate_store (t := 63) (p := 4) rfl ?_); refine wpList_store_row rfl 63 (.tmp 4) (.tmp 85) rfl w.heap.size (frCells oo) rfl rfl 63 (frCells (false, false, false)) HF.out.res (fr_info _) rfl (fr_one _) ?_))
     exact bodyPost_ret (v := .agg (frCells oo)) (results_cell_row Try.results58 _ _ w.heap.size 63 (frCells oo) (0, 0) _ rfl (setRow_heap _ _ _ _ _ _ HF.out.res) Try.underlying63 rfl (fr_info _)) rfl ⟨rfl, below_setRow HF.out.bel (zT _) _⟩

end Go.Proofs.Ytdckaflfgbbabaa.Q
