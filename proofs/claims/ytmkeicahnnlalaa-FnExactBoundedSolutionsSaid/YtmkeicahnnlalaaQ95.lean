-- written by a program of this session
-- squeezed
-- compact
-- shrunk
import Derived.Deep.CutBlock
import Derived.Test.YtmkeicahnnlalaaQ0
import Derived.Test.YtmkeicahnnlalaaQ94
namespace Go.Proofs.Ytmkeicahnnlalaa.Q
open Go.RowKit Go.Proofs.YtmkeicahnnlalaaW.PrintWords Go.Proofs.YtmkeicahnnlalaaW.PrintLast Go.Proofs.YtmkeicahnnlalaaW.PrintMore
set_option linter.unusedVariables false
set_option linter.unusedSimpArgs false

/-! ### impl_tried: function 100 -/
abbrev V3 := Int × Int × Int
def trG (v : V3) (x : Int) : Int := if x = 0 then v.1 else if x = 1 then v.2.1 else v.2.2
def trS (v : V3) (x y : Int) : V3 := (if x = 0 then y else v.1, if x = 1 then y else v.2.1, if x = 2 then y else v.2.2)
def trCells (v : V3) : Array Value := #[.int .i64 v.1, .int .i64 v.2.1, .int .i64 v.2.2]
mutual
def impl_tried.l0 : Nat → Int → List (List Int) → List Int → List S71 → S71 → V3 → Int → Int → Option Bool
 | 0, _, _, _, _, _, _, _, _ => none
 | k + 1, s0, s1, s2, f, n, v, most, x => if x < wrap64 (most + 1) then (if 0 ≤ n.f1 ∧ n.f1 < 3 then ((impl_tried.f k s0 s1 s2 f n.f2 (trS v n.f1 x) most).bind fun t => if (t == (n.f0 == 9)) = true then some (n.f0 == 9) else impl_tried.l0 k s0 s1 s2 f n (trS v n.f1 x) most (wrap64 (x + 1))) else none) else some (n.f0 == 10)
def impl_tried.f : Nat → Int → List (List Int) → List Int → List S71 → Int → V3 → Int → Option Bool
 | 0, _, _, _, _, _, _, _ => none
 | k + 1, s0, s1, s2, f, a, v, most => if 0 ≤ a then (if a < (f.length : Int) then (impl_tried.g k s0 s1 s2 f (rd_T71 f a) v most) else none) else none
def impl_tried.g : Nat → Int → List (List Int) → List Int → List S71 → S71 → V3 → Int → Option Bool
 | 0, _, _, _, _, _, _, _ => none
 | k + 1, s0, s1, s2, f, n, v, most =>
  if n.f0 = 1 then (if 0 ≤ n.f1 ∧ n.f1 < 3 ∧ 0 ≤ n.f2 ∧ n.f2 < 3 then some (trG v n.f1 == trG v n.f2) else none)
  else if n.f0 = 2 then (if 0 ≤ n.f1 ∧ n.f1 < 3 ∧ 0 ≤ n.f2 ∧ n.f2 < 3 then some (decide (trG v n.f1 < trG v n.f2)) else none)
  else if n.f0 = 3 then (if 0 ≤ n.f1 ∧ n.f1 < 3 ∧ 0 ≤ n.f2 ∧ n.f2 < 3 ∧ 0 ≤ n.f3 ∧ n.f3 < 3 then some (wrap64 (trG v n.f1 + trG v n.f2) == trG v n.f3) else none)
  else if n.f0 = 4 then (if 0 ≤ n.f1 ∧ n.f1 < 3 then some (trG v n.f1 == n.f2) else none)
  else if n.f0 = 5 then (if 0 ≤ n.f1 ∧ n.f1 < 3 then (impl_Sequence_term.f k s0 s1 s2 (trG v n.f1)).bind fun t => some (t == n.f2) else none)
  else if n.f0 = 6 then (impl_tried.f k s0 s1 s2 f n.f1 v most).bind fun t => some (!t)
  else if n.f0 = 7 then (impl_tried.f k s0 s1 s2 f n.f1 v most).bind fun t => if t = true then impl_tried.f k s0 s1 s2 f n.f2 v most else some false
  else if n.f0 = 8 then (impl_tried.f k s0 s1 s2 f n.f1 v most).bind fun t => if t = true then some true else impl_tried.f k s0 s1 s2 f n.f2 v most
  else impl_tried.l0 k s0 s1 s2 f n v most 0
end
theorem trCells_set (v : V3) (j : Int) (h0 : 0 ≤ j) (h3 : j < 3) (y : Int) : (trCells v).setIfInBounds j.toNat (.int .i64 y) = trCells (trS v j y) := by
 have : j = 0 ∨ j = 1 ∨ j = 2 := by omega
 rcases this with rfl | rfl | rfl <;> simp [trCells, trS]
theorem trCells_get (v : V3) (j : Int) (h0 : 0 ≤ j) (h3 : j < 3) : (trCells v)[j.toNat]? = some (.int .i64 (trG v j)) := by
 have : j = 0 ∨ j = 1 ∨ j = 2 := by omega
 rcases this with rfl | rfl | rfl <;> rfl
structure TrAt (w wr : World) (q0 q1 q2 : Value) (v : V3) (n : S71) : Prop where
 seq : wr.heap[w.heap.size]? = some (.cells #[q0, q1, q2] 32 (0, 0))
 arr : wr.heap[w.heap.size + 1]? = some (.cells (trCells v) 104 (0, 0))
 nod : wr.heap[w.heap.size + 2]? = some (.cells #[.int .i64 n.f0, .int .i64 n.f1, .int .i64 n.f2, .int .i64 n.f3] 71 (0, 0))
 bel : Below w.heap.size w wr
theorem TrAt.start (w : World) (q0 q1 q2 : Value) (v : V3) (n : S71) : TrAt w (((w.alloc (.cells #[q0, q1, q2] 32)).alloc (.cells #[.int .i64 v.1, .int .i64 v.2.1, .int .i64 v.2.2] 104)).alloc (.cells #[.int .i64 n.f0, .int .i64 n.f1, .int .i64 n.f2, .int .i64 n.f3] 71)) q0 q1 q2 v n := by
 have hs : (w.alloc (.cells #[q0, q1, q2] 32)).heap.size = w.heap.size + 1 := by simp
 have hs2 : ((w.alloc (.cells #[q0, q1, q2] 32)).alloc (.cells #[.int .i64 v.1, .int .i64 v.2.1, .int .i64 v.2.2] 104)).heap.size = w.heap.size + 2 := by simp
 have h1 := blk_new (w.alloc (.cells #[q0, q1, q2] 32)) (.cells #[.int .i64 v.1, .int .i64 v.2.1, .int .i64 v.2.2] 104)
 rw [hs] at h1
 have h2 := blk_new ((w.alloc (.cells #[q0, q1, q2] 32)).alloc (.cells #[.int .i64 v.1, .int .i64 v.2.1, .int .i64 v.2.2] 104)) (.cells #[.int .i64 n.f0, .int .i64 n.f1, .int .i64 n.f2, .int .i64 n.f3] 71)
 rw [hs2] at h2
 exact ⟨yR (yR (blk_new w _) _) _, yR h1 _, h2, yO (yO (yO (zV _ _) _) _) _⟩
section
variable {w wr w2 : World} {q0 q1 q2 : Value} {v : V3} {n : S71}
theorem TrAt.set (H : TrAt w wr q0 q1 q2 v n) (j : Int) (h0 : 0 ≤ j) (h3 : j < 3) (y : Int) : TrAt w (wr.setCell ⟨w.heap.size + 1, j.toNat, none⟩ (.int .i64 y)) q0 q1 q2 (trS v j y) n := by
 refine ⟨blk_far H.seq (by simp) _, ?_, blk_far H.nod (by simp) _, H.bel.setCell (by simp) _⟩
 have := blk_set H.arr j.toNat (.int .i64 y)
 rwa [trCells_set v j h0 h3] at this
theorem TrAt.drew (H : TrAt w wr q0 q1 q2 v n) : TrAt w wr.drew q0 q1 q2 v n := ⟨H.seq, H.arr, H.nod, yP H.bel⟩
theorem TrAt.below (H : TrAt w wr q0 q1 q2 v n) (hb : Below wr.heap.size wr w2) : TrAt w w2 q0 q1 q2 v n :=
 ⟨yU H.seq hb, yU H.arr hb, yU H.nod hb, below_then H.bel H.bel.size hb⟩
theorem TrAt.n0 (H : TrAt w wr q0 q1 q2 v n) : wr.cell? ⟨w.heap.size + 1 + 1, 0, none⟩ = some (.int .i64 n.f0) := yV H.nod 0
theorem TrAt.n1 (H : TrAt w wr q0 q1 q2 v n) : wr.cell? ⟨w.heap.size + 1 + 1, 1, none⟩ = some (.int .i64 n.f1) := yV H.nod 1
theorem TrAt.n2 (H : TrAt w wr q0 q1 q2 v n) : wr.cell? ⟨w.heap.size + 1 + 1, 2, none⟩ = some (.int .i64 n.f2) := yV H.nod 2
theorem TrAt.n3 (H : TrAt w wr q0 q1 q2 v n) : wr.cell? ⟨w.heap.size + 1 + 1, 3, none⟩ = some (.int .i64 n.f3) := yV H.nod 3
theorem TrAt.s0 (H : TrAt w wr q0 q1 q2 v n) : wr.cell? ⟨w.heap.size, 0, none⟩ = some q0 := yV H.seq 0
theorem TrAt.s1 (H : TrAt w wr q0 q1 q2 v n) : wr.cell? ⟨w.heap.size, 1, none⟩ = some q1 := yV H.seq 1
theorem TrAt.s2 (H : TrAt w wr q0 q1 q2 v n) : wr.cell? ⟨w.heap.size, 2, none⟩ = some q2 := yV H.seq 2
theorem TrAt.v0 (H : TrAt w wr q0 q1 q2 v n) : wr.cell? ⟨w.heap.size + 1, 0, none⟩ = some (.int .i64 v.1) := yV H.arr 0
theorem TrAt.v1 (H : TrAt w wr q0 q1 q2 v n) : wr.cell? ⟨w.heap.size + 1, 1, none⟩ = some (.int .i64 v.2.1) := yV H.arr 1
theorem TrAt.v2 (H : TrAt w wr q0 q1 q2 v n) : wr.cell? ⟨w.heap.size + 1, 2, none⟩ = some (.int .i64 v.2.2) := yV H.arr 2
theorem TrAt.c (H : TrAt w wr q0 q1 q2 v n) (j : Int) (h0 : 0 ≤ j) (h3 : j < 3) : wr.cell? ⟨w.heap.size + 1, j.toNat, none⟩ = some (.int .i64 (trG v j)) := by
 rw [yV H.arr, trCells_get v j h0 h3]
theorem TrAt.z (H : TrAt w wr q0 q1 q2 v n) (j : Nat) : wr.frozen? ⟨w.heap.size + 1, j, none⟩ = false := yW H.arr j
end
theorem impl_tried.mono_l : ∀ k, (∀ a b c d e f g, LeO (impl_tried.f k a b c d e f g) (impl_tried.f (k + 1) a b c d e f g)) ∧ (∀ a b c d e f g, LeO (impl_tried.g k a b c d e f g) (impl_tried.g (k + 1) a b c d e f g)) ∧ (∀ a b c d e f g h, LeO (impl_tried.l0 k a b c d e f g h) (impl_tried.l0 (k + 1) a b c d e f g h))
 | 0 => ⟨fun _ _ _ _ _ _ _ r h => by simp [impl_tried.f] at h, fun _ _ _ _ _ _ _ r h => by simp [impl_tried.g] at h, fun _ _ _ _ _ _ _ _ r h => by simp [impl_tried.l0] at h⟩
 | k + 1 => by
  obtain ⟨ih0, ih1, ih2⟩ := impl_tried.mono_l k
  refine ⟨?_, ?_, ?_⟩
  ·intro a b c d e f g
   unfold impl_tried.f
   repeat' first
   | exact ih0 _ _ _ _ _ _ _
   | exact ih1 _ _ _ _ _ _ _
   | exact ih2 _ _ _ _ _ _ _ _
   | (with_reducible exact LeO.refl _)
   | exact LeO.none _
   | refine LeO.ite ?_ ?_
   | refine LeO.bind ?_ (fun _ => ?_)
  ·intro a b c d e f g
   unfold impl_tried.g
   repeat' first
   | exact ih0 _ _ _ _ _ _ _
   | exact ih1 _ _ _ _ _ _ _
   | exact ih2 _ _ _ _ _ _ _ _
   | exact impl_Sequence_term.mono _ _ _ _ _
   | (with_reducible exact LeO.refl _)
   | exact LeO.none _
   | refine LeO.ite ?_ ?_
   | refine LeO.bind ?_ (fun _ => ?_)
  ·intro a b c d e f g h
   unfold impl_tried.l0
   repeat' first
   | exact ih0 _ _ _ _ _ _ _
   | exact ih1 _ _ _ _ _ _ _
   | exact ih2 _ _ _ _ _ _ _ _
   | (with_reducible exact LeO.refl _)
   | exact LeO.none _
   | refine LeO.ite ?_ ?_
   | refine LeO.bind ?_ (fun _ => ?_)
theorem impl_tried.mono : ∀ a b c d e f g k, LeO (impl_tried.f k a b c d e f g) (impl_tried.f (k + 1) a b c d e f g) := fun a b c d e f g k => (impl_tried.mono_l k).1 a b c d e f g
theorem impl_tried.l0_up (k : Nat) (a b c d e f g h) (r : Bool) (H : impl_tried.l0 k a b c d e f g h = some r) : impl_tried.l0 (k + 1) a b c d e f g h = some r := (impl_tried.mono_l k).2.2 a b c d e f g h r H
set_option maxHeartbeats 8000000 in
set_option maxRecDepth 100000 in
theorem impl_tried.calls (k : Nat) : ∀ (a0_0 : Int) (A0_1 : Option Addr) (c0_1 : Nat) (l0_1 : List (List Int)) (A0_2 : Option Addr) (c0_2 : Nat) (l0_2 : List Int) (A1 : Option Addr) (c1 : Nat) (l1 : List (S71)) (a2 : Int) (v : V3) (a4 : Int) (r : Bool) (w : World) (hr0_1 : Kd.C (Kd.slice 3 (Kd.int .i64)) w A0_1 l0_1.length l0_1) (hc0_1 : l0_1.length ≤ c0_1) (hr0_2 : Kd.C (Kd.int .i64) w A0_2 l0_2.length l0_2) (hc0_2 : l0_2.length ≤ c0_2) (hr1 : Kd.C k71 w A1 l1.length l1) (hc1 : l1.length ≤ c1) (h : impl_tried.f k a0_0 l0_1 l0_2 l1 a2 v a4 = some r),
  Calls Try.prog 100 #[.agg #[.int .i64 a0_0, .slice A0_1 l0_1.length c0_1, .slice A0_2 l0_2.length c0_2], .slice A1 l1.length c1, .int .i64 a2, .agg #[.int .i64 v.1, .int .i64 v.2.1, .int .i64 v.2.2], .int .i64 a4] w fun e w' => e = .returned (.bool r) ∧ Below w.heap.size w w' := by
 induction k using Nat.strongRecOn with
 | _ k ih =>
 intro a0_0 A0_1 c0_1 l0_1 A0_2 c0_2 l0_2 A1 c1 l1 a2 v a4 r w hr0_1 hc0_1 hr0_2 hc0_2 hr1 hc1 h
 cases k with
 | zero => exact absurd h (by simp [impl_tried.f])
 | succ k =>
 simp only [impl_tried.f] at h
 have hu48 := Try.underlying71
 have hu42 := Try.underlying32
 have HR01 := yA hr0_1
 have HC01 := yA hc0_1
 have HR02 := yA hr0_2
 have HC02 := yA hc0_2
 have HR1 := yA hr1
 have HC1 := yA hc1
 clear hr0_1 hc0_1 hr0_2 hc0_2 hr1 hc1
 by_cases h0 : 0 ≤ a2
 case neg => rw [if_neg h0] at h; exact absurd h (by simp)
 by_cases h1 : a2 < (l1.length : Int)
 case neg => rw [if_pos h0, if_neg h1] at h; exact absurd h (by simp)
 rw [if_pos h0, if_pos h1] at h
 cases k with
 | zero => exact absurd h (by simp [impl_tried.g])
 | succ k =>
 obtain ⟨ad, e286, hx0, hx1, hx2, hx3⟩ := at_T71 HR1.out a2 h0 h1
 cases e286
 have HB2 : Below w.heap.size w ((w.alloc (.cells #[.int .i64 a0_0, .slice A0_1 l0_1.length c0_1, .slice A0_2 l0_2.length c0_2] 32)).alloc (.cells #[.int .i64 v.1, .int .i64 v.2.1, .int .i64 v.2.2] 104)) := yO (yO (zV _ _) _) _
 replace hx0 := (HB2.cell (zE w _ hx0)).trans hx0
 replace hx1 := (HB2.cell (zE w _ hx1)).trans hx1
 replace hx2 := (HB2.cell (zE w _ hx2)).trans hx2
 replace hx3 := (HB2.cell (zE w _ hx3)).trans hx3
 clear HB2
 replace h0 := eq_true h0
 replace h1 := eq_true h1
 obtain ⟨n, hn⟩ : ∃ n, rd_T71 l1 a2 = n := ⟨_, rfl⟩
 rw [hn] at hx0 hx1 hx2 hx3 h
 clear hn
 have H := yA h
 clear h
 go_enter Try.func100, Try.ntmps100
 go_upto_region 2 with fail
 go_cut [18] from 13 to 18 (fun v18 wc => v18 = .int .i64 n.f0 ∧ TrAt w wc (.int .i64 a0_0) (.slice A0_1 l0_1.length c0_1) (.slice A0_2 l0_2.length c0_2) v n)
 case first =>
  go_wp2_with fail
  go_meet
  exact ⟨rfl, TrAt.start w _ _ _ v n⟩
 case rest =>
  obtain ⟨rfl, HF⟩ := hcut
  clear hx0 hx1 hx2 hx3
  have x1 := HF.n1
  have x2 := HF.n2
  have H := H.out
  simp only [impl_tried.g] at H
  by_cases e1 : n.f0 = 1
  ·rw [if_pos e1] at H
   by_cases b1 : 0 ≤ n.f1 ∧ n.f1 < 3 ∧ 0 ≤ n.f2 ∧ n.f2 < 3
   ·rw [if_pos b1] at H
    obtain rfl := zU H
    obtain ⟨q1, q2, q3, q4⟩ := b1
    have k1 := HF.c n.f1 q1 q2
    have k2 := HF.c n.f2 q3 q4
    have HG := yA HF
    replace q1 := eq_true q1
    replace q2 := eq_true q2
    replace q3 := eq_true q3
    replace q4 := eq_true q4
    rw [e1]
    go_wp2
    go_region
    all_goals (go_wp2; go_ret; exact ⟨rfl, HG.out.drew.bel⟩)
   ·rw [if_neg b1] at H
    exact absurd H (by simp)
  ·rw [if_neg e1] at H
   replace e1 := eq_false e1
   by_cases e2 : n.f0 = 2
   ·rw [if_pos e2] at H
    by_cases b1 : 0 ≤ n.f1 ∧ n.f1 < 3 ∧ 0 ≤ n.f2 ∧ n.f2 < 3
    ·rw [if_pos b1] at H
     obtain rfl := zU H
     obtain ⟨q1, q2, q3, q4⟩ := b1
     have k1 := HF.c n.f1 q1 q2
     have k2 := HF.c n.f2 q3 q4
     have HG := yA HF
     replace q1 := eq_true q1
     replace q2 := eq_true q2
     replace q3 := eq_true q3
     replace q4 := eq_true q4
     rw [e2]
     go_wp2
     go_region
     all_goals (go_wp2; go_ret; exact ⟨rfl, HG.out.drew.bel⟩)
    ·rw [if_neg b1] at H
     exact absurd H (by simp)
   ·rw [if_neg e2] at H
    replace e2 := eq_false e2
    by_cases e3 : n.f0 = 3
    ·rw [if_pos e3] at H
     by_cases b1 : 0 ≤ n.f1 ∧ n.f1 < 3 ∧ 0 ≤ n.f2 ∧ n.f2 < 3 ∧ 0 ≤ n.f3 ∧ n.f3 < 3
     ·rw [if_pos b1] at H
      obtain rfl := zU H
      obtain ⟨q1, q2, q3, q4, q5, q6⟩ := b1
      have x3 := HF.n3
      have k1 := HF.c n.f1 q1 q2
      have k2 := HF.c n.f2 q3 q4
      have k3 := HF.c n.f3 q5 q6
      have HG := yA HF
      replace q1 := eq_true q1
      replace q2 := eq_true q2
      replace q3 := eq_true q3
      replace q4 := eq_true q4
      replace q5 := eq_true q5
      replace q6 := eq_true q6
      rw [e3]
      go_wp2
      go_region
      all_goals (go_wp2; go_ret; exact ⟨rfl, HG.out.drew.bel⟩)
     ·rw [if_neg b1] at H
      exact absurd H (by simp)
    ·rw [if_neg e3] at H
     replace e3 := eq_false e3
     by_cases e4 : n.f0 = 4
     ·rw [if_pos e4] at H
      by_cases b1 : 0 ≤ n.f1 ∧ n.f1 < 3
      ·rw [if_pos b1] at H
       obtain rfl := zU H
       obtain ⟨q1, q2⟩ := b1
       have k1 := HF.c n.f1 q1 q2
       have HG := yA HF
       replace q1 := eq_true q1
       replace q2 := eq_true q2
       rw [e4]
       go_wp2
       go_region
       all_goals (go_wp2; go_ret; exact ⟨rfl, HG.out.drew.bel⟩)
      ·rw [if_neg b1] at H
       exact absurd H (by simp)
     ·rw [if_neg e4] at H
      replace e4 := eq_false e4
      by_cases e5 : n.f0 = 5
      ·rw [if_pos e5] at H
       by_cases b1 : 0 ≤ n.f1 ∧ n.f1 < 3
       ·rw [if_pos b1] at H
        obtain ⟨t5, hT, H⟩ := Option.bind_eq_some_iff.1 H
        obtain rfl := zU H
        obtain ⟨q1, q2⟩ := b1
        have HT := yA hT
        clear hT
        have k1 := HF.c n.f1 q1 q2
        have s0 := HF.s0
        have s1 := HF.s1
        have s2 := HF.s2
        have HG := yA HF
        replace q1 := eq_true q1
        replace q2 := eq_true q2
        rw [e5]
        go_wp2
        go_region_with ((go_at_call 123; refine (impl_Sequence_term.calls k a0_0 _ _ l0_1 _ _ l0_2 (trG v n.f1) t5 _ ?sa HC01.out ?sb HC02.out HT.out).mono ?_; (case sa => exact yM HR01.out (by first | exact HG.out.bel | exact yP HG.out.bel)); (case sb => exact yM HR02.out (by first | exact HG.out.bel | exact yP HG.out.bel)); rintro e w6 ⟨rfl, hb⟩; have HG6 := yA (HG.out.below (by first | exact hb | exact below_then (yP (zV _ _)) (zT _) hb)); have y1 := HG6.out.n1; have y2 := HG6.out.n2; clear hb))
        all_goals (go_wp2; go_ret; exact ⟨rfl, HG6.out.bel⟩)
       ·rw [if_neg b1] at H
        exact absurd H (by simp)
      ·rw [if_neg e5] at H
       replace e5 := eq_false e5
       by_cases e6 : n.f0 = 6
       ·rw [if_pos e6] at H
        obtain ⟨t6, hT, H⟩ := Option.bind_eq_some_iff.1 H
        obtain rfl := zU H
        have HT := yA hT
        clear hT
        have s0 := HF.s0
        have s1 := HF.s1
        have s2 := HF.s2
        have v0 := HF.v0
        have v1 := HF.v1
        have v2 := HF.v2
        have HG := yA HF
        rw [e6]
        go_wp2_with ((go_at_call 100; refine (ih _ (by omega) a0_0 _ _ l0_1 _ _ l0_2 _ _ l1 n.f1 v a4 t6 _ ?sa HC01.out ?sb HC02.out ?sc HC1.out HT.out).mono ?_; (case sa => exact yM HR01.out HG.out.bel); (case sb => exact yM HR02.out HG.out.bel); (case sc => exact yM HR1.out HG.out.bel); rintro e w6 ⟨rfl, hb⟩; have HG6 := yA (HG.out.below hb); clear hb))
        go_ret
        exact ⟨rfl, HG6.out.bel⟩
       ·rw [if_neg e6] at H
        replace e6 := eq_false e6
        by_cases e7 : n.f0 = 7
        ·rw [if_pos e7] at H
         obtain ⟨t6, hT, H⟩ := Option.bind_eq_some_iff.1 H
         have HT := yA hT
         clear hT
         have s0 := HF.s0
         have s1 := HF.s1
         have s2 := HF.s2
         have v0 := HF.v0
         have v1 := HF.v1
         have v2 := HF.v2
         have HG := yA HF
         rw [e7]
         cases t6 with
         | true =>
          rw [if_pos rfl] at H
          have HT2 := yA H
          clear H
          go_wp2_with (first | (have hg6_ := HG6; clear hg6_; go_at_call 100; refine (ih _ (by omega) a0_0 _ _ l0_1 _ _ l0_2 _ _ l1 n.f2 v a4 _ _ ?sa HC01.out ?sb HC02.out ?sc HC1.out HT2.out).mono ?_; (case sa => exact yM HR01.out HG6.out.bel); (case sb => exact yM HR02.out HG6.out.bel); (case sc => exact yM HR1.out HG6.out.bel); rintro e w7 ⟨rfl, hb⟩; have HG7 := yA (HG6.out.below hb); clear hb) | (go_at_call 100; refine (ih _ (by omega) a0_0 _ _ l0_1 _ _ l0_2 _ _ l1 n.f1 v a4 true _ ?sa HC01.out ?sb HC02.out ?sc HC1.out HT.out).mono ?_; (case sa => exact yM HR01.out HG.out.bel); (case sb => exact yM HR02.out HG.out.bel); (case sc => exact yM HR1.out HG.out.bel); rintro e w6 ⟨rfl, hb⟩; have HG6 := yA (HG.out.below hb); clear s0 s1 s2 v0 v1 v2 x1 x2; have s0 := HG6.out.s0; have s1 := HG6.out.s1; have s2 := HG6.out.s2; have v0 := HG6.out.v0; have v1 := HG6.out.v1; have v2 := HG6.out.v2; have x2 := HG6.out.n2; clear hb))
          go_ret
          exact ⟨rfl, HG7.out.bel⟩
         | false =>
          rw [if_neg (by decide)] at H
          obtain rfl := zU H
          go_wp2_with ((go_at_call 100; refine (ih _ (by omega) a0_0 _ _ l0_1 _ _ l0_2 _ _ l1 n.f1 v a4 false _ ?sa HC01.out ?sb HC02.out ?sc HC1.out HT.out).mono ?_; (case sa => exact yM HR01.out HG.out.bel); (case sb => exact yM HR02.out HG.out.bel); (case sc => exact yM HR1.out HG.out.bel); rintro e w6 ⟨rfl, hb⟩; have HG6 := yA (HG.out.below hb); clear s0 s1 s2 v0 v1 v2 x1 x2; have s0 := HG6.out.s0; have s1 := HG6.out.s1; have s2 := HG6.out.s2; have v0 := HG6.out.v0; have v1 := HG6.out.v1; have v2 := HG6.out.v2; have x2 := HG6.out.n2; clear hb))
          go_ret
          exact ⟨rfl, HG6.out.bel⟩
        ·rw [if_neg e7] at H
         replace e7 := eq_false e7
         by_cases e8 : n.f0 = 8
         ·rw [if_pos e8] at H
          obtain ⟨t6, hT, H⟩ := Option.bind_eq_some_iff.1 H
          have HT := yA hT
          clear hT
          have s0 := HF.s0
          have s1 := HF.s1
          have s2 := HF.s2
          have v0 := HF.v0
          have v1 := HF.v1
          have v2 := HF.v2
          have HG := yA HF
          rw [e8]
          cases t6 with
          | true =>
           rw [if_pos rfl] at H
           obtain rfl := zU H
           go_wp2_with ((go_at_call 100; refine (ih _ (by omega) a0_0 _ _ l0_1 _ _ l0_2 _ _ l1 n.f1 v a4 true _ ?sa HC01.out ?sb HC02.out ?sc HC1.out HT.out).mono ?_; (case sa => exact yM HR01.out HG.out.bel); (case sb => exact yM HR02.out HG.out.bel); (case sc => exact yM HR1.out HG.out.bel); rintro e w6 ⟨rfl, hb⟩; have HG6 := yA (HG.out.below hb); clear s0 s1 s2 v0 v1 v2 x1 x2; have s0 := HG6.out.s0; have s1 := HG6.out.s1; have s2 := HG6.out.s2; have v0 := HG6.out.v0; have v1 := HG6.out.v1; have v2 := HG6.out.v2; have x2 := HG6.out.n2; clear hb))
           go_ret
           exact ⟨rfl, HG6.out.bel⟩
          | false =>
           rw [if_neg (by decide)] at H
           have HT2 := yA H
           clear H
           go_wp2_with (first | (have hg6_ := HG6; clear hg6_; go_at_call 100; refine (ih _ (by omega) a0_0 _ _ l0_1 _ _ l0_2 _ _ l1 n.f2 v a4 _ _ ?sa HC01.out ?sb HC02.out ?sc HC1.out HT2.out).mono ?_; (case sa => exact yM HR01.out HG6.out.bel); (case sb => exact yM HR02.out HG6.out.bel); (case sc => exact yM HR1.out HG6.out.bel); rintro e w7 ⟨rfl, hb⟩; have HG7 := yA (HG6.out.below hb); clear hb) | (go_at_call 100; refine (ih _ (by omega) a0_0 _ _ l0_1 _ _ l0_2 _ _ l1 n.f1 v a4 false _ ?sa HC01.out ?sb HC02.out ?sc HC1.out HT.out).mono ?_; (case sa => exact yM HR01.out HG.out.bel); (case sb => exact yM HR02.out HG.out.bel); (case sc => exact yM HR1.out HG.out.bel); rintro e w6 ⟨rfl, hb⟩; have HG6 := yA (HG.out.below hb); clear s0 s1 s2 v0 v1 v2 x1 x2; have s0 := HG6.out.s0; have s1 := HG6.out.s1; have s2 := HG6.out.s2; have v0 := HG6.out.v0; have v1 := HG6.out.v1; have v2 := HG6.out.v2; have x2 := HG6.out.n2; clear hb))
           go_ret
           exact ⟨rfl, HG7.out.bel⟩
         ·rw [if_neg e8] at H
          replace e8 := eq_false e8
          have g1 : (n.f0 == 1) = false := by simp [e1]
          have g2 : (n.f0 == 2) = false := by simp [e2]
          have g3 : (n.f0 == 3) = false := by simp [e3]
          have g4 : (n.f0 == 4) = false := by simp [e4]
          have g5 : (n.f0 == 5) = false := by simp [e5]
          have g6 : (n.f0 == 6) = false := by simp [e6]
          have g7 : (n.f0 == 7) = false := by simp [e7]
          have g8 : (n.f0 == 8) = false := by simp [e8]
          have HG := yA HF
          have H := yA H
          clear HF x1 x2
          go_wp2_with fail
          go_loopg [125] (k + 1) (fun kq v125 w' => ∃ (x : Int) (vv : V3), v125 = .int .i64 x ∧ Aside0 (impl_tried.l0 kq a0_0 l0_1 l0_2 l1 n vv a4 x = some r) ∧ Aside0 (kq ≤ k + 1) ∧ Aside0 (TrAt w w' (.int .i64 a0_0) (.slice A0_1 l0_1.length c0_1) (.slice A0_2 l0_2.length c0_2) vv n))
          case atStart => exact ⟨0, v, rfl, ⟨impl_tried.l0_up k _ _ _ _ _ _ _ _ r H.out⟩, ⟨zT _⟩, HG⟩
          case round =>
           clear H HG g1 g2 g3 g4 g5 g6 g7 g8 e1 e2 e3 e4 e5 e6 e7 e8
           obtain ⟨x, vv, rfl, HA, HK1, HG⟩ := hrel
           cases gk with
           | zero => exact absurd HA.out (by simp [impl_tried.l0])
           | succ k1 =>
            have H := HA.out
            clear HA
            simp only [impl_tried.l0] at H
            have x0 := HG.out.n0
            have x1 := HG.out.n1
            by_cases c8 : x < wrap64 (a4 + 1)
            ·rw [if_pos c8] at H
             by_cases b1 : 0 ≤ n.f1 ∧ n.f1 < 3
             case neg => rw [if_neg b1] at H; exact absurd H (by simp)
             rw [if_pos b1] at H
             obtain ⟨t5, hT, H⟩ := Option.bind_eq_some_iff.1 H
             have HT := yA hT
             clear hT
             obtain ⟨q1, q2⟩ := b1
             have kk := HG.out.c n.f1 q1 q2
             have zz := HG.out.z n.f1.toNat
             have HS := yA (HG.out.set n.f1 q1 q2 x)
             replace q1 := eq_true q1
             replace q2 := eq_true q2
             replace c8 := eq_true c8
             go_upto_region 23 with fail
             clear HG x0 x1 kk zz
             have s0 := HS.out.s0
             have s1 := HS.out.s1
             have s2 := HS.out.s2
             have v0 := HS.out.v0
             have v1 := HS.out.v1
             have v2 := HS.out.v2
             have x0 := HS.out.n0
             have x2 := HS.out.n2
             have HSa := HS.out
             clear HS
             revert s0 s1 s2 v0 v1 v2 x0 x2 HSa
             generalize wr.setCell ⟨w.heap.size + 1, n.f1.toNat, none⟩ (.int .i64 x) = ws
             intro s0 s1 s2 v0 v1 v2 x0 x2 HSa
             have HS := yA HSa
             clear HSa
             go_cut [142] from 132 to 142 (fun v142 wc => v142 = .bool (t5 == (n.f0 == 9)) ∧ Aside0 (TrAt w wc (.int .i64 a0_0) (.slice A0_1 l0_1.length c0_1) (.slice A0_2 l0_2.length c0_2) (trS vv n.f1 x) n))
             case first =>
              go_region_with ((go_at_call 100; refine (ih k1 (by have := HK1.out; omega) a0_0 _ _ l0_1 _ _ l0_2 _ _ l1 n.f2 (trS vv n.f1 x) a4 t5 _ ?sa HC01.out ?sb HC02.out ?sc HC1.out HT.out).mono ?_; (case sa => exact yM HR01.out (yP HS.out.bel)); (case sb => exact yM HR02.out (yP HS.out.bel)); (case sc => exact yM HR1.out (yP HS.out.bel)); rintro e w6 ⟨rfl, hb⟩; have HG6 := yA (HS.out.drew.below hb); have y0 := HG6.out.n0; clear hb))
              all_goals (go_wp2_with fail; go_meet; exact ⟨rfl, HG6⟩)
             case rest =>
              obtain ⟨rfl, HG⟩ := hcut
              clear HS s0 s1 s2 v0 v1 v2 x0 x2
              have x0 := HG.out.n0
              cases hq : (t5 == (n.f0 == 9)) with
              | true =>
               rw [if_pos hq] at H
               obtain rfl := zU H
               go_wp2_with fail
               go_ret
               exact ⟨rfl, HG.out.bel⟩
              | false =>
               rw [if_neg (by rw [hq]; decide)] at H
               have H := yA H
               go_wp2_with fail
               go_roundg k1
               case measure => have := HK1.out; omega
               case rel => exact ⟨wrap64 (x + 1), trS vv n.f1 x, rfl, H, ⟨by have := HK1.out; omega⟩, HG⟩
            ·rw [if_neg c8] at H
             obtain rfl := zU H
             replace c8 := eq_false c8
             go_wp2_with fail
             go_ret
             exact ⟨rfl, HG.out.bel⟩

end Go.Proofs.Ytmkeicahnnlalaa.Q
