-- written by a program of this session
-- compact
-- shrunk
import Derived.Test.YtgopcliohchkmaaVPlus
import Derived.Test.YtgopcliohchkmaaQ0
import Derived.Test.YtgopcliohchkmaaQ219
import Derived.Test.YtgopcliohchkmaaQ41
import Derived.Test.YtgopcliohchkmaaQ69
namespace Go.Proofs.Ytgopcliohchkmaa.Q
open Go.RowKit Go.Proofs.YtgopcliohchkmaaW.PrintWords Go.Proofs.YtgopcliohchkmaaW.PrintLast Go.Proofs.YtgopcliohchkmaaW.PrintMore
set_option linter.unusedVariables false
set_option linter.unusedSimpArgs false

/-! ### impl_MembersOf: function 39 -/
mutual
def impl_MembersOf.j0 : Nat → Int → Bool → Int → Int → List (List Int) → List Bool → Option ((List (List Int)) × Bool)
 | 0, _, _, _, _, _, _ => none
 | k + 1, x1, x33, x356000, x356001, x356002, x356003 => if x33 = true then (some ((([] : List (List Int))), false)) else ((impl_allWords.f k (wrap64 (x1 + 1)) x356001).bind fun t363 => (impl_MembersOf.l0 k (([] : List (List Int))) t363 (t363.length : Int) 0 x356000 x356001 x356002 x356003))
def impl_MembersOf.l0 : Nat → List (List Int) → List (List Int) → Int → Int → Int → Int → List (List Int) → List Bool → Option ((List (List Int)) × Bool)
 | 0, _, _, _, _, _, _, _, _ => none
 | k + 1, x6, x40, x41, x42, x356000, x356001, x356002, x356003 => if x42 < x41 then (if 0 ≤ x42 then (if x42 < (x40.length : Int) then ((impl_Relation_contains.f k x356000 x356001 x356002 x356003 (rd_L1 x40 x42)).bind fun t367 => (if t367 = true then (if x6.length < 5864062014805 then (impl_MembersOf.l0 k (x6 ++ [rd_L1 x40 x42]) x40 x41 (wrap64 (x42 + 1)) x356000 x356001 x356002 x356003) else (none)) else (impl_MembersOf.l0 k x6 x40 x41 (wrap64 (x42 + 1)) x356000 x356001 x356002 x356003))) else (none)) else (none)) else (some (x6, true))
end
def impl_MembersOf.f (k : Nat) (a0_0 : Int) (a0_1 : Int) (l0_2 : List (List Int)) (l0_3 : List Bool) (a1 : Int) : Option ((List (List Int)) × Bool) := (impl_IsRelation.f k a0_0 a0_1 l0_2 l0_3).bind fun t356 => (if t356 = true then (if a0_1 = 0 then (impl_MembersOf.j0 k a1 true a0_0 a0_1 l0_2 l0_3) else (if a1 < 0 then (impl_MembersOf.j0 k a1 true a0_0 a0_1 l0_2 l0_3) else (if a1 > 20 then (impl_MembersOf.j0 k a1 true a0_0 a0_1 l0_2 l0_3) else (if a0_1 = 3 then (impl_MembersOf.j0 k a1 (decide (a1 > 7)) a0_0 a0_1 l0_2 l0_3) else (impl_MembersOf.j0 k a1 false a0_0 a0_1 l0_2 l0_3))))) else (impl_MembersOf.j0 k a1 true a0_0 a0_1 l0_2 l0_3))
theorem impl_MembersOf.mono_l : ∀ k, (∀ y0 y1 y2 y3 y4 y5, LeO (impl_MembersOf.j0 k y0 y1 y2 y3 y4 y5) (impl_MembersOf.j0 (k + 1) y0 y1 y2 y3 y4 y5)) ∧ (∀ y0 y1 y2 y3 y4 y5 y6 y7, LeO (impl_MembersOf.l0 k y0 y1 y2 y3 y4 y5 y6 y7) (impl_MembersOf.l0 (k + 1) y0 y1 y2 y3 y4 y5 y6 y7))
 | 0 => ⟨fun _ _ _ _ _ _ r h => by simp [impl_MembersOf.j0] at h, fun _ _ _ _ _ _ _ _ r h => by simp [impl_MembersOf.l0] at h⟩
 | k + 1 => by
  obtain ⟨ih0, ih1⟩ := impl_MembersOf.mono_l k
  refine ⟨?_, ?_⟩ <;> intros <;> first | unfold impl_MembersOf.j0 | unfold impl_MembersOf.l0
  all_goals repeat' (with_reducible first | exact ih0 _ _ _ _ _ _ | exact ih1 _ _ _ _ _ _ _ _ | exact impl_IsRelation.mono _ _ _ _ _ | exact impl_Relation_contains.mono _ _ _ _ _ _ | exact impl_allWords.mono _ _ _ | exact LeO.refl _ | exact LeO.none _ | refine LeO.ite ?_ ?_ | refine LeO.bind ?_ fun _ => ?_)
theorem impl_MembersOf.mono : ∀ a0 a1 a2 a3 a4 k, LeO (impl_MembersOf.f k a0 a1 a2 a3 a4) (impl_MembersOf.f (k + 1) a0 a1 a2 a3 a4) := by
 intro a0 a1 a2 a3 a4 k
 obtain ⟨ih0, ih1⟩ := impl_MembersOf.mono_l k
 unfold impl_MembersOf.f
 repeat' (with_reducible first | exact ih0 _ _ _ _ _ _ | exact ih1 _ _ _ _ _ _ _ _ | exact impl_IsRelation.mono _ _ _ _ _ | exact impl_Relation_contains.mono _ _ _ _ _ _ | exact impl_allWords.mono _ _ _ | exact LeO.refl _ | exact LeO.none _ | refine LeO.ite ?_ ?_ | refine LeO.bind ?_ fun _ => ?_)
set_option maxHeartbeats 8000000 in
set_option maxRecDepth 100000 in
theorem w64_ {x : Int} (h0 : -9223372036854775808 ≤ x) (h1 : x < 9223372036854775808) : wrap64 x = x := by
 unfold wrap64; omega
theorem mvT_ {n : Nat} {w w1 : World} [m : Nonempty (MvS w w1)] (h : n ≤ w.heap.size) : n ≤ w1.heap.size := m.elim fun m => Nat.le_trans h m.b.size
theorem zip_getD {xs : List (List Int)} {i : Int} (h0 : 0 ≤ i) (h1 : i < (xs.length : Int)) : xs.zipIdx.getD i.toNat ([], 0) = (rd_L1 xs i, i.toNat) := by
 have hi : i.toNat < xs.length := by omega
 rw [List.getD_eq_getElem?_getD, List.getElem?_zipIdx]
 unfold rd_L1
 simp [hi]
theorem words_new {w W w1 : World} {g : Nat} {u v : Value} {ok : Nat → Prop} {xs : List (List Int)} (hw : w.heap.size ≤ W.heap.size) (ho : Kd.S (Kd.slice 3 (Kd.int .i64)) 38 w1 W.heap.size (fun k => W.heap.size ≤ k) v xs) (hu : Kd.S (Kd.slice 3 (Kd.int .i64)) 38 W w.heap.size ok u []) (hok : ∀ k, ok k → w.heap.size ≤ k ∧ k ≠ g) (hb : Below W.heap.size W w1) (hg : g < W.heap.size) :
  ∃ (f : Nat → Nat) (h1 h2 : Nat), (Kd.tag f (Kd.slice 3 (Kd.int .i64))).R 38 w1 w.heap.size (fun k => (w.heap.size ≤ k ∧ some k ≠ u.ownBlock ∧ k ≠ g) ∧ h1 ≤ k ∧ k < h2) v xs.zipIdx ∧ Kd.S (Kd.slice 3 (Kd.int .i64)) 38 w1 w.heap.size (fun k => w.heap.size ≤ k ∧ some k ≠ v.ownBlock ∧ k ≠ g ∧ (k < h1 ∨ h2 ≤ k ∨ (f k : Int) < 0)) u [] ∧ h2 ≤ w1.heap.size := by
 have hul := Kd.S_lt hu
 obtain ⟨f, hf⟩ := id ho
 refine ⟨f, W.heap.size, w1.heap.size, Kd.R_mono (Kd.R_lower (Kd.R_bound hf) hw) (fun k hk => ?_), Kd.S_mono (Kd.S_elder' (Kd.S_bound hu) (Kd.S_base ho) hb) (fun k hk => ?_), Nat.le_refl _⟩
 · have h1 : W.heap.size ≤ k := hk.1
   refine ⟨⟨Nat.le_trans hw h1, fun he => ?_, by omega⟩, h1, hk.2.2.1⟩
   have := hul k he.symm
   omega
 · exact ⟨(hok k hk.1.1).1, hk.2, (hok k hk.1.1).2, Or.inl hk.1.2.2.1⟩
theorem allWords_len : ∀ k, (∀ a x n i r, impl_allWords.l0 k a x n i = some r → x.length ≤ 5864062014805 → r.length ≤ 5864062014805) ∧ (∀ a x n i y m j r, impl_allWords.l1 k a x n i y m j = some r → x.length ≤ 5864062014805 → r.length ≤ 5864062014805) ∧ (∀ a x z n i y m j p q r, impl_allWords.l2 k a x z n i y m j p q = some r → x.length ≤ 5864062014805 → r.length ≤ 5864062014805)
 | 0 => ⟨fun _ _ _ _ _ h => by simp [impl_allWords.l0] at h, fun _ _ _ _ _ _ _ _ h => by simp [impl_allWords.l1] at h, fun _ _ _ _ _ _ _ _ _ _ _ h => by simp [impl_allWords.l2] at h⟩
 | k + 1 => by
  obtain ⟨i0, i1, i2⟩ := allWords_len k
  refine ⟨fun a x n i r h hx => ?_, fun a x n i y m j r h hx => ?_, fun a x z n i y m j p q r h hx => ?_⟩
  · rw [impl_allWords.l0] at h
    split at h
    · exact i1 _ _ _ _ _ _ _ _ h (by simp)
    · injection h with h
      subst h
      exact hx
  · rw [impl_allWords.l1] at h
    split at h
    · obtain ⟨_, h⟩ := iP h
      obtain ⟨_, h⟩ := iP h
      exact i2 _ _ _ _ _ _ _ _ _ _ _ h hx
    · exact i0 _ _ _ _ _ h hx
  · rw [impl_allWords.l2] at h
    split at h
    · simp only [Option.bind_some] at h
      obtain ⟨_, h⟩ := iP h
      obtain ⟨_, h⟩ := iP h
      obtain ⟨hl, h⟩ := iP h
      exact i2 _ _ _ _ _ _ _ _ _ _ _ h (by rw [List.length_append]; exact hl)
    · exact i1 _ _ _ _ _ _ _ _ h hx
theorem allWords_small {k : Nat} {a n : Int} {r : List (List Int)} (h : impl_allWords.f k a n = some r) : r.length ≤ 5864062014805 := (allWords_len k).1 _ _ _ _ _ h (by simp)
set_option maxRecDepth 100000 in
theorem impl_MembersOf.calls (k : Nat) (a0_0 : Int) (a0_1 : Int) (A0_2 : Option Addr) (c0_2 : Nat) (l0_2 : List (List Int)) (A0_3 : Option Addr) (c0_3 : Nat) (l0_3 : List Bool) (a1 : Int) (r1 : List (List Int)) (r2 : Bool) (w : World) (hr0_2 : Kd.C (Kd.slice 3 (Kd.int .i64)) w A0_2 l0_2.length l0_2) (hc0_2 : l0_2.length ≤ c0_2) (hr0_3 : Kd.C Kd.bool w A0_3 l0_3.length l0_3) (hc0_3 : l0_3.length ≤ c0_3) (h : impl_MembersOf.f k a0_0 a0_1 l0_2 l0_3 a1 = some (r1, r2)) :
  Calls Try.prog 39 #[.agg #[.int .i64 a0_0, .int .i64 a0_1, .slice A0_2 l0_2.length c0_2, .slice A0_3 l0_3.length c0_3], .int .i64 a1] w fun e w' => ∃ v0_ : Value, e = .returned (.tuple #[v0_, .bool r2]) ∧ Kd.S (Kd.slice 3 (Kd.int .i64)) 38 w' w.heap.size (fun k_ => (w.heap.size ≤ k_)) v0_ r1 ∧ Below w.heap.size w w' := by
 have hu25 := Try.underlying25
 have HR0_2 := yA hr0_2
 have HC0_2 := yA hc0_2
 clear hr0_2 hc0_2
 have HR0_3 := yA hr0_3
 have HC0_3 := yA hc0_3
 clear hr0_3 hc0_3
 have HB := yA (zV w.heap.size w)
 have H : ((impl_IsRelation.f k a0_0 a0_1 l0_2 l0_3).bind fun t356 => (if t356 = true then (if a0_1 = 0 then (impl_MembersOf.j0 k a1 true a0_0 a0_1 l0_2 l0_3) else (if a1 < 0 then (impl_MembersOf.j0 k a1 true a0_0 a0_1 l0_2 l0_3) else (if a1 > 20 then (impl_MembersOf.j0 k a1 true a0_0 a0_1 l0_2 l0_3) else (if a0_1 = 3 then (impl_MembersOf.j0 k a1 (decide (a1 > 7)) a0_0 a0_1 l0_2 l0_3) else (impl_MembersOf.j0 k a1 false a0_0 a0_1 l0_2 l0_3))))) else (impl_MembersOf.j0 k a1 true a0_0 a0_1 l0_2 l0_3))) = some (r1, r2) := h
 clear h
 have HC3 := yA H
 clear H
 go_enter Try.func39, Try.ntmps39
 go_upto_region 1 with (first | ((with_reducible refine gate_dst (N := 2) rfl ?_); refine box_event ?hg (N := 2) ?hd (cs := #[.int .i64 a0_0, .int .i64 a0_1, .slice A0_2 l0_2.length c0_2, .slice A0_3 l0_3.length c0_3]) (t := 25) ?hr ?_; (case hd => rfl); (case hg => rfl); (case hr => first | (go_simp; done) | (go_simp; rfl)); intro gb355 hg w4 hbox hb; have BK355 := yA (hbox); have GW355 := yA ((by rw [hg]; exact (yX (mB HB.out)) : w.heap.size ≤ gb355)); have GE355 := yA ((by rw [hg]; exact (yX (mB HB.out)) : w.heap.size ≤ gb355)); replace HB := yA (zD (mB HB.out) hb); clear hb hbox hg))
 (try simp only [Act.put, zA, zB, zC])
 go_cut [33] (fun v33 wc => ∃ (kq : Nat) (x33_2 : Bool), v33 = .bool x33_2 ∧ Aside0 (impl_MembersOf.j0 kq a1 x33_2 a0_0 a0_1 l0_2 l0_3 = some (r1, r2)) ∧ Aside0 (kq ≤ k) ∧ Aside0 (wc.heap[gb355]? = some (.cells #[.int .i64 a0_0, .int .i64 a0_1, (.slice A0_2 l0_2.length c0_2), (.slice A0_3 l0_3.length c0_3)] 25 (0, 0))) ∧ Aside0 (Below w.heap.size w wc))
 case first =>
  have H := HC3.out
  clear HC3
  obtain ⟨t356, A5, H⟩ := bE H
  by_cases c6 : t356 = true
  ·subst c6
   replace H := iT H
   by_cases c7 : a0_1 = 0
   ·rw [if_pos c7] at H
    have c7b0 : (a0_1 == 0) = true := beq_iff_eq.mpr c7
    have c7b1 : (a0_1 != 0) = false := bne_eq_false_iff_eq.mpr c7
    clear c7
    (first | rw [c7b0] | (simp only [i64_w, i32_w]; rw [c7b0]) | skip)
    have H' := yA H
    clear H
    obtain ⟨hcz8_0, hcz8_1, hcz8_2, hcz8_3⟩ := cz4 BK355.out
    obtain ⟨hfz8_0, hfz8_1, hfz8_2, hfz8_3⟩ := fz4 BK355.out
    go_wp2_with (first | ((with_reducible refine zS (f := 65) rfl ?_); refine goesL_ (some 10) rfl rfl Try.func65 (by kernel_rfl) rfl #[.agg #[.int .i64 a0_0, .int .i64 a0_1, .slice A0_2 l0_2.length c0_2, .slice A0_3 l0_3.length c0_3]] rfl (by (try simp only [zI, zJ, zK]); first | done | rfl | (simp only [zL, zM]; rfl)) ?_; (with_reducible refine (impl_IsRelation.calls k a0_0 a0_1 _ _ l0_2 _ _ l0_3 true _ ?side1 ?side2 ?side3 ?side4 A5.out).mono ?_); (case side1 => exact mC (yM HR0_2.out HB.out)); (case side2 => exact HC0_2.out); (case side3 => exact mC (yM HR0_3.out HB.out)); (case side4 => exact HC0_3.out); rintro e w9 ⟨rfl, hb⟩; refine ⟨_, rfl, ?_⟩; replace BK355 := yA (yU (mK BK355.out) hb); replace HB := yA (zD (by with_reducible repeat first | exact HB.out | apply yO | apply yN | apply yP | refine yQ ?_ GE355.out) hb); (try clear hb); (try clear hb2); (try clear hk); (try clear hi); have hcz10_0 : w9.cell? ⟨gb355, 0, none⟩ = some (.int .i64 a0_0) := (yV BK355.out 0).trans rfl; have hcz10_1 : w9.cell? ⟨gb355, 1, none⟩ = some (.int .i64 a0_1) := (yV BK355.out 1).trans rfl; have hcz10_2 : w9.cell? ⟨gb355, 2, none⟩ = some (.slice A0_2 l0_2.length c0_2) := (yV BK355.out 2).trans rfl; have hcz10_3 : w9.cell? ⟨gb355, 3, none⟩ = some (.slice A0_3 l0_3.length c0_3) := (yV BK355.out 3).trans rfl; have hfz10_0 := yW BK355.out 0; have hfz10_1 := yW BK355.out 1; have hfz10_2 := yW BK355.out 2; have hfz10_3 := yW BK355.out 3))
    go_meet
    case rel => exact ⟨_, (true), (by first | rfl | (simp; done) | (simp [*]; done)), H', ⟨by first | omega | exact zT _⟩, ⟨mK BK355.out⟩, ⟨by repeat (first | (with_reducible first | exact HB.out | apply yO | apply yN | apply yP | refine yQ ?_ GE355.out) | exact HB.out)⟩⟩
   ·rw [if_neg c7] at H
    have c7b0 : (a0_1 == 0) = false := beq_eq_false_iff_ne.mpr c7
    have c7b1 : (a0_1 != 0) = true := bne_iff_ne.mpr c7
    (first | rw [c7b0] | (simp only [i64_w, i32_w]; rw [c7b0]) | skip)
    by_cases c11 : a1 < 0
    ·rw [if_pos c11] at H
     have c11b0 : decide (a1 < 0) = true := zH c11
     clear c11
     have H' := yA H
     clear H
     obtain ⟨hcz12_0, hcz12_1, hcz12_2, hcz12_3⟩ := cz4 BK355.out
     obtain ⟨hfz12_0, hfz12_1, hfz12_2, hfz12_3⟩ := fz4 BK355.out
     go_wp2_with (first | ((with_reducible refine zS (f := 65) rfl ?_); refine goesL_ (some 10) rfl rfl Try.func65 (by kernel_rfl) rfl #[.agg #[.int .i64 a0_0, .int .i64 a0_1, .slice A0_2 l0_2.length c0_2, .slice A0_3 l0_3.length c0_3]] rfl (by (try simp only [zI, zJ, zK]); first | done | rfl | (simp only [zL, zM]; rfl)) ?_; (with_reducible refine (impl_IsRelation.calls k a0_0 a0_1 _ _ l0_2 _ _ l0_3 true _ ?side1 ?side2 ?side3 ?side4 A5.out).mono ?_); (case side1 => exact mC (yM HR0_2.out HB.out)); (case side2 => exact HC0_2.out); (case side3 => exact mC (yM HR0_3.out HB.out)); (case side4 => exact HC0_3.out); rintro e w13 ⟨rfl, hb⟩; refine ⟨_, rfl, ?_⟩; replace BK355 := yA (yU (mK BK355.out) hb); replace HB := yA (zD (by with_reducible repeat first | exact HB.out | apply yO | apply yN | apply yP | refine yQ ?_ GE355.out) hb); (try clear hb); (try clear hb2); (try clear hk); (try clear hi); have hcz14_0 : w13.cell? ⟨gb355, 0, none⟩ = some (.int .i64 a0_0) := (yV BK355.out 0).trans rfl; have hcz14_1 : w13.cell? ⟨gb355, 1, none⟩ = some (.int .i64 a0_1) := (yV BK355.out 1).trans rfl; have hcz14_2 : w13.cell? ⟨gb355, 2, none⟩ = some (.slice A0_2 l0_2.length c0_2) := (yV BK355.out 2).trans rfl; have hcz14_3 : w13.cell? ⟨gb355, 3, none⟩ = some (.slice A0_3 l0_3.length c0_3) := (yV BK355.out 3).trans rfl; have hfz14_0 := yW BK355.out 0; have hfz14_1 := yW BK355.out 1; have hfz14_2 := yW BK355.out 2; have hfz14_3 := yW BK355.out 3))
     go_meet
     case rel => exact ⟨_, (true), (by first | rfl | (simp; done) | (simp [*]; done)), H', ⟨by first | omega | exact zT _⟩, ⟨mK BK355.out⟩, ⟨by repeat (first | (with_reducible first | exact HB.out | apply yO | apply yN | apply yP | refine yQ ?_ GE355.out) | exact HB.out)⟩⟩
    ·rw [if_neg c11] at H
     have c11b0 : decide (a1 < 0) = false := decide_eq_false c11
     clear c11
     by_cases c15 : a1 > 20
     ·rw [if_pos c15] at H
      have c15b0 : decide (20 < a1) = true := zH c15
      clear c15
      have H' := yA H
      clear H
      obtain ⟨hcz16_0, hcz16_1, hcz16_2, hcz16_3⟩ := cz4 BK355.out
      obtain ⟨hfz16_0, hfz16_1, hfz16_2, hfz16_3⟩ := fz4 BK355.out
      go_wp2_with (first | ((with_reducible refine zS (f := 65) rfl ?_); refine goesL_ (some 10) rfl rfl Try.func65 (by kernel_rfl) rfl #[.agg #[.int .i64 a0_0, .int .i64 a0_1, .slice A0_2 l0_2.length c0_2, .slice A0_3 l0_3.length c0_3]] rfl (by (try simp only [zI, zJ, zK]); first | done | rfl | (simp only [zL, zM]; rfl)) ?_; (with_reducible refine (impl_IsRelation.calls k a0_0 a0_1 _ _ l0_2 _ _ l0_3 true _ ?side1 ?side2 ?side3 ?side4 A5.out).mono ?_); (case side1 => exact mC (yM HR0_2.out HB.out)); (case side2 => exact HC0_2.out); (case side3 => exact mC (yM HR0_3.out HB.out)); (case side4 => exact HC0_3.out); rintro e w17 ⟨rfl, hb⟩; refine ⟨_, rfl, ?_⟩; replace BK355 := yA (yU (mK BK355.out) hb); replace HB := yA (zD (by with_reducible repeat first | exact HB.out | apply yO | apply yN | apply yP | refine yQ ?_ GE355.out) hb); (try clear hb); (try clear hb2); (try clear hk); (try clear hi); have hcz18_0 : w17.cell? ⟨gb355, 0, none⟩ = some (.int .i64 a0_0) := (yV BK355.out 0).trans rfl; have hcz18_1 : w17.cell? ⟨gb355, 1, none⟩ = some (.int .i64 a0_1) := (yV BK355.out 1).trans rfl; have hcz18_2 : w17.cell? ⟨gb355, 2, none⟩ = some (.slice A0_2 l0_2.length c0_2) := (yV BK355.out 2).trans rfl; have hcz18_3 : w17.cell? ⟨gb355, 3, none⟩ = some (.slice A0_3 l0_3.length c0_3) := (yV BK355.out 3).trans rfl; have hfz18_0 := yW BK355.out 0; have hfz18_1 := yW BK355.out 1; have hfz18_2 := yW BK355.out 2; have hfz18_3 := yW BK355.out 3))
      go_meet
      case rel => exact ⟨_, (true), (by first | rfl | (simp; done) | (simp [*]; done)), H', ⟨by first | omega | exact zT _⟩, ⟨mK BK355.out⟩, ⟨by repeat (first | (with_reducible first | exact HB.out | apply yO | apply yN | apply yP | refine yQ ?_ GE355.out) | exact HB.out)⟩⟩
     ·rw [if_neg c15] at H
      have c15b0 : decide (20 < a1) = false := decide_eq_false c15
      clear c15
      by_cases c19 : a0_1 = 3
      ·rw [if_pos c19] at H
       have c19b0 : (a0_1 == 3) = true := beq_iff_eq.mpr c19
       have c19b1 : (a0_1 != 3) = false := bne_eq_false_iff_eq.mpr c19
       clear c19
       have H' := yA H
       clear H
       obtain ⟨hcz20_0, hcz20_1, hcz20_2, hcz20_3⟩ := cz4 BK355.out
       obtain ⟨hfz20_0, hfz20_1, hfz20_2, hfz20_3⟩ := fz4 BK355.out
       go_wp2_with (first | ((with_reducible refine zS (f := 65) rfl ?_); refine goesL_ (some 10) rfl rfl Try.func65 (by kernel_rfl) rfl #[.agg #[.int .i64 a0_0, .int .i64 a0_1, .slice A0_2 l0_2.length c0_2, .slice A0_3 l0_3.length c0_3]] rfl (by (try simp only [zI, zJ, zK]); first | done | rfl | (simp only [zL, zM]; rfl)) ?_; (with_reducible refine (impl_IsRelation.calls k a0_0 a0_1 _ _ l0_2 _ _ l0_3 true _ ?side1 ?side2 ?side3 ?side4 A5.out).mono ?_); (case side1 => exact mC (yM HR0_2.out HB.out)); (case side2 => exact HC0_2.out); (case side3 => exact mC (yM HR0_3.out HB.out)); (case side4 => exact HC0_3.out); rintro e w21 ⟨rfl, hb⟩; refine ⟨_, rfl, ?_⟩; replace BK355 := yA (yU (mK BK355.out) hb); replace HB := yA (zD (by with_reducible repeat first | exact HB.out | apply yO | apply yN | apply yP | refine yQ ?_ GE355.out) hb); (try clear hb); (try clear hb2); (try clear hk); (try clear hi); have hcz22_0 : w21.cell? ⟨gb355, 0, none⟩ = some (.int .i64 a0_0) := (yV BK355.out 0).trans rfl; have hcz22_1 : w21.cell? ⟨gb355, 1, none⟩ = some (.int .i64 a0_1) := (yV BK355.out 1).trans rfl; have hcz22_2 : w21.cell? ⟨gb355, 2, none⟩ = some (.slice A0_2 l0_2.length c0_2) := (yV BK355.out 2).trans rfl; have hcz22_3 : w21.cell? ⟨gb355, 3, none⟩ = some (.slice A0_3 l0_3.length c0_3) := (yV BK355.out 3).trans rfl; have hfz22_0 := yW BK355.out 0; have hfz22_1 := yW BK355.out 1; have hfz22_2 := yW BK355.out 2; have hfz22_3 := yW BK355.out 3))
       go_meet
       case rel => exact ⟨_, (decide (a1 > 7)), (by first | rfl | (simp; done) | (simp [*]; done)), H', ⟨by first | omega | exact zT _⟩, ⟨mK BK355.out⟩, ⟨by repeat (first | (with_reducible first | exact HB.out | apply yO | apply yN | apply yP | refine yQ ?_ GE355.out) | exact HB.out)⟩⟩
      ·rw [if_neg c19] at H
       have c19b0 : (a0_1 == 3) = false := beq_eq_false_iff_ne.mpr c19
       have c19b1 : (a0_1 != 3) = true := bne_iff_ne.mpr c19
       have H' := yA H
       clear H
       obtain ⟨hcz23_0, hcz23_1, hcz23_2, hcz23_3⟩ := cz4 BK355.out
       obtain ⟨hfz23_0, hfz23_1, hfz23_2, hfz23_3⟩ := fz4 BK355.out
       go_wp2_with (first | ((with_reducible refine zS (f := 65) rfl ?_); refine goesL_ (some 10) rfl rfl Try.func65 (by kernel_rfl) rfl #[.agg #[.int .i64 a0_0, .int .i64 a0_1, .slice A0_2 l0_2.length c0_2, .slice A0_3 l0_3.length c0_3]] rfl (by (try simp only [zI, zJ, zK]); first | done | rfl | (simp only [zL, zM]; rfl)) ?_; (with_reducible refine (impl_IsRelation.calls k a0_0 a0_1 _ _ l0_2 _ _ l0_3 true _ ?side1 ?side2 ?side3 ?side4 A5.out).mono ?_); (case side1 => exact mC (yM HR0_2.out HB.out)); (case side2 => exact HC0_2.out); (case side3 => exact mC (yM HR0_3.out HB.out)); (case side4 => exact HC0_3.out); rintro e w24 ⟨rfl, hb⟩; refine ⟨_, rfl, ?_⟩; replace BK355 := yA (yU (mK BK355.out) hb); replace HB := yA (zD (by with_reducible repeat first | exact HB.out | apply yO | apply yN | apply yP | refine yQ ?_ GE355.out) hb); (try clear hb); (try clear hb2); (try clear hk); (try clear hi); have hcz25_0 : w24.cell? ⟨gb355, 0, none⟩ = some (.int .i64 a0_0) := (yV BK355.out 0).trans rfl; have hcz25_1 : w24.cell? ⟨gb355, 1, none⟩ = some (.int .i64 a0_1) := (yV BK355.out 1).trans rfl; have hcz25_2 : w24.cell? ⟨gb355, 2, none⟩ = some (.slice A0_2 l0_2.length c0_2) := (yV BK355.out 2).trans rfl; have hcz25_3 : w24.cell? ⟨gb355, 3, none⟩ = some (.slice A0_3 l0_3.length c0_3) := (yV BK355.out 3).trans rfl; have hfz25_0 := yW BK355.out 0; have hfz25_1 := yW BK355.out 1; have hfz25_2 := yW BK355.out 2; have hfz25_3 := yW BK355.out 3))
       go_meet
       case rel => exact ⟨_, (false), (by first | rfl | (simp; done) | (simp [*]; done)), H', ⟨by first | omega | exact zT _⟩, ⟨mK BK355.out⟩, ⟨by repeat (first | (with_reducible first | exact HB.out | apply yO | apply yN | apply yP | refine yQ ?_ GE355.out) | exact HB.out)⟩⟩
  ·replace c6 := Bool.eq_false_iff.mpr c6
   subst c6
   replace H := iF H
   have H' := yA H
   clear H
   obtain ⟨hcz26_0, hcz26_1, hcz26_2, hcz26_3⟩ := cz4 BK355.out
   obtain ⟨hfz26_0, hfz26_1, hfz26_2, hfz26_3⟩ := fz4 BK355.out
   go_wp2_with (first | ((with_reducible refine zS (f := 65) rfl ?_); refine goesL_ (some 10) rfl rfl Try.func65 (by kernel_rfl) rfl #[.agg #[.int .i64 a0_0, .int .i64 a0_1, .slice A0_2 l0_2.length c0_2, .slice A0_3 l0_3.length c0_3]] rfl (by (try simp only [zI, zJ, zK]); first | done | rfl | (simp only [zL, zM]; rfl)) ?_; (with_reducible refine (impl_IsRelation.calls k a0_0 a0_1 _ _ l0_2 _ _ l0_3 false _ ?side1 ?side2 ?side3 ?side4 A5.out).mono ?_); (case side1 => exact mC (yM HR0_2.out HB.out)); (case side2 => exact HC0_2.out); (case side3 => exact mC (yM HR0_3.out HB.out)); (case side4 => exact HC0_3.out); rintro e w27 ⟨rfl, hb⟩; refine ⟨_, rfl, ?_⟩; replace BK355 := yA (yU (mK BK355.out) hb); replace HB := yA (zD (by with_reducible repeat first | exact HB.out | apply yO | apply yN | apply yP | refine yQ ?_ GE355.out) hb); (try clear hb); (try clear hb2); (try clear hk); (try clear hi)))
   go_meet
   case rel => exact ⟨_, (true), (by first | rfl | (simp; done) | (simp [*]; done)), H', ⟨by first | omega | exact zT _⟩, ⟨mK BK355.out⟩, ⟨by repeat (first | (with_reducible first | exact HB.out | apply yO | apply yN | apply yP | refine yQ ?_ GE355.out) | exact HB.out)⟩⟩
 case rest =>
  clear HC3
  (try clear c1);(try clear p2);(try clear c3);(try clear c6);(try clear c7);(try clear c7b0);(try clear c7b1);(try clear c11);(try clear c11b0);(try clear c15);(try clear c15b0);(try clear c19);(try clear c19b0);(try clear c19b1);(try clear hcz10_0);(try clear hcz10_1);(try clear hcz10_2);(try clear hcz10_3);(try clear hcz12_0);(try clear hcz12_1);(try clear hcz12_2);(try clear hcz12_3);(try clear hcz14_0);(try clear hcz14_1);(try clear hcz14_2);(try clear hcz14_3);(try clear hcz16_0);(try clear hcz16_1);(try clear hcz16_2);(try clear hcz16_3);(try clear hcz18_0);(try clear hcz18_1);(try clear hcz18_2);(try clear hcz18_3);(try clear hcz20_0);(try clear hcz20_1);(try clear hcz20_2);(try clear hcz20_3);(try clear hcz22_0);(try clear hcz22_1);(try clear hcz22_2);(try clear hcz22_3);(try clear hcz23_0);(try clear hcz23_1);(try clear hcz23_2);(try clear hcz23_3);(try clear hcz25_0);(try clear hcz25_1);(try clear hcz25_2);(try clear hcz25_3);(try clear hcz26_0);(try clear hcz26_1);(try clear hcz26_2);(try clear hcz26_3);(try clear hcz8_0);(try clear hcz8_1);(try clear hcz8_2);(try clear hcz8_3);(try clear hfz10_0);(try clear hfz10_1);(try clear hfz10_2);(try clear hfz10_3);(try clear hfz12_0);(try clear hfz12_1);(try clear hfz12_2);(try clear hfz12_3);(try clear hfz14_0);(try clear hfz14_1);(try clear hfz14_2);(try clear hfz14_3);(try clear hfz16_0);(try clear hfz16_1);(try clear hfz16_2);(try clear hfz16_3);(try clear hfz18_0);(try clear hfz18_1);(try clear hfz18_2);(try clear hfz18_3);(try clear hfz20_0);(try clear hfz20_1);(try clear hfz20_2);(try clear hfz20_3);(try clear hfz22_0);(try clear hfz22_1);(try clear hfz22_2);(try clear hfz22_3);(try clear hfz23_0);(try clear hfz23_1);(try clear hfz23_2);(try clear hfz23_3);(try clear hfz25_0);(try clear hfz25_1);(try clear hfz25_2);(try clear hfz25_3);(try clear hfz26_0);(try clear hfz26_1);(try clear hfz26_2);(try clear hfz26_3);(try clear hfz8_0);(try clear hfz8_1);(try clear hfz8_2);(try clear hfz8_3)
  obtain ⟨kq, x33_2, rfl, HA, HJ2, BK355, HB⟩ := hcut
  cases kq with
  | zero => exact absurd HA.out (by simp [impl_MembersOf.j0])
  | succ kj2 =>
   have H := HA.out
   clear HA
   simp only [impl_MembersOf.j0] at H
   by_cases c28 : x33_2 = true
   ·subst c28
    replace H := iT H
    (first | ((with_reducible replace H := bS H); obtain ⟨y357, Ny357, H⟩ := H) | (obtain ⟨y357, Ny357⟩ : ∃ y_ : List (List Int), y_ = (([] : List (List Int))) := ⟨_, rfl⟩; rw [← Ny357] at H; replace Ny357 := yA Ny357))
    simp only [Option.some.injEq, Prod.mk.injEq] at H
    obtain ⟨rfl, rfl⟩ := H
    go_wp2_with (first | ((with_reducible refine gate_dst (N := 34) rfl ?_); refine Kd.S_lit (Kd.slice 3 (Kd.int .i64)) _ 38 ?hg (N := 34) ?hd (xs := ([] : List (List Int))) (inner := []) (ok := (fun k_ => (w.heap.size ≤ k_) ∧ k_ ≠ gb355)) (okp := (fun k_ => (w.heap.size ≤ k_) ∧ k_ ≠ gb355)) ?hr ?hp (fun _ hk => hk) ((show ∀ k_, wc.heap.size ≤ k_ → (fun k_ => (w.heap.size ≤ k_) ∧ k_ ≠ gb355) k_ from fun k_ hk => ⟨(Nat.le_trans (yX (by with_reducible repeat first | exact HB.out | apply yO | apply yN | apply yP | refine yQ ?_ GE355.out)) hk), Kd.freshB (g := gb355) (o := .cells #[.int .i64 a0_0, .int .i64 a0_1, .slice A0_2 l0_2.length c0_2, .slice A0_3 l0_3.length c0_3] 25 (0, 0)) (mK BK355.out) k_ hk⟩) _ (zT _)) (zV _ _) (zT _) (by simp) ?_; (case hd => rfl); (case hg => rfl); (case hr => first | (go_simp; done) | (go_simp; rfl)); (case hp => exact (Reps.none _ _)); intro v358 w29 ho30 hb hg_ hnew_; clear hg_ hnew_; (first | rw [← Ny357.out] at ho30 | (simp only [Int.reduceToNat] at ho30; rw [← Ny357.out] at ho30)); have HO359 := yA (Kd.S_lower ho30 (yX (by with_reducible repeat first | exact HB.out | apply yO | apply yN | apply yP | refine yQ ?_ GE355.out))); replace BK355 := yA (yU (mK BK355.out) hb); replace HB := yA (zD (by with_reducible repeat first | exact HB.out | apply yO | apply yN | apply yP | refine yQ ?_ GE355.out) hb); clear hb ho30))
    go_ret2
    exact ⟨_, by first | rfl | (simp [errW_none, errW_some] <;> rfl) | (simp [*, errW_none, errW_some] <;> rfl), mS (Kd.S_mono HO359.out (fun _ hk => hk.1)), by repeat (first | (with_reducible first | exact HB.out | apply yO | apply yN | apply yP | refine yQ ?_ GE355.out) | exact HB.out)⟩
   ·replace c28 := Bool.eq_false_iff.mpr c28
    subst c28
    replace H := iF H
    (first | ((with_reducible replace H := bS H); obtain ⟨y360, Ny360, H⟩ := H) | (obtain ⟨y360, Ny360⟩ : ∃ y_ : List (List Int), y_ = (([] : List (List Int))) := ⟨_, rfl⟩; rw [← Ny360] at H; replace Ny360 := yA Ny360))
    obtain ⟨t363, A31, H⟩ := bE H
    have H' := yA H
    clear H
    go_wp2_with (first | ((with_reducible refine gate_dst (N := 35) rfl ?_); refine Kd.S_lit (Kd.slice 3 (Kd.int .i64)) _ 38 ?hg (N := 35) ?hd (xs := ([] : List (List Int))) (inner := []) (ok := (fun k_ => (w.heap.size ≤ k_) ∧ k_ ≠ gb355)) (okp := (fun k_ => (w.heap.size ≤ k_) ∧ k_ ≠ gb355)) ?hr ?hp (fun _ hk => hk) ((show ∀ k_, wc.heap.size ≤ k_ → (fun k_ => (w.heap.size ≤ k_) ∧ k_ ≠ gb355) k_ from fun k_ hk => ⟨(Nat.le_trans (yX (by with_reducible repeat first | exact HB.out | apply yO | apply yN | apply yP | refine yQ ?_ GE355.out)) hk), Kd.freshB (g := gb355) (o := .cells #[.int .i64 a0_0, .int .i64 a0_1, .slice A0_2 l0_2.length c0_2, .slice A0_3 l0_3.length c0_3] 25 (0, 0)) (mK BK355.out) k_ hk⟩) _ (zT _)) (zV _ _) (zT _) (by simp) ?_; (case hd => rfl); (case hg => rfl); (case hr => first | (go_simp; done) | (go_simp; rfl)); (case hp => exact (Reps.none _ _)); intro v361 w32 ho33 hb hg_ hnew_; clear hg_ hnew_; (first | rw [← Ny360.out] at ho33 | (simp only [Int.reduceToNat] at ho33; rw [← Ny360.out] at ho33)); have HO362 := yA (Kd.S_lower ho33 (yX (by with_reducible repeat first | exact HB.out | apply yO | apply yN | apply yP | refine yQ ?_ GE355.out))); replace BK355 := yA (yU (mK BK355.out) hb); replace HB := yA (zD (by with_reducible repeat first | exact HB.out | apply yO | apply yN | apply yP | refine yQ ?_ GE355.out) hb); clear hb ho33; have hcz34_0 : w32.cell? ⟨gb355, 0, none⟩ = some (.int .i64 a0_0) := (yV BK355.out 0).trans rfl; have hcz34_1 : w32.cell? ⟨gb355, 1, none⟩ = some (.int .i64 a0_1) := (yV BK355.out 1).trans rfl; have hcz34_2 : w32.cell? ⟨gb355, 2, none⟩ = some (.slice A0_2 l0_2.length c0_2) := (yV BK355.out 2).trans rfl; have hcz34_3 : w32.cell? ⟨gb355, 3, none⟩ = some (.slice A0_3 l0_3.length c0_3) := (yV BK355.out 3).trans rfl; have hfz34_0 := yW BK355.out 0; have hfz34_1 := yW BK355.out 1; have hfz34_2 := yW BK355.out 2; have hfz34_3 := yW BK355.out 3) | ((with_reducible refine zS (f := 81) rfl ?_); refine goesL_ (some 40) rfl rfl Try.func81 (by kernel_rfl) rfl #[.int .i64 (wrap64 (a1 + 1)), .int .i64 a0_1] rfl (by (try simp only [zI, zJ, zK]); first | done | rfl | (simp only [zL, zM]; rfl)) ?_; (with_reducible refine (impl_allWords.calls kj2 (wrap64 (a1 + 1)) a0_1 t363 _ A31.out).mono ?_); rintro e w35 ⟨v364, rfl, ho0, hb⟩; refine ⟨_, rfl, ?_⟩; obtain ⟨f, h1, h2, hW_, hO_, hh_⟩ := words_new (yX (by with_reducible repeat first | exact HB.out | apply yO | apply yN | apply yP | refine yQ ?_ GE355.out)) ho0 (mS (Ny360.out ▸ HO362.out)) (fun _ hk => hk) hb (zX (mK BK355.out)); clear HO362; have HO365 := yA hW_; have HO362 := yA hO_; have HH := yA hh_; clear hW_ hO_ hh_; replace BK355 := yA (yU (mK BK355.out) hb); replace HB := yA (zD (by with_reducible repeat first | exact HB.out | apply yO | apply yN | apply yP | refine yQ ?_ GE355.out) hb); (try clear hb); (try clear hb2); (try clear hk); (try clear hi); (try clear ho0); obtain ⟨Ao36, co36, eo36⟩ := Kd.S_slice (show Kd.S (Kd.slice 3 (Kd.int .i64)) 38 _ _ _ _ _ from ⟨f, HO365.out⟩); subst eo36))
    have tL := yA (allWords_small A31.out)
    go_loopg [6, 42] kj2 (fun kq v6 v42 w' => ∃ (x6_2 : List (List Int)) (x42_2 : Int), v42 = .int .i64 x42_2 ∧ Aside0 (impl_MembersOf.l0 kq x6_2 t363 (t363.length : Int) x42_2 a0_0 a0_1 l0_2 l0_3 = some (r1, r2)) ∧ Aside0 (kq ≤ kj2) ∧ Aside0 (Kd.S (Kd.slice 3 (Kd.int .i64)) 38 w' w.heap.size (fun k_ => w.heap.size ≤ k_ ∧ some k_ ≠ (.slice Ao36 t363.length co36 : Value).ownBlock ∧ k_ ≠ gb355 ∧ (k_ < h1 ∨ h2 ≤ k_ ∨ (f k_ : Int) < x42_2)) v6 x6_2) ∧ Aside0 ((Kd.tag f (Kd.slice 3 (Kd.int .i64))).R 38 w' w.heap.size (fun k_ => (w.heap.size ≤ k_ ∧ some k_ ≠ (v6 : Value).ownBlock ∧ k_ ≠ gb355) ∧ h1 ≤ k_ ∧ k_ < h2) (.slice Ao36 t363.length co36) t363.zipIdx) ∧ Aside0 (h2 ≤ w'.heap.size) ∧ Aside0 (w'.heap[gb355]? = some (.cells #[.int .i64 a0_0, .int .i64 a0_1, (.slice A0_2 l0_2.length c0_2), (.slice A0_3 l0_3.length c0_3)] 25 (0, 0))) ∧ Aside0 (Below w.heap.size w w'))
    case atStart => exact ⟨(y360), (0), (by first | rfl | (simp; done) | (simp [*]; done)), H', ⟨zT _⟩, ⟨mS (by rw [Ny360.out]; exact HO362.out)⟩, ⟨mR HO365.out⟩, ⟨mvT_ HH.out⟩, ⟨mK BK355.out⟩, ⟨by repeat (first | (with_reducible first | exact HB.out | apply yO | apply yN | apply yP | refine yQ ?_ GE355.out) | exact HB.out)⟩⟩
    case round =>
     clear H'
     (try clear c1);(try clear c2);(try clear p2);(try clear c3);(try clear c6);(try clear p6);(try clear c7);(try clear c7b0);(try clear c7b1);(try clear c8);(try clear c11);(try clear c11b0);(try clear c15);(try clear c15b0);(try clear c19);(try clear c19b0);(try clear c19b1);(try clear c28);(try clear hcz10_0);(try clear hcz10_1);(try clear hcz10_2);(try clear hcz10_3);(try clear hcz12_0);(try clear hcz12_1);(try clear hcz12_2);(try clear hcz12_3);(try clear hcz14_0);(try clear hcz14_1);(try clear hcz14_2);(try clear hcz14_3);(try clear hcz16_0);(try clear hcz16_1);(try clear hcz16_2);(try clear hcz16_3);(try clear hcz18_0);(try clear hcz18_1);(try clear hcz18_2);(try clear hcz18_3);(try clear hcz20_0);(try clear hcz20_1);(try clear hcz20_2);(try clear hcz20_3);(try clear hcz22_0);(try clear hcz22_1);(try clear hcz22_2);(try clear hcz22_3);(try clear hcz23_0);(try clear hcz23_1);(try clear hcz23_2);(try clear hcz23_3);(try clear hcz25_0);(try clear hcz25_1);(try clear hcz25_2);(try clear hcz25_3);(try clear hcz26_0);(try clear hcz26_1);(try clear hcz26_2);(try clear hcz26_3);(try clear hcz34_0);(try clear hcz34_1);(try clear hcz34_2);(try clear hcz34_3);(try clear hcz8_0);(try clear hcz8_1);(try clear hcz8_2);(try clear hcz8_3);(try clear hfz10_0);(try clear hfz10_1);(try clear hfz10_2);(try clear hfz10_3);(try clear hfz12_0);(try clear hfz12_1);(try clear hfz12_2);(try clear hfz12_3);(try clear hfz14_0);(try clear hfz14_1);(try clear hfz14_2);(try clear hfz14_3);(try clear hfz16_0);(try clear hfz16_1);(try clear hfz16_2);(try clear hfz16_3);(try clear hfz18_0);(try clear hfz18_1);(try clear hfz18_2);(try clear hfz18_3);(try clear hfz20_0);(try clear hfz20_1);(try clear hfz20_2);(try clear hfz20_3);(try clear hfz22_0);(try clear hfz22_1);(try clear hfz22_2);(try clear hfz22_3);(try clear hfz23_0);(try clear hfz23_1);(try clear hfz23_2);(try clear hfz23_3);(try clear hfz25_0);(try clear hfz25_1);(try clear hfz25_2);(try clear hfz25_3);(try clear hfz26_0);(try clear hfz26_1);(try clear hfz26_2);(try clear hfz26_3);(try clear hfz34_0);(try clear hfz34_1);(try clear hfz34_2);(try clear hfz34_3);(try clear hfz8_0);(try clear hfz8_1);(try clear hfz8_2);(try clear hfz8_3);(try clear p2)
     obtain ⟨x6_2, x42_2, rfl, HA, HK2, HO_6, HO_40, HH, BK355, HB⟩ := hrel
     cases gk with
     | zero => exact absurd HA.out (by simp [impl_MembersOf.l0])
     | succ k2 =>
      have H := HA.out
      clear HA
      simp only [impl_MembersOf.l0] at H
      by_cases c37 : x42_2 < (t363.length : Int)
      ·rw [if_pos c37] at H
       have c37b0 : decide (x42_2 < (t363.length : Int)) = true := zH c37
       clear c37
       obtain ⟨c38, H⟩ := iP H
       have c38b0 : decide (0 ≤ x42_2) = true := zH c38
       clear c38
       obtain ⟨c39, H⟩ := iP H
       have c39b0 : decide (x42_2 < (t363.length : Int)) = true := zH c39
       clear c39
       obtain ⟨t367, A40, H⟩ := bE H
       by_cases c41 : t367 = true
       ·subst c41
        replace H := iT H
        obtain ⟨c42, H⟩ := iP H
        have LMc42 := yA c42
        clear c42
        (first | ((with_reducible replace H := bS H); obtain ⟨y368, Ny368, H⟩ := H) | (obtain ⟨y368, Ny368⟩ : ∃ y_ : List (List Int), y_ = (x6_2 ++ [rd_L1 t363 x42_2]) := ⟨_, rfl⟩; rw [← Ny368] at H; replace Ny368 := yA Ny368))
        have H' := yA H
        clear H
        have p366 : 0 ≤ (x42_2 : Int) := zG (by assumption)
        have q366 : x42_2 < (t363.length : Int) := zG (by assumption)
        obtain ⟨ad366, A366_0, c366_0, e366, hx366_0, hl366_0, hi366_0⟩ := at_L1 (Kd.S_reads' (show Kd.S (Kd.slice 3 (Kd.int .i64)) 38 _ _ _ _ _ from ⟨f, HO_40.out⟩)).2.2 x42_2 p366 q366
        cases e366
        obtain ⟨ce366, hce366, hMe366, hcc366⟩ := Kd.R_getA HO_40.out ([], 0) x42_2 p366 q366
        rw [zip_getD p366 q366] at hMe366
        obtain ⟨v366, rfl, hR366⟩ := hMe366
        have hv366_0 := hcc366 0 _ rfl
        rw [Nat.add_zero, show (Kd.tag f (Kd.slice 3 (Kd.int .i64))).sz = 1 from rfl, Nat.mul_one] at hv366_0
        replace hv366_0 := zU (hv366_0.symm.trans hx366_0)
        subst hv366_0
        have HL366_0 := yA (show (Kd.int .i64).R 3 _ w.heap.size (fun k_ => (((w.heap.size ≤ k_ ∧ some k_ ≠ (u6 : Value).ownBlock ∧ k_ ≠ gb355) ∧ h1 ≤ k_ ∧ k_ < h2) ∧ some k_ ≠ (.slice (some ad366) t363.length co36 : Value).ownBlock) ∧ f k_ = x42_2.toNat) _ (rd_L1 t363 x42_2) from hR366)
        clear hR366 hcc366 hce366
        have HR366_0 := yA hi366_0
        have HC366_0 := yA hl366_0
        clear hi366_0 hl366_0
        replace p366 := eq_true p366
        replace q366 := eq_true q366
        obtain ⟨hcz43_0, hcz43_1, hcz43_2, hcz43_3⟩ := cz4 BK355.out
        obtain ⟨hfz43_0, hfz43_1, hfz43_2, hfz43_3⟩ := fz4 BK355.out
        go_wp2_with (first | ((with_reducible refine zS (f := 72) rfl ?_); refine goesL_ (some 48) rfl rfl Try.func72 (by kernel_rfl) rfl #[.agg #[.int .i64 a0_0, .int .i64 a0_1, .slice A0_2 l0_2.length c0_2, .slice A0_3 l0_3.length c0_3], .slice A366_0 (rd_L1 t363 x42_2).length c366_0] rfl (by (try simp only [zI, zJ, zK]); first | done | rfl | (simp only [zL, zM]; rfl)) ?_; (with_reducible refine (impl_Relation_contains.calls k2 a0_0 a0_1 _ _ l0_2 _ _ l0_3 _ _ (rd_L1 t363 x42_2) true _ ?side1 ?side2 ?side3 ?side4 ?side5 ?side6 A40.out).mono ?_); (case side1 => exact mC (yM HR0_2.out HB.out)); (case side2 => exact HC0_2.out); (case side3 => exact mC (yM HR0_3.out HB.out)); (case side4 => exact HC0_3.out); (case side5 => exact mC (by repeat (first | (with_reducible exact HR366_0.out) | (with_reducible refine yE ?_ _) | (with_reducible refine yF ?_ _) | (with_reducible refine yG ?_) | exact HR366_0.out))); (case side6 => exact HC366_0.out); rintro e w44 ⟨rfl, hb⟩; refine ⟨_, rfl, ?_⟩; replace HO_6 := yA (yL (mS HO_6.out) hb); replace HH := yA (Nat.le_trans (mvT_ HH.out) hb.size); replace HO_40 := yA (yK (mR HO_40.out) hb); replace HL366_0 := yA (yK (mR HL366_0.out) hb); replace BK355 := yA (yU (mK BK355.out) hb); replace HR366_0 := yA (yM (by repeat (first | (with_reducible exact HR366_0.out) | (with_reducible refine yE ?_ _) | (with_reducible refine yF ?_ _) | (with_reducible refine yG ?_) | exact HR366_0.out)) hb); replace HB := yA (zD (by with_reducible repeat first | exact HB.out | apply yO | apply yN | apply yP | refine yQ ?_ GE355.out) hb); (try clear hb); (try clear hb2); (try clear hk); (try clear hi)) | ((with_reducible refine gate_builtin (b := .append) (xs := #[.tmp 49, .tmp 51]) rfl ?_); at_builtin; refine Kd.S_append (Kd.slice 3 (Kd.int .i64)) (w0 := w) w.heap.size rfl (.tmp 49) (.tmp 51) 22 38 (.slice none 0 0) 24 rfl Try.underlying22 info38 rfl (by decide) (by omega) u6 x6_2 (rd_L1 t363 x42_2) [.slice A366_0 (rd_L1 t363 x42_2).length c366_0] (fun k_ => w.heap.size ≤ k_ ∧ some k_ ≠ (.slice (some ad366) t363.length co36 : Value).ownBlock ∧ k_ ≠ gb355 ∧ (k_ < h1 ∨ h2 ≤ k_ ∨ (f k_ : Int) < x42_2 + 1)) (fun k_ => (((w.heap.size ≤ k_ ∧ some k_ ≠ (u6 : Value).ownBlock ∧ k_ ≠ gb355) ∧ h1 ≤ k_ ∧ k_ < h2) ∧ some k_ ≠ (.slice (some ad366) t363.length co36 : Value).ownBlock) ∧ f k_ = x42_2.toNat) rfl rfl ?aP (fun k_ hk_ => ⟨⟨hk_.1.1.1.1, hk_.1.2, hk_.1.1.1.2.2, Or.inr (Or.inr (by have := hk_.2; have := of_eq_true p366; omega))⟩, hk_.1.1.1.2.1⟩) ?aF ?aO ?aB ?aS ?aL ?_; (case aP => exact Kd.M_row (mR HL366_0.out)); (case aB => exact (by with_reducible repeat first | exact HB.out | apply yO | apply yN | apply yP | refine yQ ?_ GE355.out)); (case aF => exact (fun k_ hk => ⟨(Nat.le_trans (yX (by with_reducible repeat first | exact HB.out | apply yO | apply yN | apply yP | refine yQ ?_ GE355.out)) hk), Kd.fresh' (Kd.R_lt (mR HO_40.out)) k_ hk, Kd.freshB (g := gb355) (o := .cells #[.int .i64 a0_0, .int .i64 a0_1, .slice A0_2 l0_2.length c0_2, .slice A0_3 l0_3.length c0_3] 25 (0, 0)) (mK BK355.out) k_ hk, Or.inr (Or.inl (Nat.le_trans (mvT_ HH.out) hk))⟩)); (case aO => exact (mS (Kd.S_mono HO_6.out (fun k_ hk => ⟨⟨hk.1, hk.2.1, hk.2.2.1, by have := hk.2.2.2; omega⟩, fun e_ => by have := hk.2.2.2; have := e_.1.1.2; have := e_.2; omega⟩)))); (case aS => exact (yX (by with_reducible repeat first | exact HB.out | apply yO | apply yN | apply yP | refine yQ ?_ GE355.out))); (case aL => have := LMc42.out; omega); intro v369 w45 ho hb hg hat; rw [← Ny368.out] at ho; replace HO_40 := yA (Kd.R_after (ok := (fun k_ => (w.heap.size ≤ k_ ∧ k_ ≠ gb355) ∧ h1 ≤ k_ ∧ k_ < h2)) (mR (Kd.R_mono HO_40.out (fun _ hk => ⟨⟨⟨hk.1.1, hk.1.2.2⟩, hk.2⟩, hk.1.2.1⟩))) hg hat); replace HH := yA (Nat.le_trans (mvT_ HH.out) hg.size); replace BK355 := yA (blk_grown (g := gb355) (o := .cells #[.int .i64 a0_0, .int .i64 a0_1, .slice A0_2 l0_2.length c0_2, .slice A0_3 l0_3.length c0_3] 25 (0, 0)) (mK BK355.out) hg (Kd.S_ne HO_6.out BK355.out (by decide))); clear HL366_0; replace HB := yA (hb); have HO370 := yA (ho); clear HO_6; clear ho hb hg hat))
        go_roundg k2
        case measure => have := HJ2.out; have := HK2.out; omega
        have wx : wrap64 (x42_2 + 1) = x42_2 + 1 := by have q1 := of_eq_true p366; have q2 := of_eq_true q366; have q3 := tL.out; exact w64_ (by omega) (by omega)
        case rel => exact ⟨(y368), (wrap64 (x42_2 + 1)), (by first | rfl | (simp; done) | (simp [*]; done)), H', ⟨by have := HJ2.out; have := HK2.out; omega⟩, ⟨mS (Kd.S_mono HO370.out (fun _ hk => by rw [wx]; exact hk))⟩, ⟨mR (Kd.R_mono HO_40.out (fun _ hk => ⟨⟨hk.1.1.1, hk.2, hk.1.1.2⟩, hk.1.2⟩))⟩, ⟨mvT_ HH.out⟩, ⟨mK BK355.out⟩, ⟨by repeat (first | (with_reducible first | exact HB.out | apply yO | apply yN | apply yP | refine yQ ?_ GE355.out) | exact HB.out)⟩⟩
       ·replace c41 := Bool.eq_false_iff.mpr c41
        subst c41
        replace H := iF H
        have H' := yA H
        clear H
        have p366 : 0 ≤ (x42_2 : Int) := zG (by assumption)
        have q366 : x42_2 < (t363.length : Int) := zG (by assumption)
        obtain ⟨ad366, A366_0, c366_0, e366, hx366_0, hl366_0, hi366_0⟩ := at_L1 (Kd.S_reads' (show Kd.S (Kd.slice 3 (Kd.int .i64)) 38 _ _ _ _ _ from ⟨f, HO_40.out⟩)).2.2 x42_2 p366 q366
        cases e366
        obtain ⟨ce366, hce366, hMe366, hcc366⟩ := Kd.R_getA HO_40.out ([], 0) x42_2 p366 q366
        rw [zip_getD p366 q366] at hMe366
        obtain ⟨v366, rfl, hR366⟩ := hMe366
        have hv366_0 := hcc366 0 _ rfl
        rw [Nat.add_zero, show (Kd.tag f (Kd.slice 3 (Kd.int .i64))).sz = 1 from rfl, Nat.mul_one] at hv366_0
        replace hv366_0 := zU (hv366_0.symm.trans hx366_0)
        subst hv366_0
        have HL366_0 := yA (show (Kd.int .i64).R 3 _ w.heap.size (fun k_ => (((w.heap.size ≤ k_ ∧ some k_ ≠ (u6 : Value).ownBlock ∧ k_ ≠ gb355) ∧ h1 ≤ k_ ∧ k_ < h2) ∧ some k_ ≠ (.slice (some ad366) t363.length co36 : Value).ownBlock) ∧ f k_ = x42_2.toNat) _ (rd_L1 t363 x42_2) from hR366)
        clear hR366 hcc366 hce366
        have HR366_0 := yA hi366_0
        have HC366_0 := yA hl366_0
        clear hi366_0 hl366_0
        replace p366 := eq_true p366
        replace q366 := eq_true q366
        obtain ⟨hcz46_0, hcz46_1, hcz46_2, hcz46_3⟩ := cz4 BK355.out
        obtain ⟨hfz46_0, hfz46_1, hfz46_2, hfz46_3⟩ := fz4 BK355.out
        go_wp2_with (first | ((with_reducible refine zS (f := 72) rfl ?_); refine goesL_ (some 48) rfl rfl Try.func72 (by kernel_rfl) rfl #[.agg #[.int .i64 a0_0, .int .i64 a0_1, .slice A0_2 l0_2.length c0_2, .slice A0_3 l0_3.length c0_3], .slice A366_0 (rd_L1 t363 x42_2).length c366_0] rfl (by (try simp only [zI, zJ, zK]); first | done | rfl | (simp only [zL, zM]; rfl)) ?_; (with_reducible refine (impl_Relation_contains.calls k2 a0_0 a0_1 _ _ l0_2 _ _ l0_3 _ _ (rd_L1 t363 x42_2) false _ ?side1 ?side2 ?side3 ?side4 ?side5 ?side6 A40.out).mono ?_); (case side1 => exact mC (yM HR0_2.out HB.out)); (case side2 => exact HC0_2.out); (case side3 => exact mC (yM HR0_3.out HB.out)); (case side4 => exact HC0_3.out); (case side5 => exact mC (by repeat (first | (with_reducible exact HR366_0.out) | (with_reducible refine yE ?_ _) | (with_reducible refine yF ?_ _) | (with_reducible refine yG ?_) | exact HR366_0.out))); (case side6 => exact HC366_0.out); rintro e w47 ⟨rfl, hb⟩; refine ⟨_, rfl, ?_⟩; replace HO_6 := yA (yL (mS HO_6.out) hb); replace HH := yA (Nat.le_trans (mvT_ HH.out) hb.size); replace HO_40 := yA (yK (mR HO_40.out) hb); replace HL366_0 := yA (yK (mR HL366_0.out) hb); replace BK355 := yA (yU (mK BK355.out) hb); replace HR366_0 := yA (yM (by repeat (first | (with_reducible exact HR366_0.out) | (with_reducible refine yE ?_ _) | (with_reducible refine yF ?_ _) | (with_reducible refine yG ?_) | exact HR366_0.out)) hb); replace HB := yA (zD (by with_reducible repeat first | exact HB.out | apply yO | apply yN | apply yP | refine yQ ?_ GE355.out) hb); (try clear hb); (try clear hb2); (try clear hk); (try clear hi)))
        go_roundg k2
        case measure => have := HJ2.out; have := HK2.out; omega
        have wx : wrap64 (x42_2 + 1) = x42_2 + 1 := by have q1 := of_eq_true p366; have q2 := of_eq_true q366; have q3 := tL.out; exact w64_ (by omega) (by omega)
        case rel => exact ⟨(x6_2), (wrap64 (x42_2 + 1)), (by first | rfl | (simp; done) | (simp [*]; done)), H', ⟨by have := HJ2.out; have := HK2.out; omega⟩, ⟨mS (Kd.S_mono HO_6.out (fun _ hk => ⟨hk.1, hk.2.1, hk.2.2.1, by rw [wx]; have := hk.2.2.2; omega⟩))⟩, ⟨mR HO_40.out⟩, ⟨mvT_ HH.out⟩, ⟨mK BK355.out⟩, ⟨by repeat (first | (with_reducible first | exact HB.out | apply yO | apply yN | apply yP | refine yQ ?_ GE355.out) | exact HB.out)⟩⟩
      ·rw [if_neg c37] at H
       have c37b0 : decide (x42_2 < (t363.length : Int)) = false := decide_eq_false c37
       clear c37
       simp only [Option.some.injEq, Prod.mk.injEq] at H
       obtain ⟨rfl, rfl⟩ := H
       go_wp2
       go_ret2
       exact ⟨_, by first | rfl | (simp [errW_none, errW_some] <;> rfl) | (simp [*, errW_none, errW_some] <;> rfl), mS (Kd.S_mono HO_6.out (fun _ hk => hk.1)), by repeat (first | (with_reducible first | exact HB.out | apply yO | apply yN | apply yP | refine yQ ?_ GE355.out) | exact HB.out)⟩

end Go.Proofs.Ytgopcliohchkmaa.Q
