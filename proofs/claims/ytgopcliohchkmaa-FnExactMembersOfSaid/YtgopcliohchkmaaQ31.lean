-- written by a program of this session
-- squeezed
-- compact
-- shrunk
import Derived.Test.YtgopcliohchkmaaQ0
import Derived.Test.YtgopcliohchkmaaQ1
import Derived.Test.YtgopcliohchkmaaQ30
namespace Go.Proofs.Ytgopcliohchkmaa.Q
open Go.RowKit Go.Proofs.YtgopcliohchkmaaW.PrintWords Go.Proofs.YtgopcliohchkmaaW.PrintLast Go.Proofs.YtgopcliohchkmaaW.PrintMore
set_option linter.unusedVariables false
set_option linter.unusedSimpArgs false

/-! ### spec_IsRelation: function 67 -/
mutual
def spec_IsRelation.j0 : Nat → Bool → Int → Int → List (List Int) → List Bool → Option (Bool)
 | 0, _, _, _, _, _ => none
 | k + 1, x30, x225000, x225001, x225002, x225003 => if x30 = true then (some false) else (spec_IsRelation.l0 k 0 x225000 x225001 x225002 x225003)
def spec_IsRelation.l0 : Nat → Int → Int → Int → List (List Int) → List Bool → Option (Bool)
 | 0, _, _, _, _, _ => none
 | k + 1, x3, x225000, x225001, x225002, x225003 => if x3 < (x225002.length : Int) then (if 0 ≤ x3 then ((spec_l13Letters.f k x225000 x225001).bind fun t231 => (if ((rd_L1 x225002 x3).length : Int) = t231 then (spec_IsRelation.l1 k x3 0 x225000 x225001 x225002 x225003) else (some false))) else (none)) else (if 0 < (x225002.length : Int) then (if 0 < ((rd_L1 x225002 0).length : Int) then (some ((rd (rd_L1 x225002 0) 0) == 0)) else (none)) else (none))
def spec_IsRelation.l1 : Nat → Int → Int → Int → Int → List (List Int) → List Bool → Option (Bool)
 | 0, _, _, _, _, _, _ => none
 | k + 1, x3, x4, x225000, x225001, x225002, x225003 => if 0 ≤ x3 then (if x3 < (x225002.length : Int) then (if x4 < ((rd_L1 x225002 x3).length : Int) then (if 0 ≤ x4 then (if (rd (rd_L1 x225002 x3) x4) < 0 then (some false) else (if (rd (rd_L1 x225002 x3) x4) ≥ (x225002.length : Int) then (some false) else (spec_IsRelation.l1 k x3 (wrap64 (x4 + 1)) x225000 x225001 x225002 x225003))) else (none)) else (spec_IsRelation.l0 k (wrap64 (x3 + 1)) x225000 x225001 x225002 x225003)) else (none)) else (none)
end
def spec_IsRelation.f (k : Nat) (a0_0 : Int) (a0_1 : Int) (l0_2 : List (List Int)) (l0_3 : List Bool) : Option (Bool) := (spec_l1In.f a0_0 2 3).bind fun t225 => (if t225 = true then ((spec_l1In.f a0_1 0 3).bind fun t226 => (if t226 = true then ((spec_l1In.f (l0_2.length : Int) 1 48).bind fun t227 => (if t227 = true then (spec_IsRelation.j0 k ((l0_3.length : Int) != (l0_2.length : Int)) a0_0 a0_1 l0_2 l0_3) else (spec_IsRelation.j0 k true a0_0 a0_1 l0_2 l0_3))) else (spec_IsRelation.j0 k true a0_0 a0_1 l0_2 l0_3))) else (spec_IsRelation.j0 k true a0_0 a0_1 l0_2 l0_3))
theorem spec_IsRelation.mono_l : ∀ k, (∀ y0 y1 y2 y3 y4, LeO (spec_IsRelation.j0 k y0 y1 y2 y3 y4) (spec_IsRelation.j0 (k + 1) y0 y1 y2 y3 y4)) ∧ (∀ y0 y1 y2 y3 y4, LeO (spec_IsRelation.l0 k y0 y1 y2 y3 y4) (spec_IsRelation.l0 (k + 1) y0 y1 y2 y3 y4)) ∧ (∀ y0 y1 y2 y3 y4 y5, LeO (spec_IsRelation.l1 k y0 y1 y2 y3 y4 y5) (spec_IsRelation.l1 (k + 1) y0 y1 y2 y3 y4 y5))
 | 0 => ⟨fun _ _ _ _ _ r h => by simp [spec_IsRelation.j0] at h, fun _ _ _ _ _ r h => by simp [spec_IsRelation.l0] at h, fun _ _ _ _ _ _ r h => by simp [spec_IsRelation.l1] at h⟩
 | k + 1 => by
  obtain ⟨ih0, ih1, ih2⟩ := spec_IsRelation.mono_l k
  refine ⟨?_, ?_, ?_⟩ <;> intros <;> first | unfold spec_IsRelation.j0 | unfold spec_IsRelation.l0 | unfold spec_IsRelation.l1
  all_goals repeat' (with_reducible first | exact ih0 _ _ _ _ _ | exact ih1 _ _ _ _ _ | exact ih2 _ _ _ _ _ _ | exact spec_l13Letters.mono _ _ _ | exact LeO.refl _ | exact LeO.none _ | refine LeO.ite ?_ ?_ | refine LeO.bind ?_ fun _ => ?_)
theorem spec_IsRelation.mono : ∀ a0 a1 a2 a3 k, LeO (spec_IsRelation.f k a0 a1 a2 a3) (spec_IsRelation.f (k + 1) a0 a1 a2 a3) := by
 intro a0 a1 a2 a3 k
 obtain ⟨ih0, ih1, ih2⟩ := spec_IsRelation.mono_l k
 unfold spec_IsRelation.f
 repeat' (with_reducible first | exact ih0 _ _ _ _ _ | exact ih1 _ _ _ _ _ | exact ih2 _ _ _ _ _ _ | exact spec_l13Letters.mono _ _ _ | exact LeO.refl _ | exact LeO.none _ | refine LeO.ite ?_ ?_ | refine LeO.bind ?_ fun _ => ?_)
set_option maxHeartbeats 8000000 in
set_option maxRecDepth 100000 in
theorem spec_IsRelation.calls (k : Nat) (a0_0 : Int) (a0_1 : Int) (A0_2 : Option Addr) (c0_2 : Nat) (l0_2 : List (List Int)) (A0_3 : Option Addr) (c0_3 : Nat) (l0_3 : List Bool) (r : Bool) (w : World) (hr0_2 : Kd.C (Kd.slice 3 (Kd.int .i64)) w A0_2 l0_2.length l0_2) (hc0_2 : l0_2.length ≤ c0_2) (hr0_3 : Kd.C Kd.bool w A0_3 l0_3.length l0_3) (hc0_3 : l0_3.length ≤ c0_3) (h : spec_IsRelation.f k a0_0 a0_1 l0_2 l0_3 = some r) :
  Calls Try.prog 67 #[.agg #[.int .i64 a0_0, .int .i64 a0_1, .slice A0_2 l0_2.length c0_2, .slice A0_3 l0_3.length c0_3]] w fun e w' => e = .returned (.bool r) ∧ Below w.heap.size w w' := by
 have hu25 := Try.underlying25
 have HR0_2 := yA hr0_2
 have HC0_2 := yA hc0_2
 clear hr0_2 hc0_2
 have HR0_3 := yA hr0_3
 have HC0_3 := yA hc0_3
 clear hr0_3 hc0_3
 have HB := yA (zV w.heap.size w)
 have H : ((spec_l1In.f a0_0 2 3).bind fun t225 => (if t225 = true then ((spec_l1In.f a0_1 0 3).bind fun t226 => (if t226 = true then ((spec_l1In.f (l0_2.length : Int) 1 48).bind fun t227 => (if t227 = true then (spec_IsRelation.j0 k ((l0_3.length : Int) != (l0_2.length : Int)) a0_0 a0_1 l0_2 l0_3) else (spec_IsRelation.j0 k true a0_0 a0_1 l0_2 l0_3))) else (spec_IsRelation.j0 k true a0_0 a0_1 l0_2 l0_3))) else (spec_IsRelation.j0 k true a0_0 a0_1 l0_2 l0_3))) = some r := h
 clear h
 have HC2 := yA H
 clear H
 go_enter Try.func67, Try.ntmps67
 go_upto_region 1 with (first | ((with_reducible refine gate_dst (N := 1) rfl ?_); refine box_event ?hg (N := 1) ?hd (cs := #[.int .i64 a0_0, .int .i64 a0_1, .slice A0_2 l0_2.length c0_2, .slice A0_3 l0_3.length c0_3]) (t := 25) ?hr ?_; (case hd => rfl); (case hg => rfl); (case hr => first | (go_simp; done) | (go_simp; rfl)); intro gb224 hg w3 hbox hb; have BK224 := yA (hbox); have GW224 := yA ((by rw [hg]; exact (yX (mB HB.out)) : w.heap.size ≤ gb224)); have GE224 := yA ((by rw [hg]; exact (yX (mB HB.out)) : w.heap.size ≤ gb224)); replace HB := yA (zD (mB HB.out) hb); clear hb hbox hg))
 repeat (go_quiet (first | ((with_reducible refine gate_dst (N := 1) rfl ?_); refine box_event ?hg (N := 1) ?hd (cs := #[.int .i64 a0_0, .int .i64 a0_1, .slice A0_2 l0_2.length c0_2, .slice A0_3 l0_3.length c0_3]) (t := 25) ?hr ?_; (case hd => rfl); (case hg => rfl); (case hr => first | (go_simp; done) | (go_simp; rfl)); intro gb224 hg w3 hbox hb; have BK224 := yA (hbox); have GW224 := yA ((by rw [hg]; exact (yX (mB HB.out)) : w.heap.size ≤ gb224)); have GE224 := yA ((by rw [hg]; exact (yX (mB HB.out)) : w.heap.size ≤ gb224)); replace HB := yA (zD (mB HB.out) hb); clear hb hbox hg)); go_upto_region 1 with (first | ((with_reducible refine gate_dst (N := 1) rfl ?_); refine box_event ?hg (N := 1) ?hd (cs := #[.int .i64 a0_0, .int .i64 a0_1, .slice A0_2 l0_2.length c0_2, .slice A0_3 l0_3.length c0_3]) (t := 25) ?hr ?_; (case hd => rfl); (case hg => rfl); (case hr => first | (go_simp; done) | (go_simp; rfl)); intro gb224 hg w3 hbox hb; have BK224 := yA (hbox); have GW224 := yA ((by rw [hg]; exact (yX (mB HB.out)) : w.heap.size ≤ gb224)); have GE224 := yA ((by rw [hg]; exact (yX (mB HB.out)) : w.heap.size ≤ gb224)); replace HB := yA (zD (mB HB.out) hb); clear hb hbox hg)))
 (try simp only [Act.put, zA, zB, zC])
 go_cut [30] (fun v30 wc => ∃ (kq : Nat) (x30_1 : Bool), v30 = .bool x30_1 ∧ Aside0 (spec_IsRelation.j0 kq x30_1 a0_0 a0_1 l0_2 l0_3 = some r) ∧ Aside0 (kq ≤ k) ∧ Aside0 (wc.heap[gb224]? = some (.cells #[.int .i64 a0_0, .int .i64 a0_1, (.slice A0_2 l0_2.length c0_2), (.slice A0_3 l0_3.length c0_3)] 25 (0, 0))) ∧ Aside0 (Below w.heap.size w wc))
 case first =>
  have H := HC2.out
  clear HC2
  obtain ⟨t225, A4, H⟩ := bE H
  by_cases c5 : t225 = true
  ·subst c5
   replace H := iT H
   obtain ⟨t226, A6, H⟩ := bE H
   by_cases c7 : t226 = true
   ·subst c7
    replace H := iT H
    obtain ⟨t227, A8, H⟩ := bE H
    by_cases c9 : t227 = true
    ·subst c9
     replace H := iT H
     have H' := yA H
     clear H
     obtain ⟨hcz10_0, hcz10_1, hcz10_2, hcz10_3⟩ := cz4 BK224.out
     obtain ⟨hfz10_0, hfz10_1, hfz10_2, hfz10_3⟩ := fz4 BK224.out
     go_wp2_with (first | (go_at_call 51; (with_reducible refine (spec_l1In.calls a0_0 2 3 true _ A4.out).mono ?_); rintro e w' ⟨rfl, ⟨nd, rfl⟩⟩; (try first | exact ⟨rfl, _, World.drewN_drewN _ _ _⟩ | exact ⟨rfl, _, Eq.trans (World.drewN_drewN _ _ _) (congrArg (World.drewN _) (Nat.add_assoc _ _ _))⟩)) | (go_at_call 51; (with_reducible refine (spec_l1In.calls a0_1 0 3 true _ A6.out).mono ?_); rintro e w' ⟨rfl, ⟨nd, rfl⟩⟩; (try first | exact ⟨rfl, _, World.drewN_drewN _ _ _⟩ | exact ⟨rfl, _, Eq.trans (World.drewN_drewN _ _ _) (congrArg (World.drewN _) (Nat.add_assoc _ _ _))⟩)) | (go_at_call 51; (with_reducible refine (spec_l1In.calls (l0_2.length : Int) 1 48 true _ A8.out).mono ?_); rintro e w' ⟨rfl, ⟨nd, rfl⟩⟩; (try first | exact ⟨rfl, _, World.drewN_drewN _ _ _⟩ | exact ⟨rfl, _, Eq.trans (World.drewN_drewN _ _ _) (congrArg (World.drewN _) (Nat.add_assoc _ _ _))⟩)))
     repeat (go_quiet (first | (go_at_call 51; (with_reducible refine (spec_l1In.calls a0_0 2 3 true _ A4.out).mono ?_); rintro e w' ⟨rfl, ⟨nd, rfl⟩⟩; (try first | exact ⟨rfl, _, World.drewN_drewN _ _ _⟩ | exact ⟨rfl, _, Eq.trans (World.drewN_drewN _ _ _) (congrArg (World.drewN _) (Nat.add_assoc _ _ _))⟩)) | (go_at_call 51; (with_reducible refine (spec_l1In.calls a0_1 0 3 true _ A6.out).mono ?_); rintro e w' ⟨rfl, ⟨nd, rfl⟩⟩; (try first | exact ⟨rfl, _, World.drewN_drewN _ _ _⟩ | exact ⟨rfl, _, Eq.trans (World.drewN_drewN _ _ _) (congrArg (World.drewN _) (Nat.add_assoc _ _ _))⟩)) | (go_at_call 51; (with_reducible refine (spec_l1In.calls (l0_2.length : Int) 1 48 true _ A8.out).mono ?_); rintro e w' ⟨rfl, ⟨nd, rfl⟩⟩; (try first | exact ⟨rfl, _, World.drewN_drewN _ _ _⟩ | exact ⟨rfl, _, Eq.trans (World.drewN_drewN _ _ _) (congrArg (World.drewN _) (Nat.add_assoc _ _ _))⟩))); try go_wp2_with (first | (go_at_call 51; (with_reducible refine (spec_l1In.calls a0_0 2 3 true _ A4.out).mono ?_); rintro e w' ⟨rfl, ⟨nd, rfl⟩⟩; (try first | exact ⟨rfl, _, World.drewN_drewN _ _ _⟩ | exact ⟨rfl, _, Eq.trans (World.drewN_drewN _ _ _) (congrArg (World.drewN _) (Nat.add_assoc _ _ _))⟩)) | (go_at_call 51; (with_reducible refine (spec_l1In.calls a0_1 0 3 true _ A6.out).mono ?_); rintro e w' ⟨rfl, ⟨nd, rfl⟩⟩; (try first | exact ⟨rfl, _, World.drewN_drewN _ _ _⟩ | exact ⟨rfl, _, Eq.trans (World.drewN_drewN _ _ _) (congrArg (World.drewN _) (Nat.add_assoc _ _ _))⟩)) | (go_at_call 51; (with_reducible refine (spec_l1In.calls (l0_2.length : Int) 1 48 true _ A8.out).mono ?_); rintro e w' ⟨rfl, ⟨nd, rfl⟩⟩; (try first | exact ⟨rfl, _, World.drewN_drewN _ _ _⟩ | exact ⟨rfl, _, Eq.trans (World.drewN_drewN _ _ _) (congrArg (World.drewN _) (Nat.add_assoc _ _ _))⟩))))
     go_meet
     case rel => exact ⟨_, (((l0_3.length : Int) != (l0_2.length : Int))), (by first | rfl | (simp; done) | (simp [*]; done)), H', ⟨by first | omega | exact zT _⟩, ⟨mK BK224.out⟩, ⟨by repeat (first | (with_reducible first | exact HB.out | apply yO | apply yN | apply yP | refine yQ ?_ GE224.out) | exact HB.out)⟩⟩
    ·replace c9 := Bool.eq_false_iff.mpr c9
     subst c9
     replace H := iF H
     have H' := yA H
     clear H
     obtain ⟨hcz11_0, hcz11_1, hcz11_2, hcz11_3⟩ := cz4 BK224.out
     obtain ⟨hfz11_0, hfz11_1, hfz11_2, hfz11_3⟩ := fz4 BK224.out
     go_wp2_with (first | (go_at_call 51; (with_reducible refine (spec_l1In.calls a0_0 2 3 true _ A4.out).mono ?_); rintro e w' ⟨rfl, ⟨nd, rfl⟩⟩; (try first | exact ⟨rfl, _, World.drewN_drewN _ _ _⟩ | exact ⟨rfl, _, Eq.trans (World.drewN_drewN _ _ _) (congrArg (World.drewN _) (Nat.add_assoc _ _ _))⟩)) | (go_at_call 51; (with_reducible refine (spec_l1In.calls a0_1 0 3 true _ A6.out).mono ?_); rintro e w' ⟨rfl, ⟨nd, rfl⟩⟩; (try first | exact ⟨rfl, _, World.drewN_drewN _ _ _⟩ | exact ⟨rfl, _, Eq.trans (World.drewN_drewN _ _ _) (congrArg (World.drewN _) (Nat.add_assoc _ _ _))⟩)) | (go_at_call 51; (with_reducible refine (spec_l1In.calls (l0_2.length : Int) 1 48 false _ A8.out).mono ?_); rintro e w' ⟨rfl, ⟨nd, rfl⟩⟩; (try first | exact ⟨rfl, _, World.drewN_drewN _ _ _⟩ | exact ⟨rfl, _, Eq.trans (World.drewN_drewN _ _ _) (congrArg (World.drewN _) (Nat.add_assoc _ _ _))⟩)))
     repeat (go_quiet (first | (go_at_call 51; (with_reducible refine (spec_l1In.calls a0_0 2 3 true _ A4.out).mono ?_); rintro e w' ⟨rfl, ⟨nd, rfl⟩⟩; (try first | exact ⟨rfl, _, World.drewN_drewN _ _ _⟩ | exact ⟨rfl, _, Eq.trans (World.drewN_drewN _ _ _) (congrArg (World.drewN _) (Nat.add_assoc _ _ _))⟩)) | (go_at_call 51; (with_reducible refine (spec_l1In.calls a0_1 0 3 true _ A6.out).mono ?_); rintro e w' ⟨rfl, ⟨nd, rfl⟩⟩; (try first | exact ⟨rfl, _, World.drewN_drewN _ _ _⟩ | exact ⟨rfl, _, Eq.trans (World.drewN_drewN _ _ _) (congrArg (World.drewN _) (Nat.add_assoc _ _ _))⟩)) | (go_at_call 51; (with_reducible refine (spec_l1In.calls (l0_2.length : Int) 1 48 false _ A8.out).mono ?_); rintro e w' ⟨rfl, ⟨nd, rfl⟩⟩; (try first | exact ⟨rfl, _, World.drewN_drewN _ _ _⟩ | exact ⟨rfl, _, Eq.trans (World.drewN_drewN _ _ _) (congrArg (World.drewN _) (Nat.add_assoc _ _ _))⟩))); try go_wp2_with (first | (go_at_call 51; (with_reducible refine (spec_l1In.calls a0_0 2 3 true _ A4.out).mono ?_); rintro e w' ⟨rfl, ⟨nd, rfl⟩⟩; (try first | exact ⟨rfl, _, World.drewN_drewN _ _ _⟩ | exact ⟨rfl, _, Eq.trans (World.drewN_drewN _ _ _) (congrArg (World.drewN _) (Nat.add_assoc _ _ _))⟩)) | (go_at_call 51; (with_reducible refine (spec_l1In.calls a0_1 0 3 true _ A6.out).mono ?_); rintro e w' ⟨rfl, ⟨nd, rfl⟩⟩; (try first | exact ⟨rfl, _, World.drewN_drewN _ _ _⟩ | exact ⟨rfl, _, Eq.trans (World.drewN_drewN _ _ _) (congrArg (World.drewN _) (Nat.add_assoc _ _ _))⟩)) | (go_at_call 51; (with_reducible refine (spec_l1In.calls (l0_2.length : Int) 1 48 false _ A8.out).mono ?_); rintro e w' ⟨rfl, ⟨nd, rfl⟩⟩; (try first | exact ⟨rfl, _, World.drewN_drewN _ _ _⟩ | exact ⟨rfl, _, Eq.trans (World.drewN_drewN _ _ _) (congrArg (World.drewN _) (Nat.add_assoc _ _ _))⟩))))
     go_meet
     case rel => exact ⟨_, (true), (by first | rfl | (simp; done) | (simp [*]; done)), H', ⟨by first | omega | exact zT _⟩, ⟨mK BK224.out⟩, ⟨by repeat (first | (with_reducible first | exact HB.out | apply yO | apply yN | apply yP | refine yQ ?_ GE224.out) | exact HB.out)⟩⟩
   ·replace c7 := Bool.eq_false_iff.mpr c7
    subst c7
    replace H := iF H
    have H' := yA H
    clear H
    obtain ⟨hcz12_0, hcz12_1, hcz12_2, hcz12_3⟩ := cz4 BK224.out
    obtain ⟨hfz12_0, hfz12_1, hfz12_2, hfz12_3⟩ := fz4 BK224.out
    go_wp2_with (first | (go_at_call 51; (with_reducible refine (spec_l1In.calls a0_0 2 3 true _ A4.out).mono ?_); rintro e w' ⟨rfl, ⟨nd, rfl⟩⟩; (try first | exact ⟨rfl, _, World.drewN_drewN _ _ _⟩ | exact ⟨rfl, _, Eq.trans (World.drewN_drewN _ _ _) (congrArg (World.drewN _) (Nat.add_assoc _ _ _))⟩)) | (go_at_call 51; (with_reducible refine (spec_l1In.calls a0_1 0 3 false _ A6.out).mono ?_); rintro e w' ⟨rfl, ⟨nd, rfl⟩⟩; (try first | exact ⟨rfl, _, World.drewN_drewN _ _ _⟩ | exact ⟨rfl, _, Eq.trans (World.drewN_drewN _ _ _) (congrArg (World.drewN _) (Nat.add_assoc _ _ _))⟩)))
    repeat (go_quiet (first | (go_at_call 51; (with_reducible refine (spec_l1In.calls a0_0 2 3 true _ A4.out).mono ?_); rintro e w' ⟨rfl, ⟨nd, rfl⟩⟩; (try first | exact ⟨rfl, _, World.drewN_drewN _ _ _⟩ | exact ⟨rfl, _, Eq.trans (World.drewN_drewN _ _ _) (congrArg (World.drewN _) (Nat.add_assoc _ _ _))⟩)) | (go_at_call 51; (with_reducible refine (spec_l1In.calls a0_1 0 3 false _ A6.out).mono ?_); rintro e w' ⟨rfl, ⟨nd, rfl⟩⟩; (try first | exact ⟨rfl, _, World.drewN_drewN _ _ _⟩ | exact ⟨rfl, _, Eq.trans (World.drewN_drewN _ _ _) (congrArg (World.drewN _) (Nat.add_assoc _ _ _))⟩))); try go_wp2_with (first | (go_at_call 51; (with_reducible refine (spec_l1In.calls a0_0 2 3 true _ A4.out).mono ?_); rintro e w' ⟨rfl, ⟨nd, rfl⟩⟩; (try first | exact ⟨rfl, _, World.drewN_drewN _ _ _⟩ | exact ⟨rfl, _, Eq.trans (World.drewN_drewN _ _ _) (congrArg (World.drewN _) (Nat.add_assoc _ _ _))⟩)) | (go_at_call 51; (with_reducible refine (spec_l1In.calls a0_1 0 3 false _ A6.out).mono ?_); rintro e w' ⟨rfl, ⟨nd, rfl⟩⟩; (try first | exact ⟨rfl, _, World.drewN_drewN _ _ _⟩ | exact ⟨rfl, _, Eq.trans (World.drewN_drewN _ _ _) (congrArg (World.drewN _) (Nat.add_assoc _ _ _))⟩))))
    go_meet
    case rel => exact ⟨_, (true), (by first | rfl | (simp; done) | (simp [*]; done)), H', ⟨by first | omega | exact zT _⟩, ⟨mK BK224.out⟩, ⟨by repeat (first | (with_reducible first | exact HB.out | apply yO | apply yN | apply yP | refine yQ ?_ GE224.out) | exact HB.out)⟩⟩
  ·replace c5 := Bool.eq_false_iff.mpr c5
   subst c5
   replace H := iF H
   have H' := yA H
   clear H
   obtain ⟨hcz13_0, hcz13_1, hcz13_2, hcz13_3⟩ := cz4 BK224.out
   obtain ⟨hfz13_0, hfz13_1, hfz13_2, hfz13_3⟩ := fz4 BK224.out
   go_wp2_with (first | (go_at_call 51; (with_reducible refine (spec_l1In.calls a0_0 2 3 false _ A4.out).mono ?_); rintro e w' ⟨rfl, ⟨nd, rfl⟩⟩; (try first | exact ⟨rfl, _, World.drewN_drewN _ _ _⟩ | exact ⟨rfl, _, Eq.trans (World.drewN_drewN _ _ _) (congrArg (World.drewN _) (Nat.add_assoc _ _ _))⟩)))
   repeat (go_quiet (first | (go_at_call 51; (with_reducible refine (spec_l1In.calls a0_0 2 3 false _ A4.out).mono ?_); rintro e w' ⟨rfl, ⟨nd, rfl⟩⟩; (try first | exact ⟨rfl, _, World.drewN_drewN _ _ _⟩ | exact ⟨rfl, _, Eq.trans (World.drewN_drewN _ _ _) (congrArg (World.drewN _) (Nat.add_assoc _ _ _))⟩))); try go_wp2_with (first | (go_at_call 51; (with_reducible refine (spec_l1In.calls a0_0 2 3 false _ A4.out).mono ?_); rintro e w' ⟨rfl, ⟨nd, rfl⟩⟩; (try first | exact ⟨rfl, _, World.drewN_drewN _ _ _⟩ | exact ⟨rfl, _, Eq.trans (World.drewN_drewN _ _ _) (congrArg (World.drewN _) (Nat.add_assoc _ _ _))⟩))))
   go_meet
   case rel => exact ⟨_, (true), (by first | rfl | (simp; done) | (simp [*]; done)), H', ⟨by first | omega | exact zT _⟩, ⟨mK BK224.out⟩, ⟨by repeat (first | (with_reducible first | exact HB.out | apply yO | apply yN | apply yP | refine yQ ?_ GE224.out) | exact HB.out)⟩⟩
 case rest =>
  clear HC2
  (try clear p2);(try clear c5);(try clear c6);(try clear c7);(try clear c9);(try clear hcz10_0);(try clear hcz10_1);(try clear hcz10_2);(try clear hcz10_3);(try clear hcz11_0);(try clear hcz11_1);(try clear hcz11_2);(try clear hcz11_3);(try clear hcz12_0);(try clear hcz12_1);(try clear hcz12_2);(try clear hcz12_3);(try clear hcz13_0);(try clear hcz13_1);(try clear hcz13_2);(try clear hcz13_3);(try clear hfz10_0);(try clear hfz10_1);(try clear hfz10_2);(try clear hfz10_3);(try clear hfz11_0);(try clear hfz11_1);(try clear hfz11_2);(try clear hfz11_3);(try clear hfz12_0);(try clear hfz12_1);(try clear hfz12_2);(try clear hfz12_3);(try clear hfz13_0);(try clear hfz13_1);(try clear hfz13_2);(try clear hfz13_3)
  obtain ⟨kq, x30_1, rfl, HA, HJ1, BK224, HB⟩ := hcut
  cases kq with
  | zero => exact absurd HA.out (by simp [spec_IsRelation.j0])
  | succ kj1 =>
   have H := HA.out
   clear HA
   simp only [spec_IsRelation.j0] at H
   by_cases c14 : x30_1 = true
   ·subst c14
    replace H := iT H
    obtain rfl := zU H
    go_wp2
    repeat (go_quiet (fail); try go_wp2)
    go_ret
    exact ⟨by first | rfl | (simp [errW_none, errW_some] <;> rfl) | (simp [*, errW_none, errW_some] <;> rfl), by repeat (first | (with_reducible first | exact HB.out | apply yO | apply yN | apply yP | refine yQ ?_ GE224.out) | exact HB.out)⟩
   ·replace c14 := Bool.eq_false_iff.mpr c14
    subst c14
    replace H := iF H
    have H' := yA H
    clear H
    go_wp2
    repeat (go_quiet (fail); try go_wp2)
    go_loopg [3] kj1 (fun kq v3 w' => ∃ (x3_2 : Int), v3 = .int .i64 x3_2 ∧ Aside0 (spec_IsRelation.l0 kq x3_2 a0_0 a0_1 l0_2 l0_3 = some r) ∧ Aside0 (kq ≤ kj1) ∧ Aside0 (w'.heap[gb224]? = some (.cells #[.int .i64 a0_0, .int .i64 a0_1, (.slice A0_2 l0_2.length c0_2), (.slice A0_3 l0_3.length c0_3)] 25 (0, 0))) ∧ Aside0 (Below w.heap.size w w'))
    case atStart => exact ⟨(0), (by first | rfl | (simp; done) | (simp [*]; done)), H', ⟨zT _⟩, ⟨mK BK224.out⟩, ⟨by repeat (first | (with_reducible first | exact HB.out | apply yO | apply yN | apply yP | refine yQ ?_ GE224.out) | exact HB.out)⟩⟩
    case round =>
     clear H'
     (try clear c1);(try clear p2);(try clear c5);(try clear c6);(try clear c7);(try clear c9);(try clear c14);(try clear hcz10_0);(try clear hcz10_1);(try clear hcz10_2);(try clear hcz10_3);(try clear hcz11_0);(try clear hcz11_1);(try clear hcz11_2);(try clear hcz11_3);(try clear hcz12_0);(try clear hcz12_1);(try clear hcz12_2);(try clear hcz12_3);(try clear hcz13_0);(try clear hcz13_1);(try clear hcz13_2);(try clear hcz13_3);(try clear hfz10_0);(try clear hfz10_1);(try clear hfz10_2);(try clear hfz10_3);(try clear hfz11_0);(try clear hfz11_1);(try clear hfz11_2);(try clear hfz11_3);(try clear hfz12_0);(try clear hfz12_1);(try clear hfz12_2);(try clear hfz12_3);(try clear hfz13_0);(try clear hfz13_1);(try clear hfz13_2);(try clear hfz13_3);(try clear p2)
     obtain ⟨x3_2, rfl, HA, HK2, BK224, HB⟩ := hrel
     cases gk with
     | zero => exact absurd HA.out (by simp [spec_IsRelation.l0])
     | succ k2 =>
      have H := HA.out
      clear HA
      simp only [spec_IsRelation.l0] at H
      by_cases c15 : x3_2 < (l0_2.length : Int)
      ·rw [if_pos c15] at H
       have c15b0 : decide (x3_2 < (l0_2.length : Int)) = true := zH c15
       clear c15
       obtain ⟨c16, H⟩ := iP H
       have c16b0 : decide (0 ≤ x3_2) = true := zH c16
       clear c16
       obtain ⟨t231, A17, H⟩ := bE H
       by_cases c18 : ((rd_L1 l0_2 x3_2).length : Int) = t231
       ·rw [if_pos c18] at H
        have c18b0 : (((rd_L1 l0_2 x3_2).length : Int) == t231) = true := beq_iff_eq.mpr c18
        have c18b1 : (((rd_L1 l0_2 x3_2).length : Int) != t231) = false := bne_eq_false_iff_eq.mpr c18
        clear c18
        have H' := yA H
        clear H
        obtain ⟨hcz19_0, hcz19_1, hcz19_2, hcz19_3⟩ := cz4 BK224.out
        obtain ⟨hfz19_0, hfz19_1, hfz19_2, hfz19_3⟩ := fz4 BK224.out
        have p230 : 0 ≤ (x3_2 : Int) := zG (by assumption)
        have q230 : x3_2 < (l0_2.length : Int) := zG (by assumption)
        obtain ⟨ad230, A230_0, c230_0, e230, hx230_0, hl230_0, hi230_0⟩ := at_L1 HR0_2.out x3_2 p230 q230
        cases e230
        try replace hx230_0 := (HB.out.cell (zE w _ hx230_0)).trans hx230_0
        have HR230_0 := yA hi230_0
        have HC230_0 := yA hl230_0
        clear hi230_0 hl230_0
        replace p230 := eq_true p230
        replace q230 := eq_true q230
        go_wp2_with (first | (go_at_call 87; (with_reducible refine (spec_l13Letters.calls k2 a0_0 a0_1 t231 _ A17.out).mono ?_); rintro e w' ⟨rfl, ⟨nd, rfl⟩⟩; (try first | exact ⟨rfl, _, World.drewN_drewN _ _ _⟩ | exact ⟨rfl, _, Eq.trans (World.drewN_drewN _ _ _) (congrArg (World.drewN _) (Nat.add_assoc _ _ _))⟩)))
        repeat (go_quiet (first | (go_at_call 87; (with_reducible refine (spec_l13Letters.calls k2 a0_0 a0_1 t231 _ A17.out).mono ?_); rintro e w' ⟨rfl, ⟨nd, rfl⟩⟩; (try first | exact ⟨rfl, _, World.drewN_drewN _ _ _⟩ | exact ⟨rfl, _, Eq.trans (World.drewN_drewN _ _ _) (congrArg (World.drewN _) (Nat.add_assoc _ _ _))⟩))); try go_wp2_with (first | (go_at_call 87; (with_reducible refine (spec_l13Letters.calls k2 a0_0 a0_1 t231 _ A17.out).mono ?_); rintro e w' ⟨rfl, ⟨nd, rfl⟩⟩; (try first | exact ⟨rfl, _, World.drewN_drewN _ _ _⟩ | exact ⟨rfl, _, Eq.trans (World.drewN_drewN _ _ _) (congrArg (World.drewN _) (Nat.add_assoc _ _ _))⟩))))
        go_loopg [4] k2 (fun kq v4 w' => ∃ (x4_3 : Int), v4 = .int .i64 x4_3 ∧ Aside0 (spec_IsRelation.l1 kq x3_2 x4_3 a0_0 a0_1 l0_2 l0_3 = some r) ∧ Aside0 (kq ≤ k2) ∧ Aside0 (w'.heap[gb224]? = some (.cells #[.int .i64 a0_0, .int .i64 a0_1, (.slice (some ad230) l0_2.length c0_2), (.slice A0_3 l0_3.length c0_3)] 25 (0, 0))) ∧ Aside0 (Below w.heap.size w w'))
        case atStart => exact ⟨(0), (by first | rfl | (simp; done) | (simp [*]; done)), H', ⟨zT _⟩, ⟨mK BK224.out⟩, ⟨by repeat (first | (with_reducible first | exact HB.out | apply yO | apply yN | apply yP | refine yQ ?_ GE224.out) | exact HB.out)⟩⟩
        case round =>
         clear H'
         (try clear c1);(try clear c2);(try clear p2);(try clear q2);(try clear hx2);(try clear c5);(try clear c6);(try clear c7);(try clear c9);(try clear c14);(try clear c15);(try clear c15b0);(try clear c16);(try clear c16b0);(try clear c18);(try clear c18b0);(try clear c18b1);(try clear hcz10_0);(try clear hcz10_1);(try clear hcz10_2);(try clear hcz10_3);(try clear hcz11_0);(try clear hcz11_1);(try clear hcz11_2);(try clear hcz11_3);(try clear hcz12_0);(try clear hcz12_1);(try clear hcz12_2);(try clear hcz12_3);(try clear hcz13_0);(try clear hcz13_1);(try clear hcz13_2);(try clear hcz13_3);(try clear hcz19_0);(try clear hcz19_1);(try clear hcz19_2);(try clear hcz19_3);(try clear hfz10_0);(try clear hfz10_1);(try clear hfz10_2);(try clear hfz10_3);(try clear hfz11_0);(try clear hfz11_1);(try clear hfz11_2);(try clear hfz11_3);(try clear hfz12_0);(try clear hfz12_1);(try clear hfz12_2);(try clear hfz12_3);(try clear hfz13_0);(try clear hfz13_1);(try clear hfz13_2);(try clear hfz13_3);(try clear hfz19_0);(try clear hfz19_1);(try clear hfz19_2);(try clear hfz19_3);(try clear hx230_0);(try clear p2);(try clear p230);(try clear q230)
         obtain ⟨x4_3, rfl, HA, HK3, BK224, HB⟩ := hrel
         cases gk with
         | zero => exact absurd HA.out (by simp [spec_IsRelation.l1])
         | succ k3 =>
          have H := HA.out
          clear HA
          simp only [spec_IsRelation.l1] at H
          obtain ⟨c20, H⟩ := iP H
          have c20b0 : decide (0 ≤ x3_2) = true := zH c20
          clear c20
          obtain ⟨c21, H⟩ := iP H
          have c21b0 : decide (x3_2 < (l0_2.length : Int)) = true := zH c21
          clear c21
          by_cases c22 : x4_3 < ((rd_L1 l0_2 x3_2).length : Int)
          ·rw [if_pos c22] at H
           have c22b0 : decide (x4_3 < ((rd_L1 l0_2 x3_2).length : Int)) = true := zH c22
           clear c22
           obtain ⟨c23, H⟩ := iP H
           have c23b0 : decide (0 ≤ x4_3) = true := zH c23
           clear c23
           by_cases c24 : (rd (rd_L1 l0_2 x3_2) x4_3) < 0
           ·rw [if_pos c24] at H
            have c24b0 : decide ((rd (rd_L1 l0_2 x3_2) x4_3) < 0) = true := zH c24
            clear c24
            obtain rfl := zU H
            obtain ⟨hcz25_0, hcz25_1, hcz25_2, hcz25_3⟩ := cz4 BK224.out
            obtain ⟨hfz25_0, hfz25_1, hfz25_2, hfz25_3⟩ := fz4 BK224.out
            have p232 : 0 ≤ (x3_2 : Int) := zG (by assumption)
            have q232 : x3_2 < (l0_2.length : Int) := zG (by assumption)
            obtain ⟨ad232, A232_0, c232_0, e232, hx232_0, hl232_0, hi232_0⟩ := at_L1 HR0_2.out x3_2 p232 q232
            obtain rfl : ad230 = ad232 := (by injection e232)
            try replace hx232_0 := (HB.out.cell (zE w _ hx232_0)).trans hx232_0
            have HR232_0 := yA hi232_0
            have HC232_0 := yA hl232_0
            clear hi232_0 hl232_0
            replace p232 := eq_true p232
            replace q232 := eq_true q232
            have p233 : 0 ≤ (x3_2 : Int) := zG (by assumption)
            have q233 : x3_2 < (l0_2.length : Int) := zG (by assumption)
            obtain ⟨ad233, A233_0, c233_0, e233, hx233_0, hl233_0, hi233_0⟩ := at_L1 HR0_2.out x3_2 p233 q233
            obtain rfl : ad230 = ad233 := (by injection e233)
            try replace hx233_0 := (HB.out.cell (zE w _ hx233_0)).trans hx233_0
            have HR233_0 := yA hi233_0
            have HC233_0 := yA hl233_0
            clear hi233_0 hl233_0
            replace p233 := eq_true p233
            replace q233 := eq_true q233
            have ea_ := zU (hx232_0.symm.trans hx233_0)
            injection ea_ with ea_ en_ ec_
            subst ea_
            subst ec_
            clear en_
            have p234 : 0 ≤ (x4_3 : Int) := zG (by assumption)
            have q234 : x4_3 < ((rd_L1 l0_2 x3_2).length : Int) := zG (by assumption)
            obtain ⟨ad234, e234, hx234_0⟩ := Kd.at_int HR233_0.out x4_3 p234 q234
            cases e234
            try replace hx234_0 := (HB.out.cell (zE w _ hx234_0)).trans hx234_0
            replace p234 := eq_true p234
            replace q234 := eq_true q234
            go_wp2
            repeat (go_quiet (fail); try go_wp2)
            go_ret
            exact ⟨by first | rfl | (simp [errW_none, errW_some] <;> rfl) | (simp [*, errW_none, errW_some] <;> rfl), by repeat (first | (with_reducible first | exact HB.out | apply yO | apply yN | apply yP | refine yQ ?_ GE224.out) | exact HB.out)⟩
           ·rw [if_neg c24] at H
            have c24b0 : decide ((rd (rd_L1 l0_2 x3_2) x4_3) < 0) = false := decide_eq_false c24
            clear c24
            by_cases c26 : (rd (rd_L1 l0_2 x3_2) x4_3) ≥ (l0_2.length : Int)
            ·rw [if_pos c26] at H
             have c26b0 : decide ((l0_2.length : Int) ≤ (rd (rd_L1 l0_2 x3_2) x4_3)) = true := zH c26
             clear c26
             obtain rfl := zU H
             obtain ⟨hcz27_0, hcz27_1, hcz27_2, hcz27_3⟩ := cz4 BK224.out
             obtain ⟨hfz27_0, hfz27_1, hfz27_2, hfz27_3⟩ := fz4 BK224.out
             have p232 : 0 ≤ (x3_2 : Int) := zG (by assumption)
             have q232 : x3_2 < (l0_2.length : Int) := zG (by assumption)
             obtain ⟨ad232, A232_0, c232_0, e232, hx232_0, hl232_0, hi232_0⟩ := at_L1 HR0_2.out x3_2 p232 q232
             obtain rfl : ad230 = ad232 := (by injection e232)
             try replace hx232_0 := (HB.out.cell (zE w _ hx232_0)).trans hx232_0
             have HR232_0 := yA hi232_0
             have HC232_0 := yA hl232_0
             clear hi232_0 hl232_0
             replace p232 := eq_true p232
             replace q232 := eq_true q232
             have p233 : 0 ≤ (x3_2 : Int) := zG (by assumption)
             have q233 : x3_2 < (l0_2.length : Int) := zG (by assumption)
             obtain ⟨ad233, A233_0, c233_0, e233, hx233_0, hl233_0, hi233_0⟩ := at_L1 HR0_2.out x3_2 p233 q233
             obtain rfl : ad230 = ad233 := (by injection e233)
             try replace hx233_0 := (HB.out.cell (zE w _ hx233_0)).trans hx233_0
             have HR233_0 := yA hi233_0
             have HC233_0 := yA hl233_0
             clear hi233_0 hl233_0
             replace p233 := eq_true p233
             replace q233 := eq_true q233
             have ea_ := zU (hx232_0.symm.trans hx233_0)
             injection ea_ with ea_ en_ ec_
             subst ea_
             subst ec_
             clear en_
             have p234 : 0 ≤ (x4_3 : Int) := zG (by assumption)
             have q234 : x4_3 < ((rd_L1 l0_2 x3_2).length : Int) := zG (by assumption)
             obtain ⟨ad234, e234, hx234_0⟩ := Kd.at_int HR233_0.out x4_3 p234 q234
             cases e234
             try replace hx234_0 := (HB.out.cell (zE w _ hx234_0)).trans hx234_0
             replace p234 := eq_true p234
             replace q234 := eq_true q234
             have p235 : 0 ≤ (x3_2 : Int) := zG (by assumption)
             have q235 : x3_2 < (l0_2.length : Int) := zG (by assumption)
             obtain ⟨ad235, A235_0, c235_0, e235, hx235_0, hl235_0, hi235_0⟩ := at_L1 HR0_2.out x3_2 p235 q235
             obtain rfl : ad230 = ad235 := (by injection e235)
             try replace hx235_0 := (HB.out.cell (zE w _ hx235_0)).trans hx235_0
             have HR235_0 := yA hi235_0
             have HC235_0 := yA hl235_0
             clear hi235_0 hl235_0
             replace p235 := eq_true p235
             replace q235 := eq_true q235
             have ea_ := zU (hx232_0.symm.trans hx235_0)
             injection ea_ with ea_ en_ ec_
             subst ea_
             subst ec_
             clear en_
             have p236 : 0 ≤ (x4_3 : Int) := zG (by assumption)
             have q236 : x4_3 < ((rd_L1 l0_2 x3_2).length : Int) := zG (by assumption)
             obtain ⟨ad236, e236, hx236_0⟩ := Kd.at_int HR235_0.out x4_3 p236 q236
             cases e236
             try replace hx236_0 := (HB.out.cell (zE w _ hx236_0)).trans hx236_0
             replace p236 := eq_true p236
             replace q236 := eq_true q236
             go_wp2
             repeat (go_quiet (fail); try go_wp2)
             go_ret
             exact ⟨by first | rfl | (simp [errW_none, errW_some] <;> rfl) | (simp [*, errW_none, errW_some] <;> rfl), by repeat (first | (with_reducible first | exact HB.out | apply yO | apply yN | apply yP | refine yQ ?_ GE224.out) | exact HB.out)⟩
            ·rw [if_neg c26] at H
             have c26b0 : decide ((l0_2.length : Int) ≤ (rd (rd_L1 l0_2 x3_2) x4_3)) = false := decide_eq_false c26
             clear c26
             have H' := yA H
             clear H
             obtain ⟨hcz28_0, hcz28_1, hcz28_2, hcz28_3⟩ := cz4 BK224.out
             obtain ⟨hfz28_0, hfz28_1, hfz28_2, hfz28_3⟩ := fz4 BK224.out
             have p232 : 0 ≤ (x3_2 : Int) := zG (by assumption)
             have q232 : x3_2 < (l0_2.length : Int) := zG (by assumption)
             obtain ⟨ad232, A232_0, c232_0, e232, hx232_0, hl232_0, hi232_0⟩ := at_L1 HR0_2.out x3_2 p232 q232
             obtain rfl : ad230 = ad232 := (by injection e232)
             try replace hx232_0 := (HB.out.cell (zE w _ hx232_0)).trans hx232_0
             have HR232_0 := yA hi232_0
             have HC232_0 := yA hl232_0
             clear hi232_0 hl232_0
             replace p232 := eq_true p232
             replace q232 := eq_true q232
             have p233 : 0 ≤ (x3_2 : Int) := zG (by assumption)
             have q233 : x3_2 < (l0_2.length : Int) := zG (by assumption)
             obtain ⟨ad233, A233_0, c233_0, e233, hx233_0, hl233_0, hi233_0⟩ := at_L1 HR0_2.out x3_2 p233 q233
             obtain rfl : ad230 = ad233 := (by injection e233)
             try replace hx233_0 := (HB.out.cell (zE w _ hx233_0)).trans hx233_0
             have HR233_0 := yA hi233_0
             have HC233_0 := yA hl233_0
             clear hi233_0 hl233_0
             replace p233 := eq_true p233
             replace q233 := eq_true q233
             have ea_ := zU (hx232_0.symm.trans hx233_0)
             injection ea_ with ea_ en_ ec_
             subst ea_
             subst ec_
             clear en_
             have p234 : 0 ≤ (x4_3 : Int) := zG (by assumption)
             have q234 : x4_3 < ((rd_L1 l0_2 x3_2).length : Int) := zG (by assumption)
             obtain ⟨ad234, e234, hx234_0⟩ := Kd.at_int HR233_0.out x4_3 p234 q234
             cases e234
             try replace hx234_0 := (HB.out.cell (zE w _ hx234_0)).trans hx234_0
             replace p234 := eq_true p234
             replace q234 := eq_true q234
             have p235 : 0 ≤ (x3_2 : Int) := zG (by assumption)
             have q235 : x3_2 < (l0_2.length : Int) := zG (by assumption)
             obtain ⟨ad235, A235_0, c235_0, e235, hx235_0, hl235_0, hi235_0⟩ := at_L1 HR0_2.out x3_2 p235 q235
             obtain rfl : ad230 = ad235 := (by injection e235)
             try replace hx235_0 := (HB.out.cell (zE w _ hx235_0)).trans hx235_0
             have HR235_0 := yA hi235_0
             have HC235_0 := yA hl235_0
             clear hi235_0 hl235_0
             replace p235 := eq_true p235
             replace q235 := eq_true q235
             have ea_ := zU (hx232_0.symm.trans hx235_0)
             injection ea_ with ea_ en_ ec_
             subst ea_
             subst ec_
             clear en_
             have p236 : 0 ≤ (x4_3 : Int) := zG (by assumption)
             have q236 : x4_3 < ((rd_L1 l0_2 x3_2).length : Int) := zG (by assumption)
             obtain ⟨ad236, e236, hx236_0⟩ := Kd.at_int HR235_0.out x4_3 p236 q236
             cases e236
             try replace hx236_0 := (HB.out.cell (zE w _ hx236_0)).trans hx236_0
             replace p236 := eq_true p236
             replace q236 := eq_true q236
             go_wp2
             repeat (go_quiet (fail); try go_wp2)
             go_roundg k3
             case measure => have := HJ1.out; have := HK2.out; have := HK3.out; omega
             case rel => exact ⟨(wrap64 (x4_3 + 1)), (by first | rfl | (simp; done) | (simp [*]; done)), H', ⟨by have := HJ1.out; have := HK2.out; have := HK3.out; omega⟩, ⟨mK BK224.out⟩, ⟨by repeat (first | (with_reducible first | exact HB.out | apply yO | apply yN | apply yP | refine yQ ?_ GE224.out) | exact HB.out)⟩⟩
          ·rw [if_neg c22] at H
           have c22b0 : decide (x4_3 < ((rd_L1 l0_2 x3_2).length : Int)) = false := decide_eq_false c22
           clear c22
           have H' := yA H
           clear H
           obtain ⟨hcz29_0, hcz29_1, hcz29_2, hcz29_3⟩ := cz4 BK224.out
           obtain ⟨hfz29_0, hfz29_1, hfz29_2, hfz29_3⟩ := fz4 BK224.out
           have p232 : 0 ≤ (x3_2 : Int) := zG (by assumption)
           have q232 : x3_2 < (l0_2.length : Int) := zG (by assumption)
           obtain ⟨ad232, A232_0, c232_0, e232, hx232_0, hl232_0, hi232_0⟩ := at_L1 HR0_2.out x3_2 p232 q232
           obtain rfl : ad230 = ad232 := (by injection e232)
           try replace hx232_0 := (HB.out.cell (zE w _ hx232_0)).trans hx232_0
           have HR232_0 := yA hi232_0
           have HC232_0 := yA hl232_0
           clear hi232_0 hl232_0
           replace p232 := eq_true p232
           replace q232 := eq_true q232
           go_wp2
           repeat (go_quiet (fail); try go_wp2)
           go_roundg k3
           case measure => have := HJ1.out; have := HK2.out; have := HK3.out; omega
           case rel => exact ⟨(wrap64 (x3_2 + 1)), (by first | rfl | (simp; done) | (simp [*]; done)), H', ⟨by have := HJ1.out; have := HK2.out; have := HK3.out; omega⟩, ⟨mK BK224.out⟩, ⟨by repeat (first | (with_reducible first | exact HB.out | apply yO | apply yN | apply yP | refine yQ ?_ GE224.out) | exact HB.out)⟩⟩
       ·rw [if_neg c18] at H
        have c18b0 : (((rd_L1 l0_2 x3_2).length : Int) == t231) = false := beq_eq_false_iff_ne.mpr c18
        have c18b1 : (((rd_L1 l0_2 x3_2).length : Int) != t231) = true := bne_iff_ne.mpr c18
        obtain rfl := zU H
        obtain ⟨hcz30_0, hcz30_1, hcz30_2, hcz30_3⟩ := cz4 BK224.out
        obtain ⟨hfz30_0, hfz30_1, hfz30_2, hfz30_3⟩ := fz4 BK224.out
        have p230 : 0 ≤ (x3_2 : Int) := zG (by assumption)
        have q230 : x3_2 < (l0_2.length : Int) := zG (by assumption)
        obtain ⟨ad230, A230_0, c230_0, e230, hx230_0, hl230_0, hi230_0⟩ := at_L1 HR0_2.out x3_2 p230 q230
        cases e230
        try replace hx230_0 := (HB.out.cell (zE w _ hx230_0)).trans hx230_0
        have HR230_0 := yA hi230_0
        have HC230_0 := yA hl230_0
        clear hi230_0 hl230_0
        replace p230 := eq_true p230
        replace q230 := eq_true q230
        go_wp2_with (first | (go_at_call 87; (with_reducible refine (spec_l13Letters.calls k2 a0_0 a0_1 t231 _ A17.out).mono ?_); rintro e w' ⟨rfl, ⟨nd, rfl⟩⟩; (try first | exact ⟨rfl, _, World.drewN_drewN _ _ _⟩ | exact ⟨rfl, _, Eq.trans (World.drewN_drewN _ _ _) (congrArg (World.drewN _) (Nat.add_assoc _ _ _))⟩)))
        repeat (go_quiet (first | (go_at_call 87; (with_reducible refine (spec_l13Letters.calls k2 a0_0 a0_1 t231 _ A17.out).mono ?_); rintro e w' ⟨rfl, ⟨nd, rfl⟩⟩; (try first | exact ⟨rfl, _, World.drewN_drewN _ _ _⟩ | exact ⟨rfl, _, Eq.trans (World.drewN_drewN _ _ _) (congrArg (World.drewN _) (Nat.add_assoc _ _ _))⟩))); try go_wp2_with (first | (go_at_call 87; (with_reducible refine (spec_l13Letters.calls k2 a0_0 a0_1 t231 _ A17.out).mono ?_); rintro e w' ⟨rfl, ⟨nd, rfl⟩⟩; (try first | exact ⟨rfl, _, World.drewN_drewN _ _ _⟩ | exact ⟨rfl, _, Eq.trans (World.drewN_drewN _ _ _) (congrArg (World.drewN _) (Nat.add_assoc _ _ _))⟩))))
        go_ret
        exact ⟨by first | rfl | (simp [errW_none, errW_some] <;> rfl) | (simp [*, errW_none, errW_some] <;> rfl), by repeat (first | (with_reducible first | exact HB.out | apply yO | apply yN | apply yP | refine yQ ?_ GE224.out) | exact HB.out)⟩
      ·rw [if_neg c15] at H
       have c15b0 : decide (x3_2 < (l0_2.length : Int)) = false := decide_eq_false c15
       clear c15
       obtain ⟨c31, H⟩ := iP H
       have c31b0 : decide (0 < (l0_2.length : Int)) = true := zH c31
       have c31b1 : decide (0 < l0_2.length) = true := zH (by omega)
       clear c31
       obtain ⟨c32, H⟩ := iP H
       have c32b0 : decide (0 < ((rd_L1 l0_2 0).length : Int)) = true := zH c32
       have c32b1 : decide (0 < (rd_L1 l0_2 0).length) = true := zH (by omega)
       clear c32
       obtain rfl := zU H
       obtain ⟨hcz33_0, hcz33_1, hcz33_2, hcz33_3⟩ := cz4 BK224.out
       obtain ⟨hfz33_0, hfz33_1, hfz33_2, hfz33_3⟩ := fz4 BK224.out
       have p228 : 0 ≤ (0 : Int) := (by omega)
       have q228 : 0 < (l0_2.length : Int) := zG (by assumption)
       obtain ⟨ad228, A228_0, c228_0, e228, hx228_0, hl228_0, hi228_0⟩ := at_L1 HR0_2.out 0 p228 q228
       cases e228
       have qi228 : (0 < l0_2.length) = True := eq_true (by omega)
       (try rw [show ((0 : Int)).toNat = 0 from rfl] at hx228_0)
       (try rw [Addr.add_zero'] at hx228_0)
       try replace hx228_0 := (HB.out.cell (zE w _ hx228_0)).trans hx228_0
       have HR228_0 := yA hi228_0
       have HC228_0 := yA hl228_0
       clear hi228_0 hl228_0
       replace p228 := eq_true p228
       replace q228 := eq_true q228
       have p229 : 0 ≤ (0 : Int) := (by omega)
       have q229 : 0 < ((rd_L1 l0_2 0).length : Int) := zG (by assumption)
       obtain ⟨ad229, e229, hx229_0⟩ := Kd.at_int HR228_0.out 0 p229 q229
       cases e229
       have qi229 : (0 < (rd_L1 l0_2 0).length) = True := eq_true (by omega)
       (try rw [show ((0 : Int)).toNat = 0 from rfl] at hx229_0)
       (try rw [Addr.add_zero'] at hx229_0)
       try replace hx229_0 := (HB.out.cell (zE w _ hx229_0)).trans hx229_0
       replace p229 := eq_true p229
       replace q229 := eq_true q229
       go_wp2
       repeat (go_quiet (fail); try go_wp2)
       go_ret
       exact ⟨by first | rfl | (simp [errW_none, errW_some] <;> rfl) | (simp [*, errW_none, errW_some] <;> rfl), by repeat (first | (with_reducible first | exact HB.out | apply yO | apply yN | apply yP | refine yQ ?_ GE224.out) | exact HB.out)⟩

end Go.Proofs.Ytgopcliohchkmaa.Q
