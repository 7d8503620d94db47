-- written by a program of this session
-- squeezed
-- compact
-- shrunk
import Derived.Test.YtmkeicahnnlalaaQ0
import Derived.Test.YtmkeicahnnlalaaQ17
namespace Go.Proofs.Ytmkeicahnnlalaa.Q
open Go.RowKit Go.Proofs.YtmkeicahnnlalaaW.PrintWords Go.Proofs.YtmkeicahnnlalaaW.PrintLast Go.Proofs.YtmkeicahnnlalaaW.PrintMore
set_option linter.unusedVariables false
set_option linter.unusedSimpArgs false

/-! ### impl_IsSequence: function 97 -/
mutual
def impl_IsSequence.j0 : Nat → Int → Bool → Int → List (List Int) → List Int → Option (Bool)
 | 0, _, _, _, _, _ => none
 | k + 1, x3, x29, x329000, x329001, x329002 => if x29 = true then (some false) else (impl_IsSequence.l0 k x3 x329001 (x329001.length : Int) 0 x329000 x329001 x329002)
def impl_IsSequence.l0 : Nat → Int → List (List Int) → Int → Int → Int → List (List Int) → List Int → Option (Bool)
 | 0, _, _, _, _, _, _, _ => none
 | k + 1, x3, x31, x32, x33, x329000, x329001, x329002 => if x33 < x32 then (if 0 ≤ x33 then (if x33 < (x31.length : Int) then (if ((rd_L1 x31 x33).length : Int) = x329000 then (if x33 < (x329002.length : Int) then (if (rd x329002 x33) < 0 then (impl_IsSequence.j2 k x3 (rd_L1 x31 x33) x31 x32 x33 true x329000 x329001 x329002) else (impl_IsSequence.j2 k x3 (rd_L1 x31 x33) x31 x32 x33 (decide ((rd x329002 x33) > 3)) x329000 x329001 x329002)) else (none)) else (impl_IsSequence.j2 k x3 (rd_L1 x31 x33) x31 x32 x33 true x329000 x329001 x329002)) else (none)) else (none)) else (some true)
def impl_IsSequence.j2 : Nat → Int → List Int → List (List Int) → Int → Int → Bool → Int → List (List Int) → List Int → Option (Bool)
 | 0, _, _, _, _, _, _, _, _, _ => none
 | k + 1, x3, x5, x31, x32, x33, x58, x329000, x329001, x329002 => if x58 = true then (some false) else (impl_IsSequence.l1 k x3 x31 x32 x33 x5 (x5.length : Int) 0 x329000 x329001 x329002)
def impl_IsSequence.l1 : Nat → Int → List (List Int) → Int → Int → List Int → Int → Int → Int → List (List Int) → List Int → Option (Bool)
 | 0, _, _, _, _, _, _, _, _, _, _ => none
 | k + 1, x3, x31, x32, x33, x59, x60, x61, x329000, x329001, x329002 => if x61 < x60 then (if 0 ≤ x61 then (if x61 < (x59.length : Int) then (if (rd x59 x61) < 0 then (some false) else (if (rd x59 x61) ≥ x3 then (some false) else (impl_IsSequence.l1 k x3 x31 x32 x33 x59 x60 (wrap64 (x61 + 1)) x329000 x329001 x329002))) else (none)) else (none)) else (impl_IsSequence.l0 k x3 x31 x32 (wrap64 (x33 + 1)) x329000 x329001 x329002)
end
def impl_IsSequence.f (k : Nat) (a0_0 : Int) (l0_1 : List (List Int)) (l0_2 : List Int) : Option (Bool) := (impl_isBase.f a0_0).bind fun t329 => (if t329 = true then (if (l0_1.length : Int) < 1 then (impl_IsSequence.j0 k (l0_1.length : Int) true a0_0 l0_1 l0_2) else (if (l0_1.length : Int) > 16 then (impl_IsSequence.j0 k (l0_1.length : Int) true a0_0 l0_1 l0_2) else (impl_IsSequence.j0 k (l0_1.length : Int) ((l0_2.length : Int) != (l0_1.length : Int)) a0_0 l0_1 l0_2))) else (impl_IsSequence.j0 k (l0_1.length : Int) true a0_0 l0_1 l0_2))
theorem impl_IsSequence.mono_l : ∀ k, (∀ y0 y1 y2 y3 y4, LeO (impl_IsSequence.j0 k y0 y1 y2 y3 y4) (impl_IsSequence.j0 (k + 1) y0 y1 y2 y3 y4)) ∧ (∀ y0 y1 y2 y3 y4 y5 y6, LeO (impl_IsSequence.l0 k y0 y1 y2 y3 y4 y5 y6) (impl_IsSequence.l0 (k + 1) y0 y1 y2 y3 y4 y5 y6)) ∧ (∀ y0 y1 y2 y3 y4 y5 y6 y7 y8, LeO (impl_IsSequence.j2 k y0 y1 y2 y3 y4 y5 y6 y7 y8) (impl_IsSequence.j2 (k + 1) y0 y1 y2 y3 y4 y5 y6 y7 y8)) ∧ (∀ y0 y1 y2 y3 y4 y5 y6 y7 y8 y9, LeO (impl_IsSequence.l1 k y0 y1 y2 y3 y4 y5 y6 y7 y8 y9) (impl_IsSequence.l1 (k + 1) y0 y1 y2 y3 y4 y5 y6 y7 y8 y9))
 | 0 => ⟨fun _ _ _ _ _ r h => by simp [impl_IsSequence.j0] at h, fun _ _ _ _ _ _ _ r h => by simp [impl_IsSequence.l0] at h, fun _ _ _ _ _ _ _ _ _ r h => by simp [impl_IsSequence.j2] at h, fun _ _ _ _ _ _ _ _ _ _ r h => by simp [impl_IsSequence.l1] at h⟩
 | k + 1 => by
  obtain ⟨ih0, ih1, ih2, ih3⟩ := impl_IsSequence.mono_l k
  refine ⟨?_, ?_, ?_, ?_⟩ <;> intros <;> first | unfold impl_IsSequence.j0 | unfold impl_IsSequence.l0 | unfold impl_IsSequence.j2 | unfold impl_IsSequence.l1
  all_goals repeat' (with_reducible first | exact ih0 _ _ _ _ _ | exact ih1 _ _ _ _ _ _ _ | exact ih2 _ _ _ _ _ _ _ _ _ | exact ih3 _ _ _ _ _ _ _ _ _ _ | exact LeO.refl _ | exact LeO.none _ | refine LeO.ite ?_ ?_ | refine LeO.bind ?_ fun _ => ?_)
theorem impl_IsSequence.mono : ∀ a0 a1 a2 k, LeO (impl_IsSequence.f k a0 a1 a2) (impl_IsSequence.f (k + 1) a0 a1 a2) := by
 intro a0 a1 a2 k
 obtain ⟨ih0, ih1, ih2, ih3⟩ := impl_IsSequence.mono_l k
 unfold impl_IsSequence.f
 repeat' (with_reducible first | exact ih0 _ _ _ _ _ | exact ih1 _ _ _ _ _ _ _ | exact ih2 _ _ _ _ _ _ _ _ _ | exact ih3 _ _ _ _ _ _ _ _ _ _ | exact LeO.refl _ | exact LeO.none _ | refine LeO.ite ?_ ?_ | refine LeO.bind ?_ fun _ => ?_)
set_option maxHeartbeats 8000000 in
set_option maxRecDepth 100000 in
theorem impl_IsSequence.calls (k : Nat) (a0_0 : Int) (A0_1 : Option Addr) (c0_1 : Nat) (l0_1 : List (List Int)) (A0_2 : Option Addr) (c0_2 : Nat) (l0_2 : List Int) (r : Bool) (w : World) (hr0_1 : Kd.C (Kd.slice 3 (Kd.int .i64)) w A0_1 l0_1.length l0_1) (hc0_1 : l0_1.length ≤ c0_1) (hr0_2 : Kd.C (Kd.int .i64) w A0_2 l0_2.length l0_2) (hc0_2 : l0_2.length ≤ c0_2) (h : impl_IsSequence.f k a0_0 l0_1 l0_2 = some r) :
  Calls Try.prog 97 #[.agg #[.int .i64 a0_0, .slice A0_1 l0_1.length c0_1, .slice A0_2 l0_2.length c0_2]] w fun e w' => e = .returned (.bool r) ∧ Below w.heap.size w w' := by
 have hu32 := Try.underlying32
 have HR0_1 := yA hr0_1
 have HC0_1 := yA hc0_1
 clear hr0_1 hc0_1
 have HR0_2 := yA hr0_2
 have HC0_2 := yA hc0_2
 clear hr0_2 hc0_2
 have HB := yA (zV w.heap.size w)
 have H : ((impl_isBase.f a0_0).bind fun t329 => (if t329 = true then (if (l0_1.length : Int) < 1 then (impl_IsSequence.j0 k (l0_1.length : Int) true a0_0 l0_1 l0_2) else (if (l0_1.length : Int) > 16 then (impl_IsSequence.j0 k (l0_1.length : Int) true a0_0 l0_1 l0_2) else (impl_IsSequence.j0 k (l0_1.length : Int) ((l0_2.length : Int) != (l0_1.length : Int)) a0_0 l0_1 l0_2))) else (impl_IsSequence.j0 k (l0_1.length : Int) true a0_0 l0_1 l0_2))) = some r := h
 clear h
 have HC2 := yA H
 clear H
 go_enter Try.func97, Try.ntmps97
 go_upto_region 2 with (first | ((with_reducible refine gate_dst (N := 1) rfl ?_); refine box_event ?hg (N := 1) ?hd (cs := #[.int .i64 a0_0, .slice A0_1 l0_1.length c0_1, .slice A0_2 l0_2.length c0_2]) (t := 32) ?hr ?_; (case hd => rfl); (case hg => rfl); (case hr => first | (go_simp; done) | (go_simp; rfl)); intro gb328 hg w3 hbox hb; have BK328 := yA (hbox); have GW328 := yA ((by rw [hg]; exact (yX (mB HB.out)) : w.heap.size ≤ gb328)); have GE328 := yA ((by rw [hg]; exact (yX (mB HB.out)) : w.heap.size ≤ gb328)); replace HB := yA (zD (mB HB.out) hb); clear hb hbox hg; have hcz4_0 : w3.cell? ⟨gb328, 0, none⟩ = some (.int .i64 a0_0) := (yV BK328.out 0).trans rfl; have hcz4_1 : w3.cell? ⟨gb328, 1, none⟩ = some (.slice A0_1 l0_1.length c0_1) := (yV BK328.out 1).trans rfl; have hcz4_2 : w3.cell? ⟨gb328, 2, none⟩ = some (.slice A0_2 l0_2.length c0_2) := (yV BK328.out 2).trans rfl; have hfz4_0 := yW BK328.out 0; have hfz4_1 := yW BK328.out 1; have hfz4_2 := yW BK328.out 2))
 (try simp only [Act.put, zA, zB, zC])
 go_cut [29] (fun v29 wc => ∃ (kq : Nat) (x29_1 : Bool), v29 = .bool x29_1 ∧ Aside0 (impl_IsSequence.j0 kq (l0_1.length : Int) x29_1 a0_0 l0_1 l0_2 = some r) ∧ Aside0 (kq ≤ k) ∧ Aside0 (wc.heap[gb328]? = some (.cells #[.int .i64 a0_0, (.slice A0_1 l0_1.length c0_1), (.slice A0_2 l0_2.length c0_2)] 32 (0, 0))) ∧ Aside0 (Below w.heap.size w wc))
 case first =>
  have H := HC2.out
  clear HC2
  obtain ⟨t329, A5, H⟩ := bE H
  by_cases c6 : t329 = true
  ·subst c6
   replace H := iT H
   by_cases c7 : (l0_1.length : Int) < 1
   ·rw [if_pos c7] at H
    have c7b0 : decide ((l0_1.length : Int) < 1) = true := zH c7
    have c7b1 : decide (l0_1.length < 1) = true := zH (by omega)
    clear c7
    (first | rw [c7b0] | (simp only [i64_w, i32_w]; rw [c7b0]) | skip)
    have H' := yA H
    clear H
    obtain ⟨hcz8_0, hcz8_1, hcz8_2⟩ := cz3 BK328.out
    obtain ⟨hfz8_0, hfz8_1, hfz8_2⟩ := fz3 BK328.out
    go_wp2_with (first | ((with_reducible refine zS (f := 120) rfl ?_); refine goesL_ (some 13) rfl rfl Try.func120 (by kernel_rfl) rfl #[.int .i64 a0_0] rfl (by (try simp only [zI, zJ, zK]); first | done | rfl | (simp only [zL, zM]; rfl)) ?_; (with_reducible refine (impl_isBase.calls a0_0 true _ A5.out).mono ?_); rintro e w' ⟨rfl, ⟨nd, rfl⟩⟩; refine ⟨_, rfl, ?_⟩))
    go_meet
    case rel => exact ⟨_, (true), (by first | rfl | (simp; done) | (simp [*]; done)), H', ⟨by first | omega | exact zT _⟩, ⟨mK BK328.out⟩, ⟨by repeat (first | (with_reducible first | exact HB.out | apply yO | apply yN | apply yP | refine yQ ?_ GE328.out) | exact HB.out)⟩⟩
   ·rw [if_neg c7] at H
    have c7b0 : decide ((l0_1.length : Int) < 1) = false := decide_eq_false c7
    have c7b1 : decide (l0_1.length < 1) = false := decide_eq_false (by omega)
    clear c7
    (first | rw [c7b0] | (simp only [i64_w, i32_w]; rw [c7b0]) | skip)
    by_cases c9 : (l0_1.length : Int) > 16
    ·rw [if_pos c9] at H
     have c9b0 : decide (16 < (l0_1.length : Int)) = true := zH c9
     have c9b1 : decide (16 < l0_1.length) = true := zH (by omega)
     clear c9
     have H' := yA H
     clear H
     obtain ⟨hcz10_0, hcz10_1, hcz10_2⟩ := cz3 BK328.out
     obtain ⟨hfz10_0, hfz10_1, hfz10_2⟩ := fz3 BK328.out
     go_wp2_with (first | ((with_reducible refine zS (f := 120) rfl ?_); refine goesL_ (some 13) rfl rfl Try.func120 (by kernel_rfl) rfl #[.int .i64 a0_0] rfl (by (try simp only [zI, zJ, zK]); first | done | rfl | (simp only [zL, zM]; rfl)) ?_; (with_reducible refine (impl_isBase.calls a0_0 true _ A5.out).mono ?_); rintro e w' ⟨rfl, ⟨nd, rfl⟩⟩; refine ⟨_, rfl, ?_⟩))
     go_meet
     case rel => exact ⟨_, (true), (by first | rfl | (simp; done) | (simp [*]; done)), H', ⟨by first | omega | exact zT _⟩, ⟨mK BK328.out⟩, ⟨by repeat (first | (with_reducible first | exact HB.out | apply yO | apply yN | apply yP | refine yQ ?_ GE328.out) | exact HB.out)⟩⟩
    ·rw [if_neg c9] at H
     have c9b0 : decide (16 < (l0_1.length : Int)) = false := decide_eq_false c9
     have c9b1 : decide (16 < l0_1.length) = false := decide_eq_false (by omega)
     clear c9
     have H' := yA H
     clear H
     obtain ⟨hcz11_0, hcz11_1, hcz11_2⟩ := cz3 BK328.out
     obtain ⟨hfz11_0, hfz11_1, hfz11_2⟩ := fz3 BK328.out
     go_wp2_with (first | ((with_reducible refine zS (f := 120) rfl ?_); refine goesL_ (some 13) rfl rfl Try.func120 (by kernel_rfl) rfl #[.int .i64 a0_0] rfl (by (try simp only [zI, zJ, zK]); first | done | rfl | (simp only [zL, zM]; rfl)) ?_; (with_reducible refine (impl_isBase.calls a0_0 true _ A5.out).mono ?_); rintro e w' ⟨rfl, ⟨nd, rfl⟩⟩; refine ⟨_, rfl, ?_⟩))
     go_meet
     case rel => exact ⟨_, (((l0_2.length : Int) != (l0_1.length : Int))), (by first | rfl | (simp; done) | (simp [*]; done)), H', ⟨by first | omega | exact zT _⟩, ⟨mK BK328.out⟩, ⟨by repeat (first | (with_reducible first | exact HB.out | apply yO | apply yN | apply yP | refine yQ ?_ GE328.out) | exact HB.out)⟩⟩
  ·replace c6 := Bool.eq_false_iff.mpr c6
   subst c6
   replace H := iF H
   have H' := yA H
   clear H
   obtain ⟨hcz12_0, hcz12_1, hcz12_2⟩ := cz3 BK328.out
   obtain ⟨hfz12_0, hfz12_1, hfz12_2⟩ := fz3 BK328.out
   go_wp2_with (first | ((with_reducible refine zS (f := 120) rfl ?_); refine goesL_ (some 13) rfl rfl Try.func120 (by kernel_rfl) rfl #[.int .i64 a0_0] rfl (by (try simp only [zI, zJ, zK]); first | done | rfl | (simp only [zL, zM]; rfl)) ?_; (with_reducible refine (impl_isBase.calls a0_0 false _ A5.out).mono ?_); rintro e w' ⟨rfl, ⟨nd, rfl⟩⟩; refine ⟨_, rfl, ?_⟩))
   go_meet
   case rel => exact ⟨_, (true), (by first | rfl | (simp; done) | (simp [*]; done)), H', ⟨by first | omega | exact zT _⟩, ⟨mK BK328.out⟩, ⟨by repeat (first | (with_reducible first | exact HB.out | apply yO | apply yN | apply yP | refine yQ ?_ GE328.out) | exact HB.out)⟩⟩
 case rest =>
  clear HC2
  (try clear c1);(try clear p2);(try clear c6);(try clear c7);(try clear c7b0);(try clear c7b1);(try clear c9);(try clear c9b0);(try clear c9b1);(try clear c12);(try clear hcz10_0);(try clear hcz10_1);(try clear hcz10_2);(try clear hcz11_0);(try clear hcz11_1);(try clear hcz11_2);(try clear hcz12_0);(try clear hcz12_1);(try clear hcz12_2);(try clear hcz4_0);(try clear hcz4_1);(try clear hcz4_2);(try clear hcz8_0);(try clear hcz8_1);(try clear hcz8_2);(try clear hfz10_0);(try clear hfz10_1);(try clear hfz10_2);(try clear hfz11_0);(try clear hfz11_1);(try clear hfz11_2);(try clear hfz12_0);(try clear hfz12_1);(try clear hfz12_2);(try clear hfz4_0);(try clear hfz4_1);(try clear hfz4_2);(try clear hfz8_0);(try clear hfz8_1);(try clear hfz8_2)
  obtain ⟨kq, x29_1, rfl, HA, HJ1, BK328, HB⟩ := hcut
  cases kq with
  | zero => exact absurd HA.out (by simp [impl_IsSequence.j0])
  | succ kj1 =>
   have H := HA.out
   clear HA
   simp only [impl_IsSequence.j0] at H
   by_cases c13 : x29_1 = true
   ·subst c13
    replace H := iT H
    obtain rfl := zU H
    go_wp2
    go_ret
    exact ⟨by first | rfl | (simp [errW_none, errW_some] <;> rfl) | (simp [*, errW_none, errW_some] <;> rfl), by repeat (first | (with_reducible first | exact HB.out | apply yO | apply yN | apply yP | refine yQ ?_ GE328.out) | exact HB.out)⟩
   ·replace c13 := Bool.eq_false_iff.mpr c13
    subst c13
    replace H := iF H
    have H' := yA H
    clear H
    obtain ⟨hcz14_0, hcz14_1, hcz14_2⟩ := cz3 BK328.out
    obtain ⟨hfz14_0, hfz14_1, hfz14_2⟩ := fz3 BK328.out
    go_wp2
    go_loopg [33] kj1 (fun kq v33 w' => ∃ (x33_2 : Int), v33 = .int .i64 x33_2 ∧ Aside0 (impl_IsSequence.l0 kq (l0_1.length : Int) l0_1 (l0_1.length : Int) x33_2 a0_0 l0_1 l0_2 = some r) ∧ Aside0 (kq ≤ kj1) ∧ Aside0 (w'.heap[gb328]? = some (.cells #[.int .i64 a0_0, (.slice A0_1 l0_1.length c0_1), (.slice A0_2 l0_2.length c0_2)] 32 (0, 0))) ∧ Aside0 (Below w.heap.size w w'))
    case atStart => exact ⟨(0), (by first | rfl | (simp; done) | (simp [*]; done)), H', ⟨zT _⟩, ⟨mK BK328.out⟩, ⟨by repeat (first | (with_reducible first | exact HB.out | apply yO | apply yN | apply yP | refine yQ ?_ GE328.out) | exact HB.out)⟩⟩
    case round =>
     clear H'
     (try clear c1);(try clear p2);(try clear c6);(try clear c7);(try clear c7b0);(try clear c7b1);(try clear c9);(try clear c9b0);(try clear c9b1);(try clear c12);(try clear c13);(try clear hcz10_0);(try clear hcz10_1);(try clear hcz10_2);(try clear hcz11_0);(try clear hcz11_1);(try clear hcz11_2);(try clear hcz12_0);(try clear hcz12_1);(try clear hcz12_2);(try clear hcz14_0);(try clear hcz14_1);(try clear hcz14_2);(try clear hcz4_0);(try clear hcz4_1);(try clear hcz4_2);(try clear hcz8_0);(try clear hcz8_1);(try clear hcz8_2);(try clear hfz10_0);(try clear hfz10_1);(try clear hfz10_2);(try clear hfz11_0);(try clear hfz11_1);(try clear hfz11_2);(try clear hfz12_0);(try clear hfz12_1);(try clear hfz12_2);(try clear hfz14_0);(try clear hfz14_1);(try clear hfz14_2);(try clear hfz4_0);(try clear hfz4_1);(try clear hfz4_2);(try clear hfz8_0);(try clear hfz8_1);(try clear hfz8_2);(try clear p2)
     obtain ⟨x33_2, rfl, HA, HK2, BK328, HB⟩ := hrel
     cases gk with
     | zero => exact absurd HA.out (by simp [impl_IsSequence.l0])
     | succ k2 =>
      have H := HA.out
      clear HA
      simp only [impl_IsSequence.l0] at H
      by_cases c15 : x33_2 < (l0_1.length : Int)
      ·rw [if_pos c15] at H
       have c15b0 : decide (x33_2 < (l0_1.length : Int)) = true := zH c15
       clear c15
       obtain ⟨c16, H⟩ := iP H
       have c16b0 : decide (0 ≤ x33_2) = true := zH c16
       clear c16
       obtain ⟨c17, H⟩ := iP H
       have c17b0 : decide (x33_2 < (l0_1.length : Int)) = true := zH c17
       clear c17
       have HC18 := yA H
       clear H
       have p330 : 0 ≤ (x33_2 : Int) := zG (by assumption)
       have q330 : x33_2 < (l0_1.length : Int) := zG (by assumption)
       obtain ⟨ad330, A330_0, c330_0, e330, hx330_0, hl330_0, hi330_0⟩ := at_L1 HR0_1.out x33_2 p330 q330
       cases e330
       try replace hx330_0 := (HB.out.cell (zE w _ hx330_0)).trans hx330_0
       have HR330_0 := yA hi330_0
       have HC330_0 := yA hl330_0
       clear hi330_0 hl330_0
       replace p330 := eq_true p330
       replace q330 := eq_true q330
       go_upto_region 7 with (fail)
       go_cut [58] (fun v58 wc => ∃ (kq : Nat) (x58_17 : Bool), v58 = .bool x58_17 ∧ Aside0 (impl_IsSequence.j2 kq (l0_1.length : Int) (rd_L1 l0_1 x33_2) l0_1 (l0_1.length : Int) x33_2 x58_17 a0_0 l0_1 l0_2 = some r) ∧ Aside0 (kq ≤ k2) ∧ Aside0 (wc.heap[gb328]? = some (.cells #[.int .i64 a0_0, (.slice (some ad330) l0_1.length c0_1), (.slice A0_2 l0_2.length c0_2)] 32 (0, 0))) ∧ Aside0 (Below w.heap.size w wc))
       case first =>
        have H := HC18.out
        clear HC18
        by_cases c19 : ((rd_L1 l0_1 x33_2).length : Int) = a0_0
        ·rw [if_pos c19] at H
         have c19b0 : (((rd_L1 l0_1 x33_2).length : Int) == a0_0) = true := beq_iff_eq.mpr c19
         have c19b1 : (((rd_L1 l0_1 x33_2).length : Int) != a0_0) = false := bne_eq_false_iff_eq.mpr c19
         clear c19
         (first | rw [c19b0] | (simp only [i64_w, i32_w]; rw [c19b0]) | skip)
         obtain ⟨c20, H⟩ := iP H
         have c20b0 : decide (x33_2 < (l0_2.length : Int)) = true := zH c20
         clear c20
         by_cases c21 : (rd l0_2 x33_2) < 0
         ·rw [if_pos c21] at H
          have c21b0 : decide ((rd l0_2 x33_2) < 0) = true := zH c21
          clear c21
          have H' := yA H
          clear H
          obtain ⟨hcz22_0, hcz22_1, hcz22_2⟩ := cz3 BK328.out
          obtain ⟨hfz22_0, hfz22_1, hfz22_2⟩ := fz3 BK328.out
          have p331 : 0 ≤ (x33_2 : Int) := zG (by assumption)
          have q331 : x33_2 < (l0_2.length : Int) := zG (by assumption)
          obtain ⟨ad331, e331, hx331_0⟩ := Kd.at_int HR0_2.out x33_2 p331 q331
          cases e331
          try replace hx331_0 := (HB.out.cell (zE w _ hx331_0)).trans hx331_0
          replace p331 := eq_true p331
          replace q331 := eq_true q331
          go_wp2
          go_meet
          case rel => exact ⟨_, (true), (by first | rfl | (simp; done) | (simp [*]; done)), H', ⟨by have := HJ1.out; have := HK2.out; first | omega | exact zT _⟩, ⟨mK BK328.out⟩, ⟨by repeat (first | (with_reducible first | exact HB.out | apply yO | apply yN | apply yP | refine yQ ?_ GE328.out) | exact HB.out)⟩⟩
         ·rw [if_neg c21] at H
          have c21b0 : decide ((rd l0_2 x33_2) < 0) = false := decide_eq_false c21
          clear c21
          have H' := yA H
          clear H
          obtain ⟨hcz23_0, hcz23_1, hcz23_2⟩ := cz3 BK328.out
          obtain ⟨hfz23_0, hfz23_1, hfz23_2⟩ := fz3 BK328.out
          have p331 : 0 ≤ (x33_2 : Int) := zG (by assumption)
          have q331 : x33_2 < (l0_2.length : Int) := zG (by assumption)
          obtain ⟨ad331, e331, hx331_0⟩ := Kd.at_int HR0_2.out x33_2 p331 q331
          cases e331
          try replace hx331_0 := (HB.out.cell (zE w _ hx331_0)).trans hx331_0
          replace p331 := eq_true p331
          replace q331 := eq_true q331
          have p332 : 0 ≤ (x33_2 : Int) := zG (by assumption)
          have q332 : x33_2 < (l0_2.length : Int) := zG (by assumption)
          obtain ⟨ad332, e332, hx332_0⟩ := Kd.at_int HR0_2.out x33_2 p332 q332
          obtain rfl : ad331 = ad332 := (by injection e332)
          try replace hx332_0 := (HB.out.cell (zE w _ hx332_0)).trans hx332_0
          replace p332 := eq_true p332
          replace q332 := eq_true q332
          go_wp2
          go_meet
          case rel => exact ⟨_, (decide ((rd l0_2 x33_2) > 3)), (by first | rfl | (simp; done) | (simp [*]; done)), H', ⟨by have := HJ1.out; have := HK2.out; first | omega | exact zT _⟩, ⟨mK BK328.out⟩, ⟨by repeat (first | (with_reducible first | exact HB.out | apply yO | apply yN | apply yP | refine yQ ?_ GE328.out) | exact HB.out)⟩⟩
        ·rw [if_neg c19] at H
         have c19b0 : (((rd_L1 l0_1 x33_2).length : Int) == a0_0) = false := beq_eq_false_iff_ne.mpr c19
         have c19b1 : (((rd_L1 l0_1 x33_2).length : Int) != a0_0) = true := bne_iff_ne.mpr c19
         (first | rw [c19b0] | (simp only [i64_w, i32_w]; rw [c19b0]) | skip)
         have H' := yA H
         clear H
         obtain ⟨hcz24_0, hcz24_1, hcz24_2⟩ := cz3 BK328.out
         obtain ⟨hfz24_0, hfz24_1, hfz24_2⟩ := fz3 BK328.out
         go_wp2
         go_meet
         case rel => exact ⟨_, (true), (by first | rfl | (simp; done) | (simp [*]; done)), H', ⟨by have := HJ1.out; have := HK2.out; first | omega | exact zT _⟩, ⟨mK BK328.out⟩, ⟨by repeat (first | (with_reducible first | exact HB.out | apply yO | apply yN | apply yP | refine yQ ?_ GE328.out) | exact HB.out)⟩⟩
       case rest =>
        clear HC18
        (try clear c1);(try clear c2);(try clear p2);(try clear c3);(try clear p3);(try clear q3);(try clear hx3);(try clear c6);(try clear c7);(try clear c7b0);(try clear c7b1);(try clear c9);(try clear c9b0);(try clear c9b1);(try clear c12);(try clear c13);(try clear c15);(try clear c15b0);(try clear c16);(try clear c16b0);(try clear c17);(try clear c17b0);(try clear c19);(try clear c19b0);(try clear c19b1);(try clear c20);(try clear c20b0);(try clear c21);(try clear c21b0);(try clear hcz10_0);(try clear hcz10_1);(try clear hcz10_2);(try clear hcz11_0);(try clear hcz11_1);(try clear hcz11_2);(try clear hcz12_0);(try clear hcz12_1);(try clear hcz12_2);(try clear hcz14_0);(try clear hcz14_1);(try clear hcz14_2);(try clear hcz22_0);(try clear hcz22_1);(try clear hcz22_2);(try clear hcz23_0);(try clear hcz23_1);(try clear hcz23_2);(try clear hcz24_0);(try clear hcz24_1);(try clear hcz24_2);(try clear hcz4_0);(try clear hcz4_1);(try clear hcz4_2);(try clear hcz8_0);(try clear hcz8_1);(try clear hcz8_2);(try clear hfz10_0);(try clear hfz10_1);(try clear hfz10_2);(try clear hfz11_0);(try clear hfz11_1);(try clear hfz11_2);(try clear hfz12_0);(try clear hfz12_1);(try clear hfz12_2);(try clear hfz14_0);(try clear hfz14_1);(try clear hfz14_2);(try clear hfz22_0);(try clear hfz22_1);(try clear hfz22_2);(try clear hfz23_0);(try clear hfz23_1);(try clear hfz23_2);(try clear hfz24_0);(try clear hfz24_1);(try clear hfz24_2);(try clear hfz4_0);(try clear hfz4_1);(try clear hfz4_2);(try clear hfz8_0);(try clear hfz8_1);(try clear hfz8_2);(try clear hx330_0);(try clear hx331_0);(try clear hx332_0);(try clear p2);(try clear p330);(try clear p331);(try clear p332);(try clear q330);(try clear q331);(try clear q332)
        obtain ⟨kq, x58_17, rfl, HA, HJ17, BK328, HB⟩ := hcut
        cases kq with
        | zero => exact absurd HA.out (by simp [impl_IsSequence.j2])
        | succ kj17 =>
         have H := HA.out
         clear HA
         simp only [impl_IsSequence.j2] at H
         by_cases c25 : x58_17 = true
         ·subst c25
          replace H := iT H
          obtain rfl := zU H
          go_wp2
          go_ret
          exact ⟨by first | rfl | (simp [errW_none, errW_some] <;> rfl) | (simp [*, errW_none, errW_some] <;> rfl), by repeat (first | (with_reducible first | exact HB.out | apply yO | apply yN | apply yP | refine yQ ?_ GE328.out) | exact HB.out)⟩
         ·replace c25 := Bool.eq_false_iff.mpr c25
          subst c25
          replace H := iF H
          have H' := yA H
          clear H
          go_wp2
          go_loopg [61] kj17 (fun kq v61 w' => ∃ (x61_4 : Int), v61 = .int .i64 x61_4 ∧ Aside0 (impl_IsSequence.l1 kq (l0_1.length : Int) l0_1 (l0_1.length : Int) x33_2 (rd_L1 l0_1 x33_2) ((rd_L1 l0_1 x33_2).length : Int) x61_4 a0_0 l0_1 l0_2 = some r) ∧ Aside0 (kq ≤ kj17) ∧ Aside0 (w'.heap[gb328]? = some (.cells #[.int .i64 a0_0, (.slice (some ad330) l0_1.length c0_1), (.slice A0_2 l0_2.length c0_2)] 32 (0, 0))) ∧ Aside0 (Below w.heap.size w w'))
          case atStart => exact ⟨(0), (by first | rfl | (simp; done) | (simp [*]; done)), H', ⟨zT _⟩, ⟨mK BK328.out⟩, ⟨by repeat (first | (with_reducible first | exact HB.out | apply yO | apply yN | apply yP | refine yQ ?_ GE328.out) | exact HB.out)⟩⟩
          case round =>
           clear H'
           (try clear c1);(try clear c2);(try clear p2);(try clear c3);(try clear p3);(try clear q3);(try clear hx3);(try clear c6);(try clear c7);(try clear c7b0);(try clear c7b1);(try clear c9);(try clear c9b0);(try clear c9b1);(try clear c12);(try clear c13);(try clear c15);(try clear c15b0);(try clear c16);(try clear c16b0);(try clear c17);(try clear c17b0);(try clear c19);(try clear c19b0);(try clear c19b1);(try clear c20);(try clear c20b0);(try clear c21);(try clear c21b0);(try clear c25);(try clear hcz10_0);(try clear hcz10_1);(try clear hcz10_2);(try clear hcz11_0);(try clear hcz11_1);(try clear hcz11_2);(try clear hcz12_0);(try clear hcz12_1);(try clear hcz12_2);(try clear hcz14_0);(try clear hcz14_1);(try clear hcz14_2);(try clear hcz22_0);(try clear hcz22_1);(try clear hcz22_2);(try clear hcz23_0);(try clear hcz23_1);(try clear hcz23_2);(try clear hcz24_0);(try clear hcz24_1);(try clear hcz24_2);(try clear hcz4_0);(try clear hcz4_1);(try clear hcz4_2);(try clear hcz8_0);(try clear hcz8_1);(try clear hcz8_2);(try clear hfz10_0);(try clear hfz10_1);(try clear hfz10_2);(try clear hfz11_0);(try clear hfz11_1);(try clear hfz11_2);(try clear hfz12_0);(try clear hfz12_1);(try clear hfz12_2);(try clear hfz14_0);(try clear hfz14_1);(try clear hfz14_2);(try clear hfz22_0);(try clear hfz22_1);(try clear hfz22_2);(try clear hfz23_0);(try clear hfz23_1);(try clear hfz23_2);(try clear hfz24_0);(try clear hfz24_1);(try clear hfz24_2);(try clear hfz4_0);(try clear hfz4_1);(try clear hfz4_2);(try clear hfz8_0);(try clear hfz8_1);(try clear hfz8_2);(try clear hx330_0);(try clear hx331_0);(try clear hx332_0);(try clear p2);(try clear p3);(try clear p330);(try clear p331);(try clear p332);(try clear q3);(try clear q330);(try clear q331);(try clear q332)
           obtain ⟨x61_4, rfl, HA, HK4, BK328, HB⟩ := hrel
           cases gk with
           | zero => exact absurd HA.out (by simp [impl_IsSequence.l1])
           | succ k4 =>
            have H := HA.out
            clear HA
            simp only [impl_IsSequence.l1] at H
            by_cases c26 : x61_4 < ((rd_L1 l0_1 x33_2).length : Int)
            ·rw [if_pos c26] at H
             have c26b0 : decide (x61_4 < ((rd_L1 l0_1 x33_2).length : Int)) = true := zH c26
             clear c26
             obtain ⟨c27, H⟩ := iP H
             have c27b0 : decide (0 ≤ x61_4) = true := zH c27
             clear c27
             obtain ⟨c28, H⟩ := iP H
             have c28b0 : decide (x61_4 < ((rd_L1 l0_1 x33_2).length : Int)) = true := zH c28
             clear c28
             by_cases c29 : (rd (rd_L1 l0_1 x33_2) x61_4) < 0
             ·rw [if_pos c29] at H
              have c29b0 : decide ((rd (rd_L1 l0_1 x33_2) x61_4) < 0) = true := zH c29
              clear c29
              obtain rfl := zU H
              have p333 : 0 ≤ (x61_4 : Int) := zG (by assumption)
              have q333 : x61_4 < ((rd_L1 l0_1 x33_2).length : Int) := zG (by assumption)
              obtain ⟨ad333, e333, hx333_0⟩ := Kd.at_int HR330_0.out x61_4 p333 q333
              cases e333
              try replace hx333_0 := (HB.out.cell (zE w _ hx333_0)).trans hx333_0
              replace p333 := eq_true p333
              replace q333 := eq_true q333
              go_wp2
              go_ret
              exact ⟨by first | rfl | (simp [errW_none, errW_some] <;> rfl) | (simp [*, errW_none, errW_some] <;> rfl), by repeat (first | (with_reducible first | exact HB.out | apply yO | apply yN | apply yP | refine yQ ?_ GE328.out) | exact HB.out)⟩
             ·rw [if_neg c29] at H
              have c29b0 : decide ((rd (rd_L1 l0_1 x33_2) x61_4) < 0) = false := decide_eq_false c29
              clear c29
              by_cases c30 : (rd (rd_L1 l0_1 x33_2) x61_4) ≥ (l0_1.length : Int)
              ·rw [if_pos c30] at H
               have c30b0 : decide ((l0_1.length : Int) ≤ (rd (rd_L1 l0_1 x33_2) x61_4)) = true := zH c30
               clear c30
               obtain rfl := zU H
               have p333 : 0 ≤ (x61_4 : Int) := zG (by assumption)
               have q333 : x61_4 < ((rd_L1 l0_1 x33_2).length : Int) := zG (by assumption)
               obtain ⟨ad333, e333, hx333_0⟩ := Kd.at_int HR330_0.out x61_4 p333 q333
               cases e333
               try replace hx333_0 := (HB.out.cell (zE w _ hx333_0)).trans hx333_0
               replace p333 := eq_true p333
               replace q333 := eq_true q333
               go_wp2
               go_ret
               exact ⟨by first | rfl | (simp [errW_none, errW_some] <;> rfl) | (simp [*, errW_none, errW_some] <;> rfl), by repeat (first | (with_reducible first | exact HB.out | apply yO | apply yN | apply yP | refine yQ ?_ GE328.out) | exact HB.out)⟩
              ·rw [if_neg c30] at H
               have c30b0 : decide ((l0_1.length : Int) ≤ (rd (rd_L1 l0_1 x33_2) x61_4)) = false := decide_eq_false c30
               clear c30
               have H' := yA H
               clear H
               have p333 : 0 ≤ (x61_4 : Int) := zG (by assumption)
               have q333 : x61_4 < ((rd_L1 l0_1 x33_2).length : Int) := zG (by assumption)
               obtain ⟨ad333, e333, hx333_0⟩ := Kd.at_int HR330_0.out x61_4 p333 q333
               cases e333
               try replace hx333_0 := (HB.out.cell (zE w _ hx333_0)).trans hx333_0
               replace p333 := eq_true p333
               replace q333 := eq_true q333
               go_wp2
               go_roundg k4
               case measure => have := HJ1.out; have := HK2.out; have := HJ17.out; have := HK4.out; omega
               case rel => exact ⟨(wrap64 (x61_4 + 1)), (by first | rfl | (simp; done) | (simp [*]; done)), H', ⟨by have := HJ1.out; have := HK2.out; have := HJ17.out; have := HK4.out; omega⟩, ⟨mK BK328.out⟩, ⟨by repeat (first | (with_reducible first | exact HB.out | apply yO | apply yN | apply yP | refine yQ ?_ GE328.out) | exact HB.out)⟩⟩
            ·rw [if_neg c26] at H
             have c26b0 : decide (x61_4 < ((rd_L1 l0_1 x33_2).length : Int)) = false := decide_eq_false c26
             clear c26
             have H' := yA H
             clear H
             go_wp2
             go_roundg k4
             case measure => have := HJ1.out; have := HK2.out; have := HJ17.out; have := HK4.out; omega
             case rel => exact ⟨(wrap64 (x33_2 + 1)), (by first | rfl | (simp; done) | (simp [*]; done)), H', ⟨by have := HJ1.out; have := HK2.out; have := HJ17.out; have := HK4.out; omega⟩, ⟨mK BK328.out⟩, ⟨by repeat (first | (with_reducible first | exact HB.out | apply yO | apply yN | apply yP | refine yQ ?_ GE328.out) | exact HB.out)⟩⟩
      ·rw [if_neg c15] at H
       have c15b0 : decide (x33_2 < (l0_1.length : Int)) = false := decide_eq_false c15
       clear c15
       obtain rfl := zU H
       go_wp2
       go_ret
       exact ⟨by first | rfl | (simp [errW_none, errW_some] <;> rfl) | (simp [*, errW_none, errW_some] <;> rfl), by repeat (first | (with_reducible first | exact HB.out | apply yO | apply yN | apply yP | refine yQ ?_ GE328.out) | exact HB.out)⟩

end Go.Proofs.Ytmkeicahnnlalaa.Q
