-- written by a program of this session
-- squeezed
-- compact
-- shrunk
import Derived.Test.YtgopcliohchkmaaQ0
import Derived.Test.YtgopcliohchkmaaQ26
import Derived.Test.YtgopcliohchkmaaQ27
namespace Go.Proofs.Ytgopcliohchkmaa.Q
open Go.RowKit Go.Proofs.YtgopcliohchkmaaW.PrintWords Go.Proofs.YtgopcliohchkmaaW.PrintLast Go.Proofs.YtgopcliohchkmaaW.PrintMore
set_option linter.unusedVariables false
set_option linter.unusedSimpArgs false

/-! ### laws_szRelation: function 22 -/
def laws_szRelation.f (k : Nat) (a0_0 : Int) (a0_1 : Int) (l0_2 : List (List Int)) (l0_3 : List Bool) (a1 : Int) : Option (Int) := (laws_szIntSS.f k l0_2 a1).bind fun t221 => (if t221 < 0 then (some (-1)) else ((laws_szBoolS.f l0_3 t221).bind fun t222 => (if t222 < 0 then (some (-1)) else (some t222))))
theorem laws_szRelation.mono : ∀ a0 a1 a2 a3 a4 k, LeO (laws_szRelation.f k a0 a1 a2 a3 a4) (laws_szRelation.f (k + 1) a0 a1 a2 a3 a4) := by
 intro a0 a1 a2 a3 a4 k
 unfold laws_szRelation.f
 repeat' (with_reducible first | exact laws_szIntSS.mono _ _ _ | exact LeO.refl _ | exact LeO.none _ | refine LeO.ite ?_ ?_ | refine LeO.bind ?_ fun _ => ?_)
set_option maxHeartbeats 8000000 in
set_option maxRecDepth 100000 in
theorem laws_szRelation.calls (k : Nat) (a0_0 : Int) (a0_1 : Int) (A0_2 : Option Addr) (c0_2 : Nat) (l0_2 : List (List Int)) (A0_3 : Option Addr) (c0_3 : Nat) (l0_3 : List Bool) (a1 : Int) (r : Int) (w : World) (hr0_2 : Kd.C (Kd.slice 3 (Kd.int .i64)) w A0_2 l0_2.length l0_2) (hc0_2 : l0_2.length ≤ c0_2) (hr0_3 : Kd.C Kd.bool w A0_3 l0_3.length l0_3) (hc0_3 : l0_3.length ≤ c0_3) (h : laws_szRelation.f k a0_0 a0_1 l0_2 l0_3 a1 = some r) :
  Calls Try.prog 22 #[.agg #[.int .i64 a0_0, .int .i64 a0_1, .slice A0_2 l0_2.length c0_2, .slice A0_3 l0_3.length c0_3], .int .i64 a1] w fun e w' => e = .returned (.int .i64 r) ∧ Below w.heap.size w w' := by
 have hu33 := Try.underlying33
 have HR0_2 := yA hr0_2
 have HC0_2 := yA hc0_2
 clear hr0_2 hc0_2
 have HR0_3 := yA hr0_3
 have HC0_3 := yA hc0_3
 clear hr0_3 hc0_3
 have HB := yA (zV w.heap.size w)
 have H : ((laws_szIntSS.f k l0_2 a1).bind fun t221 => (if t221 < 0 then (some (-1)) else ((laws_szBoolS.f l0_3 t221).bind fun t222 => (if t222 < 0 then (some (-1)) else (some t222))))) = some r := h
 clear h
 obtain ⟨t221, A3, H⟩ := bE H
 by_cases c4 : t221 < 0
 ·rw [if_pos c4] at H
  have c4b0 : decide (t221 < 0) = true := zH c4
  clear c4
  obtain rfl := zU H
  go_enter Try.func22, Try.ntmps22
  go_wp2_with (first | ((with_reducible refine gate_dst (N := 2) rfl ?_); refine box_event ?hg (N := 2) ?hd (cs := #[.int .i64 a0_0, .int .i64 a0_1, .slice A0_2 l0_2.length c0_2, .slice A0_3 l0_3.length c0_3]) (t := 33) ?hr ?_; (case hd => rfl); (case hg => rfl); (case hr => first | (go_simp; done) | (go_simp; rfl)); intro gb220 hg w5 hbox hb; have BK220 := yA (hbox); have GW220 := yA ((by rw [hg]; exact (yX (mB HB.out)) : w.heap.size ≤ gb220)); have GE220 := yA ((by rw [hg]; exact (yX (mB HB.out)) : w.heap.size ≤ gb220)); replace HB := yA (zD (mB HB.out) hb); clear hb hbox hg; have hcz6_0 : w5.cell? ⟨gb220, 0, none⟩ = some (.int .i64 a0_0) := (yV BK220.out 0).trans rfl; have hcz6_1 : w5.cell? ⟨gb220, 1, none⟩ = some (.int .i64 a0_1) := (yV BK220.out 1).trans rfl; have hcz6_2 : w5.cell? ⟨gb220, 2, none⟩ = some (.slice A0_2 l0_2.length c0_2) := (yV BK220.out 2).trans rfl; have hcz6_3 : w5.cell? ⟨gb220, 3, none⟩ = some (.slice A0_3 l0_3.length c0_3) := (yV BK220.out 3).trans rfl; have hfz6_0 := yW BK220.out 0; have hfz6_1 := yW BK220.out 1; have hfz6_2 := yW BK220.out 2; have hfz6_3 := yW BK220.out 3) | ((with_reducible refine zS (f := 61) rfl ?_); refine goesL_ (some 8) rfl rfl Try.func61 (by kernel_rfl) rfl #[.slice A0_2 l0_2.length c0_2, .int .i64 a1] rfl (by (try simp only [zI, zJ, zK]); first | done | rfl | (simp only [zL, zM]; rfl)) ?_; (with_reducible refine (laws_szIntSS.calls k _ _ l0_2 a1 t221 _ ?side1 ?side2 A3.out).mono ?_); (case side1 => exact mC (yM HR0_2.out HB.out)); (case side2 => exact HC0_2.out); rintro e w' ⟨rfl, ⟨nd, rfl⟩⟩; refine ⟨_, rfl, ?_⟩))
  go_ret
  exact ⟨by first | rfl | (simp [errW_none, errW_some] <;> rfl) | (simp [*, errW_none, errW_some] <;> rfl), by repeat (first | (with_reducible first | exact HB.out | apply yO | apply yN | apply yP | refine yQ ?_ GE220.out) | exact HB.out)⟩
 ·rw [if_neg c4] at H
  have c4b0 : decide (t221 < 0) = false := decide_eq_false c4
  clear c4
  obtain ⟨t222, A7, H⟩ := bE H
  by_cases c8 : t222 < 0
  ·rw [if_pos c8] at H
   have c8b0 : decide (t222 < 0) = true := zH c8
   clear c8
   obtain rfl := zU H
   go_enter Try.func22, Try.ntmps22
   go_wp2_with (first | ((with_reducible refine gate_dst (N := 2) rfl ?_); refine box_event ?hg (N := 2) ?hd (cs := #[.int .i64 a0_0, .int .i64 a0_1, .slice A0_2 l0_2.length c0_2, .slice A0_3 l0_3.length c0_3]) (t := 33) ?hr ?_; (case hd => rfl); (case hg => rfl); (case hr => first | (go_simp; done) | (go_simp; rfl)); intro gb220 hg w9 hbox hb; have BK220 := yA (hbox); have GW220 := yA ((by rw [hg]; exact (yX (mB HB.out)) : w.heap.size ≤ gb220)); have GE220 := yA ((by rw [hg]; exact (yX (mB HB.out)) : w.heap.size ≤ gb220)); replace HB := yA (zD (mB HB.out) hb); clear hb hbox hg; have hcz10_0 : w9.cell? ⟨gb220, 0, none⟩ = some (.int .i64 a0_0) := (yV BK220.out 0).trans rfl; have hcz10_1 : w9.cell? ⟨gb220, 1, none⟩ = some (.int .i64 a0_1) := (yV BK220.out 1).trans rfl; have hcz10_2 : w9.cell? ⟨gb220, 2, none⟩ = some (.slice A0_2 l0_2.length c0_2) := (yV BK220.out 2).trans rfl; have hcz10_3 : w9.cell? ⟨gb220, 3, none⟩ = some (.slice A0_3 l0_3.length c0_3) := (yV BK220.out 3).trans rfl; have hfz10_0 := yW BK220.out 0; have hfz10_1 := yW BK220.out 1; have hfz10_2 := yW BK220.out 2; have hfz10_3 := yW BK220.out 3) | ((with_reducible refine zS (f := 61) rfl ?_); refine goesL_ (some 8) rfl rfl Try.func61 (by kernel_rfl) rfl #[.slice A0_2 l0_2.length c0_2, .int .i64 a1] rfl (by (try simp only [zI, zJ, zK]); first | done | rfl | (simp only [zL, zM]; rfl)) ?_; (with_reducible refine (laws_szIntSS.calls k _ _ l0_2 a1 t221 _ ?side1 ?side2 A3.out).mono ?_); (case side1 => exact mC (yM HR0_2.out HB.out)); (case side2 => exact HC0_2.out); rintro e w' ⟨rfl, ⟨nd, rfl⟩⟩; refine ⟨_, rfl, ?_⟩) | ((with_reducible refine zS (f := 62) rfl ?_); refine goesL_ (some 14) rfl rfl Try.func62 (by kernel_rfl) rfl #[.slice A0_3 l0_3.length c0_3, .int .i64 t221] rfl (by (try simp only [zI, zJ, zK]); first | done | rfl | (simp only [zL, zM]; rfl)) ?_; (with_reducible refine (laws_szBoolS.calls _ _ l0_3 t221 t222 _ ?side1 ?side2 A7.out).mono ?_); (case side1 => exact mC (yM HR0_3.out (by with_reducible repeat first | exact HB.out | apply yO | apply yN | apply yP | refine yQ ?_ GE220.out))); (case side2 => exact HC0_3.out); rintro e w' ⟨rfl, ⟨nd, rfl⟩⟩; refine ⟨_, rfl, ?_⟩))
   go_ret
   exact ⟨by first | rfl | (simp [errW_none, errW_some] <;> rfl) | (simp [*, errW_none, errW_some] <;> rfl), by repeat (first | (with_reducible first | exact HB.out | apply yO | apply yN | apply yP | refine yQ ?_ GE220.out) | exact HB.out)⟩
  ·rw [if_neg c8] at H
   have c8b0 : decide (t222 < 0) = false := decide_eq_false c8
   clear c8
   obtain rfl := zU H
   go_enter Try.func22, Try.ntmps22
   go_wp2_with (first | ((with_reducible refine gate_dst (N := 2) rfl ?_); refine box_event ?hg (N := 2) ?hd (cs := #[.int .i64 a0_0, .int .i64 a0_1, .slice A0_2 l0_2.length c0_2, .slice A0_3 l0_3.length c0_3]) (t := 33) ?hr ?_; (case hd => rfl); (case hg => rfl); (case hr => first | (go_simp; done) | (go_simp; rfl)); intro gb220 hg w11 hbox hb; have BK220 := yA (hbox); have GW220 := yA ((by rw [hg]; exact (yX (mB HB.out)) : w.heap.size ≤ gb220)); have GE220 := yA ((by rw [hg]; exact (yX (mB HB.out)) : w.heap.size ≤ gb220)); replace HB := yA (zD (mB HB.out) hb); clear hb hbox hg; have hcz12_0 : w11.cell? ⟨gb220, 0, none⟩ = some (.int .i64 a0_0) := (yV BK220.out 0).trans rfl; have hcz12_1 : w11.cell? ⟨gb220, 1, none⟩ = some (.int .i64 a0_1) := (yV BK220.out 1).trans rfl; have hcz12_2 : w11.cell? ⟨gb220, 2, none⟩ = some (.slice A0_2 l0_2.length c0_2) := (yV BK220.out 2).trans rfl; have hcz12_3 : w11.cell? ⟨gb220, 3, none⟩ = some (.slice A0_3 l0_3.length c0_3) := (yV BK220.out 3).trans rfl; have hfz12_0 := yW BK220.out 0; have hfz12_1 := yW BK220.out 1; have hfz12_2 := yW BK220.out 2; have hfz12_3 := yW BK220.out 3) | ((with_reducible refine zS (f := 61) rfl ?_); refine goesL_ (some 8) rfl rfl Try.func61 (by kernel_rfl) rfl #[.slice A0_2 l0_2.length c0_2, .int .i64 a1] rfl (by (try simp only [zI, zJ, zK]); first | done | rfl | (simp only [zL, zM]; rfl)) ?_; (with_reducible refine (laws_szIntSS.calls k _ _ l0_2 a1 t221 _ ?side1 ?side2 A3.out).mono ?_); (case side1 => exact mC (yM HR0_2.out HB.out)); (case side2 => exact HC0_2.out); rintro e w' ⟨rfl, ⟨nd, rfl⟩⟩; refine ⟨_, rfl, ?_⟩) | ((with_reducible refine zS (f := 62) rfl ?_); refine goesL_ (some 14) rfl rfl Try.func62 (by kernel_rfl) rfl #[.slice A0_3 l0_3.length c0_3, .int .i64 t221] rfl (by (try simp only [zI, zJ, zK]); first | done | rfl | (simp only [zL, zM]; rfl)) ?_; (with_reducible refine (laws_szBoolS.calls _ _ l0_3 t221 t222 _ ?side1 ?side2 A7.out).mono ?_); (case side1 => exact mC (yM HR0_3.out (by with_reducible repeat first | exact HB.out | apply yO | apply yN | apply yP | refine yQ ?_ GE220.out))); (case side2 => exact HC0_3.out); rintro e w' ⟨rfl, ⟨nd, rfl⟩⟩; refine ⟨_, rfl, ?_⟩))
   go_ret
   exact ⟨by first | rfl | (simp [errW_none, errW_some] <;> rfl) | (simp [*, errW_none, errW_some] <;> rfl), by repeat (first | (with_reducible first | exact HB.out | apply yO | apply yN | apply yP | refine yQ ?_ GE220.out) | exact HB.out)⟩

end Go.Proofs.Ytgopcliohchkmaa.Q
