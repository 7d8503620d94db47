-- a walk given by hand (this session's own work)
import Derived.Deep.CutBlock
import Derived.Deep.QuietTactic
import Derived.BigQuiet
import Derived.Test.YtgopcliohchkmaaQ0
namespace Go.Proofs.Ytgopcliohchkmaa.Q
open Go.RowKit Go.Proofs.YtgopcliohchkmaaW.PrintWords Go.Proofs.YtgopcliohchkmaaW.PrintLast Go.Proofs.YtgopcliohchkmaaW.PrintMore
set_option linter.unusedVariables false
set_option linter.unusedSimpArgs false
/-! ### impl_SumRelation_1 -/
/-- A variable of a whole number that a closure holds. -/
def BoxAt (w : World) (p : Value) (b : Int) : Prop := ∃ g, p = .pointer (some ⟨g, 0, none⟩) ∧ w.heap[g]? = some (.cells #[.int .i64 b] 3 (0, 0))
theorem BoxAt.below {w w1 : World} {p : Value} {b : Int} (h : BoxAt w p b) (hb : Below w.heap.size w w1) : BoxAt w1 p b := by
  obtain ⟨g, e, h1⟩ := h
  exact ⟨g, e, blk_below h1 hb⟩
theorem BoxAt.below0 {w0 w w1 : World} {p : Value} {b : Int} (h : BoxAt w0 p b) (hb : Below w0.heap.size w0 w) (hm : Below w.heap.size w w1) : BoxAt w1 p b := (h.below hb).below hm
def sumCarry (b s : Int) (d : List Int) : Int := wrap64 (wrap64 (wrap64 (rd d 2 + wrap64 (b * s)) - rd d 0) - rd d 1)
def impl_SumRelation_1.f (s : Int) (d : List Int) (b : Int) : Option Int := if s = 2 then some 2 else if 2 < (d.length : Int) then (if sumCarry b s d < 0 then some 2 else if sumCarry b s d > 1 then some 2 else some (sumCarry b s d)) else none
set_option maxHeartbeats 8000000 in
set_option maxRecDepth 100000 in
theorem impl_SumRelation_1.calls {P : Value} (s : Int) (A1 : Option Addr) (c1 : Nat) (d : List Int) (b : Int) (r : Int) (w : World) (hr1 : Kd.C (Kd.int .i64) w A1 d.length d) (hc1 : d.length ≤ c1) (h : impl_SumRelation_1.f s d b = some r) (hbx : BoxAt w P b) :
  Calls Try.prog 53 #[.int .i64 s, .slice A1 d.length c1, P] w fun e w' => e = .returned (.int .i64 r) ∧ Drawn0 w w' := by
  obtain ⟨g, rfl, hg⟩ := hbx
  have hz : w.cell? ⟨g, 0, none⟩ = some (.int .i64 b) := (blk_cell hg 0).trans rfl
  have hzf := blk_frozen hg 0
  unfold impl_SumRelation_1.f at h
  by_cases c0 : s = 2
  · rw [if_pos c0] at h
    obtain rfl := Option.some.inj h
    subst c0
    go_enter Try.func53, Try.ntmps53
    go_wp2
    go_ret
    exact ⟨rfl, ⟨⟨0, rfl⟩⟩⟩
  · rw [if_neg c0] at h
    have c0b : (s == 2) = false := beq_eq_false_iff_ne.2 c0
    by_cases c2 : 2 < (d.length : Int)
    · rw [if_pos c2] at h
      have p0 : decide ((0 : Int) < (d.length : Int)) = true := decide_eq_true (by omega)
      have p1 : decide ((1 : Int) < (d.length : Int)) = true := decide_eq_true (by omega)
      have p2 : decide ((2 : Int) < (d.length : Int)) = true := decide_eq_true c2
      obtain ⟨ad, e0, hx2⟩ := Kd.at_int hr1 2 (by omega) c2
      obtain ⟨ad0, e1, hx0⟩ := Kd.at_int hr1 0 (by omega) (by omega)
      obtain ⟨ad1, e2, hx1⟩ := Kd.at_int hr1 1 (by omega) (by omega)
      cases e0
      cases e1
      cases e2
      have k2 := hx2
      have k0 := hx0
      have k1 := hx1
      simp [Addr.add] at k0 k1 k2
      have P0 : ((0 : Int) < (d.length : Int)) = True := eq_true (by omega)
      have P1 : ((1 : Int) < (d.length : Int)) = True := eq_true (by omega)
      have P2 : ((2 : Int) < (d.length : Int)) = True := eq_true c2
      have N0 : (0 < d.length) = True := eq_true (by omega)
      have N1 : (1 < d.length) = True := eq_true (by omega)
      have N2 : (2 < d.length) = True := eq_true (by omega)
      have ex : sumCarry b s d = wrap64 (wrap64 (wrap64 (rd d 2 + wrap64 (b * s)) - rd d 0) - rd d 1) := rfl
      rw [ex] at h
      by_cases d1 : wrap64 (wrap64 (wrap64 (rd d 2 + wrap64 (b * s)) - rd d 0) - rd d 1) < 0
      · rw [if_pos d1] at h
        obtain rfl := Option.some.inj h
        have d1b := decide_eq_true d1
        clear h c0 c2 d1 ex
        go_enter Try.func53, Try.ntmps53
        go_wp2
        repeat (go_quiet (fail); try go_wp2)
        go_ret
        exact ⟨rfl, by repeat (first | exact Drawn0.refl _ | apply Drawn0.step)⟩
      · rw [if_neg d1] at h
        have d1b := decide_eq_false d1
        by_cases d2 : wrap64 (wrap64 (wrap64 (rd d 2 + wrap64 (b * s)) - rd d 0) - rd d 1) > 1
        · rw [if_pos d2] at h
          obtain rfl := Option.some.inj h
          have d2b : decide (1 < wrap64 (wrap64 (wrap64 (rd d 2 + wrap64 (b * s)) - rd d 0) - rd d 1)) = true := decide_eq_true d2
          clear h c0 c2 d1 d2 ex
          go_enter Try.func53, Try.ntmps53
          go_wp2
          repeat (go_quiet (fail); try go_wp2)
          go_ret
          exact ⟨rfl, by repeat (first | exact Drawn0.refl _ | apply Drawn0.step)⟩
        · rw [if_neg d2] at h
          obtain rfl := Option.some.inj h
          have d2b : decide (1 < wrap64 (wrap64 (wrap64 (rd d 2 + wrap64 (b * s)) - rd d 0) - rd d 1)) = false := decide_eq_false d2
          clear h c0 c2 d1 d2 ex
          go_enter Try.func53, Try.ntmps53
          go_wp2
          repeat (go_quiet (fail); try go_wp2)
          go_ret
          exact ⟨rfl, by repeat (first | exact Drawn0.refl _ | apply Drawn0.step)⟩
    · rw [if_neg c2] at h
      cases h

end Go.Proofs.Ytgopcliohchkmaa.Q
