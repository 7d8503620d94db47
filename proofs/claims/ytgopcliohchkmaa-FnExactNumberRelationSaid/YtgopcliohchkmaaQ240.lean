-- a walk given by hand (this session's own work)
import Derived.Deep.CutBlock
import Derived.Deep.QuietTactic
import Derived.BigQuiet
import Derived.Test.YtgopcliohchkmaaQ0
namespace Go.Proofs.Ytgopcliohchkmaa.Q
open Go.RowKit Go.Proofs.YtgopcliohchkmaaW.PrintWords Go.Proofs.YtgopcliohchkmaaW.PrintLast Go.Proofs.YtgopcliohchkmaaW.PrintMore
set_option linter.unusedVariables false
set_option linter.unusedSimpArgs false
/-! ### impl_NumberRelation_1 -/
/-- A variable of a row of numbers that a closure holds. -/
def RowAt (w : World) (p : Value) (A : Option Addr) (n c : Nat) : Prop := ∃ g, p = .pointer (some ⟨g, 0, none⟩) ∧ w.heap[g]? = some (.cells #[.slice A n c] 38 (0, 0))
theorem RowAt.below {w w1 : World} {p : Value} {A : Option Addr} {n c : Nat} (h : RowAt w p A n c) (hb : Below w.heap.size w w1) : RowAt w1 p A n c := by
  obtain ⟨g, e, h1⟩ := h
  exact ⟨g, e, blk_below h1 hb⟩
def impl_NumberRelation_1.f (s : Int) (d : List Int) (l2 : List Int) : Option Int := if 0 < (d.length : Int) then (if s = 0 then (if rd d 0 = 0 then some 0 else if s < (l2.length : Int) then (if 0 ≤ s then (if rd d 0 = rd l2 s then some (wrap64 (s + 1)) else some (wrap64 ((l2.length : Int) + 1))) else none) else some (wrap64 ((l2.length : Int) + 1))) else if s < (l2.length : Int) then (if 0 ≤ s then (if rd d 0 = rd l2 s then some (wrap64 (s + 1)) else some (wrap64 ((l2.length : Int) + 1))) else none) else some (wrap64 ((l2.length : Int) + 1))) else none
set_option maxHeartbeats 8000000 in
set_option maxRecDepth 100000 in
theorem impl_NumberRelation_1.calls {P : Value} (s : Int) (A1 : Option Addr) (c1 : Nat) (d : List Int) (A2 : Option Addr) (c2 : Nat) (l2 : List Int) (r : Int) (w : World) (hr1 : Kd.C (Kd.int .i64) w A1 d.length d) (hc1 : d.length ≤ c1) (hr2 : Kd.C (Kd.int .i64) w A2 l2.length l2) (hc2 : l2.length ≤ c2) (h : impl_NumberRelation_1.f s d l2 = some r) (hbx : RowAt w P A2 l2.length c2) :
  Calls Try.prog 60 #[.int .i64 s, .slice A1 d.length c1, P] w fun e w' => e = .returned (.int .i64 r) ∧ Drawn0 w w' := by
  obtain ⟨g, rfl, hg⟩ := hbx
  have hz : w.cell? ⟨g, 0, none⟩ = some (.slice A2 l2.length c2) := (blk_cell hg 0).trans rfl
  have hzf := blk_frozen hg 0
  unfold impl_NumberRelation_1.f at h
  by_cases c0 : 0 < (d.length : Int)
  · rw [if_pos c0] at h
    obtain ⟨ad, e0, hx0⟩ := Kd.at_int hr1 0 (by omega) c0
    cases e0
    have k0 := hx0
    simp [Addr.add] at k0
    have p0 : decide ((0 : Int) < (d.length : Int)) = true := decide_eq_true c0
    have P0 : ((0 : Int) < (d.length : Int)) = True := eq_true c0
    have N0 : (0 < d.length) = True := eq_true (by omega)
    by_cases s0 : s = 0
    · rw [if_pos s0] at h
      have sb : (s == 0) = true := beq_iff_eq.2 s0
      by_cases d0 : rd d 0 = 0
      · rw [if_pos d0] at h
        obtain rfl := Option.some.inj h
        have db : (rd d 0 == 0) = true := beq_iff_eq.2 d0
        clear h d0 s0 c0
        go_enter Try.func60, Try.ntmps60
        go_wp2
        repeat (go_quiet (fail); try go_wp2)
        go_ret
        exact ⟨rfl, by repeat (first | exact Drawn0.refl _ | apply Drawn0.step)⟩
      · rw [if_neg d0] at h
        have db : (rd d 0 == 0) = false := beq_eq_false_iff_ne.2 d0
        clear d0 s0
        by_cases l1_ : s < (l2.length : Int)
        · rw [if_pos l1_] at h
          by_cases l2_ : 0 ≤ s
          · rw [if_pos l2_] at h
            have lb := decide_eq_true l1_
            have gs : (s < (l2.length : Int)) = True := eq_true l1_
            have gn : (0 ≤ s) = True := eq_true l2_
            obtain ⟨adw, ew, hxw⟩ := Kd.at_int hr2 s l2_ l1_
            cases ew
            have kw := hxw
            simp [Addr.add] at kw
            by_cases e1_ : rd d 0 = rd l2 s
            · rw [if_pos e1_] at h
              obtain rfl := Option.some.inj h
              have eb : (rd d 0 == rd l2 s) = true := beq_iff_eq.2 e1_
              clear h e1_ l1_ l2_ c0
              go_enter Try.func60, Try.ntmps60
              go_wp2
              repeat (go_quiet (fail); try go_wp2)
              go_ret
              exact ⟨rfl, by repeat (first | exact Drawn0.refl _ | apply Drawn0.step)⟩
            · rw [if_neg e1_] at h
              obtain rfl := Option.some.inj h
              have eb : (rd d 0 == rd l2 s) = false := beq_eq_false_iff_ne.2 e1_
              clear h e1_ l1_ l2_ c0
              go_enter Try.func60, Try.ntmps60
              go_wp2
              repeat (go_quiet (fail); try go_wp2)
              go_ret
              exact ⟨rfl, by repeat (first | exact Drawn0.refl _ | apply Drawn0.step)⟩
          · rw [if_neg l2_] at h
            cases h
        · rw [if_neg l1_] at h
          obtain rfl := Option.some.inj h
          have lb := decide_eq_false l1_
          clear h l1_ c0
          go_enter Try.func60, Try.ntmps60
          go_wp2
          repeat (go_quiet (fail); try go_wp2)
          go_ret
          exact ⟨rfl, by repeat (first | exact Drawn0.refl _ | apply Drawn0.step)⟩
    · rw [if_neg s0] at h
      have sb : (s == 0) = false := beq_eq_false_iff_ne.2 s0
      clear s0
      by_cases l1_ : s < (l2.length : Int)
      · rw [if_pos l1_] at h
        by_cases l2_ : 0 ≤ s
        · rw [if_pos l2_] at h
          have lb := decide_eq_true l1_
          have gs : (s < (l2.length : Int)) = True := eq_true l1_
          have gn : (0 ≤ s) = True := eq_true l2_
          obtain ⟨adw, ew, hxw⟩ := Kd.at_int hr2 s l2_ l1_
          cases ew
          have kw := hxw
          simp [Addr.add] at kw
          by_cases e1_ : rd d 0 = rd l2 s
          · rw [if_pos e1_] at h
            obtain rfl := Option.some.inj h
            have eb : (rd d 0 == rd l2 s) = true := beq_iff_eq.2 e1_
            clear h e1_ l1_ l2_ c0
            go_enter Try.func60, Try.ntmps60
            go_wp2
            repeat (go_quiet (fail); try go_wp2)
            go_ret
            exact ⟨rfl, by repeat (first | exact Drawn0.refl _ | apply Drawn0.step)⟩
          · rw [if_neg e1_] at h
            obtain rfl := Option.some.inj h
            have eb : (rd d 0 == rd l2 s) = false := beq_eq_false_iff_ne.2 e1_
            clear h e1_ l1_ l2_ c0
            go_enter Try.func60, Try.ntmps60
            go_wp2
            repeat (go_quiet (fail); try go_wp2)
            go_ret
            exact ⟨rfl, by repeat (first | exact Drawn0.refl _ | apply Drawn0.step)⟩
        · rw [if_neg l2_] at h
          cases h
      · rw [if_neg l1_] at h
        obtain rfl := Option.some.inj h
        have lb := decide_eq_false l1_
        clear h l1_ c0
        go_enter Try.func60, Try.ntmps60
        go_wp2
        repeat (go_quiet (fail); try go_wp2)
        go_ret
        exact ⟨rfl, by repeat (first | exact Drawn0.refl _ | apply Drawn0.step)⟩
  · rw [if_neg c0] at h
    cases h

end Go.Proofs.Ytgopcliohchkmaa.Q
