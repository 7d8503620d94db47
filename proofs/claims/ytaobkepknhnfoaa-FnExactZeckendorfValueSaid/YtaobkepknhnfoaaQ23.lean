-- written by a program of this session (a turned copy of the kit's print) out of the translation
import Derived.Test.YtaobkepknhnfoaaQ0
import Derived.Test.YtaobkepknhnfoaaQ3
import Derived.Test.YtaobkepknhnfoaaQ8
namespace Go.Proofs.Ytaobkepknhnfoaa.Q
open Go.RowKit Go.Proofs.YtaobkepknhnfoaaW.PrintWords Go.Proofs.YtaobkepknhnfoaaW.PrintLast Go.Proofs.YtaobkepknhnfoaaW.PrintMore
attribute [local go_sem] max2_int min2_int max_two min_two max_three min_three max_four min_four   -- for this text's walks alone
set_option linter.unusedVariables false
set_option linter.unusedSimpArgs false

/-! ### impl_ZeckendorfValue: function 26 -/
def zsum (l : List Int) : Nat → Int
  | 0 => 0
  | i + 1 => wrap64 (zsum l i + wrap64 (rd l (i : Int) * fibN (l.length - 1 - i)))
def impl_ZeckendorfValue.f (k : Nat) (l0 : List Int) : Option (Int) := (impl_IsZeckendorf.f k l0).bind fun t => if t = true then (if l0.length ≤ 41 then some (zsum l0 l0.length) else none) else some (-1)
theorem impl_ZeckendorfValue.mono : ∀ a0 k, LeO (impl_ZeckendorfValue.f k a0) (impl_ZeckendorfValue.f (k + 1) a0) := by
  intro a0 k
  unfold impl_ZeckendorfValue.f
  exact LeO.bind (impl_IsZeckendorf.mono _ _) (fun _ => LeO.refl _)
/-- The variable that holds the numbers. -/
structure FibVar (w wr : World) (g : Nat) : Prop where
  arr : wr.heap[g]? = some (.cells (fibC 41) 44 (0, 0))
  ge : w.heap.size ≤ g
  bel : Below w.heap.size w wr
theorem FibVar.new {w w1 : World} (h : Below w.heap.size w w1) : FibVar w ((w1.alloc (.cells (fibC 0) 44)).setRow w1.heap.size (fibC 41)) w1.heap.size :=
  ⟨setRow_heap _ _ _ _ _ _ (blk_new _ _), h.size, below_setRow (below_alloc h _) h.size _⟩
theorem FibVar.cell {w wr : World} {g : Nat} (h : FibVar w wr g) (i : Nat) (hi : i < 41) : wr.cell? ⟨g, i, none⟩ = some (.int .i64 (fibN i)) := by
  rw [blk_cell h.arr, fibC_get _ _ hi, if_pos hi]
set_option maxHeartbeats 1000000 in
set_option maxRecDepth 100000 in
theorem impl_ZeckendorfValue.yes (k : Nat) (A0 : Option Addr) (c0 : Nat) (l0 : List Int) (w : World) (hr0 : Kd.C (Kd.int .i64) w A0 l0.length l0) (hc0 : l0.length ≤ c0) (h : impl_IsZeckendorf.f k l0 = some true) (hl : l0.length ≤ 41) :
    Calls Try.prog 26 #[.slice A0 l0.length c0] w fun e w' => e = .returned (.int .i64 (zsum l0 l0.length)) ∧ Below w.heap.size w w' := by
  have HR0 := Aside0.mk hr0
  have HC0 := Aside0.mk hc0
  have HZ := Aside0.mk h
  clear hr0 hc0 h
  go_enter Try.func26, Try.ntmps26
  go_wp2_with (first
    | (go_at_call 15; (with_reducible refine (impl_IsZeckendorf.calls k _ _ l0 true _ HR0.out HC0.out HZ.out).mono ?_); rintro e w' ⟨rfl, ⟨nd, rfl⟩⟩)
    | (go_at_call 36; refine (impl_fibonacci.calls _).mono ?_; rintro e w1 ⟨rfl, hb0⟩; have HB0 := Aside0.mk (below_then (pw_below_drewN (Below.refl _ _) nd) (Nat.le_refl _) hb0); clear hb0)
    | ((with_reducible refine gate_store (t := 44) (p := 3) rfl ?_); refine wpList_store_row rfl 44 (.tmp 3) (.tmp 10) rfl _ (fibC 41) rfl rfl 44 (fibC 0) (blk_new _ _) (fib_info 41) ((fibC_size 0).trans (fibC_size 41).symm) (fibC_one 41) ?_))
  have HF := Aside0.mk (FibVar.new (show Below w.heap.size w w1 from HB0.out))
  go_loopw [4, 13] (fun s i wr => ∃ j : Nat, j ≤ l0.length ∧ i = .int .i64 j ∧ s = .int .i64 (zsum l0 j) ∧ Aside0 (FibVar w wr w1.heap.size)) (fun _ i _ => l0.length - (intOf i).toNat)
  case atStart => exact ⟨0, Nat.zero_le _, rfl, rfl, HF⟩
  case round =>
    clear HF HB0 HZ
    obtain ⟨j, hj, rfl, rfl, HV⟩ := hrel
    by_cases hlt : j < l0.length
    · obtain ⟨ad, e, hx0⟩ := Kd.at_int HR0.out (j : Int) (by omega) (by omega)
      cases e
      have hx : wr.cell? (ad.add j) = some (.int .i64 (rd l0 (j : Int))) := by
        have := (HV.out.bel.cell (World.block_lt_of_cell? w _ hx0)).trans hx0
        rwa [Int.toNat_natCast] at this
      clear hx0
      have hf := HV.out.cell (l0.length - 1 - j) (by omega)
      have hz : zsum l0 (j + 1) = wrap64 (zsum l0 j + wrap64 (rd l0 (j : Int) * fibN (l0.length - 1 - j))) := rfl
      have HZ := Aside0.mk hz
      clear hz
      go_wp2
      go_roundw
      case measure => simp [intOf]; omega
      case rel => exact ⟨j + 1, by omega, by go_num, by rw [HZ.out], HV⟩
    · have e : j = l0.length := by omega
      subst e
      go_wp2
      go_ret
      exact ⟨rfl, HV.out.bel⟩
set_option maxHeartbeats 1000000 in
theorem impl_ZeckendorfValue.no (k : Nat) (A0 : Option Addr) (c0 : Nat) (l0 : List Int) (w : World) (hr0 : Kd.C (Kd.int .i64) w A0 l0.length l0) (hc0 : l0.length ≤ c0) (h : impl_IsZeckendorf.f k l0 = some false) :
    Calls Try.prog 26 #[.slice A0 l0.length c0] w fun e w' => e = .returned (.int .i64 (-1)) ∧ Below w.heap.size w w' := by
  have HR0 := Aside0.mk hr0
  have HC0 := Aside0.mk hc0
  have HZ := Aside0.mk h
  clear hr0 hc0 h
  go_enter Try.func26, Try.ntmps26
  go_wp2_with (go_at_call 15; (with_reducible refine (impl_IsZeckendorf.calls k _ _ l0 false _ HR0.out HC0.out HZ.out).mono ?_); rintro e w' ⟨rfl, ⟨nd, rfl⟩⟩)
  go_ret
  exact ⟨rfl, pw_below_drewN (Below.refl _ _) _⟩
theorem impl_ZeckendorfValue.calls (k : Nat) (A0 : Option Addr) (c0 : Nat) (l0 : List Int) (r : Int) (w : World) (hr0 : Kd.C (Kd.int .i64) w A0 l0.length l0) (hc0 : l0.length ≤ c0) (h : impl_ZeckendorfValue.f k l0 = some r) :
    Calls Try.prog 26 #[.slice A0 l0.length c0] w fun e w' => e = .returned (.int .i64 r) ∧ Below w.heap.size w w' := by
  unfold impl_ZeckendorfValue.f at h
  obtain ⟨t, ht, h⟩ := Option.bind_eq_some_iff.1 h
  cases t with
  | true =>
    rw [if_pos rfl] at h
    by_cases hl : l0.length ≤ 41
    · rw [if_pos hl] at h
      obtain rfl := Option.some.inj h
      exact impl_ZeckendorfValue.yes k A0 c0 l0 w hr0 hc0 ht hl
    · rw [if_neg hl] at h
      cases h
  | false =>
    rw [if_neg (by decide)] at h
    obtain rfl := Option.some.inj h
    exact impl_ZeckendorfValue.no k A0 c0 l0 w hr0 hc0 ht

end Go.Proofs.Ytaobkepknhnfoaa.Q
