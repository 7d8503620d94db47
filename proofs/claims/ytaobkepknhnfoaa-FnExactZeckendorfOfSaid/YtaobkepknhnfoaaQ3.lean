-- written by a program of this session (a turned copy of the kit's print) out of the translation
import Derived.Test.YtaobkepknhnfoaaQ0
namespace Go.Proofs.Ytaobkepknhnfoaa.Q
open Go.RowKit Go.Proofs.YtaobkepknhnfoaaW.PrintWords Go.Proofs.YtaobkepknhnfoaaW.PrintLast Go.Proofs.YtaobkepknhnfoaaW.PrintMore
attribute [local go_sem] max2_int min2_int max_two min_two max_three min_three max_four min_four   -- for this text's walks alone
set_option linter.unusedVariables false
set_option linter.unusedSimpArgs false

/-! ### impl_fibonacci: function 36 -/
def fibN : Nat → Int
  | 0 => 1
  | 1 => 2
  | n + 2 => fibN (n + 1) + fibN n
theorem fibN_bd : ∀ k, k < 41 → 1 ≤ fibN k ∧ fibN k ≤ 267914296 := by decide +kernel
def fibC (k : Nat) : Array Value := ((List.range 41).map fun i => Value.int .i64 (if i < k then fibN i else 0)).toArray
theorem fibC_get (k i : Nat) (h : i < 41) : (fibC k)[i]? = some (.int .i64 (if i < k then fibN i else 0)) := by
  simp [fibC, h]
theorem fibC_size (k : Nat) : (fibC k).size = 41 := by simp [fibC]
theorem fibC_one (k : Nat) : (fibC k).all (·.oneCell') = true := by
  simp [fibC, Value.oneCell']
theorem fibC_set (k : Nat) (h : k < 41) : (fibC k).setIfInBounds k (.int .i64 (fibN k)) = fibC (k + 1) := by
  apply Array.ext_getElem?
  intro i
  rw [Array.getElem?_setIfInBounds, fibC_size]
  by_cases hi : i < 41
  · rw [fibC_get _ _ hi, fibC_get _ _ hi]
    by_cases e : k = i
    · subst e
      rw [if_pos rfl, if_pos h, if_pos (by omega)]
    · rw [if_neg e]
      by_cases e' : i < k
      · rw [if_pos e', if_pos (by omega)]
      · rw [if_neg e', if_neg (by omega)]
  · rw [if_neg (by omega), Array.getElem?_eq_none (by rw [fibC_size]; omega), Array.getElem?_eq_none (by rw [fibC_size]; omega)]
structure FibAt (w wr : World) (k : Nat) : Prop where
  arr : wr.heap[w.heap.size + 1]? = some (.cells (fibC k) 44 (0, 0))
  res : wr.heap[w.heap.size]? = some (.cells (fibC 0) 44 (0, 0))
  bel : Below w.heap.size w wr
theorem fib_info (k : Nat) : (Try.prog.info? 44).map (·.size) = some (fibC k).size := by
  rw [fibC_size]
  kernel_rfl
theorem fib_alloc (w : World) : (Instr.alloc 44 true (.tuple #[])).run Try.prog w = .ok (.pointer (some ⟨w.heap.size, 0, none⟩)) (w.alloc (.cells (fibC 0) 44)) := by kernel_rfl
theorem fib_build (w : World) : (Instr.build 44 #[(0, .int .i64 1), (1, .int .i64 2)]).run Try.prog w = .ok (.agg (fibC 2)) w := by kernel_rfl
attribute [local go_sem ↓ high] fib_alloc fib_build
theorem fib_arr (w : World) : ((w.alloc (.cells (fibC 0) 44)).alloc (.cells (fibC 0) 44)).heap[w.heap.size + 1]? = some (.cells (fibC 0) 44 (0, 0)) := by
  have hs : (w.alloc (.cells (fibC 0) 44)).heap.size = w.heap.size + 1 := by simp
  have h1 := blk_new (w.alloc (.cells (fibC 0) 44)) (.cells (fibC 0) 44)
  rwa [hs] at h1
theorem fib_start (w : World) : FibAt w (((w.alloc (.cells (fibC 0) 44)).alloc (.cells (fibC 0) 44)).setRow (w.heap.size + 1) (fibC 2)) 2 := by
  have hs : (w.alloc (.cells (fibC 0) 44)).heap.size = w.heap.size + 1 := by simp
  have h1 := blk_new (w.alloc (.cells (fibC 0) 44)) (.cells (fibC 0) 44)
  rw [hs] at h1
  refine ⟨setRow_heap _ _ _ _ _ _ h1, ?_, ?_⟩
  · rw [setRow_other _ _ _ _ (by omega)]
    exact blk_alloc (blk_new w _) _
  · exact below_setRow (below_alloc (below_alloc (Below.refl _ _) _) _) (by omega) _
theorem fibN_eq {k : Nat} (h : 2 ≤ k) : fibN (k - 1) + fibN (k - 2) = fibN k := by
  obtain ⟨m, rfl⟩ : ∃ m, k = m + 2 := ⟨k - 2, by omega⟩
  rfl
theorem FibAt.step {w wr : World} {k : Nat} (H : FibAt w wr k) (h : k < 41) : FibAt w (wr.setCell ⟨w.heap.size + 1, k, none⟩ (.int .i64 (fibN k))) (k + 1) := by
  refine ⟨?_, ?_, ?_⟩
  · have := blk_set H.arr k (.int .i64 (fibN k))
    rwa [fibC_set k h] at this
  · exact blk_far H.res (by simp) _
  · exact H.bel.setCell (by simp) _
theorem FibAt.drew {w wr : World} {k : Nat} (H : FibAt w wr k) : FibAt w wr.drew k := ⟨H.arr, H.res, below_drew1 H.bel⟩
set_option maxHeartbeats 1000000 in
set_option maxRecDepth 100000 in
theorem impl_fibonacci.calls (w : World) : Calls Try.prog 36 #[] w fun e w' => e = .returned (.agg (fibC 41)) ∧ Below w.heap.size w w' := by
  go_enter Try.func36, Try.ntmps36
  go_wp2_with ((with_reducible refine gate_store (t := 44) (p := 1) rfl ?_); refine wpList_store_row rfl 44 (.tmp 1) (.tmp 3) rfl (w.heap.size + 1) (fibC 2) rfl rfl 44 (fibC 0) (fib_arr _) (fib_info 2) ((fibC_size 0).trans (fibC_size 2).symm) (fibC_one 2) ?_)
  go_loopw [2] (fun v wr => ∃ k : Nat, 2 ≤ k ∧ k ≤ 41 ∧ v = .int .i64 k ∧ FibAt w wr k) (fun v _ => 41 - (intOf v).toNat)
  case atStart => exact ⟨2, by omega, by omega, rfl, fib_start w⟩
  case round =>
    obtain ⟨k, h2, h41, rfl, HA⟩ := hrel
    by_cases hk : k < 41
    · have b1 := fibN_bd (k - 1) (by omega)
      have b2 := fibN_bd (k - 2) (by omega)
      have c1 : wr.cell? ⟨w.heap.size + 1, k - 1, none⟩ = some (.int .i64 (fibN (k - 1))) := by rw [blk_cell HA.arr, fibC_get _ _ (by omega), if_pos (by omega)]
      have c2 : wr.cell? ⟨w.heap.size + 1, k - 2, none⟩ = some (.int .i64 (fibN (k - 2))) := by rw [blk_cell HA.arr, fibC_get _ _ (by omega), if_pos (by omega)]
      have c3 : wr.cell? ⟨w.heap.size + 1, k, none⟩ = some (.int .i64 0) := by rw [blk_cell HA.arr, fibC_get _ _ (by omega), if_neg (by omega)]
      have f3 : wr.frozen? ⟨w.heap.size + 1, k, none⟩ = false := blk_frozen HA.arr k
      go_wp2
      go_region
      go_wp2
      go_roundw
      case measure => simp [intOf]; omega
      case rel =>
        have HB := (HA.step hk).drew
        rw [← fibN_eq h2] at HB
        exact ⟨k + 1, by omega, by omega, by go_num, HB⟩
    · have e : k = 41 := by omega
      subst e
      go_wp2_with (first | ((with_reducible refine gate_dst (N := 19) rfl ?_); refine wpList_load_row rfl 44 (.tmp 1) rfl (w.heap.size + 1) rfl 44 (fibC 41) (0, 0) _ HA.arr Try.underlying44 rfl (fib_info 41) ?_) | ((with_reducible refine gate_store (t := 44) (p := 0) rfl ?_); refine wpList_store_row rfl 44 (.tmp 0) (.tmp 19) rfl w.heap.size (fibC 41) rfl rfl 44 (fibC 0) HA.res (fib_info 41) ((fibC_size 0).trans (fibC_size 41).symm) (fibC_one 41) ?_))
      exact bodyPost_ret (v := .agg (fibC 41)) (results_cell_row Try.results36 _ _ w.heap.size 44 (fibC 41) (0, 0) _ rfl (setRow_heap _ _ _ _ _ _ HA.res) Try.underlying44 rfl (fib_info 41)) rfl ⟨rfl, below_setRow HA.bel (Nat.le_refl _) _⟩
theorem fib_index (k : Nat) (h : k < 41) (w : World) : (Instr.index 44 (.agg (fibC 41)) (.int .i64 (k : Int))).run Try.prog w = .ok (.int .i64 (fibN k)) w := by
  match k, h with
  | 0, _ => show (Instr.index 44 (.agg (fibC 41)) (.int .i64 (0 : Int))).run Try.prog w = .ok (.int .i64 (fibN 0)) w; kernel_rfl
  | 1, _ => show (Instr.index 44 (.agg (fibC 41)) (.int .i64 (1 : Int))).run Try.prog w = .ok (.int .i64 (fibN 1)) w; kernel_rfl
  | 2, _ => show (Instr.index 44 (.agg (fibC 41)) (.int .i64 (2 : Int))).run Try.prog w = .ok (.int .i64 (fibN 2)) w; kernel_rfl
  | 3, _ => show (Instr.index 44 (.agg (fibC 41)) (.int .i64 (3 : Int))).run Try.prog w = .ok (.int .i64 (fibN 3)) w; kernel_rfl
  | 4, _ => show (Instr.index 44 (.agg (fibC 41)) (.int .i64 (4 : Int))).run Try.prog w = .ok (.int .i64 (fibN 4)) w; kernel_rfl
  | 5, _ => show (Instr.index 44 (.agg (fibC 41)) (.int .i64 (5 : Int))).run Try.prog w = .ok (.int .i64 (fibN 5)) w; kernel_rfl
  | 6, _ => show (Instr.index 44 (.agg (fibC 41)) (.int .i64 (6 : Int))).run Try.prog w = .ok (.int .i64 (fibN 6)) w; kernel_rfl
  | 7, _ => show (Instr.index 44 (.agg (fibC 41)) (.int .i64 (7 : Int))).run Try.prog w = .ok (.int .i64 (fibN 7)) w; kernel_rfl
  | 8, _ => show (Instr.index 44 (.agg (fibC 41)) (.int .i64 (8 : Int))).run Try.prog w = .ok (.int .i64 (fibN 8)) w; kernel_rfl
  | 9, _ => show (Instr.index 44 (.agg (fibC 41)) (.int .i64 (9 : Int))).run Try.prog w = .ok (.int .i64 (fibN 9)) w; kernel_rfl
  | 10, _ => show (Instr.index 44 (.agg (fibC 41)) (.int .i64 (10 : Int))).run Try.prog w = .ok (.int .i64 (fibN 10)) w; kernel_rfl
  | 11, _ => show (Instr.index 44 (.agg (fibC 41)) (.int .i64 (11 : Int))).run Try.prog w = .ok (.int .i64 (fibN 11)) w; kernel_rfl
  | 12, _ => show (Instr.index 44 (.agg (fibC 41)) (.int .i64 (12 : Int))).run Try.prog w = .ok (.int .i64 (fibN 12)) w; kernel_rfl
  | 13, _ => show (Instr.index 44 (.agg (fibC 41)) (.int .i64 (13 : Int))).run Try.prog w = .ok (.int .i64 (fibN 13)) w; kernel_rfl
  | 14, _ => show (Instr.index 44 (.agg (fibC 41)) (.int .i64 (14 : Int))).run Try.prog w = .ok (.int .i64 (fibN 14)) w; kernel_rfl
  | 15, _ => show (Instr.index 44 (.agg (fibC 41)) (.int .i64 (15 : Int))).run Try.prog w = .ok (.int .i64 (fibN 15)) w; kernel_rfl
  | 16, _ => show (Instr.index 44 (.agg (fibC 41)) (.int .i64 (16 : Int))).run Try.prog w = .ok (.int .i64 (fibN 16)) w; kernel_rfl
  | 17, _ => show (Instr.index 44 (.agg (fibC 41)) (.int .i64 (17 : Int))).run Try.prog w = .ok (.int .i64 (fibN 17)) w; kernel_rfl
  | 18, _ => show (Instr.index 44 (.agg (fibC 41)) (.int .i64 (18 : Int))).run Try.prog w = .ok (.int .i64 (fibN 18)) w; kernel_rfl
  | 19, _ => show (Instr.index 44 (.agg (fibC 41)) (.int .i64 (19 : Int))).run Try.prog w = .ok (.int .i64 (fibN 19)) w; kernel_rfl
  | 20, _ => show (Instr.index 44 (.agg (fibC 41)) (.int .i64 (20 : Int))).run Try.prog w = .ok (.int .i64 (fibN 20)) w; kernel_rfl
  | 21, _ => show (Instr.index 44 (.agg (fibC 41)) (.int .i64 (21 : Int))).run Try.prog w = .ok (.int .i64 (fibN 21)) w; kernel_rfl
  | 22, _ => show (Instr.index 44 (.agg (fibC 41)) (.int .i64 (22 : Int))).run Try.prog w = .ok (.int .i64 (fibN 22)) w; kernel_rfl
  | 23, _ => show (Instr.index 44 (.agg (fibC 41)) (.int .i64 (23 : Int))).run Try.prog w = .ok (.int .i64 (fibN 23)) w; kernel_rfl
  | 24, _ => show (Instr.index 44 (.agg (fibC 41)) (.int .i64 (24 : Int))).run Try.prog w = .ok (.int .i64 (fibN 24)) w; kernel_rfl
  | 25, _ => show (Instr.index 44 (.agg (fibC 41)) (.int .i64 (25 : Int))).run Try.prog w = .ok (.int .i64 (fibN 25)) w; kernel_rfl
  | 26, _ => show (Instr.index 44 (.agg (fibC 41)) (.int .i64 (26 : Int))).run Try.prog w = .ok (.int .i64 (fibN 26)) w; kernel_rfl
  | 27, _ => show (Instr.index 44 (.agg (fibC 41)) (.int .i64 (27 : Int))).run Try.prog w = .ok (.int .i64 (fibN 27)) w; kernel_rfl
  | 28, _ => show (Instr.index 44 (.agg (fibC 41)) (.int .i64 (28 : Int))).run Try.prog w = .ok (.int .i64 (fibN 28)) w; kernel_rfl
  | 29, _ => show (Instr.index 44 (.agg (fibC 41)) (.int .i64 (29 : Int))).run Try.prog w = .ok (.int .i64 (fibN 29)) w; kernel_rfl
  | 30, _ => show (Instr.index 44 (.agg (fibC 41)) (.int .i64 (30 : Int))).run Try.prog w = .ok (.int .i64 (fibN 30)) w; kernel_rfl
  | 31, _ => show (Instr.index 44 (.agg (fibC 41)) (.int .i64 (31 : Int))).run Try.prog w = .ok (.int .i64 (fibN 31)) w; kernel_rfl
  | 32, _ => show (Instr.index 44 (.agg (fibC 41)) (.int .i64 (32 : Int))).run Try.prog w = .ok (.int .i64 (fibN 32)) w; kernel_rfl
  | 33, _ => show (Instr.index 44 (.agg (fibC 41)) (.int .i64 (33 : Int))).run Try.prog w = .ok (.int .i64 (fibN 33)) w; kernel_rfl
  | 34, _ => show (Instr.index 44 (.agg (fibC 41)) (.int .i64 (34 : Int))).run Try.prog w = .ok (.int .i64 (fibN 34)) w; kernel_rfl
  | 35, _ => show (Instr.index 44 (.agg (fibC 41)) (.int .i64 (35 : Int))).run Try.prog w = .ok (.int .i64 (fibN 35)) w; kernel_rfl
  | 36, _ => show (Instr.index 44 (.agg (fibC 41)) (.int .i64 (36 : Int))).run Try.prog w = .ok (.int .i64 (fibN 36)) w; kernel_rfl
  | 37, _ => show (Instr.index 44 (.agg (fibC 41)) (.int .i64 (37 : Int))).run Try.prog w = .ok (.int .i64 (fibN 37)) w; kernel_rfl
  | 38, _ => show (Instr.index 44 (.agg (fibC 41)) (.int .i64 (38 : Int))).run Try.prog w = .ok (.int .i64 (fibN 38)) w; kernel_rfl
  | 39, _ => show (Instr.index 44 (.agg (fibC 41)) (.int .i64 (39 : Int))).run Try.prog w = .ok (.int .i64 (fibN 39)) w; kernel_rfl
  | 40, _ => show (Instr.index 44 (.agg (fibC 41)) (.int .i64 (40 : Int))).run Try.prog w = .ok (.int .i64 (fibN 40)) w; kernel_rfl
  | n + 41, h => omega

end Go.Proofs.Ytaobkepknhnfoaa.Q
