-- written by a program of this session (a turned copy of the kit's print) out of the translation
-- squeezed
-- compact
import Derived.Test.YtdckaflfgbbabaaDoorShelf
import Derived.Lib.SmallJoins
import Derived.Test.YtdckaflfgbbabaaDoorQ0
namespace Go.Proofs.YtdckaflfgbbabaaDoor.Q
open Go.RowKit Go.Proofs.YtdckaflfgbbabaaDoorW.PrintWords Go.Proofs.YtdckaflfgbbabaaDoorW.PrintLast Go.Proofs.YtdckaflfgbbabaaDoorW.PrintMore
attribute [local go_sem] max2_int min2_int max_two min_two max_three min_three max_four min_four   -- for this text's walks alone
set_option linter.unusedVariables false
set_option linter.unusedSimpArgs false

/-! ### impl_FormatInt: function 23 -/
/-- The table of powers of ten that strconv reads is as its initialiser lays it. -/
structure TabAt (w : World) : Prop where
 tab : Lib.TabIs Tryd.prog w "internal/strconv.uint64pow10" .u64 Lib.pow10Tab
theorem TabAt.below {w w' : World} (h : TabAt w) (hb : Below w.heap.size w w') : TabAt w' := ⟨Go.Joins.tab_stays (g := 0) (by kernel_rfl) h.tab hb (zT _)⟩
theorem TabAt.alloc {w : World} (h : TabAt w) (o : Obj) : TabAt (w.alloc o) := h.below (yO (zV _ _) o)
theorem TabAt.drew {w : World} (h : TabAt w) : TabAt w.drew := h.below (yP (zV _ _))
theorem TabAt.drewN {w : World} (h : TabAt w) (n : Nat) : TabAt (w.drewN n) := h.below (yN (zV _ _) n)
def impl_FormatInt.f (a0 : Int) : Option ByteArray := if -9223372036854775808 ≤ a0 ∧ a0 ≤ 9223372036854775807 then some ⟨(Lib.itoa a0).toArray⟩ else none
theorem below_grow' {w : World} (k : Nat) (os : Array Obj) : Below w.heap.size w (Go.Sort.grow (w.drewN k) os) := by
 refine ⟨rfl, rfl, rfl, by simp [Go.Sort.grow], fun i hi => ?_⟩
 simp [Go.Sort.grow, Array.getElem?_append_left hi]
theorem impl_FormatInt.calls (a0 : Int) (r : ByteArray) (w : World) (h : impl_FormatInt.f a0 = some r) (ht_ : TabAt w := by first | exact HTAB.out | (exact TabAt.below HTAB.out (mB HB.out))) :
  Calls Tryd.prog 23 #[.int .i64 a0] w fun e w' => e = .returned (.string r) ∧ Below w.heap.size w w' := by
 unfold impl_FormatInt.f at h
 by_cases hb : -9223372036854775808 ≤ a0 ∧ a0 ≤ 9223372036854775807
 ·rw [if_pos hb] at h
  obtain rfl := zU h
  go_enter Tryd.func23, Tryd.ntmps23
  go_wp2_with (go_at_call 26; refine (Tryd.strconv_Itoa a0 hb.1 hb.2 _ ht_.tab).mono ?_; rintro e w' ⟨rfl, k, os, rfl⟩)
  go_ret
  exact ⟨rfl, below_grow' _ _⟩
 ·rw [if_neg hb] at h
  cases h

end Go.Proofs.YtdckaflfgbbabaaDoor.Q
