-- written by a program of this session (a turned copy of the kit's print) out of the translation
-- squeezed
import Derived.Test.YtdckaflfgbbabaaQ0
import Derived.Test.YtdckaflfgbbabaaQ17
import Derived.Test.YtdckaflfgbbabaaQ41
namespace Go.Proofs.Ytdckaflfgbbabaa.Q
open Go.RowKit Go.Proofs.YtdckaflfgbbabaaW.PrintWords Go.Proofs.YtdckaflfgbbabaaW.PrintLast Go.Proofs.YtdckaflfgbbabaaW.PrintMore
attribute [local go_sem] max2_int min2_int max_two min_two max_three min_three max_four min_four   -- for this text's walks alone
set_option linter.unusedVariables false
set_option linter.unusedSimpArgs false

/-! ### impl_FreeVariables: function 33 -/
def frList (r : T3) : List Int := (if r.1 then [0] else []) ++ (if r.2.1 then [1] else []) ++ (if r.2.2 then [2] else [])
def impl_FreeVariables.f (k : Nat) (l0 : List (S48)) : Option (List Int) := (impl_IsFormula.f k l0).bind fun b => if b = true then ((impl_free.f k l0 (wrap64 ((l0.length : Int) - 1))).bind fun r => some (frList r)) else some []
theorem impl_FreeVariables.mono : ∀ a0 k, LeO (impl_FreeVariables.f k a0) (impl_FreeVariables.f (k + 1) a0) := by
 intro a0 k
 unfold impl_FreeVariables.f
 repeat' first
   | exact impl_IsFormula.mono _ _
   | exact impl_free.mono _ _ _
   | (with_reducible exact LeO.refl _)
   | exact LeO.none _
   | refine LeO.ite ?_ ?_
   | refine LeO.bind ?_ (fun _ => ?_)
def frPre (r : T3) (j : Nat) : List Int := (if 0 < j ∧ r.1 = true then [0] else []) ++ (if 1 < j ∧ r.2.1 = true then [1] else []) ++ (if 2 < j ∧ r.2.2 = true then [2] else [])
theorem frPre_0 (r : T3) : frPre r 0 = [] := by simp [frPre]
theorem frPre_3 (r : T3) : frPre r 3 = frList r := by simp [frPre, frList]
theorem frPre_yes (r : T3) (j : Nat) (hj : j < 3) (h : frGet r j = true) : frPre r (j + 1) = frPre r j ++ [(j : Int)] := by
 obtain ⟨a, b, c⟩ := r
 have hj : j = 0 ∨ j = 1 ∨ j = 2 := by omega
 rcases hj with rfl | rfl | rfl <;> simp [frGet] at h <;> simp [frPre, h]
theorem frPre_no (r : T3) (j : Nat) (hj : j < 3) (h : frGet r j = false) : frPre r (j + 1) = frPre r j := by
 obtain ⟨a, b, c⟩ := r
 have hj : j = 0 ∨ j = 1 ∨ j = 2 := by omega
 rcases hj with rfl | rfl | rfl <;> simp [frGet] at h <;> simp [frPre, h]
theorem frPre_len (r : T3) (j : Nat) : (frPre r j).length ≤ 3 := by
 simp only [frPre, List.length_append]
 split <;> split <;> split <;> simp
set_option maxHeartbeats 2000000 in
set_option maxRecDepth 100000 in
theorem impl_FreeVariables.yes (k : Nat) (A0 : Option Addr) (c0 : Nat) (l0 : List (S48)) (r : T3) (w : World) (hr0 : Kd.C k48 w A0 l0.length l0) (hc0 : l0.length ≤ c0) (h1 : impl_IsFormula.f k l0 = some true) (h2 : impl_free.f k l0 (wrap64 ((l0.length : Int) - 1)) = some r) :
  Calls Try.prog 33 #[.slice A0 l0.length c0] w fun e w' => ∃ v0_ : Value, e = .returned (v0_) ∧ Kd.R (Kd.int .i64) 3 w' w.heap.size (fun _ => True) v0_ (frList r) ∧ Below w.heap.size w w' := by
 have HR0 := Aside0.mk hr0
 have HC0 := Aside0.mk hc0
 have H1 := Aside0.mk h1
 have H2 := Aside0.mk h2
 clear hr0 hc0 h1 h2
 go_enter Try.func33, Try.ntmps33
 go_wp2_with (first
  | ((with_reducible refine gate_dst (N := 6) rfl ?_); refine Kd.R_lit (Kd.int .i64) (w0 := w) w.heap.size 3 ?hg (N := 6) ?hd (xs := ([] : List Int)) (inner := []) (ok := fun _ => True) (okp := fun _ => True) ?hr ?hp (fun _ hk => hk) trivial (Below.refl _ _) (Nat.le_refl _) (by simp) ?_; (case hd => rfl); (case hg => rfl); (case hr => first | (go_simp; done) | (go_simp; rfl)); (case hp => exact (Reps.none _ _)); intro v1 w1 ho hb _ _; have HO := Aside0.mk ho; have HB := Aside0.mk hb; clear ho hb)
  | (go_at_call 19; (with_reducible refine (impl_IsFormula.calls k _ _ l0 true _ ?side1 HC0.out H1.out).mono ?_); (case side1 => exact Kd.C_below HR0.out HB.out); rintro e w2 ⟨rfl, hb2⟩; have HO2 := Aside0.mk (Kd.R_below HO.out hb2); have HB2 := Aside0.mk (below_then HB.out HB.out.size hb2); clear hb2)
  | (go_at_call 58; refine (impl_free.calls k _ _ l0 _ r _ ?side1 HC0.out H2.out).mono ?_; (case side1 => exact Kd.C_below HR0.out HB2.out); rintro e w3 ⟨rfl, hb3⟩; have HO3 := Aside0.mk (Kd.R_below HO2.out hb3); have HB3 := Aside0.mk (below_then HB2.out HB2.out.size hb3); clear hb3))
 clear HO HB HO2 HB2
 go_loopg [3, 16] 3 (fun g v3 v16 w' => ∃ j : Nat, v16 = .int .i64 (j : Int) ∧ g + j = 3 ∧ Aside0 (Kd.R (Kd.int .i64) 3 w' w.heap.size (fun _ => True) v3 (frPre r j)) ∧ Aside0 (Below w.heap.size w w'))
 case atStart => exact ⟨0, rfl, rfl, by rw [frPre_0]; exact HO3, HB3⟩
 case round =>
  clear HO3 HB3
  obtain ⟨j, rfl, hj, HO, HB⟩ := hrel
  have hj4 : j = 0 ∨ j = 1 ∨ j = 2 ∨ j = 3 := by omega
  rcases hj4 with rfl | rfl | rfl | rfl
  ·obtain ⟨g1, rfl⟩ : ∃ g1, gk = g1 + 1 := ⟨gk - 1, by omega⟩
   have ix := fr_index0 r
   cases hb : frGet r 0 with
   | true =>
    rw [hb] at ix
    have HE := Aside0.mk (frPre_yes r 0 (by decide) hb)
    have HL := Aside0.mk (frPre_len r 0)
    go_wp2_with (((with_reducible refine gate_builtin (b := .append) (xs := #[.tmp 21, .tmp 23]) rfl ?_); at_builtin; refine Kd.R_append (Kd.int .i64) (w0 := w) w.heap.size rfl (.tmp 21) (.tmp 23) 33 3 (.int .i64 0) 8 rfl Try.underlying33 info3 rfl (by decide) (by omega) u3 (frPre r 0) 0 [.int .i64 0] (fun _ => True) (fun _ => False) rfl rfl ?aP (fun _ hk => hk.elim) ?aF ?aO ?aB ?aS ?aL ?_; (case aP => exact rfl); (case aB => exact HB.out); (case aF => exact (fun _ _ => trivial)); (case aO => exact HO.out); (case aS => exact below_size HB.out); (case aL => have := HL.out; omega); intro v2 w4 ho hb hg hat; have HO4 := Aside0.mk ho; have HB4 := Aside0.mk hb; clear ho hb hg hat))
    go_roundg g1
    case measure => omega
    case rel => exact ⟨1, rfl, by omega, ⟨by rw [HE.out]; exact HO4.out⟩, HB4⟩
   | false =>
    rw [hb] at ix
    have HE := Aside0.mk (frPre_no r 0 (by decide) hb)
    go_wp2
    go_roundg g1
    case measure => omega
    case rel => exact ⟨1, rfl, by omega, ⟨by rw [HE.out]; exact HO.out⟩, HB⟩
  ·obtain ⟨g1, rfl⟩ : ∃ g1, gk = g1 + 1 := ⟨gk - 1, by omega⟩
   have ix := fr_index1 r
   cases hb : frGet r 1 with
   | true =>
    rw [hb] at ix
    have HE := Aside0.mk (frPre_yes r 1 (by decide) hb)
    have HL := Aside0.mk (frPre_len r 1)
    go_wp2_with (((with_reducible refine gate_builtin (b := .append) (xs := #[.tmp 21, .tmp 23]) rfl ?_); at_builtin; refine Kd.R_append (Kd.int .i64) (w0 := w) w.heap.size rfl (.tmp 21) (.tmp 23) 33 3 (.int .i64 0) 8 rfl Try.underlying33 info3 rfl (by decide) (by omega) u3 (frPre r 1) 1 [.int .i64 1] (fun _ => True) (fun _ => False) rfl rfl ?aP (fun _ hk => hk.elim) ?aF ?aO ?aB ?aS ?aL ?_; (case aP => exact rfl); (case aB => exact HB.out); (case aF => exact (fun _ _ => trivial)); (case aO => exact HO.out); (case aS => exact below_size HB.out); (case aL => have := HL.out; omega); intro v2 w4 ho hb hg hat; have HO4 := Aside0.mk ho; have HB4 := Aside0.mk hb; clear ho hb hg hat))
    go_roundg g1
    case measure => omega
    case rel => exact ⟨2, rfl, by omega, ⟨by rw [HE.out]; exact HO4.out⟩, HB4⟩
   | false =>
    rw [hb] at ix
    have HE := Aside0.mk (frPre_no r 1 (by decide) hb)
    go_wp2
    go_roundg g1
    case measure => omega
    case rel => exact ⟨2, rfl, by omega, ⟨by rw [HE.out]; exact HO.out⟩, HB⟩
  ·obtain ⟨g1, rfl⟩ : ∃ g1, gk = g1 + 1 := ⟨gk - 1, by omega⟩
   have ix := fr_index2 r
   cases hb : frGet r 2 with
   | true =>
    rw [hb] at ix
    have HE := Aside0.mk (frPre_yes r 2 (by decide) hb)
    have HL := Aside0.mk (frPre_len r 2)
    go_wp2_with (((with_reducible refine gate_builtin (b := .append) (xs := #[.tmp 21, .tmp 23]) rfl ?_); at_builtin; refine Kd.R_append (Kd.int .i64) (w0 := w) w.heap.size rfl (.tmp 21) (.tmp 23) 33 3 (.int .i64 0) 8 rfl Try.underlying33 info3 rfl (by decide) (by omega) u3 (frPre r 2) 2 [.int .i64 2] (fun _ => True) (fun _ => False) rfl rfl ?aP (fun _ hk => hk.elim) ?aF ?aO ?aB ?aS ?aL ?_; (case aP => exact rfl); (case aB => exact HB.out); (case aF => exact (fun _ _ => trivial)); (case aO => exact HO.out); (case aS => exact below_size HB.out); (case aL => have := HL.out; omega); intro v2 w4 ho hb hg hat; have HO4 := Aside0.mk ho; have HB4 := Aside0.mk hb; clear ho hb hg hat))
    go_roundg g1
    case measure => omega
    case rel => exact ⟨3, rfl, by omega, ⟨by rw [HE.out]; exact HO4.out⟩, HB4⟩
   | false =>
    rw [hb] at ix
    have HE := Aside0.mk (frPre_no r 2 (by decide) hb)
    go_wp2
    go_roundg g1
    case measure => omega
    case rel => exact ⟨3, rfl, by omega, ⟨by rw [HE.out]; exact HO.out⟩, HB⟩
  ·go_wp2
   go_ret
   exact ⟨_, rfl, by rw [← frPre_3]; exact HO.out, HB.out⟩
theorem impl_FreeVariables.no (k : Nat) (A0 : Option Addr) (c0 : Nat) (l0 : List (S48)) (w : World) (hr0 : Kd.C k48 w A0 l0.length l0) (hc0 : l0.length ≤ c0) (h1 : impl_IsFormula.f k l0 = some false) :
  Calls Try.prog 33 #[.slice A0 l0.length c0] w fun e w' => ∃ v0_ : Value, e = .returned (v0_) ∧ Kd.R (Kd.int .i64) 3 w' w.heap.size (fun _ => True) v0_ [] ∧ Below w.heap.size w w' := by
 have HR0 := Aside0.mk hr0
 have HC0 := Aside0.mk hc0
 have H1 := Aside0.mk h1
 clear hr0 hc0 h1
 go_enter Try.func33, Try.ntmps33
 go_wp2_with (first
  | ((with_reducible refine gate_dst (N := 6) rfl ?_); refine Kd.R_lit (Kd.int .i64) (w0 := w) w.heap.size 3 ?hg (N := 6) ?hd (xs := ([] : List Int)) (inner := []) (ok := fun _ => True) (okp := fun _ => True) ?hr ?hp (fun _ hk => hk) trivial (Below.refl _ _) (Nat.le_refl _) (by simp) ?_; (case hd => rfl); (case hg => rfl); (case hr => first | (go_simp; done) | (go_simp; rfl)); (case hp => exact (Reps.none _ _)); intro v1 w1 ho hb _ _; have HO := Aside0.mk ho; have HB := Aside0.mk hb; clear ho hb)
  | (go_at_call 19; (with_reducible refine (impl_IsFormula.calls k _ _ l0 false _ ?side1 HC0.out H1.out).mono ?_); (case side1 => exact Kd.C_below HR0.out HB.out); rintro e w2 ⟨rfl, hb2⟩; have HO2 := Aside0.mk (Kd.R_below HO.out hb2); have HB2 := Aside0.mk (below_then HB.out HB.out.size hb2); clear hb2))
 go_ret
 exact ⟨_, rfl, HO2.out, HB2.out⟩
theorem impl_FreeVariables.calls (k : Nat) (A0 : Option Addr) (c0 : Nat) (l0 : List (S48)) (r : List Int) (w : World) (hr0 : Kd.C k48 w A0 l0.length l0) (hc0 : l0.length ≤ c0) (h : impl_FreeVariables.f k l0 = some r) :
  Calls Try.prog 33 #[.slice A0 l0.length c0] w fun e w' => ∃ v0_ : Value, e = .returned (v0_) ∧ Kd.R (Kd.int .i64) 3 w' w.heap.size (fun _ => True) v0_ r ∧ Below w.heap.size w w' := by
 unfold impl_FreeVariables.f at h
 obtain ⟨t, ht, h⟩ := Option.bind_eq_some_iff.1 h
 cases t with
 | true =>
  rw [if_pos rfl] at h
  obtain ⟨o, ho, h⟩ := Option.bind_eq_some_iff.1 h
  obtain rfl := Option.some.inj h
  exact impl_FreeVariables.yes k A0 c0 l0 o w hr0 hc0 ht ho
 | false =>
  rw [if_neg (by decide)] at h
  obtain rfl := Option.some.inj h
  exact impl_FreeVariables.no k A0 c0 l0 w hr0 hc0 ht

end Go.Proofs.Ytdckaflfgbbabaa.Q
