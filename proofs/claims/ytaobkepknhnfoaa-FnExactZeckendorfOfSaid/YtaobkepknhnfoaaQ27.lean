-- written by a program of this session (a turned copy of the kit's print) out of the translation
import Derived.Test.YtaobkepknhnfoaaQ0
import Derived.Test.YtaobkepknhnfoaaQ3
import Derived.Test.YtaobkepknhnfoaaQ23
import Derived.Test.YtaobkepknhnfoaaQ26
namespace Go.Proofs.Ytaobkepknhnfoaa.Q
open Go.RowKit Go.Proofs.YtaobkepknhnfoaaW.PrintWords Go.Proofs.YtaobkepknhnfoaaW.PrintLast Go.Proofs.YtaobkepknhnfoaaW.PrintMore
attribute [local go_sem] max2_int min2_int max_two min_two max_three min_three max_four min_four   -- for this text's walks alone
set_option linter.unusedVariables false
set_option linter.unusedSimpArgs false

/-! ### impl_ZeckendorfOf: function 28 -/
def zgo : Nat → Int → List Int → List Int
  | 0, _, out => out
  | m + 1, n, out => if fibN m ≤ n then zgo m (wrap64 (n - fibN m)) (out ++ [1]) else if 0 < out.length then zgo m n (out ++ [0]) else zgo m n out
def impl_ZeckendorfOf.f (a0 : Int) : Option (List Int) := (impl_hasForm.f a0).bind fun t => if t = true then some (zgo 40 a0 []) else some []
set_option maxHeartbeats 1000000 in
theorem impl_ZeckendorfOf.no (a0 : Int) (w : World) (h : impl_hasForm.f a0 = some false) :
    Calls Try.prog 28 #[.int .i64 a0] w fun e w' => ∃ v0_ : Value, e = .returned (v0_) ∧ Kd.R (Kd.int .i64) 3 w' w.heap.size (fun _ => True) v0_ [] ∧ Below w.heap.size w w' := by
  have HZ := Aside0.mk h
  clear h
  go_enter Try.func28, Try.ntmps28
  go_wp2_with (first
    | ((with_reducible refine gate_dst (N := 6) rfl ?_); refine Kd.R_lit (Kd.int .i64) (w0 := w) w.heap.size 3 ?hg (N := 6) ?hd (xs := ([] : List Int)) (inner := []) (ok := fun _ => True) (okp := fun _ => True) ?hr ?hp (fun _ hk => hk) trivial (Below.refl _ _) (Nat.le_refl _) (by simp) ?_; (case hd => rfl); (case hg => rfl); (case hr => first | (go_simp; done) | (go_simp; rfl)); (case hp => exact (Reps.none _ _)); intro v1 w1 ho hb _ _; have HO := Aside0.mk ho; have HB := Aside0.mk hb; clear ho hb)
    | (go_at_call 38; (with_reducible refine (impl_hasForm.calls a0 false _ HZ.out).mono ?_); rintro e w2 ⟨rfl, hb2⟩; have HB2 := Aside0.mk hb2; clear hb2))
  go_ret
  exact ⟨_, rfl, Kd.R_below HO.out HB2.out, below_then HB.out HB.out.size HB2.out⟩
/-- The state of the loop. -/
structure ZAt (w wr : World) (g : Nat) (n : Int) (v : Value) (out : List Int) (m : Nat) (r : List Int) : Prop where
  var : FibVar w wr g
  own : Kd.R (Kd.int .i64) 3 wr w.heap.size (fun _ => True) v out
  len : out.length + m ≤ 40
  res : zgo m n out = r
theorem ZAt.push {w wr w2 : World} {g : Nat} {n n' : Int} {v v2 : Value} {out : List Int} {m : Nat} {r : List Int} (H : ZAt w wr g n v out (m + 1) r) (x : Int) (hg : wr.grownBy w2 v.ownBlock) (hb : Below w.heap.size w w2)
    (ho : Kd.R (Kd.int .i64) 3 w2 w.heap.size (fun _ => True) v2 (out ++ [x])) (hr : zgo (m + 1) n out = zgo m n' (out ++ [x])) : ZAt w w2 g n' v2 (out ++ [x]) m r :=
  ⟨⟨blk_grown H.var.arr hg (Kd.R_ne H.own H.var.arr (by decide)), H.var.ge, hb⟩, ho, by have := H.len; simp; omega, hr ▸ H.res⟩
set_option maxHeartbeats 2000000 in
set_option maxRecDepth 100000 in
theorem impl_ZeckendorfOf.yes (a0 : Int) (w : World) (h : impl_hasForm.f a0 = some true) :
    Calls Try.prog 28 #[.int .i64 a0] w fun e w' => ∃ v0_ : Value, e = .returned (v0_) ∧ Kd.R (Kd.int .i64) 3 w' w.heap.size (fun _ => True) v0_ (zgo 40 a0 []) ∧ Below w.heap.size w w' := by
  have HZ := Aside0.mk h
  clear h
  go_enter Try.func28, Try.ntmps28
  go_wp2_with (first
    | ((with_reducible refine gate_dst (N := 6) rfl ?_); refine Kd.R_lit (Kd.int .i64) (w0 := w) w.heap.size 3 ?hg (N := 6) ?hd (xs := ([] : List Int)) (inner := []) (ok := fun _ => True) (okp := fun _ => True) ?hr ?hp (fun _ hk => hk) trivial (Below.refl _ _) (Nat.le_refl _) (by simp) ?_; (case hd => rfl); (case hg => rfl); (case hr => first | (go_simp; done) | (go_simp; rfl)); (case hp => exact (Reps.none _ _)); intro v1 w1 ho hb _ _; have HO := Aside0.mk ho; have HB := Aside0.mk hb; clear ho hb)
    | (go_at_call 38; (with_reducible refine (impl_hasForm.calls a0 true _ HZ.out).mono ?_); rintro e w2 ⟨rfl, hb2⟩; have HO2 := Aside0.mk (Kd.R_below HO.out hb2); have HB2 := Aside0.mk (below_then HB.out HB.out.size hb2); clear hb2)
    | (go_at_call 36; refine (impl_fibonacci.calls _).mono ?_; rintro e w3 ⟨rfl, hb3⟩; have HO3 := Aside0.mk (Kd.R_below HO2.out hb3); have HB3 := Aside0.mk (below_then HB2.out HB2.out.size hb3); clear hb3)
    | ((with_reducible refine gate_store (t := 44) (p := 4) rfl ?_); refine wpList_store_row rfl 44 (.tmp 4) (.tmp 11) rfl _ (fibC 41) rfl rfl 44 (fibC 0) (blk_new _ _) (fib_info 41) ((fibC_size 0).trans (fibC_size 41).symm) (fibC_one 41) ?_))
  have HS : Aside0 (ZAt w ((w3.alloc (.cells (fibC 0) 44)).setRow w3.heap.size (fibC 41)) w3.heap.size a0 v1 [] 40 (zgo 40 a0 [])) :=
    ⟨⟨FibVar.new HB3.out, Kd.R_step HO3.out (fun k _ hk => by rw [setRow_other _ _ _ _ (by omega)]; exact (below_alloc (Below.refl _ _) _).block k hk), by simp, rfl⟩⟩
  clear HO HB HO2 HB2 HO3 HB3 HZ
  go_loopw [0, 3, 5] (fun s0 s3 i wr => ∃ (k n : Int) (v : Value) (out : List Int), -1 ≤ k ∧ k ≤ 39 ∧ i = .int .i64 k ∧ s0 = .int .i64 n ∧ s3 = v ∧ Aside0 (ZAt w wr w3.heap.size n v out (k + 1).toNat (zgo 40 a0 []))) (fun _ _ i _ => (intOf i + 1).toNat)
  case atStart => exact ⟨39, a0, _, [], by omega, by omega, rfl, rfl, rfl, HS⟩
  case round =>
    clear HS
    obtain ⟨k, n, v, out, h0, h1, rfl, rfl, rfl, HA⟩ := hrel
    by_cases hk : 0 ≤ k
    · obtain ⟨m, rfl⟩ : ∃ m : Nat, k = m := ⟨k.toNat, by omega⟩
      have HA2 : Aside0 (ZAt w wr w3.heap.size n u3 out (m + 1) (zgo 40 a0 [])) := by
        have := HA
        rwa [show ((m : Int) + 1).toNat = m + 1 by omega] at this
      clear HA
      have hf := HA2.out.var.cell m (by omega)
      have HL := Aside0.mk HA2.out.len
      by_cases hge : fibN m ≤ n
      · have HR := Aside0.mk (show zgo (m + 1) n out = zgo m (wrap64 (n - fibN m)) (out ++ [1]) by rw [zgo, if_pos hge])
        go_wp2_with (((with_reducible refine gate_builtin (b := .append) (xs := #[.tmp 27, .tmp 28]) rfl ?_); at_builtin; refine Kd.R_append (Kd.int .i64) (w0 := w) w.heap.size rfl (.tmp 27) (.tmp 28) 24 3 (.int .i64 0) 8 rfl Try.underlying24 info3 rfl (by decide) (by omega) u3 out 1 [.int .i64 1] (fun _ => True) (fun _ => False) rfl rfl ?aP (fun _ hk => hk.elim) ?aF ?aO ?aB ?aS ?aL ?_; (case aP => exact rfl); (case aB => exact HA2.out.var.bel); (case aF => exact (fun _ _ => trivial)); (case aO => exact HA2.out.own); (case aS => exact below_size HA2.out.var.bel); (case aL => have := HL.out; omega); intro v2 w4 ho hb hg hat; have HA3 := Aside0.mk (HA2.out.push (n' := wrap64 (n - fibN m)) 1 hg hb ho HR.out); clear ho hb hg hat))
        go_roundw
        case measure => simp [intOf]
        case rel => exact ⟨(m : Int) - 1, _, _, _, by omega, by omega, rfl, rfl, rfl, by rw [show ((m : Int) - 1 + 1).toNat = m by omega]; exact HA3⟩
      · obtain ⟨Ao, co, eo⟩ := Kd.R_slice HA2.out.own
        subst eo
        by_cases hl : 0 < out.length
        · have HR := Aside0.mk (show zgo (m + 1) n out = zgo m n (out ++ [0]) by rw [zgo, if_neg hge, if_pos hl])
          go_wp2_with (((with_reducible refine gate_builtin (b := .append) (xs := #[.tmp 34, .tmp 35]) rfl ?_); at_builtin; refine Kd.R_append (Kd.int .i64) (w0 := w) w.heap.size rfl (.tmp 34) (.tmp 35) 24 3 (.int .i64 0) 8 rfl Try.underlying24 info3 rfl (by decide) (by omega) (.slice Ao out.length co) out 0 [.int .i64 0] (fun _ => True) (fun _ => False) rfl rfl ?aP (fun _ hk => hk.elim) ?aF ?aO ?aB ?aS ?aL ?_; (case aP => exact rfl); (case aB => exact HA2.out.var.bel); (case aF => exact (fun _ _ => trivial)); (case aO => exact HA2.out.own); (case aS => exact below_size HA2.out.var.bel); (case aL => have := HL.out; omega); intro v2 w4 ho hb hg hat; have HA3 := Aside0.mk (HA2.out.push (n' := n) 0 hg hb ho HR.out); clear ho hb hg hat))
          go_roundw
          case measure => simp [intOf]
          case rel => exact ⟨(m : Int) - 1, _, _, _, by omega, by omega, rfl, rfl, rfl, by rw [show ((m : Int) - 1 + 1).toNat = m by omega]; exact HA3⟩
        · have HA3 : Aside0 (ZAt w wr w3.heap.size n (.slice Ao out.length co) out m (zgo 40 a0 [])) :=
            ⟨⟨HA2.out.var, HA2.out.own, by have := HL.out; omega, by rw [← HA2.out.res, zgo, if_neg hge, if_neg hl]⟩⟩
          go_wp2
          go_roundw
          case measure => simp [intOf]
          case rel => exact ⟨(m : Int) - 1, _, _, _, by omega, by omega, rfl, rfl, rfl, by rw [show ((m : Int) - 1 + 1).toNat = m by omega]; exact HA3⟩
    · have e : k = -1 := by omega
      subst e
      go_wp2
      go_ret
      have hr := HA.out.res
      exact ⟨_, rfl, by rw [← hr]; exact HA.out.own, HA.out.var.bel⟩
theorem impl_ZeckendorfOf.calls (a0 : Int) (r : List Int) (w : World) (h : impl_ZeckendorfOf.f a0 = some r) :
    Calls Try.prog 28 #[.int .i64 a0] w fun e w' => ∃ v0_ : Value, e = .returned (v0_) ∧ Kd.R (Kd.int .i64) 3 w' w.heap.size (fun _ => True) v0_ r ∧ Below w.heap.size w w' := by
  unfold impl_ZeckendorfOf.f at h
  obtain ⟨t, ht, h⟩ := Option.bind_eq_some_iff.1 h
  cases t with
  | true =>
    rw [if_pos rfl] at h
    obtain rfl := Option.some.inj h
    exact impl_ZeckendorfOf.yes a0 w ht
  | false =>
    rw [if_neg (by decide)] at h
    obtain rfl := Option.some.inj h
    exact impl_ZeckendorfOf.no a0 w ht

end Go.Proofs.Ytaobkepknhnfoaa.Q
