-- written by a program of this session
-- compact
-- shrunk
import Derived.Test.YtgopcliohchkmaaQ0
import Derived.Test.YtgopcliohchkmaaQ240
import Derived.Test.YtgopcliohchkmaaQ3
import Derived.Test.YtgopcliohchkmaaQ4
import Derived.Test.YtgopcliohchkmaaQ5
namespace Go.Proofs.Ytgopcliohchkmaa.Q
open Go.RowKit Go.Proofs.YtgopcliohchkmaaW.PrintWords Go.Proofs.YtgopcliohchkmaaW.PrintLast Go.Proofs.YtgopcliohchkmaaW.PrintMore
set_option linter.unusedVariables false
set_option linter.unusedSimpArgs false

theorem goesC_ {P : Program} {ops : Array Oper} {Q : Exit → Act → World → Prop} {rest : List Oper} {oi : Oper} {a : Act} {w : World} (N : Option Tmp) (hd : oi.dst = N) (hg : oi.guard = none) {f : FuncId} {fn : Func} {xs_ : Array Operand} {ts : Array TypeId} {p : Tmp} {cap : Value} (hf : P.funcs[f]? = some fn) (hname : (fn.name == "runtime.NumGoroutine") = false) (hb : fn.body.isSome = true) (args : Array Value)
    (hop : oi.op = .call { callee := .value (.tmp p), args := xs_, argTypes := ts }) (hv : a.eval (.tmp p) = .func (.func f) #[] #[cap]) (hargs : (xs_.map a.eval).push cap = args)
    (h : Calls P f args w fun e w' => ∃ v, e = .returned v ∧ wpList P ops Q rest (a.put N v) w') : wpList P ops Q (oi :: rest) a w := by
  refine wpList_plain hg fun K hK => ?_
  have he := enters_ hf hname hb args w
  have hrun : (execOp a.eval oi).run P w = .ok (.enter f args) w := by
    unfold execOp
    simp [hop, hv, resolve, Deferred.ofValue, invoke]
    rw [hargs]
    simp [he]
  unfold Oper.wp
  rw [hrun, Oper.upon_enter]
  refine h.mono fun e w'' hh => ?_
  obtain ⟨v, rfl, hk⟩ := hh
  subst hd
  exact hK _ _ hk
/-! ### impl_madeN: function 52 -/
mutual
def impl_madeN.l0 : Nat → Int → Int → List Int → Int → Int → Int → Int → List (List Int) → Option (Int × Int × (List (List Int)) × List Bool × Bool)
 | 0, _, _, _, _, _, _, _, _ => none
 | k + 1, x0, x1, x3, x23, x24, x170000, x170001, x170002 => if x24 < x23 then ((impl_power.f k x0 x1).bind fun t173 => (impl_madeN.l1 k x0 x1 x3 x24 (([] : List Int)) x23 x24 t173 0 x170000 x170001 x170002)) else (some (x170000, x170001, x170002, ([] : List Bool), true))
def impl_madeN.l1 : Nat → Int → Int → List Int → Int → List Int → Int → Int → Int → Int → Int → Int → List (List Int) → Option (Int × Int × (List (List Int)) × List Bool × Bool)
 | 0, _, _, _, _, _, _, _, _, _, _, _, _ => none
 | k + 1, x0, x1, x3, x11, x12, x23, x24, x30, x31, x170000, x170001, x170002 => if x31 < x30 then ((impl_tracksOf.f k x0 x1 x31).bind fun t174 => ((impl_NumberRelation_1.f x11 t174 x3).bind fun t177 => (if x12.length < 17592186044416 then (impl_madeN.l1 k x0 x1 x3 x11 (x12 ++ [t177]) x23 x24 x30 (wrap64 (x31 + 1)) x170000 x170001 x170002) else (none)))) else (if x170002.length < 5864062014805 then (impl_madeN.l0 k x0 x1 x3 x23 (wrap64 (x24 + 1)) x170000 x170001 (x170002 ++ [x12])) else (none))
end
def impl_madeN.f (k : Nat) (a0 : Int) (a1 : Int) (l2 : List Bool) (l3 : List Int) : Option (Int × Int × (List (List Int)) × List Bool × Bool) := (impl_isSmallBase.f a0).bind fun t168 => (if t168 = true then (impl_madeN.l0 k a0 a1 l3 (l2.length : Int) 0 a0 a1 ([] : List (List Int))) else (some (0, 0, ([] : List (List Int)), ([] : List Bool), false)))
theorem impl_madeN.mono_l : ∀ k, (∀ y0 y1 y2 y3 y4 y5 y6 y7, LeO (impl_madeN.l0 k y0 y1 y2 y3 y4 y5 y6 y7) (impl_madeN.l0 (k + 1) y0 y1 y2 y3 y4 y5 y6 y7)) ∧ (∀ y0 y1 y2 y3 y4 y5 y6 y7 y8 y9 y10 y11, LeO (impl_madeN.l1 k y0 y1 y2 y3 y4 y5 y6 y7 y8 y9 y10 y11) (impl_madeN.l1 (k + 1) y0 y1 y2 y3 y4 y5 y6 y7 y8 y9 y10 y11))
 | 0 => ⟨fun _ _ _ _ _ _ _ _ r h => by simp [impl_madeN.l0] at h, fun _ _ _ _ _ _ _ _ _ _ _ _ r h => by simp [impl_madeN.l1] at h⟩
 | k + 1 => by
  obtain ⟨ih0, ih1⟩ := impl_madeN.mono_l k
  refine ⟨?_, ?_⟩ <;> intros <;> first | unfold impl_madeN.l0 | unfold impl_madeN.l1
  all_goals repeat' (with_reducible first | exact ih0 _ _ _ _ _ _ _ _ | exact ih1 _ _ _ _ _ _ _ _ _ _ _ _ | exact impl_power.mono _ _ _ | exact impl_tracksOf.mono _ _ _ _ | exact LeO.refl _ | exact LeO.none _ | refine LeO.ite ?_ ?_ | refine LeO.bind ?_ fun _ => ?_)
theorem impl_madeN.mono : ∀ a0 a1 a2 a3 k, LeO (impl_madeN.f k a0 a1 a2 a3) (impl_madeN.f (k + 1) a0 a1 a2 a3) := by
 intro a0 a1 a2 a3 k
 obtain ⟨ih0, ih1⟩ := impl_madeN.mono_l k
 unfold impl_madeN.f
 repeat' (with_reducible first | exact ih0 _ _ _ _ _ _ _ _ | exact ih1 _ _ _ _ _ _ _ _ _ _ _ _ | exact impl_power.mono _ _ _ | exact impl_tracksOf.mono _ _ _ _ | exact LeO.refl _ | exact LeO.none _ | refine LeO.ite ?_ ?_ | refine LeO.bind ?_ fun _ => ?_)
set_option maxHeartbeats 8000000 in
set_option maxRecDepth 100000 in
theorem impl_madeN.calls {P : Value} (k : Nat) (a0 : Int) (a1 : Int) (A2 : Option Addr) (c2 : Nat) (l2 : List Bool) (A3 : Option Addr) (c3 : Nat) (l3 : List Int) (r1 : Int) (r2 : Int) (r3 : List (List Int)) (r4 : List Bool) (r5 : Bool) (w : World) (hr2 : Kd.C Kd.bool w A2 l2.length l2) (hc2 : l2.length ≤ c2) (hr3 : Kd.C (Kd.int .i64) w A3 l3.length l3) (hc3 : l3.length ≤ c3) (h : impl_madeN.f k a0 a1 l2 l3 = some (r1, r2, r3, r4, r5)) (hbx : RowAt w P A3 l3.length c3) :
  Calls Try.prog 52 #[.int .i64 a0, .int .i64 a1, .slice A2 l2.length c2, .func (.func 60) #[] #[P]] w fun e w' => ∃ v2_ v3_ : Value, e = .returned (.tuple #[.agg #[.int .i64 r1, .int .i64 r2, v2_, v3_], .bool r5]) ∧ Kd.S (Kd.slice 3 (Kd.int .i64)) 38 w' w.heap.size (fun _ => True) v2_ r3 ∧ v3_ = (bif r5 then .slice A2 l2.length c2 else .slice none 0 0) ∧ Below w.heap.size w w' := by
 have hu25 := Try.underlying25
 have HR2 := yA hr2
 have HC2 := yA hc2
 clear hr2 hc2
 have HBX := yA hbx
 clear hbx
 have HR3 := yA hr3
 have HC3 := yA hc3
 clear hr3 hc3
 have HB := yA (zV w.heap.size w)
 have H : ((impl_isSmallBase.f a0).bind fun t168 => (if t168 = true then (impl_madeN.l0 k a0 a1 l3 (l2.length : Int) 0 a0 a1 ([] : List (List Int))) else (some (0, 0, ([] : List (List Int)), ([] : List Bool), false)))) = some (r1, r2, r3, r4, r5) := h
 clear h
 obtain ⟨t168, A5, H⟩ := bE H
 by_cases c6 : t168 = true
 ·subst c6
  replace H := iT H
  have H' := yA H
  clear H
  go_enter Try.func52, Try.ntmps52
  go_wp2_with (first | ((with_reducible refine gate_dst (N := 8) rfl ?_); refine box_event ?hg (N := 8) ?hd (cs := #[.int .i64 0, .int .i64 0, .slice none 0 0, .slice none 0 0]) (t := 25) ?hr ?_; (case hd => rfl); (case hg => rfl); (case hr => first | (go_simp; done) | (go_simp; rfl)); intro gb167 hg w7 hbox hb; have BK167 := yA (hbox); have GW167 := yA ((by rw [hg]; exact (yX (mB HB.out)) : w.heap.size ≤ gb167)); have GE167 := yA ((by rw [hg]; exact (yX (mB HB.out)) : w.heap.size ≤ gb167)); replace HB := yA (zD (mB HB.out) hb); clear hb hbox hg) | ((with_reducible refine zS (f := 58) rfl ?_); refine goesL_ (some 15) rfl rfl Try.func58 (by kernel_rfl) rfl #[.int .i64 a0] rfl (by (try simp only [zI, zJ, zK]); first | done | rfl | (simp only [zL, zM]; rfl)) ?_; (with_reducible refine (impl_isSmallBase.calls a0 true _ A5.out).mono ?_); rintro e w' ⟨rfl, ⟨nd, rfl⟩⟩; refine ⟨_, rfl, ?_⟩; (try (rw [drewN_self w7]; generalize hq_ : World.drewN w7 _ = w7; have n0_ : Aside0 (w7.heap[gb167]? = some (.cells #[.int .i64 0, .int .i64 0, .slice none 0 0, .slice none 0 0] 25 (0, 0))) := ⟨by rw [← hq_]; exact (mK BK167.out)⟩; have n1_ : Aside0 (Below w.heap.size w w7) := ⟨by rw [← hq_]; exact (by with_reducible repeat first | exact HB.out | apply yO | apply yN | apply yP | refine yQ ?_ GE167.out)⟩; clear BK167 HB hq_; have BK167 := n0_; have HB := n1_; clear n0_ n1_))) | ((with_reducible refine gate_dst (N := 10) rfl ?_); refine box_event ?hg (N := 10) ?hd (cs := #[.int .i64 0, .int .i64 0, .slice none 0 0, .slice none 0 0]) (t := 25) ?hr ?_; (case hd => rfl); (case hg => rfl); (case hr => first | (go_simp; done) | (go_simp; rfl)); intro gb169 hg w8 hbox hb; have BK169 := yA (hbox); have GW169 := yA ((by rw [hg]; exact (yX (by with_reducible repeat first | exact HB.out | apply yO | apply yN | apply yP | refine yQ ?_ GE167.out)) : w.heap.size ≤ gb169)); have GE169 := yA ((by rw [hg]; exact (yX (by with_reducible repeat first | exact HB.out | apply yO | apply yN | apply yP | refine yQ ?_ GE167.out)) : w.heap.size ≤ gb169)); replace HB := yA (zD (by with_reducible repeat first | exact HB.out | apply yO | apply yN | apply yP | refine yQ ?_ GE167.out) hb); have NB167_169 := yA ((by rw [hg]; exact Nat.ne_of_lt (zX (mK BK167.out)) : gb167 ≠ gb169)); have NB169_167 := yA ((by rw [hg]; exact Nat.ne_of_gt (zX (mK BK167.out)) : gb169 ≠ gb167)); replace BK167 := yA (yU (mK BK167.out) hb); clear hb hbox hg; have hnb9 := NB169_167.out; have hnc9 := NB167_169.out; have hcz10_0 : w8.cell? ⟨gb169, 0, none⟩ = some (.int .i64 0) := (yV BK169.out 0).trans rfl; have hcz10_1 : w8.cell? ⟨gb169, 1, none⟩ = some (.int .i64 0) := (yV BK169.out 1).trans rfl; have hcz10_2 : w8.cell? ⟨gb169, 2, none⟩ = some (.slice none 0 0) := (yV BK169.out 2).trans rfl; have hcz10_3 : w8.cell? ⟨gb169, 3, none⟩ = some (.slice none 0 0) := (yV BK169.out 3).trans rfl; have hfz10_0 := yW BK169.out 0; have hfz10_1 := yW BK169.out 1; have hfz10_2 := yW BK169.out 2; have hfz10_3 := yW BK169.out 3))
  go_loopg [24] k (fun kq v24 w' => ∃ (x24_1 : Int) (x170002_1 : List (List Int)) (u170002 : Value), v24 = .int .i64 x24_1 ∧ Aside0 (impl_madeN.l0 kq a0 a1 l3 (l2.length : Int) x24_1 a0 a1 x170002_1 = some (r1, r2, r3, r4, r5)) ∧ Aside0 (kq ≤ k) ∧ Aside0 (Kd.S (Kd.slice 3 (Kd.int .i64)) 38 w' w.heap.size (fun _ => True) u170002 x170002_1) ∧ Aside0 (w'.heap[gb167]? = some (.cells #[.int .i64 0, .int .i64 0, (.slice none 0 0), (.slice none 0 0)] 25 (0, 0))) ∧ Aside0 (w'.heap[gb169]? = some (.cells #[.int .i64 a0, .int .i64 a1, u170002, .slice A2 l2.length c2] 25 (0, 0))) ∧ Aside0 (Below w.heap.size w w'))
  case atStart => exact ⟨(0), (([] : List (List Int))), (.slice none 0 0), (by first | rfl | (simp; done) | (simp [*]; done)), H', ⟨zT _⟩, ⟨by first | exact Kd.S_nil _ _ _ _ _ | exact Kd.N_nil _ _ _ _ _ | exact Kd.V_nil _ _ _ _ _ | exact Kd.Q_nil _ _ _ _ _ | exact Kd.R_nil _ _ _ _ _⟩, ⟨by (with_reducible repeat (first | refine yS ?_ _ | refine yT ?_ | refine yR ?_ _)); refine blk_far ?_ NB167_169.out _; (with_reducible repeat (first | refine yS ?_ _ | refine yT ?_ | refine yR ?_ _)); refine blk_far ?_ NB167_169.out _; (with_reducible repeat (first | refine yS ?_ _ | refine yT ?_ | refine yR ?_ _)); refine blk_far ?_ NB167_169.out _; (with_reducible repeat (first | refine yS ?_ _ | refine yT ?_ | refine yR ?_ _)); refine blk_far ?_ NB167_169.out _; (with_reducible repeat (first | refine yS ?_ _ | refine yT ?_ | refine yR ?_ _)); exact BK167.out⟩, ⟨by (with_reducible repeat (first | refine yS ?_ _ | refine yT ?_ | refine yR ?_ _)); refine blk_put (cs := #[.int .i64 a0, .int .i64 a1, .slice none 0 0, .slice none 0 0]) ?_ 3 _ rfl; (with_reducible repeat (first | refine yS ?_ _ | refine yT ?_ | refine yR ?_ _)); refine blk_put (cs := #[.int .i64 a0, .int .i64 a1, .slice none 0 0, .slice none 0 0]) ?_ 2 _ rfl; (with_reducible repeat (first | refine yS ?_ _ | refine yT ?_ | refine yR ?_ _)); refine blk_put (cs := #[.int .i64 a0, .int .i64 0, .slice none 0 0, .slice none 0 0]) ?_ 1 _ rfl; (with_reducible repeat (first | refine yS ?_ _ | refine yT ?_ | refine yR ?_ _)); refine blk_put (cs := #[.int .i64 0, .int .i64 0, .slice none 0 0, .slice none 0 0]) ?_ 0 _ rfl; (with_reducible repeat (first | refine yS ?_ _ | refine yT ?_ | refine yR ?_ _)); exact BK169.out⟩, ⟨by repeat (first | (with_reducible first | exact HB.out | apply yO | apply yN | apply yP | refine yQ ?_ GE167.out | refine yQ ?_ GE169.out) | exact HB.out)⟩⟩
  case round =>
   clear H'
   (try clear c2);(try clear p2);(try clear c3);(try clear c5);(try clear c6);(try clear c9);(try clear hcz10_0);(try clear hcz10_1);(try clear hcz10_2);(try clear hcz10_3);(try clear hfz10_0);(try clear hfz10_1);(try clear hfz10_2);(try clear hfz10_3)
   obtain ⟨x24_1, x170002_1, u170002, rfl, HA, HK1, HO_170002, BK167, BK169, HB⟩ := hrel
   cases gk with
   | zero => exact absurd HA.out (by simp [impl_madeN.l0])
   | succ k1 =>
    have H := HA.out
    clear HA
    simp only [impl_madeN.l0] at H
    by_cases c11 : x24_1 < (l2.length : Int)
    ·rw [if_pos c11] at H
     have c11b0 : decide (x24_1 < (l2.length : Int)) = true := zH c11
     clear c11
     (first | ((with_reducible replace H := bS H); obtain ⟨y170, Ny170, H⟩ := H) | (obtain ⟨y170, Ny170⟩ : ∃ y_ : List Int, y_ = (([] : List Int)) := ⟨_, rfl⟩; rw [← Ny170] at H; replace Ny170 := yA Ny170))
     obtain ⟨t173, A12, H⟩ := bE H
     have H' := yA H
     clear H
     go_wp2_with (first | ((with_reducible refine gate_dst (N := 27) rfl ?_); refine Kd.R_lit (Kd.int .i64) _ 3 ?hg (N := 27) ?hd (xs := ([] : List Int)) (inner := []) (ok := fun _ => True) (okp := fun _ => True) ?hr ?hp (fun _ hk => hk) trivial (zV _ _) (zT _) (by simp) ?_; (case hd => rfl); (case hg => rfl); (case hr => first | (go_simp; done) | (go_simp; rfl)); (case hp => exact (Reps.none _ _)); intro v171 w13 ho14 hb hg_ hnew_; clear hg_ hnew_; (first | rw [← Ny170.out] at ho14 | (simp only [Int.reduceToNat] at ho14; rw [← Ny170.out] at ho14)); replace HO_170002 := yA (Kd.S_elder' (mS HO_170002.out) (yY ho14) hb); have HO172 := yA (Kd.R_lower ho14 (yX (by with_reducible repeat first | exact HB.out | apply yO | apply yN | apply yP | refine yQ ?_ GE167.out | refine yQ ?_ GE169.out))); replace BK167 := yA (yU (mK BK167.out) hb); replace BK169 := yA (yU (mK BK169.out) hb); replace HB := yA (zD (by with_reducible repeat first | exact HB.out | apply yO | apply yN | apply yP | refine yQ ?_ GE167.out | refine yQ ?_ GE169.out) hb); clear hb ho14) | ((with_reducible refine zS (f := 90) rfl ?_); refine goesL_ (some 30) rfl rfl Try.func90 (by kernel_rfl) rfl #[.int .i64 a0, .int .i64 a1] rfl (by (try simp only [zI, zJ, zK]); first | done | rfl | (simp only [zL, zM]; rfl)) ?_; (with_reducible refine (impl_power.calls k1 a0 a1 t173 _ A12.out).mono ?_); rintro e w' ⟨rfl, ⟨nd, rfl⟩⟩; refine ⟨_, rfl, ?_⟩))
     go_loopg [12, 31] k1 (fun kq v12 v31 w' => ∃ (x12_2 : List Int) (x31_2 : Int), v31 = .int .i64 x31_2 ∧ Aside0 (impl_madeN.l1 kq a0 a1 l3 x24_1 x12_2 (l2.length : Int) x24_1 t173 x31_2 a0 a1 x170002_1 = some (r1, r2, r3, r4, r5)) ∧ Aside0 (kq ≤ k1) ∧ Aside0 (Kd.R (Kd.int .i64) 3 w' w.heap.size (fun _ => True) v12 x12_2) ∧ Aside0 (Kd.S (Kd.slice 3 (Kd.int .i64)) 38 w' w.heap.size (fun k_ => some k_ ≠ (v12 : Value).ownBlock) u170002 x170002_1) ∧ Aside0 (w'.heap[gb167]? = some (.cells #[.int .i64 0, .int .i64 0, (.slice none 0 0), (.slice none 0 0)] 25 (0, 0))) ∧ Aside0 (w'.heap[gb169]? = some (.cells #[.int .i64 a0, .int .i64 a1, u170002, .slice A2 l2.length c2] 25 (0, 0))) ∧ Aside0 (Below w.heap.size w w'))
     case atStart => exact ⟨(y170), (0), (by first | rfl | (simp; done) | (simp [*]; done)), H', ⟨zT _⟩, ⟨mR HO172.out⟩, ⟨by (with_reducible repeat (first | apply yH | apply yI | apply yJ)); exact Kd.S_mono HO_170002.out (fun _ hk => hk.2)⟩, ⟨mK BK167.out⟩, ⟨mK BK169.out⟩, ⟨by repeat (first | (with_reducible first | exact HB.out | apply yO | apply yN | apply yP | refine yQ ?_ GE167.out | refine yQ ?_ GE169.out) | exact HB.out)⟩⟩
     case round =>
      clear H'
      (try clear c1);(try clear c2);(try clear p2);(try clear c3);(try clear c5);(try clear c6);(try clear c9);(try clear c11);(try clear c11b0);(try clear hcz10_0);(try clear hcz10_1);(try clear hcz10_2);(try clear hcz10_3);(try clear hfz10_0);(try clear hfz10_1);(try clear hfz10_2);(try clear hfz10_3);(try clear p2)
      obtain ⟨x12_2, x31_2, rfl, HA, HK2, HO_12, HO_170002, BK167, BK169, HB⟩ := hrel
      cases gk with
      | zero => exact absurd HA.out (by simp [impl_madeN.l1])
      | succ k2 =>
       have H := HA.out
       clear HA
       simp only [impl_madeN.l1] at H
       by_cases c15 : x31_2 < t173
       ·rw [if_pos c15] at H
        have c15b0 : decide (x31_2 < t173) = true := zH c15
        clear c15
        obtain ⟨t174, A16, H⟩ := bE H
        obtain ⟨t177, A17, H⟩ := bE H
        obtain ⟨c18, H⟩ := iP H
        have LMc18 := yA c18
        clear c18
        (first | ((with_reducible replace H := bS H); obtain ⟨y178, Ny178, H⟩ := H) | (obtain ⟨y178, Ny178⟩ : ∃ y_ : List Int, y_ = (x12_2 ++ [t177]) := ⟨_, rfl⟩; rw [← Ny178] at H; replace Ny178 := yA Ny178))
        have H' := yA H
        clear H
        go_wp2_with (first | ((with_reducible refine zS (f := 91) rfl ?_); refine goesL_ (some 40) rfl rfl Try.func91 (by kernel_rfl) rfl #[.int .i64 a0, .int .i64 a1, .int .i64 x31_2] rfl (by (try simp only [zI, zJ, zK]); first | done | rfl | (simp only [zL, zM]; rfl)) ?_; (with_reducible refine (impl_tracksOf.calls k2 a0 a1 x31_2 t174 _ A16.out).mono ?_); rintro e w19 ⟨v175, rfl, ho0, hb⟩; refine ⟨_, rfl, ?_⟩; replace HO_170002 := yA (Kd.S_elder' (mS HO_170002.out) (yY ho0) hb); have HO176 := yA (Kd.R_lower (Kd.R_new' ho0 (yZ (mR HO_12.out))) (yX (by with_reducible repeat first | exact HB.out | apply yO | apply yN | apply yP | refine yQ ?_ GE167.out | refine yQ ?_ GE169.out))); replace HO_12 := yA (zO (mR HO_12.out) (yY ho0) hb); replace BK167 := yA (yU (mK BK167.out) hb); replace BK169 := yA (yU (mK BK169.out) hb); replace HB := yA (zD (by with_reducible repeat first | exact HB.out | apply yO | apply yN | apply yP | refine yQ ?_ GE167.out | refine yQ ?_ GE169.out) hb); (try clear hb); (try clear hb2); (try clear hk); (try clear hi); (try clear ho0); obtain ⟨Ao20, co20, eo20⟩ := Kd.R_slice HO176.out; subst eo20) | ((with_reducible refine gate_dst (N := 41) rfl ?_); refine goesC_ (some 41) rfl rfl Try.func60 (by kernel_rfl) rfl #[.int .i64 x24_1, .slice Ao20 t174.length co20, P] rfl rfl (by (try simp only [zI, zJ, zK]); first | done | rfl | (simp only [zL, zM]; rfl)) ?_; (with_reducible refine (impl_NumberRelation_1.calls x24_1 _ _ t174 _ _ l3 t177 _ ?side1 ?side2 ?side3 ?side4 A17.out (RowAt.below HBX.out (by with_reducible repeat first | exact HB.out | apply yO | apply yN | apply yP | refine yQ ?_ GE167.out | refine yQ ?_ GE169.out))).mono ?_); (case side1 => exact mC ((zN HO176.out).2.2)); (case side2 => exact (zN HO176.out).2.1); (case side3 => exact mC (yM HR3.out HB.out)); (case side4 => exact HC3.out); rintro e w' ⟨rfl, ⟨nd, rfl⟩⟩; refine ⟨_, rfl, ?_⟩) | ((with_reducible refine gate_builtin (b := .append) (xs := #[.tmp 34, .tmp 42]) rfl ?_); at_builtin; refine Kd.R_append (Kd.int .i64) (w0 := w) w.heap.size rfl (.tmp 34) (.tmp 42) 38 3 (.int .i64 0) 8 rfl Try.underlying38 info3 rfl (by decide) (by omega) u12 x12_2 t177 [.int .i64 t177] (fun k_ => some k_ ≠ (.slice Ao20 t174.length co20 : Value).ownBlock) (fun _ => False) rfl rfl ?aP (fun _ hk => hk.elim) ?aF ?aO ?aB ?aS ?aL ?_; (case aP => exact rfl); (case aB => exact (by with_reducible repeat first | exact HB.out | apply yO | apply yN | apply yP | refine yQ ?_ GE167.out | refine yQ ?_ GE169.out)); (case aF => exact (fun k_ hk => Kd.fresh' (yZ (mR HO176.out)) k_ hk)); (case aO => exact (mR (zP HO_12.out (fun _ hk => hk.2)))); (case aS => exact (yX (by with_reducible repeat first | exact HB.out | apply yO | apply yN | apply yP | refine yQ ?_ GE167.out | refine yQ ?_ GE169.out))); (case aL => have := LMc18.out; omega); intro v179 w21 ho hb hg hat; rw [← Ny178.out] at ho; replace HO_170002 := yA (Kd.S_after (ok := (fun k_ => some k_ ≠ (.slice Ao20 t174.length co20 : Value).ownBlock)) (mS (Kd.S_mono HO_170002.out (fun _ hk => ⟨hk.2, hk.1⟩))) hg hat); replace BK167 := yA (blk_grown (g := gb167) (o := .cells #[.int .i64 0, .int .i64 0, .slice none 0 0, .slice none 0 0] 25 (0, 0)) (mK BK167.out) hg (zW HO_12.out BK167.out (by decide))); replace BK169 := yA (blk_grown (g := gb169) (o := .cells #[.int .i64 a0, .int .i64 a1, u170002, .slice A2 l2.length c2] 25 (0, 0)) (mK BK169.out) hg (zW HO_12.out BK169.out (by decide))); replace HO176 := yA (Kd.R_after (ok := (fun _ => True)) (mR HO176.out) hg hat); replace HB := yA (hb); have HO180 := yA (ho); clear HO_12; clear ho hb hg hat))
        go_roundg k2
        case measure => have := HK1.out; have := HK2.out; omega
        case rel => exact ⟨(y178), (wrap64 (x31_2 + 1)), (by first | rfl | (simp; done) | (simp [*]; done)), H', ⟨by have := HK1.out; have := HK2.out; omega⟩, ⟨by (with_reducible repeat (first | apply yB | apply yC | apply yD)); exact zP HO180.out (fun _ hk => trivial)⟩, ⟨by (with_reducible repeat (first | apply yH | apply yI | apply yJ)); exact Kd.S_mono HO_170002.out (fun _ hk => hk.2)⟩, ⟨mK BK167.out⟩, ⟨mK BK169.out⟩, ⟨by repeat (first | (with_reducible first | exact HB.out | apply yO | apply yN | apply yP | refine yQ ?_ GE167.out | refine yQ ?_ GE169.out) | exact HB.out)⟩⟩
       ·rw [if_neg c15] at H
        have c15b0 : decide (x31_2 < t173) = false := decide_eq_false c15
        clear c15
        obtain ⟨c22, H⟩ := iP H
        have LMc22 := yA c22
        clear c22
        (first | ((with_reducible replace H := bS H); obtain ⟨y181, Ny181, H⟩ := H) | (obtain ⟨y181, Ny181⟩ : ∃ y_ : List (List Int), y_ = (x170002_1 ++ [x12_2]) := ⟨_, rfl⟩; rw [← Ny181] at H; replace Ny181 := yA Ny181))
        have H' := yA H
        clear H
        have hnb23 := NB169_167.out
        have hnc23 := NB167_169.out
        obtain ⟨hcz24_0, hcz24_1, hcz24_2, hcz24_3⟩ := cz4 BK169.out
        obtain ⟨hfz24_0, hfz24_1, hfz24_2, hfz24_3⟩ := fz4 BK169.out
        obtain ⟨Ao26, co26, eo26⟩ := Kd.R_slice HO_12.out
        subst eo26
        go_wp2_with (first | ((with_reducible refine gate_builtin (b := .append) (xs := #[.tmp 46, .tmp 48]) rfl ?_); at_builtin; refine Kd.S_append (Kd.slice 3 (Kd.int .i64)) (w0 := w) w.heap.size rfl (.tmp 46) (.tmp 48) 22 38 (.slice none 0 0) 24 rfl Try.underlying22 info38 rfl (by decide) (by omega) u170002 x170002_1 x12_2 [.slice Ao26 x12_2.length co26] (fun _ => True) (fun k_ => some k_ = (.slice Ao26 x12_2.length co26 : Value).ownBlock) rfl rfl ?aP (fun k_ hk_ => ((zP (ok' := fun k_ => ((fun _ => True)) k_ ∧ some k_ ≠ (u170002 : Value).ownBlock) (Kd.R_apart' (HO_12.out) (Kd.S_typed HO_170002.out) (by decide)) (fun k_ hk => ⟨trivial, hk.2⟩))).1 k_ hk_.symm) ?aF ?aO ?aB ?aS ?aL ?_; (case aP => exact Kd.M_row (zP (Kd.R_tight rfl (zP (ok' := fun k_ => ((fun _ => True)) k_ ∧ some k_ ≠ (u170002 : Value).ownBlock) (Kd.R_apart' (HO_12.out) (Kd.S_typed HO_170002.out) (by decide)) (fun k_ hk => ⟨trivial, hk.2⟩))) (fun _ h_ => h_))); (case aB => exact (by with_reducible repeat first | exact HB.out | apply yO | apply yN | apply yP | refine yQ ?_ GE167.out | refine yQ ?_ GE169.out)); (case aF => exact (fun _ _ => trivial)); (case aO => exact (mS (Kd.S_mono HO_170002.out (fun k_ hk => ⟨trivial, fun e_ => hk e_⟩)))); (case aS => exact (yX (by with_reducible repeat first | exact HB.out | apply yO | apply yN | apply yP | refine yQ ?_ GE167.out | refine yQ ?_ GE169.out))); (case aL => have := LMc22.out; omega); intro v182 w25 ho hb hg hat; rw [← Ny181.out] at ho; replace BK167 := yA (blk_grown (g := gb167) (o := .cells #[.int .i64 0, .int .i64 0, .slice none 0 0, .slice none 0 0] 25 (0, 0)) (mK BK167.out) hg (Kd.S_ne HO_170002.out BK167.out (by decide))); replace BK169 := yA (blk_grown (g := gb169) (o := .cells #[.int .i64 a0, .int .i64 a1, u170002, .slice A2 l2.length c2] 25 (0, 0)) (mK BK169.out) hg (Kd.S_ne HO_170002.out BK169.out (by decide))); replace HB := yA (hb); have HO183 := yA (ho); clear HO_170002 HO_12; clear ho hb hg hat; obtain ⟨Ao27, co27, eo27⟩ := Kd.S_slice HO183.out; subst eo27; have hcz28_0 : w25.cell? ⟨gb169, 0, none⟩ = some (.int .i64 a0) := (yV BK169.out 0).trans rfl; have hcz28_1 : w25.cell? ⟨gb169, 1, none⟩ = some (.int .i64 a1) := (yV BK169.out 1).trans rfl; have hcz28_2 : w25.cell? ⟨gb169, 2, none⟩ = some (u170002) := (yV BK169.out 2).trans rfl; have hcz28_3 : w25.cell? ⟨gb169, 3, none⟩ = some (.slice A2 l2.length c2) := (yV BK169.out 3).trans rfl; have hfz28_0 := yW BK169.out 0; have hfz28_1 := yW BK169.out 1; have hfz28_2 := yW BK169.out 2; have hfz28_3 := yW BK169.out 3))
        go_roundg k2
        case measure => have := HK1.out; have := HK2.out; omega
        case rel => exact ⟨(wrap64 (x24_1 + 1)), (y181), (.slice Ao27 y181.length co27), (by first | rfl | (simp; done) | (simp [*]; done)), H', ⟨by have := HK1.out; have := HK2.out; omega⟩, ⟨by (with_reducible repeat (first | apply yH | apply yI | apply yJ)); exact Kd.S_mono (Kd.S_far (p := ⟨gb169, 2, none⟩) (Kd.S_types HO183.out BK169.out (by decide)) (fun _ hk => hk.2) (.slice Ao27 y181.length co27)) (fun _ hk => trivial)⟩, ⟨by (with_reducible repeat (first | refine yS ?_ _ | refine yT ?_ | refine yR ?_ _)); refine blk_far ?_ NB167_169.out _; (with_reducible repeat (first | refine yS ?_ _ | refine yT ?_ | refine yR ?_ _)); exact BK167.out⟩, ⟨by (with_reducible repeat (first | refine yS ?_ _ | refine yT ?_ | refine yR ?_ _)); refine blk_put (cs := #[.int .i64 a0, .int .i64 a1, u170002, .slice A2 l2.length c2]) ?_ 2 _ rfl; (with_reducible repeat (first | refine yS ?_ _ | refine yT ?_ | refine yR ?_ _)); exact BK169.out⟩, ⟨by repeat (first | (with_reducible first | exact HB.out | apply yO | apply yN | apply yP | refine yQ ?_ GE167.out | refine yQ ?_ GE169.out) | exact HB.out)⟩⟩
    ·rw [if_neg c11] at H
     have c11b0 : decide (x24_1 < (l2.length : Int)) = false := decide_eq_false c11
     clear c11
     simp only [Option.some.injEq, Prod.mk.injEq] at H
     obtain ⟨rfl, rfl, rfl, rfl, rfl⟩ := H
     have hnb29 := NB169_167.out
     have hnc29 := NB167_169.out
     obtain ⟨hcz30_0, hcz30_1, hcz30_2, hcz30_3⟩ := cz4 BK169.out
     obtain ⟨hfz30_0, hfz30_1, hfz30_2, hfz30_3⟩ := fz4 BK169.out
     obtain ⟨hcz31_0, hcz31_1, hcz31_2, hcz31_3⟩ := cz4 BK167.out
     obtain ⟨hfz31_0, hfz31_1, hfz31_2, hfz31_3⟩ := fz4 BK167.out
     obtain ⟨Ao32, co32, eo32⟩ := Kd.S_slice HO_170002.out
     subst eo32
     go_wp2
     refine bodyPost_ret (results_ct rfl _ _ gb167 25 #[.int .i64 a0, .int .i64 a1, .slice Ao32 x170002_1.length co32, .slice A2 l2.length c2] (0, 0) _ rfl (by (with_reducible repeat (first | refine yS ?_ _ | refine yT ?_ | refine yR ?_ _)); refine blk_put (cs := #[.int .i64 a0, .int .i64 a1, .slice Ao32 x170002_1.length co32, .slice none 0 0]) ?_ 3 _ rfl; (with_reducible repeat (first | refine yS ?_ _ | refine yT ?_ | refine yR ?_ _)); refine blk_put (cs := #[.int .i64 a0, .int .i64 a1, .slice none 0 0, .slice none 0 0]) ?_ 2 _ rfl; (with_reducible repeat (first | refine yS ?_ _ | refine yT ?_ | refine yR ?_ _)); refine blk_put (cs := #[.int .i64 a0, .int .i64 0, .slice none 0 0, .slice none 0 0]) ?_ 1 _ rfl; (with_reducible repeat (first | refine yS ?_ _ | refine yT ?_ | refine yR ?_ _)); refine blk_put (cs := #[.int .i64 0, .int .i64 0, .slice none 0 0, .slice none 0 0]) ?_ 0 _ rfl; (with_reducible repeat (first | refine yS ?_ _ | refine yT ?_ | refine yR ?_ _)); exact BK167.out) Try.underlying25 rfl (by kernel_rfl)) rfl ?_
     exact ⟨_, _, by first | rfl | (simp [errW_none, errW_some] <;> rfl) | (simp [*, errW_none, errW_some] <;> rfl), by (with_reducible repeat (first | apply yH | apply yI | apply yJ)); exact Kd.S_mono (Kd.S_far (p := ⟨gb167, 3, none⟩) (Kd.S_far (p := ⟨gb167, 2, none⟩) (Kd.S_far (p := ⟨gb167, 1, none⟩) (Kd.S_far (p := ⟨gb167, 0, none⟩) (Kd.S_types HO_170002.out BK167.out (by decide)) (fun _ hk => hk.2) (.int .i64 a0)) (fun _ hk => hk.2) (.int .i64 a1)) (fun _ hk => hk.2) (.slice Ao32 x170002_1.length co32)) (fun _ hk => hk.2) (.slice A2 l2.length c2)) (fun _ hk => trivial), rfl, by repeat (first | (with_reducible first | exact HB.out | apply yO | apply yN | apply yP | refine yQ ?_ GE167.out | refine yQ ?_ GE169.out) | exact HB.out)⟩
 ·replace c6 := Bool.eq_false_iff.mpr c6
  subst c6
  replace H := iF H
  simp only [Option.some.injEq, Prod.mk.injEq] at H
  obtain ⟨rfl, rfl, rfl, rfl, rfl⟩ := H
  go_enter Try.func52, Try.ntmps52
  go_wp2_with (first | ((with_reducible refine gate_dst (N := 8) rfl ?_); refine box_event ?hg (N := 8) ?hd (cs := #[.int .i64 0, .int .i64 0, .slice none 0 0, .slice none 0 0]) (t := 25) ?hr ?_; (case hd => rfl); (case hg => rfl); (case hr => first | (go_simp; done) | (go_simp; rfl)); intro gb167 hg w33 hbox hb; have BK167 := yA (hbox); have GW167 := yA ((by rw [hg]; exact (yX (mB HB.out)) : w.heap.size ≤ gb167)); have GE167 := yA ((by rw [hg]; exact (yX (mB HB.out)) : w.heap.size ≤ gb167)); replace HB := yA (zD (mB HB.out) hb); clear hb hbox hg) | ((with_reducible refine zS (f := 58) rfl ?_); refine goesL_ (some 15) rfl rfl Try.func58 (by kernel_rfl) rfl #[.int .i64 a0] rfl (by (try simp only [zI, zJ, zK]); first | done | rfl | (simp only [zL, zM]; rfl)) ?_; (with_reducible refine (impl_isSmallBase.calls a0 false _ A5.out).mono ?_); rintro e w' ⟨rfl, ⟨nd, rfl⟩⟩; refine ⟨_, rfl, ?_⟩; (try (rw [drewN_self w33]; generalize hq_ : World.drewN w33 _ = w33; have n0_ : Aside0 (w33.heap[gb167]? = some (.cells #[.int .i64 0, .int .i64 0, .slice none 0 0, .slice none 0 0] 25 (0, 0))) := ⟨by rw [← hq_]; exact (mK BK167.out)⟩; have n1_ : Aside0 (Below w.heap.size w w33) := ⟨by rw [← hq_]; exact (by with_reducible repeat first | exact HB.out | apply yO | apply yN | apply yP | refine yQ ?_ GE167.out)⟩; clear BK167 HB hq_; have BK167 := n0_; have HB := n1_; clear n0_ n1_)); have hcz34_0 : w33.cell? ⟨gb167, 0, none⟩ = some (.int .i64 0) := (yV BK167.out 0).trans rfl; have hcz34_1 : w33.cell? ⟨gb167, 1, none⟩ = some (.int .i64 0) := (yV BK167.out 1).trans rfl; have hcz34_2 : w33.cell? ⟨gb167, 2, none⟩ = some (.slice none 0 0) := (yV BK167.out 2).trans rfl; have hcz34_3 : w33.cell? ⟨gb167, 3, none⟩ = some (.slice none 0 0) := (yV BK167.out 3).trans rfl; have hfz34_0 := yW BK167.out 0; have hfz34_1 := yW BK167.out 1; have hfz34_2 := yW BK167.out 2; have hfz34_3 := yW BK167.out 3))
  refine bodyPost_ret (results_ct rfl _ _ gb167 25 #[.int .i64 0, .int .i64 0, .slice none 0 0, .slice none 0 0] (0, 0) _ rfl (by (with_reducible repeat (first | refine yS ?_ _ | refine yT ?_ | refine yR ?_ _)); refine blk_put (cs := #[.int .i64 0, .int .i64 0, .slice none 0 0, .slice none 0 0]) ?_ 3 _ rfl; (with_reducible repeat (first | refine yS ?_ _ | refine yT ?_ | refine yR ?_ _)); refine blk_put (cs := #[.int .i64 0, .int .i64 0, .slice none 0 0, .slice none 0 0]) ?_ 2 _ rfl; (with_reducible repeat (first | refine yS ?_ _ | refine yT ?_ | refine yR ?_ _)); refine blk_put (cs := #[.int .i64 0, .int .i64 0, .slice none 0 0, .slice none 0 0]) ?_ 1 _ rfl; (with_reducible repeat (first | refine yS ?_ _ | refine yT ?_ | refine yR ?_ _)); refine blk_put (cs := #[.int .i64 0, .int .i64 0, .slice none 0 0, .slice none 0 0]) ?_ 0 _ rfl; (with_reducible repeat (first | refine yS ?_ _ | refine yT ?_ | refine yR ?_ _)); exact BK167.out) Try.underlying25 rfl (by kernel_rfl)) rfl ?_
  exact ⟨_, _, by first | rfl | (simp [errW_none, errW_some] <;> rfl) | (simp [*, errW_none, errW_some] <;> rfl), by first | exact Kd.S_nil _ _ _ _ _ | exact Kd.N_nil _ _ _ _ _ | exact Kd.V_nil _ _ _ _ _ | exact Kd.Q_nil _ _ _ _ _ | exact Kd.R_nil _ _ _ _ _, rfl, by repeat (first | (with_reducible first | exact HB.out | apply yO | apply yN | apply yP | refine yQ ?_ GE167.out) | exact HB.out)⟩

end Go.Proofs.Ytgopcliohchkmaa.Q
