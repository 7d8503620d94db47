-- written by a program of this session (a turned copy of the kit's print) out of the translation
-- squeezed
-- compact
import Derived.Maps.OwnSet
import Derived.Maps.Views
import Derived.Test.YtefelghmmpmigaaQ0
import Derived.Test.YtefelghmmpmigaaQ23
import Derived.Test.YtefelghmmpmigaaQ24
import Derived.Test.YtefelghmmpmigaaQ25
namespace Go.Proofs.Ytefelghmmpmigaa.Q
open Go.RowKit Go.Proofs.YtefelghmmpmigaaW.PrintWords Go.Proofs.YtefelghmmpmigaaW.PrintLast Go.Proofs.YtefelghmmpmigaaW.PrintMore
attribute [local go_sem] max2_int min2_int max_two min_two max_three min_three max_four min_four   -- for this text's walks alone
set_option linter.unusedVariables false
set_option linter.unusedSimpArgs false

/-! ### impl_minimal: function 71 -/
/-- How many different numbers a list has. -/
def dcount : List Int → Nat
 | [] => 0
 | x :: l => if x ∈ l then dcount l else dcount l + 1
theorem dcount_le : ∀ l : List Int, dcount l ≤ l.length
 | [] => zT _
 | x :: l => by
  have := dcount_le l
  rw [dcount, List.length_cons]
  split <;> omega
/-- What a map of numbers to places holds: the first place from i on. -/
structure MapF (D : DataW Unit) (cl : List Int) (i : Nat) : Prop where
 tidy : Maps.Tidy D
 has : ∀ v, Maps.has D (.int .i64 v) = decide (v ∈ cl.drop i)
 at_ : ∀ v ∈ cl.drop i, ∀ z, D.atKey (.int .i64 v) z = .lit (.int .i64 ((i + (cl.drop i).idxOf v : Nat) : Int))
 size : Maps.size D = dcount (cl.drop i)
theorem MapF.empty (cl : List Int) : MapF (.map []) cl cl.length := ⟨Maps.tidy_empty, fun v => by rw [List.drop_length]; rfl, fun v hv => absurd hv (by rw [List.drop_length]; simp), by rw [List.drop_length]; rfl⟩
theorem MapF.put {D : DataW Unit} {cl : List Int} {i : Nat} (h : MapF D cl (i + 1)) (hi : i < cl.length) : MapF (D.put (.int .i64 cl[i]) (.lit (.int .i64 (i : Int)))) cl i := by
 have hkl : WideAt.IsKeyLit (.int .i64 cl[i]) := trivial
 have hne : ∀ v, v ≠ cl[i] → (Lit.int .i64 v) ≠ .int .i64 cl[i] := fun v hd he => by
  injection he with _ he
  exact hd he
 have hd : cl.drop i = cl[i] :: cl.drop (i + 1) := List.drop_eq_getElem_cons hi
 refine ⟨h.tidy.put hkl _, fun v => ?_, fun v hm z => ?_, ?_⟩
 ·by_cases e : v = cl[i]
  ·rw [e, Maps.has_put_same h.tidy.isMap hkl, hd]
   exact (zH (List.mem_cons_self ..)).symm
  ·rw [Maps.has_put_other (hne v e), h.has, hd]
   exact decide_eq_decide.2 ⟨fun g => List.mem_cons_of_mem _ g, fun g => (List.mem_cons.1 g).resolve_left e⟩
 ·by_cases e : v = cl[i]
  ·rw [e, Maps.atKey_put_same h.tidy.isMap hkl, hd, List.idxOf_cons_self]
   simp
  ·rw [hd] at hm ⊢
   have hm2 : v ∈ cl.drop (i + 1) := (List.mem_cons.1 hm).resolve_left e
   rw [Maps.atKey_put_other (hne v e), h.at_ v hm2, List.idxOf_cons, show (cl[i] == v) = false from beq_eq_false_iff_ne.2 (fun q => e q.symm), cond_false]
   congr 3
   omega
 ·rw [Maps.size_put h.tidy, h.has, hd, dcount, h.size]
  by_cases e : cl[i] ∈ cl.drop (i + 1)
  ·rw [zH e, if_pos rfl, if_pos e]
  ·rw [decide_eq_false e, if_neg (by decide), if_neg e]
/-- Where class k has its first state. -/
def fstAt (cl : List Int) (k : Nat) : Nat := if (k : Int) ∈ cl then cl.idxOf (k : Int) else 0
theorem MapF.get {D : DataW Unit} {cl : List Int} (h : MapF D cl 0) (k : Nat) {c : Int} (hc : D.atKey (.int .i64 (k : Int)) (.lit (.int .i64 0)) = .lit (.int .i64 c)) : c = (fstAt cl k : Int) := by
 have h1 := h.has (k : Int)
 rw [List.drop_zero] at h1
 unfold fstAt
 by_cases e : (k : Int) ∈ cl
 ·have h2 := h.at_ (k : Int) (by rw [List.drop_zero]; exact e) (.lit (.int .i64 0))
  rw [List.drop_zero, Nat.zero_add, hc] at h2
  injection h2 with h2
  injection h2 with _ h2
  rw [if_pos e, h2]
 ·rw [decide_eq_false e] at h1
  rw [Maps.atKey_of_not_has h1] at hc
  injection hc with hc
  injection hc with _ hc
  rw [if_neg e, ← hc]
  rfl
theorem fstAt_lt {cl : List Int} {k : Nat} (h : k < dcount cl) : fstAt cl k < cl.length := by
 have := dcount_le cl
 unfold fstAt
 split
 ·rename_i e
  exact List.idxOf_lt_length_iff.2 e
 ·omega
def clRow (cl : List Int) (row : List Int) : List Int := row.map fun x => cl.getD x.toNat 0
def mgOf (next : List (List Int)) (cl : List Int) : List (List Int) := (List.range (dcount cl)).map fun k => clRow cl (next.getD (fstAt cl k) [])
def tmOf (out cl : List Int) : List Int := (List.range (dcount cl)).map fun k => out.getD (fstAt cl k) 0
def namesTo (od : List Int) (m k : Nat) : List Int := (List.range k).foldl (fun s (j : Nat) => s.set (od.getD j 0).toNat (j : Int)) (List.replicate m 0)
def rowsIn (n : Nat) (rows : List (List Int)) : Bool := rows.all fun r => decide (r.length ≤ 1000000) && r.all fun x => decide (0 ≤ x ∧ x < (n : Int))
def impl_minimal.f (k : Nat) (next : List (List Int)) (out : List Int) : Option (List (List Int) × List Int) :=
 (impl_classes.f k next out).bind fun cl =>
  if next.length ≤ 1000000 ∧ cl.length = next.length ∧ out.length = next.length ∧ rowsIn next.length next = true ∧ cl.all (fun x => decide (0 ≤ x ∧ x < 1000000)) = true then
   (impl_reached.f k (mgOf next cl)).bind fun od =>
    if od.length ≤ 1000000 ∧ od.all (fun x => decide (0 ≤ x ∧ x < ((dcount cl : Nat) : Int))) = true ∧ rowsIn (dcount cl) (mgOf next cl) = true then
     some (od.map (fun q => clRow (namesTo od (dcount cl) od.length) ((mgOf next cl).getD q.toNat [])), od.map (fun q => (tmOf out cl).getD q.toNat 0))
    else none
  else none
theorem impl_minimal.mono : ∀ a0 a1 k, LeO (impl_minimal.f k a0 a1) (impl_minimal.f (k + 1) a0 a1) := fun a0 a1 k => LeO.bind (impl_classes.mono a0 a1 k) (fun cl => LeO.ite (LeO.bind (impl_reached.mono _ k) (fun od => LeO.refl _)) (LeO.refl _))
theorem rowsIn_use {n : Nat} {rows : List (List Int)} (h : rowsIn n rows = true) {i : Nat} (hi : i < rows.length) : rows[i].length ≤ 1000000 ∧ ∀ j (hj : j < rows[i].length), 0 ≤ rows[i][j] ∧ rows[i][j] < (n : Int) := by
 have h1 := List.all_eq_true.1 h rows[i] (List.getElem_mem hi)
 simp only [Bool.and_eq_true, decide_eq_true_eq, List.all_eq_true] at h1
 exact ⟨h1.1, fun j hj => h1.2 _ (List.getElem_mem hj)⟩
theorem namesTo_len (od : List Int) (m : Nat) : ∀ k, (namesTo od m k).length = m
 | 0 => by simp [namesTo]
 | k + 1 => by
  have := namesTo_len od m k
  unfold namesTo at this ⊢
  rw [List.range_succ, List.foldl_append, List.foldl_cons, List.foldl_nil, List.length_set]
  exact this
theorem namesTo_succ (od : List Int) (m k : Nat) (hk : k < od.length) : (namesTo od m k).set od[k].toNat (k : Int) = namesTo od m (k + 1) := by
 unfold namesTo
 rw [List.range_succ, List.foldl_append]
 simp [List.getD_eq_getElem?_getD, hk]
theorem clRow_snoc (cl row : List Int) (j : Nat) (hj : j < row.length) (hr : 0 ≤ row[j] ∧ row[j] < (cl.length : Int)) : clRow cl (row.take j) ++ [rd cl row[j]] = clRow cl (row.take (j + 1)) := by
 rw [List.take_succ_eq_append_getElem hj, clRow, clRow, List.map_append]
 rfl
theorem map_range_snoc {α : Type} (f : Nat → α) (m k : Nat) (hk : k < m) : ((List.range m).map f).take k ++ [f k] = ((List.range m).map f).take (k + 1) := by
 rw [List.take_succ_eq_append_getElem (by simpa using hk)]
 simp
theorem map_snoc {α β : Type} (f : α → β) (l : List α) (k : Nat) (hk : k < l.length) : (l.take k).map f ++ [f l[k]] = (l.take (k + 1)).map f := by
 rw [List.take_succ_eq_append_getElem hk, List.map_append]
 rfl
theorem getD_row {rows : List (List Int)} {i : Nat} (hi : i < rows.length) : rows.getD i [] = rows[i] := by simp [List.getD_eq_getElem?_getD, hi]
theorem getD_num {xs : List Int} {i : Nat} (hi : i < xs.length) : xs.getD i 0 = xs[i] := by simp [List.getD_eq_getElem?_getD, hi]
theorem intLaw : Maps.Keyed Try.prog 3 := Maps.int_keyed Try.underlying3
section
variable {α β : Type} {d : Kd α} {d' : Kd β} {e e' base base' n : Nat} {w W w1 c : World} {ok ok' : Nat → Prop} {u v : Value} {xs : List α} {ys : List β}
theorem R_gr (h : d.R e W base ok v xs) (hu : ∀ k, u.ownBlock = some k → ok' k) (hne : ∀ k, ok k → ¬ ok' k) (hg : W.grownBy w1 u.ownBlock) : d.R e w1 base ok v xs := Kd.R_step h (fun k ho hlt => hg.block k hlt (fun he => hne k ho (hu k he.symm)))
theorem S_gr (h : d.S e W base ok v xs) (hu : ∀ k, u.ownBlock = some k → ok' k) (hne : ∀ k, ok k → ¬ ok' k) (hg : W.grownBy w1 u.ownBlock) : d.S e w1 base ok v xs := Kd.S_step h (fun k ho hlt => hg.block k hlt (fun he => hne k ho (hu k he.symm)))
theorem R_top (h : d.R e W base ok v xs) (hn : W.heap.size ≤ n) : d.R e W base (fun k => ok k ∧ k < n) v xs := zP (Kd.R_bound h) (fun k hk => ⟨hk.1, Nat.lt_of_lt_of_le hk.2.2.1 hn⟩)
theorem S_top (h : d.S e W base ok v xs) (hn : W.heap.size ≤ n) : d.S e W base (fun k => ok k ∧ k < n) v xs := Kd.S_mono (Kd.S_bound h) (fun k hk => ⟨hk.1, Nat.lt_of_lt_of_le hk.2.2.1 hn⟩)
theorem R_bot (h : d.R e W base ok v xs) (hb : base' ≤ base) (hn : n ≤ base) : d.R e W base' (fun k => ok k ∧ n ≤ k) v xs := zP (Kd.R_lower (Kd.R_bound h) hb) (fun k hk => ⟨hk.1, Nat.le_trans hn hk.2.1⟩)
theorem S_bot (h : d.S e W base ok v xs) (hb : base' ≤ base) (hn : n ≤ base) : d.S e W base' (fun k => ok k ∧ n ≤ k) v xs := Kd.S_mono (Kd.S_lower (Kd.S_bound h) hb) (fun k hk => ⟨hk.1, Nat.le_trans hn hk.2.1⟩)
end
set_option maxHeartbeats 4000000 in
set_option maxRecDepth 100000 in
theorem impl_minimal.calls (k : Nat) (A0 : Option Addr) (c0 : Nat) (l0 : List (List Int)) (A1 : Option Addr) (c1 : Nat) (l1 : List Int) (r1 : List (List Int)) (r2 : List Int) (w : World) (hr0 : Kd.C (Kd.slice 3 (Kd.int .i64)) w A0 l0.length l0) (hc0 : l0.length ≤ c0) (hr1 : Kd.C (Kd.int .i64) w A1 l1.length l1) (hc1 : l1.length ≤ c1) (h : impl_minimal.f k l0 l1 = some (r1, r2)) :
  Calls Try.prog 71 #[.slice A0 l0.length c0, .slice A1 l1.length c1] w fun e w' => ∃ v0_ v1_ : Value, e = .returned (.tuple #[v0_, v1_]) ∧ Kd.S (Kd.slice 3 (Kd.int .i64)) 23 w' w.heap.size (fun k_ => some k_ ≠ (v1_ : Value).ownBlock) v0_ r1 ∧ Kd.R (Kd.int .i64) 3 w' w.heap.size (fun _ => True) v1_ r2 ∧ Below w.heap.size w w' := by
 have hmm := @run_makeMap Try.prog
 have HR0 := yA hr0
 have HC0 := yA hc0
 have HR1 := yA hr1
 have HC1 := yA hc1
 clear hr0 hc0 hr1 hc1
 have HB := yA (zV w.heap.size w)
 unfold impl_minimal.f at h
 obtain ⟨cl, A1_, h⟩ := Option.bind_eq_some_iff.1 h
 by_cases hq : l0.length ≤ 1000000 ∧ cl.length = l0.length ∧ l1.length = l0.length ∧ rowsIn l0.length l0 = true ∧ cl.all (fun x => decide (0 ≤ x ∧ x < 1000000)) = true
 ·rw [if_pos hq] at h
  obtain ⟨q1, q2, q3, q4, q5⟩ := hq
  obtain ⟨od, A2_, h⟩ := Option.bind_eq_some_iff.1 h
  by_cases hp : od.length ≤ 1000000 ∧ od.all (fun x => decide (0 ≤ x ∧ x < ((dcount cl : Nat) : Int))) = true ∧ rowsIn (dcount cl) (mgOf l0 cl) = true
  ·rw [if_pos hp] at h
   obtain ⟨p1, p2, p3⟩ := hp
   have hres := zU h
   have hr1 := yA (congrArg Prod.fst hres)
   have hr2 := yA (congrArg Prod.snd hres)
   clear h hres
   have hdc := dcount_le cl
   have Q2 := yA q2
   have q2a : cl.length ≤ l0.length := by omega
   have q2b : l0.length ≤ cl.length := by omega
   have q3a : l1.length ≤ l0.length := by omega
   have q3b : l0.length ≤ l1.length := by omega
   clear q2 q3
   have Q4 := yA q4
   have P3 := yA p3
   have hcl : ∀ i (hi : i < cl.length), 0 ≤ cl[i] ∧ cl[i] < 1000000 := fun i hi => by simpa using List.all_eq_true.1 q5 _ (List.getElem_mem hi)
   have hod : ∀ i (hi : i < od.length), 0 ≤ od[i] ∧ od[i] < ((dcount cl : Nat) : Int) := fun i hi => by simpa using List.all_eq_true.1 p2 _ (List.getElem_mem hi)
   have HCL := yA hcl
   have HOD := yA hod
   clear q4 p3 q5 p2 hcl hod
   have AF1 := yA A1_
   have AF2 := yA A2_
   clear A1_ A2_
   have hml0 : (mgOf l0 cl).length = dcount cl := by simp [mgOf]
   have htl0 : (tmOf l1 cl).length = dcount cl := by simp [tmOf]
   have HML := yA hml0
   have HTL := yA htl0
   clear hml0 htl0
   go_enter Try.func71, Try.ntmps71
   go_wp2_with (first | (go_at_call 91; (with_reducible refine (impl_classes.calls k _ _ l0 _ _ l1 cl _ ?side1 ?side2 ?side3 ?side4 AF1.out).mono ?_); (case side1 => exact yM HR0.out (mB HB.out)); (case side2 => exact HC0.out); (case side3 => exact yM HR1.out (mB HB.out)); (case side4 => exact HC1.out); rintro e wc ⟨u_, rfl, hr, hb⟩; have n0_ := yA (Kd.R_lower hr (yX (mB HB.out))); have n1_ := yA (zD (mB HB.out) hb); clear HB hr hb; have HC := n0_; have HB := n1_; clear n0_ n1_; obtain ⟨A6, c6, e6⟩ := Kd.R_slice HC.out; subst e6))
   go_loopw [8] (fun v8 wr => ∃ (i : Nat) (z : Int) (D : DataW Unit), i ≤ l0.length ∧ z + 1 = (i : Int) ∧ v8 = .int .i64 z ∧ Aside0 (MapF D cl i) ∧ Aside0 (wr.ownsMap Try.prog 3 (plainElem (H := Unit) Try.prog 3) wc.heap.size (l0.length - i) D) ∧ Aside0 (Below wc.heap.size wc wr)) (fun v8 _ => (intOf v8 + 1).toNat)
   case atStart => exact ⟨l0.length, (l0.length : Int) - 1, .map [], zT _, by omega, by go_num, ⟨by rw [← Q2.out]; exact MapF.empty cl⟩, ⟨by rw [Nat.sub_self]; exact World.ownsMap_made (H := Unit) wc Try.prog 3 (plainElem Try.prog 3)⟩, ⟨yO (zV _ _) _⟩⟩
   case round =>
    obtain ⟨i, z, D, hi, hz, rfl, HD, HM, HF⟩ := hrel
    have HCr := yA (yK HC.out HF.out)
    rcases i with _ | i
    ·obtain rfl : z = -1 := by omega
     clear hz
     obtain ⟨W1, hW1⟩ : ∃ W1, W1 = wr := ⟨_, rfl⟩
     subst hW1
     have HB1 := yA (zD HB.out HF.out)
     have HM1 := yA (HM.out.mono (show l0.length - 0 ≤ l0.length by omega))
     have HC1' := HCr
     clear HCr HM HF HB HC
     go_wp2_with (first | ((with_reducible refine gate_dst (N := 43) rfl ?_); refine Kd.S_lit (Kd.slice 3 (Kd.int .i64)) _ 23 ?hg (N := 43) ?hd (xs := ([] : List (List Int))) (inner := []) (ok := fun _ => True) (okp := fun _ => True) ?hr ?hp (fun _ hk => hk) trivial (zV _ _) (zT _) (by simp) ?_; (case hd => rfl); (case hg => rfl); (case hr => first | (go_simp; done) | (go_simp; rfl)); (case hp => exact (Reps.none _ _)); intro v9 w2_ ho hb hg_ hnew_; clear hg_; clear hnew_; have n0_ := yA (ho); have n1_ := yA (hb); clear ho hb; have HG := n0_; have HF := n1_; clear n0_ n1_) | ((with_reducible refine gate_dst (N := 44) rfl ?_); refine Kd.R_lit (Kd.int .i64) _ 3 ?hg (N := 44) ?hd (xs := ([] : List Int)) (inner := []) (ok := fun _ => True) (okp := fun _ => True) ?hr ?hp (fun _ hk => hk) trivial (zV _ _) (zT _) (by simp) ?_; (case hd => rfl); (case hg => rfl); (case hr => first | (go_simp; done) | (go_simp; rfl)); (case hp => exact (Reps.none _ _)); intro v10 w3_ ho hb hg_ hnew_; clear hg_; clear hnew_; have n0_ := yA (Kd.S_elder' (mS HG.out) (yY ho) hb); have n1_ := yA (Kd.R_lower ho (yX (mB HF.out))); have n2_ := yA (zD (mB HF.out) hb); clear HG HF ho hb; have HG := n0_; have HT := n1_; have HF := n2_; clear n0_ n1_ n2_; have hml := (own_below HM1.out HF.out).len Try.underlying97 3; rw [HD.out.size, List.drop_zero] at hml))
     clear hml
     go_loopw [9, 10, 47] (fun v9 v10 v47 wr => ∃ (k : Nat), k ≤ dcount cl ∧ v47 = .int .i64 (k : Int) ∧ Aside0 (Kd.S (Kd.slice 3 (Kd.int .i64)) 23 wr W1.heap.size (fun k_ => some k_ ≠ (v10 : Value).ownBlock) v9 ((mgOf l0 cl).take k)) ∧ Aside0 (Kd.R (Kd.int .i64) 3 wr W1.heap.size (fun _ => True) v10 ((tmOf l1 cl).take k)) ∧ Aside0 (Below W1.heap.size W1 wr)) (fun _ _ v47 _ => dcount cl - (intOf v47).toNat)
     case atStart => exact ⟨0, Nat.zero_le _, rfl, ⟨Kd.S_mono HG.out (fun _ hk => hk.2)⟩, HT, HF⟩
     case round =>
      clear HG HT HF
      obtain ⟨kk, hkk, rfl, HG, HT, HF⟩ := hrel
      by_cases hkl : kk < dcount cl
      ·have cc1 : decide ((kk : Int) < ((dcount cl : Nat) : Int)) = true := zH (by omega)
       have hfl := fstAt_lt hkl
       have hget := fun c hc => HD.out.get kk (c := c) hc
       obtain ⟨hrl, hrr⟩ := rowsIn_use Q4.out (show fstAt cl kk < l0.length by omega)
       have hmg := map_range_snoc (fun k => clRow cl (l0.getD (fstAt cl k) [])) (dcount cl) kk hkl
       have htm := map_range_snoc (fun k => l1.getD (fstAt cl k) 0) (dcount cl) kk hkl
       rw [getD_row (show fstAt cl kk < l0.length by omega)] at hmg
       rw [getD_num (show fstAt cl kk < l1.length by omega)] at htm
       change (mgOf l0 cl).take kk ++ _ = (mgOf l0 cl).take (kk + 1) at hmg
       change (tmOf l1 cl).take kk ++ _ = (tmOf l1 cl).take (kk + 1) at htm
       obtain ⟨f, hf⟩ : ∃ f, f = fstAt cl kk := ⟨_, rfl⟩
       have hfl0 : f < l0.length := by omega
       have hfl1 : f < l1.length := by omega
       have hrow0 : ∃ row, row = l0[fstAt cl kk]'(by omega) := ⟨_, rfl⟩
       obtain ⟨row, hrow⟩ := hrow0
       have hrowf : row = l0[f] := by rw [hrow]; congr 1; exact hf.symm
       have hout0 : ∃ y, y = l1[fstAt cl kk]'(by omega) := ⟨_, rfl⟩
       obtain ⟨yo, hyo⟩ := hout0
       have hyof : yo = l1[f] := by rw [hyo]; congr 1; exact hf.symm
       rw [← hrow] at hrl hmg
       have hrr' : ∀ j (hj : j < row.length), 0 ≤ row[j] ∧ row[j] < (l0.length : Int) := by rw [hrow]; exact hrr
       rw [← hyo] at htm
       have p1 : 0 ≤ (f : Int) := by omega
       have q1 : (f : Int) < (l0.length : Int) := by omega
       have q1' : (f : Int) < (l1.length : Int) := by omega
       obtain ⟨ad1, A1r, c1r, e1, hx1, hl1, hi1⟩ := at_L1 HR0.out (f : Int) p1 q1
       rw [rdRows_at hfl0, Int.toNat_natCast, ← hrowf] at hx1
       rw [rdRows_at hfl0, ← hrowf] at hl1 hi1
       obtain ⟨ad2, e2, hx2⟩ := Kd.at_int HR1.out (f : Int) p1 q1'
       rw [rd_at hfl1, Int.toNat_natCast, ← hyof] at hx2
       cases e1
       cases e2
       have HX1 := yA hx1
       have HX2 := yA hx2
       have HRW := yA hi1
       have HCW := yA hl1
       have HMG := yA hmg
       have HTM := yA htm
       have HRR := yA hrr'
       clear hx1 hx2 hi1 hl1 hmg htm hrow hrowf hyo hyof hrr hrr'
       replace p1 := eq_true p1
       replace q1 := eq_true q1
       replace q1' := eq_true q1'
       have hwk : (Lit.int .i64 (kk : Int)).wf = true := by
        have e : wrap64 (kk : Int) = (kk : Int) := by unfold wrap64; omega
        rw [← e]
        exact wrap64_wf _
       have hkey := Maps.keyOf_int_mk (P := Try.prog) Try.underlying3 hwk
       have HLK : ∀ W : World, Below W1.heap.size W1 W → (Instr.lookup 97 (.map (some wc.heap.size)) (.int .i64 (kk : Int)) false).run Try.prog W = .ok (.int .i64 (f : Int)) W := fun W hW => by
        obtain ⟨c, hlk, hat, _⟩ := (own_below HM1.out hW).lookup_int intLaw Try.underlying97 Try.underlying3 (numZero _) hkey
        rw [hf, ← hget c hat]
        exact hlk
       have HLKA := yA HLK
       clear HLK hget hkey hwk hf
       obtain ⟨W2, hW2⟩ : ∃ W2, W2 = wr := ⟨_, rfl⟩
       subst hW2
       go_wp2_with (first | ((with_reducible refine gate_dst (N := 50) rfl ?_); refine Kd.R_lit (Kd.int .i64) _ 3 ?hg (N := 50) ?hd (xs := ([] : List Int)) (inner := []) (ok := fun _ => True) (okp := fun _ => True) ?hr ?hp (fun _ hk => hk) trivial (zV _ _) (zT _) (by simp) ?_; (case hd => rfl); (case hg => rfl); (case hr => first | (go_simp; done) | (go_simp; rfl)); (case hp => exact (Reps.none _ _)); intro v12 w5_ ho hb hg_ hnew_; clear hg_; clear hnew_; have n0_ := yA (ho); have n1_ := yA (hb); clear ho hb; have HR := n0_; have HF2 := n1_; clear n0_ n1_; have hlk := HLKA.out _ (zD HF.out HF2.out); have hx1 := ((zD HB1.out (zD HF.out HF2.out)).cell (zE w _ HX1.out)).trans HX1.out))
       go_loopw [12, 58] (fun v12 v58 wr => ∃ (j : Nat), j ≤ row.length ∧ v58 = .int .i64 (j : Int) ∧ Aside0 (Kd.R (Kd.int .i64) 3 wr W2.heap.size (fun _ => True) v12 (clRow cl (row.take j))) ∧ Aside0 (Below W2.heap.size W2 wr)) (fun _ v58 _ => row.length - (intOf v58).toNat)
       case atStart => exact ⟨0, Nat.zero_le _, rfl, HR, HF2⟩
       case round =>
        clear HR HF2 hx1 hlk p1 q1 q1' cc1
        obtain ⟨j, hj, rfl, HR, HF2⟩ := hrel
        have HCr := yA (yK (yK HC1'.out HF.out) HF2.out)
        by_cases hjl : j < row.length
        ·have cc2 : decide ((j : Int) < (row.length : Int)) = true := zH (by omega)
         have p2 : 0 ≤ (j : Int) := by omega
         have q2' : (j : Int) < (row.length : Int) := by omega
         obtain ⟨ad3, e3, hx3⟩ := Kd.at_int HRW.out (j : Int) p2 q2'
         rw [rd_at hjl, Int.toNat_natCast] at hx3
         have hxx := HRR.out j hjl
         have hsn := clRow_snoc cl row j hjl (by omega)
         obtain ⟨x, hx⟩ : ∃ x, x = row[j] := ⟨_, rfl⟩
         rw [← hx] at hx3 hxx hsn
         clear hx
         have HSN := yA hsn
         clear hsn
         cases e3
         replace hx3 := ((zD HB1.out (zD HF.out HF2.out)).cell (zE w _ hx3)).trans hx3
         have p4 : 0 ≤ x := hxx.1
         have q4 : x < (cl.length : Int) := by omega
         obtain ⟨ad4, e4, hx4⟩ := Kd.at_int (zN HCr.out).2.2 x p4 q4
         cases e4
         replace p2 := eq_true p2
         replace q2' := eq_true q2'
         replace p4 := eq_true p4
         replace q4 := eq_true q4
         have HLN := yA (show (clRow cl (row.take j)).length ≤ 1000000 by rw [clRow, List.length_map, zM]; omega)
         go_wp2_with (first | ((with_reducible refine gate_builtin (b := .append) (xs := #[.tmp 62, .tmp 67]) rfl ?_); at_builtin; refine Kd.R_append (Kd.int .i64) (w0 := W2) W2.heap.size rfl (.tmp 62) (.tmp 67) 23 3 (.int .i64 0) 8 rfl Try.underlying23 info3 rfl (by decide) (by omega) u12 (clRow cl (row.take j)) (rd cl x) [.int .i64 (rd cl x)] (fun _ => True) (fun _ => False) rfl rfl ?aP (fun _ hk => hk.elim) ?aF ?aO ?aB ?aS ?aL ?_; (case aP => exact rfl); (case aB => exact (mB HF2.out)); (case aF => exact (fun _ _ => trivial)); (case aO => exact (mR HR.out)); (case aS => exact (yX (mB HF2.out))); (case aL => have := HLN.out; omega); intro v_ w_ ho hb hg hat; rw [HSN.out] at ho; have n0_ := yA (ho); have n1_ := yA (hb); clear HR HF2 ho hb hg hat; have HR := n0_; have HF2 := n1_; clear n0_ n1_))
         go_roundw
         case rel => exact ⟨j + 1, by omega, by go_num, HR, HF2⟩
         case measure => simp [intOf]; omega
        ·obtain rfl : j = row.length := by omega
         have cc2 : decide ((row.length : Int) < (row.length : Int)) = false := decide_eq_false (by omega)
         rw [List.take_length] at HR
         have p1 : (0 ≤ (f : Int)) = True := eq_true (by omega)
         have q1 : ((f : Int) < (l0.length : Int)) = True := eq_true (by omega)
         have q1' : ((f : Int) < (l1.length : Int)) = True := eq_true (by omega)
         obtain ⟨A12, c12, e12⟩ := Kd.R_slice HR.out
         subst e12
         have HRa := yA (Kd.R_new' (Kd.R_new' HR.out (yZ HT.out)) (Kd.S_lt HG.out))
         have hl9 : ((mgOf l0 cl).take kk).length ≤ 1000000 := by rw [zM, HML.out]; omega
         have hl10 : ((tmOf l1 cl).take kk).length ≤ 1000000 := by rw [zM, HTL.out]; omega
         have HL9 := yA hl9
         have HL10 := yA hl10
         clear hl9 hl10
         go_wp2_with (first | ((with_reducible refine gate_builtin (b := .append) (xs := #[.tmp 74, .tmp 81]) rfl ?_); at_builtin; refine Kd.R_append (Kd.int .i64) (w0 := W1) W1.heap.size rfl (.tmp 74) (.tmp 81) 23 3 (.int .i64 0) 8 rfl Try.underlying23 info3 rfl (by decide) (by omega) u10 ((tmOf l1 cl).take kk) (yo) [.int .i64 (yo)] (fun _ => True) (fun _ => False) rfl rfl ?aP (fun _ hk => hk.elim) ?aF ?aO ?aB ?aS ?aL ?_; (case aP => exact rfl); (case aB => exact (mB HF.out)); (case aF => exact (fun _ _ => trivial)); (case aO => exact (mR HT.out)); (case aS => exact (yX (mB HF.out))); (case aL => have := HL10.out; omega); intro v_ w_ ho hb hg hat; rw [HTM.out] at ho; have n0_ := yA (Kd.S_after (ok := fun _ => True) (Kd.S_mono (mS HG.out) (fun _ hk => ⟨trivial, hk⟩)) hg hat); have n1_ := yA (ho); have n2_ := yA (hb); clear HT HG HF ho hb hg hat hlk hx2; have HG := n0_; have HT := n1_; have HF := n2_; clear n0_ n1_ n2_) | ((with_reducible refine gate_builtin (b := .append) (xs := #[.tmp 70, .tmp 72]) rfl ?_); at_builtin; refine Kd.S_append (Kd.slice 3 (Kd.int .i64)) (w0 := W1) W1.heap.size rfl (.tmp 70) (.tmp 72) 22 23 (.slice none 0 0) 24 rfl Try.underlying22 info23 rfl (by decide) (by omega) u9 ((mgOf l0 cl).take kk) (clRow cl row) [.slice A12 (clRow cl row).length c12] (fun k_ => some k_ ≠ (u10 : Value).ownBlock) (fun k_ => some k_ = (.slice A12 (clRow cl row).length c12 : Value).ownBlock) rfl rfl ?aP (fun k_ hk_ => ⟨(HRa.out.1 k_ hk_.symm).1.2, (HRa.out.1 k_ hk_.symm).2⟩) ?aF ?aO ?aB ?aS ?aL ?_; (case aP => exact Kd.M_row (zP (Kd.R_tight rfl (Kd.R_lower (mR HR.out) (yX HF.out))) (fun _ h_ => h_))); (case aB => exact (mB (zD HF.out HF2.out))); (case aF => exact (fun k_ hk => Kd.fresh' (yZ (mR (yK HT.out HF2.out))) k_ hk)); (case aO => exact (Kd.S_mono (mS (yL (S_top HG.out (zT _)) HF2.out)) (fun k_ hk => ⟨hk.1, fun e_ => absurd hk.2 (Nat.not_lt.2 (yY HR.out k_ e_.symm))⟩))); (case aS => exact (yX (mB (zD HF.out HF2.out)))); (case aL => have := HL9.out; omega); intro v_ w_ ho hb hg hat; rw [HMG.out] at ho; have n0_ := yA (Kd.R_over' (mR (yK HT.out HF2.out)) (Kd.S_typed (mS (yL HG.out HF2.out))) (by decide) hg); have n1_ := yA (ho); have n2_ := yA (hb); clear HT HG HR HRa HF HF2 HCr ho hb hg hat; have HT := n0_; have HG := n1_; have HF := n2_; clear n0_ n1_ n2_; have hlk := HLKA.out _ HF.out; have hx2 := ((zD HB1.out HF.out).cell (zE w _ HX2.out)).trans HX2.out))
         go_roundw
         case rel => exact ⟨kk + 1, by omega, by go_num, ⟨Kd.S_mono HG.out (fun _ hk => hk.2)⟩, HT, HF⟩
         case measure => simp [intOf]; omega
      ·obtain rfl : kk = dcount cl := by omega
       have cc1 : decide (((dcount cl : Nat) : Int) < ((dcount cl : Nat) : Int)) = false := decide_eq_false (by omega)
       rw [List.take_of_length_le (by rw [HML.out]; exact zT _)] at HG
       rw [List.take_of_length_le (by rw [HTL.out]; exact zT _)] at HT
       have HB2 := yA (zD HB1.out HF.out)
       obtain ⟨A9, c9, e9⟩ := Kd.S_slice HG.out
       subst e9
       obtain ⟨W2, hW2⟩ : ∃ W2, W2 = wr := ⟨_, rfl⟩
       subst hW2
       clear HM1 HC1' HD
       go_wp2_with (first | (go_at_call 92; (with_reducible refine (impl_reached.calls k _ _ (mgOf l0 cl) od _ ?side1 ?side2 AF2.out).mono ?_); (case side1 => exact mC ((Kd.S_reads' HG.out).2.2)); (case side2 => exact (Kd.S_reads' HG.out).2.1); rintro e w4_ ⟨u_, rfl, hr, hb⟩; have n0_ := yA (hr); have n1_ := yA (hb); clear HF hr hb; have HO := n0_; have HF := n1_; clear n0_ n1_; obtain ⟨A15, c15, e15⟩ := Kd.R_slice HO.out; subst e15) | ((with_reducible refine gate_dst (N := 88) rfl ?_); refine Kd.R_make (Kd.int .i64) _ 3 rfl (N := 88) rfl 23 _ _ rfl ((mgOf l0 cl).length : Int) rfl rfl Try.underlying23 (.int .i64 0) 8 info3 rfl (by decide) (by omega) 0 (ok := fun _ => True) (okp := fun _ => True) rfl (fun _ hk => hk) trivial (by omega) (by have := HML.out; omega) (zV _ _) (zT _) ?_; intro v16 w5_ ho hb hg_ hnew_; clear hg_ hnew_; rw [HML.out, Int.toNat_natCast] at ho; have n0_ := yA (ho); have n1_ := yA (hb); have HF3 := HF; clear HF ho hb; have HN := n0_; have HF := n1_; clear n0_ n1_))
       have HG3 := yA (yL HG.out HF3.out)
       have HT3 := yA (yK HT.out HF3.out)
       have HB3 := yA (zD HB2.out HF3.out)
       go_loopw [91] (fun v91 wr => ∃ (k : Nat), k ≤ od.length ∧ v91 = .int .i64 (k : Int) ∧ Aside0 (Kd.R (Kd.int .i64) 3 wr w4_.heap.size (fun _ => True) v16 (namesTo od (dcount cl) k)) ∧ Aside0 (Below w4_.heap.size w4_ wr)) (fun v91 _ => od.length - (intOf v91).toNat)
       case atStart => exact ⟨0, Nat.zero_le _, rfl, HN, HF⟩
       case round =>
        clear HN HF
        obtain ⟨kk, hkk, rfl, HN, HF⟩ := hrel
        have HOr := yA (yK HO.out HF.out)
        by_cases hkl : kk < od.length
        ·have cc1 : decide ((kk : Int) < (od.length : Int)) = true := zH (by omega)
         have p1 : 0 ≤ (kk : Int) := by omega
         have q1 : (kk : Int) < (od.length : Int) := by omega
         obtain ⟨ad1, e1, hx1⟩ := Kd.at_int (zN HOr.out).2.2 (kk : Int) p1 q1
         rw [rd_at hkl, Int.toNat_natCast] at hx1
         have hq := HOD.out kk hkl
         have hns := namesTo_succ od (dcount cl) kk hkl
         have hnl := namesTo_len od (dcount cl) kk
         obtain ⟨q, hq0⟩ : ∃ q, q = od[kk] := ⟨_, rfl⟩
         rw [← hq0] at hx1 hq hns
         clear hq0
         have HNS := yA hns
         clear hns
         obtain ⟨g, cap, e16, hgb, hgl, hgc⟩ := Kd.R_form HN.out (by rw [hnl]; omega)
         subst e16
         have p5 : 0 ≤ q := hq.1
         have q5 : q < ((namesTo od (dcount cl) kk).length : Int) := by rw [hnl]; exact hq.2
         obtain ⟨hx5, hf5⟩ := Kd.R_celln 0 HN.out q p5 q5
         have HP := Kd.R_putg HN.out q (kk : Int)
         replace p5 := eq_true p5
         replace q5 := eq_true q5
         replace p1 := eq_true p1
         replace q1 := eq_true q1
         have HGB := yA hgb
         clear hgb hgl hgc hnl
         cases e1
         go_wp2_with (first | ((with_reducible refine gate_store (t := 3) (p := 99) rfl ?_); refine store_event (t := 3) (p := 99) (v := ?vo_) (w1 := (wr.setCell ⟨g, q.toNat, none⟩ (.int .i64 (kk : Int)))) ?hg ?ho ?hn ?hr ?_; (case ho => rfl); (case hg => rfl); (case hn => rfl); (case hr => first | (go_simp; done) | (go_simp; rfl)); intro w27 hw; have hp_ : Kd.R (Kd.int .i64) 3 w27 w4_.heap.size (fun _ => True) (.slice (some ⟨g, 0, none⟩) (namesTo od (dcount cl) kk).length cap) (namesTo od (dcount cl) (kk + 1)) := (by rw [hw, ← HNS.out]; exact HP.1); clear HP; have n0_ := yA (hp_); have n1_ := yA ((by rw [hw]; exact yQ HF.out HGB.out : Below w4_.heap.size w4_ w27)); clear HN HF hp_ hw hx1 hx5 hf5; have HN := n0_; have HF := n1_; clear n0_ n1_))
         go_roundw
         case rel => exact ⟨kk + 1, by omega, by go_num, HN, HF⟩
         case measure => simp [intOf]; omega
        ·obtain rfl : kk = od.length := by omega
         have cc1 : decide ((od.length : Int) < (od.length : Int)) = false := decide_eq_false (by omega)
         obtain ⟨W4, hW4⟩ : ∃ W4, W4 = wr := ⟨_, rfl⟩
         subst hW4
         have HG4 := yA (yL (yL HG3.out (zV _ _)) HF.out)
         have HT4 := yA (yK HT3.out HF.out)
         have HB4 := yA (zD HB3.out HF.out)
         have HO4 := HOr
         have HN4 := HN
         obtain ⟨A16, c16, e16⟩ := Kd.R_slice HN4.out
         subst e16
         obtain ⟨A10, c10, e10⟩ := Kd.R_slice HT4.out
         subst e10
         clear HN HF HOr HG3 HT3 HB3 HF3 HB2 HG HT HO
         go_wp2_with (first | ((with_reducible refine gate_dst (N := 101) rfl ?_); refine Kd.S_lit (Kd.slice 3 (Kd.int .i64)) _ 23 ?hg (N := 101) ?hd (xs := ([] : List (List Int))) (inner := []) (ok := fun _ => True) (okp := fun _ => True) ?hr ?hp (fun _ hk => hk) trivial (zV _ _) (zT _) (by simp) ?_; (case hd => rfl); (case hg => rfl); (case hr => first | (go_simp; done) | (go_simp; rfl)); (case hp => exact (Reps.none _ _)); intro v19 w6_ ho hb hg_ hnew_; clear hg_; clear hnew_; have n0_ := yA (ho); have n1_ := yA (hb); clear ho hb; have HA := n0_; have HF := n1_; clear n0_ n1_) | ((with_reducible refine gate_dst (N := 102) rfl ?_); refine Kd.R_lit (Kd.int .i64) _ 3 ?hg (N := 102) ?hd (xs := ([] : List Int)) (inner := []) (ok := fun _ => True) (okp := fun _ => True) ?hr ?hp (fun _ hk => hk) trivial (zV _ _) (zT _) (by simp) ?_; (case hd => rfl); (case hg => rfl); (case hr => first | (go_simp; done) | (go_simp; rfl)); (case hp => exact (Reps.none _ _)); intro v20 w7_ ho hb hg_ hnew_; clear hg_; clear hnew_; have n0_ := yA (Kd.S_elder' (mS HA.out) (yY ho) hb); have n1_ := yA (Kd.R_lower ho (yX (mB HF.out))); have n2_ := yA (zD (mB HF.out) hb); clear HA HF ho hb; have HA := n0_; have HV := n1_; have HF := n2_; clear n0_ n1_ n2_; have hcO := yA (yK HO4.out HF.out)))
         obtain ⟨RL, hRL⟩ : ∃ RL, RL = od.map (fun q => clRow (namesTo od (dcount cl) od.length) ((mgOf l0 cl).getD q.toNat [])) := ⟨_, rfl⟩
         obtain ⟨VL, hVL⟩ : ∃ VL, VL = od.map (fun q => (tmOf l1 cl).getD q.toNat 0) := ⟨_, rfl⟩
         have HRL := yA hRL
         have HVL := yA hVL
         rw [← hRL] at hr1
         rw [← hVL] at hr2
         clear hRL hVL hcO
         go_loopw [19, 20, 105] (fun v19 v20 v105 wr => ∃ (k : Nat), k ≤ od.length ∧ v105 = .int .i64 (k : Int) ∧ Aside0 (Kd.S (Kd.slice 3 (Kd.int .i64)) 23 wr W4.heap.size (fun k_ => some k_ ≠ (v20 : Value).ownBlock) v19 (RL.take k)) ∧ Aside0 (Kd.R (Kd.int .i64) 3 wr W4.heap.size (fun _ => True) v20 (VL.take k)) ∧ Aside0 (Below W4.heap.size W4 wr)) (fun _ _ v105 _ => od.length - (intOf v105).toNat)
         case atStart => exact ⟨0, Nat.zero_le _, rfl, ⟨Kd.S_mono HA.out (fun _ hk => hk.2)⟩, HV, HF⟩
         case round =>
          clear HA HV HF
          obtain ⟨kk, hkk, rfl, HA, HV, HF⟩ := hrel
          have HOr := yA (yK HO4.out HF.out)
          have HGr := yA (yL HG4.out HF.out)
          by_cases hkl : kk < od.length
          ·have cc1 : decide ((kk : Int) < (od.length : Int)) = true := zH (by omega)
           have p1 : 0 ≤ (kk : Int) := by omega
           have q1 : (kk : Int) < (od.length : Int) := by omega
           obtain ⟨ad1, e1, hx1⟩ := Kd.at_int (zN HOr.out).2.2 (kk : Int) p1 q1
           rw [rd_at hkl, Int.toNat_natCast] at hx1
           have hq := HOD.out kk hkl
           have hra := map_snoc (fun q : Int => clRow (namesTo od (dcount cl) od.length) ((mgOf l0 cl).getD q.toNat [])) od kk hkl
           have hva := map_snoc (fun q : Int => (tmOf l1 cl).getD q.toNat 0) od kk hkl
           rw [List.map_take, List.map_take, ← HRL.out] at hra
           rw [List.map_take, List.map_take, ← HVL.out] at hva
           obtain ⟨q, hq0⟩ : ∃ q, q = od[kk] := ⟨_, rfl⟩
           rw [← hq0] at hx1 hq hra hva
           clear hq0
           obtain ⟨n, rfl⟩ : ∃ n : Nat, q = (n : Int) := ⟨q.toNat, by omega⟩
           rw [Int.toNat_natCast] at hra hva
           have hnm : n < (mgOf l0 cl).length := by rw [HML.out]; omega
           have hnt : n < (tmOf l1 cl).length := by rw [HTL.out]; omega
           rw [getD_row hnm] at hra
           rw [getD_num hnt] at hva
           obtain ⟨hrl, hrr⟩ := rowsIn_use P3.out hnm
           have p2 : 0 ≤ (n : Int) := by omega
           have q2' : (n : Int) < ((mgOf l0 cl).length : Int) := by omega
           have q3' : (n : Int) < ((tmOf l1 cl).length : Int) := by omega
           obtain ⟨ad2, A2r, c2r, e2, hx2, hl2, hi2⟩ := at_L1 (Kd.S_reads' HGr.out).2.2 (n : Int) p2 q2'
           rw [rdRows_at hnm, Int.toNat_natCast] at hx2
           rw [rdRows_at hnm] at hl2 hi2
           obtain ⟨row, hrow⟩ : ∃ row, row = (mgOf l0 cl)[n] := ⟨_, rfl⟩
           have hrr' : ∀ j (hj : j < row.length), 0 ≤ row[j] ∧ row[j] < ((dcount cl : Nat) : Int) := by rw [hrow]; exact hrr
           rw [← hrow] at hx2 hl2 hi2 hrl hra
           obtain ⟨yo, hyo⟩ : ∃ y, y = (tmOf l1 cl)[n] := ⟨_, rfl⟩
           rw [← hyo] at hva
           have HYO := yA hyo
           have HX2 := yA hx2
           have HRW := yA hi2
           have HCW := yA hl2
           have HRA := yA hra
           have HVA := yA hva
           have HRR := yA hrr'
           clear hx2 hi2 hl2 hra hva hrow hyo hrr hrr'
           cases e1
           cases e2
           replace p1 := eq_true p1
           replace q1 := eq_true q1
           replace p2 := eq_true p2
           replace q2' := eq_true q2'
           replace q3' := eq_true q3'
           obtain ⟨W5, hW5⟩ : ∃ W5, W5 = wr := ⟨_, rfl⟩
           subst hW5
           go_wp2_with (first | ((with_reducible refine gate_dst (N := 109) rfl ?_); refine Kd.R_lit (Kd.int .i64) _ 3 ?hg (N := 109) ?hd (xs := ([] : List Int)) (inner := []) (ok := fun _ => True) (okp := fun _ => True) ?hr ?hp (fun _ hk => hk) trivial (zV _ _) (zT _) (by simp) ?_; (case hd => rfl); (case hg => rfl); (case hr => first | (go_simp; done) | (go_simp; rfl)); (case hp => exact (Reps.none _ _)); intro v23 w8_ ho hb hg_ hnew_; clear hg_; clear hnew_; have n0_ := yA (ho); have n1_ := yA (hb); clear ho hb; have HR := n0_; have HF2 := n1_; clear n0_ n1_; have hx2 := (HF2.out.cell (zE _ _ HX2.out)).trans HX2.out))
           go_loopw [23, 115] (fun v23 v115 wr => ∃ (j : Nat), j ≤ row.length ∧ v115 = .int .i64 (j : Int) ∧ Aside0 (Kd.R (Kd.int .i64) 3 wr W5.heap.size (fun _ => True) v23 (clRow (namesTo od (dcount cl) od.length) (row.take j))) ∧ Aside0 (Below W5.heap.size W5 wr)) (fun _ v115 _ => row.length - (intOf v115).toNat)
           case atStart => exact ⟨0, Nat.zero_le _, rfl, HR, HF2⟩
           case round =>
            clear HR HF2 hx2 hx1 p1 q1 p2 q2' q3' cc1
            obtain ⟨j, hj, rfl, HR, HF2⟩ := hrel
            have HNr := yA (yK (yK HN4.out HF.out) HF2.out)
            by_cases hjl : j < row.length
            ·have cc2 : decide ((j : Int) < (row.length : Int)) = true := zH (by omega)
             have p2 : 0 ≤ (j : Int) := by omega
             have q2' : (j : Int) < (row.length : Int) := by omega
             obtain ⟨ad3, e3, hx3⟩ := Kd.at_int HRW.out (j : Int) p2 q2'
             rw [rd_at hjl, Int.toNat_natCast] at hx3
             have hxx := HRR.out j hjl
             have hnl := namesTo_len od (dcount cl) od.length
             have hsn := clRow_snoc (namesTo od (dcount cl) od.length) row j hjl (by omega)
             obtain ⟨x, hx⟩ : ∃ x, x = row[j] := ⟨_, rfl⟩
             rw [← hx] at hx3 hxx hsn
             clear hx
             have HSN := yA hsn
             clear hsn
             cases e3
             replace hx3 := (HF2.out.cell (zE _ _ hx3)).trans hx3
             have p4 : 0 ≤ x := hxx.1
             have q4 : x < ((namesTo od (dcount cl) od.length).length : Int) := by rw [hnl]; exact hxx.2
             obtain ⟨ad4, e4, hx4⟩ := Kd.at_int (zN HNr.out).2.2 x p4 q4
             cases e4
             replace p2 := eq_true p2
             replace q2' := eq_true q2'
             replace p4 := eq_true p4
             replace q4 := eq_true q4
             clear hnl
             have HLN := yA (show (clRow (namesTo od (dcount cl) od.length) (row.take j)).length ≤ 1000000 by rw [clRow, List.length_map, zM]; omega)
             go_wp2_with (first | ((with_reducible refine gate_builtin (b := .append) (xs := #[.tmp 119, .tmp 124]) rfl ?_); at_builtin; refine Kd.R_append (Kd.int .i64) (w0 := W5) W5.heap.size rfl (.tmp 119) (.tmp 124) 23 3 (.int .i64 0) 8 rfl Try.underlying23 info3 rfl (by decide) (by omega) u23 (clRow (namesTo od (dcount cl) od.length) (row.take j)) (rd (namesTo od (dcount cl) od.length) x) [.int .i64 (rd (namesTo od (dcount cl) od.length) x)] (fun _ => True) (fun _ => False) rfl rfl ?aP (fun _ hk => hk.elim) ?aF ?aO ?aB ?aS ?aL ?_; (case aP => exact rfl); (case aB => exact (mB HF2.out)); (case aF => exact (fun _ _ => trivial)); (case aO => exact (mR HR.out)); (case aS => exact (yX (mB HF2.out))); (case aL => have := HLN.out; omega); intro v_ w_ ho hb hg hat; rw [HSN.out] at ho; have n0_ := yA (ho); have n1_ := yA (hb); clear HR HF2 ho hb hg hat; have HR := n0_; have HF2 := n1_; clear n0_ n1_))
             go_roundw
             case rel => exact ⟨j + 1, by omega, by go_num, HR, HF2⟩
             case measure => simp [intOf]; omega
            ·obtain rfl : j = row.length := by omega
             have cc2 : decide ((row.length : Int) < (row.length : Int)) = false := decide_eq_false (by omega)
             rw [List.take_length] at HR
             have p2 : (0 ≤ (n : Int)) = True := eq_true (by omega)
             have q3' : ((n : Int) < ((tmOf l1 cl).length : Int)) = True := eq_true (by omega)
             obtain ⟨A23, c23, e23⟩ := Kd.R_slice HR.out
             subst e23
             have HRa := yA (Kd.R_new' (Kd.R_new' HR.out (yZ HV.out)) (Kd.S_lt HA.out))
             have HTr := yA (yK (yK HT4.out HF.out) HF2.out)
             obtain ⟨ad5, e5, hx5⟩ := Kd.at_int (zN HTr.out).2.2 (n : Int) (by omega) (by omega)
             rw [rd_at hnt, Int.toNat_natCast, ← HYO.out] at hx5
             cases e5
             have HL9 := yA (show (RL.take kk).length ≤ 1000000 by rw [zM]; omega)
             have HL10 := yA (show (VL.take kk).length ≤ 1000000 by rw [zM]; omega)
             go_wp2_with (first | ((with_reducible refine gate_builtin (b := .append) (xs := #[.tmp 131, .tmp 136]) rfl ?_); at_builtin; refine Kd.R_append (Kd.int .i64) (w0 := W4) W4.heap.size rfl (.tmp 131) (.tmp 136) 23 3 (.int .i64 0) 8 rfl Try.underlying23 info3 rfl (by decide) (by omega) u20 (VL.take kk) (yo) [.int .i64 (yo)] (fun _ => True) (fun _ => False) rfl rfl ?aP (fun _ hk => hk.elim) ?aF ?aO ?aB ?aS ?aL ?_; (case aP => exact rfl); (case aB => exact (mB HF.out)); (case aF => exact (fun _ _ => trivial)); (case aO => exact (mR HV.out)); (case aS => exact (yX (mB HF.out))); (case aL => have := HL10.out; omega); intro v_ w_ ho hb hg hat; rw [HVA.out] at ho; have n0_ := yA (Kd.S_after (ok := fun _ => True) (Kd.S_mono (mS HA.out) (fun _ hk => ⟨trivial, hk⟩)) hg hat); have n1_ := yA (ho); have n2_ := yA (hb); clear HV HA HF ho hb hg hat; have HA := n0_; have HV := n1_; have HF := n2_; clear n0_ n1_ n2_) | ((with_reducible refine gate_builtin (b := .append) (xs := #[.tmp 127, .tmp 129]) rfl ?_); at_builtin; refine Kd.S_append (Kd.slice 3 (Kd.int .i64)) (w0 := W4) W4.heap.size rfl (.tmp 127) (.tmp 129) 22 23 (.slice none 0 0) 24 rfl Try.underlying22 info23 rfl (by decide) (by omega) u19 (RL.take kk) (clRow (namesTo od (dcount cl) od.length) row) [.slice A23 (clRow (namesTo od (dcount cl) od.length) row).length c23] (fun k_ => some k_ ≠ (u20 : Value).ownBlock) (fun k_ => some k_ = (.slice A23 (clRow (namesTo od (dcount cl) od.length) row).length c23 : Value).ownBlock) rfl rfl ?aP (fun k_ hk_ => ⟨(HRa.out.1 k_ hk_.symm).1.2, (HRa.out.1 k_ hk_.symm).2⟩) ?aF ?aO ?aB ?aS ?aL ?_; (case aP => exact Kd.M_row (zP (Kd.R_tight rfl (Kd.R_lower (mR HR.out) (yX HF.out))) (fun _ h_ => h_))); (case aB => exact (mB (zD HF.out HF2.out))); (case aF => exact (fun k_ hk => Kd.fresh' (yZ (mR (yK HV.out HF2.out))) k_ hk)); (case aO => exact (Kd.S_mono (mS (yL (S_top HA.out (zT _)) HF2.out)) (fun k_ hk => ⟨hk.1, fun e_ => absurd hk.2 (Nat.not_lt.2 (yY HR.out k_ e_.symm))⟩))); (case aS => exact (yX (mB (zD HF.out HF2.out)))); (case aL => have := HL9.out; omega); intro v_ w_ ho hb hg hat; rw [HRA.out] at ho; have n0_ := yA (Kd.R_over' (mR (yK HV.out HF2.out)) (Kd.S_typed (mS (yL HA.out HF2.out))) (by decide) hg); have n1_ := yA (ho); have n2_ := yA (hb); clear HV HA HR HRa HF HF2 HTr ho hb hg hat hx5; have HV := n0_; have HA := n1_; have HF := n2_; clear n0_ n1_ n2_; have HTr := yA (yK HT4.out HF.out); obtain ⟨ad6, e6, hx6⟩ := Kd.at_int (zN HTr.out).2.2 (n : Int) (by omega) (by omega); rw [rd_at hnt, Int.toNat_natCast, ← HYO.out] at hx6; injection e6 with e6; rw [← e6] at hx6; clear e6))
             go_roundw
             case rel => exact ⟨kk + 1, by omega, by go_num, ⟨Kd.S_mono HA.out (fun _ hk => hk.2)⟩, HV, HF⟩
             case measure => simp [intOf]; omega
          ·obtain rfl : kk = od.length := by omega
           have cc1 : decide ((od.length : Int) < (od.length : Int)) = false := decide_eq_false (by omega)
           have hRl : RL.length = od.length := by rw [HRL.out, List.length_map]
           have hVl : VL.length = od.length := by rw [HVL.out, List.length_map]
           rw [List.take_of_length_le (by omega), hr1.out] at HA
           rw [List.take_of_length_le (by omega), hr2.out] at HV
           clear hRl hVl
           obtain ⟨A20, c20, e20⟩ := Kd.R_slice HV.out
           subst e20
           obtain ⟨A19, c19, e19⟩ := Kd.S_slice HA.out
           subst e19
           go_wp2
           go_ret2
           exact ⟨_, _, rfl, Kd.S_lower (mS HA.out) (yX HB4.out), Kd.R_lower (mR HV.out) (yX HB4.out), mB (zD HB4.out HF.out)⟩
    ·obtain rfl : z = (i : Int) := by omega
     clear hz
     have c1_ : decide (0 ≤ (i : Int)) = true := zH (by omega)
     have hil : i < cl.length := by omega
     have p1 : 0 ≤ (i : Int) := by omega
     have q1 : (i : Int) < (cl.length : Int) := by omega
     obtain ⟨ad1, e1, hx1⟩ := Kd.at_int (zN HCr.out).2.2 (i : Int) p1 q1
     rw [rd_at hil, Int.toNat_natCast] at hx1
     have HDn := yA (HD.out.put hil)
     have hxr := HCL.out i hil
     obtain ⟨x, hx⟩ : ∃ x, x = cl[i] := ⟨_, rfl⟩
     rw [← hx] at hx1 HDn hxr
     clear hx
     cases e1
     replace p1 := eq_true p1
     replace q1 := eq_true q1
     have hwx : (Lit.int .i64 x).wf = true := by
      have e : wrap64 x = x := by unfold wrap64; omega
      rw [← e]
      exact wrap64_wf _
     have hwi : (Lit.int .i64 (i : Int)).wf = true := by
      have e : wrap64 (i : Int) = (i : Int) := by unfold wrap64; omega
      rw [← e]
      exact wrap64_wf _
     have hkl := Maps.keyOf_int_mk (P := Try.prog) Try.underlying3 hwx
     go_wp2_with (at_mapUpdate; refine wpList_mapUpdate_own _ rfl _ _ _ 97 rfl 3 3 intLaw Try.underlying97 _ wc.heap.size (l0.length - (i + 1)) D rfl HM.out (by unfold maxLen; omega) _ _ _ rfl rfl hkl _ [] (plainElem_int Try.underlying3 hwi) ?_)
     intro w9 hown9 hgrow9
     have HMn := yA (hown9.mono (show l0.length - (i + 1) + 1 ≤ l0.length - i by omega))
     have HFn := yA (HF.out.grown hgrow9 (yX HF.out) (fun j hj => by cases hj; exact zT _))
     clear hx1
     go_wp2
     go_roundw
     case rel => exact ⟨i, (i : Int) - 1, _, by omega, by omega, by go_num, HDn, HMn, HFn⟩
     case measure => simp [intOf]; try omega
  ·rw [if_neg hp] at h
   cases h
 ·rw [if_neg hq] at h
  cases h

end Go.Proofs.Ytefelghmmpmigaa.Q
