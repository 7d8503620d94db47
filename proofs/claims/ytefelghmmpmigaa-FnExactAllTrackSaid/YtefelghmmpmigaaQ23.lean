-- written by a program of this session (a turned copy of the kit's print) out of the translation
-- squeezed
-- compact
import Derived.Maps.OwnSet
import Derived.Maps.Views
import Derived.StringKeys
import Derived.Laws.BytesString
import Derived.Laws.IdiomStrings
import Derived.Test.YtefelghmmpmigaaQ0
namespace Go.Proofs.Ytefelghmmpmigaa.Q
open Go.RowKit Go.Proofs.YtefelghmmpmigaaW.PrintWords Go.Proofs.YtefelghmmpmigaaW.PrintLast Go.Proofs.YtefelghmmpmigaaW.PrintMore
attribute [local go_sem] max2_int min2_int max_two min_two max_three min_three max_four min_four   -- for this text's walks alone
set_option linter.unusedVariables false
set_option linter.unusedSimpArgs false

/-! ### impl_numbered: function 97 -/
theorem info5 : (Try.prog.info? 5).map (fun i => (i.zero, i.size, i.bytes)) = some (some (.int .u8 0), 1, 1) := by kernel_rfl
/-- The text of a key: two bytes a number. -/
def tx (key : List Int) : List UInt8 := key.flatMap fun x => [UInt8.ofNat (x % 256).toNat, UInt8.ofNat (x / 256 % 256).toNat]
def txI (key : List Int) : List Int := key.flatMap fun x => [x % 256, x / 256 % 256]
def okKey (key : List Int) : Bool := decide (0 < key.length) && decide (key.length ≤ 1000000) && key.all (fun x => decide (0 ≤ x ∧ x < 65536))
def numK (ks : List (List Int)) (key : List Int) : List (List Int) := if key ∈ ks then ks else ks ++ [key]
def numStep (s : List (List Int) × List Int) (key : List Int) : List (List Int) × List Int := (numK s.1 key, s.2 ++ [((numK s.1 key).idxOf key : Int)])
def numAll (keys : List (List Int)) : List (List Int) × List Int := keys.foldl numStep ([], [])
def impl_numbered.f (_k : Nat) (keys : List (List Int)) : Option (List Int × Int) := if keys.length ≤ 1000000 ∧ keys.all okKey = true then some ((numAll keys).2, ((numAll keys).1.length : Int)) else none
theorem impl_numbered.mono : ∀ a0 k, LeO (impl_numbered.f k a0) (impl_numbered.f (k + 1) a0) := fun _ _ => LeO.refl _
theorem tx_nil : tx [] = [] := rfl
theorem txI_tx (key : List Int) : txI key = (tx key).map (fun b => (b.toNat : Int)) := by
 induction key with
 | nil => rfl
 | cons x key ih =>
  have e : ∀ y : Int, ((UInt8.ofNat (y % 256).toNat).toNat : Int) = y % 256 := fun y => by
   have h1 : 0 ≤ y % 256 := Int.emod_nonneg _ (by decide)
   have h2 : y % 256 < 256 := Int.emod_lt_of_pos _ (by decide)
   rw [UInt8.toNat_ofNat']
   omega
  simp only [txI, tx, List.flatMap_cons, List.map_append, zJ, zK] at ih ⊢
  rw [e, e, ih]
theorem txI_snoc (l : List Int) (x : Int) : txI (l ++ [x]) = txI l ++ [x % 256, x / 256 % 256] := by simp [txI]
theorem txI_len (l : List Int) : (txI l).length = 2 * l.length := by
 induction l with
 | nil => rfl
 | cons x l ih => simp only [txI, List.flatMap_cons, List.length_append, List.length_cons, List.length_nil] at ih ⊢; omega
theorem tx_len (l : List Int) : (tx l).length = 2 * l.length := by
 have := txI_len l
 rw [txI_tx, List.length_map] at this
 exact this
theorem txI_inj : ∀ (a b : List Int), (∀ x ∈ a, 0 ≤ x ∧ x < 65536) → (∀ x ∈ b, 0 ≤ x ∧ x < 65536) → txI a = txI b → a = b
 | [], [], _, _, _ => rfl
 | [], y :: b, _, _, h => by simp [txI] at h
 | x :: a, [], _, _, h => by simp [txI] at h
 | x :: a, y :: b, ha, hb, h => by
  simp only [txI, List.flatMap_cons, List.cons_append, List.nil_append, List.cons.injEq] at h
  obtain ⟨h1, h2, h3⟩ := h
  have hx := ha x (List.mem_cons_self ..)
  have hy := hb y (List.mem_cons_self ..)
  rw [txI_inj a b (fun z hz => ha z (List.mem_cons_of_mem _ hz)) (fun z hz => hb z (List.mem_cons_of_mem _ hz)) h3, show x = y by omega]
theorem okKey_use {key : List Int} (h : okKey key = true) : 0 < key.length ∧ key.length ≤ 1000000 ∧ ∀ x ∈ key, 0 ≤ x ∧ x < 65536 := by
 unfold okKey at h
 simp only [Bool.and_eq_true, decide_eq_true_eq, List.all_eq_true] at h
 exact ⟨h.1.1, h.1.2, h.2⟩
theorem tx_inj {a b : List Int} (ha : okKey a = true) (hb : okKey b = true) (h : tx a = tx b) : a = b :=
 txI_inj a b (okKey_use ha).2.2 (okKey_use hb).2.2 (by rw [txI_tx, txI_tx, h])
/-- What a map of texts holds: the numbers of the keys, in their order. -/
structure MapHas (D : DataW Unit) (ks : List (List Int)) : Prop where
 tidy : Maps.Tidy D
 ok : ∀ key ∈ ks, okKey key = true
 has : ∀ key, okKey key = true → Maps.has D (.string (tx key)) = decide (key ∈ ks)
 at_ : ∀ key ∈ ks, ∀ z, D.atKey (.string (tx key)) z = .lit (.int .i64 (ks.idxOf key : Int))
 size : Maps.size D = ks.length
theorem MapHas.empty : MapHas (.map []) [] := ⟨Maps.tidy_empty, by simp, fun key _ => rfl, by simp, rfl⟩
theorem MapHas.put {D : DataW Unit} {ks : List (List Int)} (h : MapHas D ks) {key : List Int} (hk : okKey key = true) (hn : key ∉ ks) : MapHas (D.put (.string (tx key)) (.lit (.int .i64 (ks.length : Int)))) (ks ++ [key]) := by
 have hkl : WideAt.IsKeyLit (.string (tx key)) := trivial
 have hne : ∀ k, okKey k = true → k ≠ key → (Lit.string (tx k)) ≠ .string (tx key) := fun k ho hd he => by
  injection he with he
  exact hd (tx_inj ho hk he)
 refine ⟨h.tidy.put hkl _, fun k hm => ?_, fun k ho => ?_, fun k hm z => ?_, ?_⟩
 ·rcases List.mem_append.1 hm with g | g
  ·exact h.ok k g
  ·rw [List.mem_singleton] at g; rw [g]; exact hk
 ·by_cases e : k = key
  ·subst e
   rw [Maps.has_put_same h.tidy.isMap hkl]
   simp
  ·rw [Maps.has_put_other (hne k ho e), h.has k ho]
   simp [e]
 ·by_cases e : k = key
  ·subst e
   rw [Maps.atKey_put_same h.tidy.isMap hkl, List.idxOf_append, if_neg hn]
   simp
  ·have hm2 : k ∈ ks := by simpa [e] using hm
   rw [Maps.atKey_put_other (hne k (h.ok k hm2) e), h.at_ k hm2, List.idxOf_append, if_pos hm2]
 ·rw [Maps.size_put h.tidy, h.has key hk, decide_eq_false hn, h.size]
  simp
theorem own_below {H : Type} {P : Program} {k : TypeId} {R : Value → Option (DataW H × List MemPlace)} {w w1 : World} {b n : Nat} {D : DataW H} (h : w.ownsMap P k R b n D) (hb : Below w.heap.size w w1) : w1.ownsMap P k R b n D := by
 have hlt := h.lt
 obtain ⟨es, clock, h1, h2⟩ := h
 exact ⟨es, clock, (hb.block b hlt).trans h1, h2⟩
theorem R_mapped {α : Type} {d : Kd α} {e base : Nat} {w w1 : World} {ok : Nat → Prop} {v : Value} {xs : List α} {H : Type} {P : Program} {k : TypeId} {R : Value → Option (DataW H × List MemPlace)} {b n : Nat} {D : DataW H} (h : d.R e w base ok v xs) (hm : w.ownsMap P k R b n D) (hg : w.grownBy w1 (some b)) : d.R e w1 base ok v xs := by
 obtain ⟨es, clock, h1, _⟩ := hm
 refine zP (Kd.R_step (Kd.R_bound h) (fun k hk _ => hg.block k hk.2.2.1 (fun he => ?_))) (fun _ hk => hk.1)
 obtain ⟨_, _, _, q, hq, cells, hc⟩ := hk
 injection he with he
 rw [he, h1] at hc
 cases hc
theorem own_append {α : Type} {d : Kd α} {e base : Nat} {w w1 : World} {ok : Nat → Prop} {v : Value} {xs : List α} {H : Type} {P : Program} {k : TypeId} {R : Value → Option (DataW H × List MemPlace)} {b n : Nat} {D : DataW H} (hm : w.ownsMap P k R b n D) (h : d.R e w base ok v xs) (hg : w.grownBy w1 v.ownBlock) : w1.ownsMap P k R b n D := by
 refine hm.kept hg (fun he => ?_)
 obtain ⟨es, clock, h1, _⟩ := hm
 obtain ⟨cells, hc⟩ := Kd.R_typed h b he.symm
 rw [h1] at hc
 cases hc
theorem numAll_succ (keys : List (List Int)) (i : Nat) (h : i < keys.length) : numAll (keys.take (i + 1)) = numStep (numAll (keys.take i)) keys[i] := by
 rw [List.take_succ_eq_append_getElem h, numAll, List.foldl_append]
 rfl
theorem numAll_le (keys : List (List Int)) : ∀ i, i ≤ keys.length → (numAll (keys.take i)).1.length ≤ i ∧ (numAll (keys.take i)).2.length = i := by
 intro i
 induction i with
 | zero => intro _; exact ⟨by simp [numAll], by simp [numAll]⟩
 | succ i ih =>
  intro hi
  obtain ⟨h1, h2⟩ := ih (by omega)
  rw [numAll_succ keys i (by omega)]
  refine ⟨?_, by simp [numStep, h2]⟩
  simp only [numStep, numK]
  split
  ·omega
  ·simp; omega
theorem numLaw : Maps.Keyed Try.prog 9 := Maps.string_keyed Try.underlying9
theorem numZero (w : World) : (zeroValue 3).run Try.prog w = .ok (.int .i64 0) w := by kernel_rfl
theorem rd_at {xs : List Int} {i : Nat} (h : i < xs.length) : rd xs (i : Int) = xs[i] := by
 simp [rd, List.getD_eq_getElem?_getD, h]
theorem rdRows_at {xs : List (List Int)} {i : Nat} (h : i < xs.length) : rd_L1 xs (i : Int) = xs[i] := by
 simp [rd_L1, List.getD_eq_getElem?_getD, h]
theorem text_conv {key : List Int} {wr : World} {base g cap : Nat} {ok : Nat → Prop} (h : Kd.R (Kd.int .u8) 5 wr base ok (.slice (some ⟨g, 0, none⟩) (tx key).length cap) (txI key)) : (convert 104 9 (.slice (some ⟨g, 0, none⟩) (tx key).length cap)).run Try.prog wr = .ok (.string ⟨(tx key).toArray⟩) wr := by
 have htl : (txI key).length = (tx key).length := by rw [txI_len, tx_len]
 refine run_convert_bytes_back (P := Try.prog) wr 104 9 5 ⟨g, 0, none⟩ cap (tx key) Try.underlying104 Try.underlying5 Try.underlying9 (fun j hj => ?_)
 obtain ⟨ad, e, hx⟩ := Kd.at_int (zN h).2.2 (j : Int) (by omega) (by rw [htl]; omega)
 have hjI : j < (txI key).length := by rw [htl]; exact hj
 rw [rd_at hjI, Int.toNat_natCast] at hx
 cases e
 rw [hx]
 congr 2
 simp only [txI_tx, List.getElem_map]
set_option maxHeartbeats 2000000 in
set_option maxRecDepth 100000 in
theorem impl_numbered.calls (k : Nat) (A0 : Option Addr) (c0 : Nat) (l0 : List (List Int)) (r1 : List Int) (r2 : Int) (w : World) (hr0 : Kd.C (Kd.slice 3 (Kd.int .i64)) w A0 l0.length l0) (hc0 : l0.length ≤ c0) (h : impl_numbered.f k l0 = some (r1, r2)) :
  Calls Try.prog 97 #[.slice A0 l0.length c0] w fun e w' => ∃ v0_ : Value, e = .returned (.tuple #[v0_, .int .i64 r2]) ∧ Kd.R (Kd.int .i64) 3 w' w.heap.size (fun _ => True) v0_ r1 ∧ Below w.heap.size w w' := by
 have hmm := @run_makeMap Try.prog
 have HR0 := yA hr0
 have HC0 := yA hc0
 clear hr0 hc0
 have HB := yA (zV w.heap.size w)
 unfold impl_numbered.f at h
 by_cases hq : l0.length ≤ 1000000 ∧ l0.all okKey = true
 ·rw [if_pos hq] at h
  obtain ⟨hq1, hq2⟩ := hq
  have hkeys : ∀ i (hi : i < l0.length), okKey l0[i] = true := fun i hi => List.all_eq_true.1 hq2 _ (List.getElem_mem hi)
  have hres := zU h
  have hr1 : (numAll l0).2 = r1 := congrArg Prod.fst hres
  have hr2 : ((numAll l0).1.length : Int) = r2 := congrArg Prod.snd hres
  clear h hres hq2
  have HK := yA hkeys
  clear hkeys
  go_enter Try.func97, Try.ntmps97
  go_wp2_with (first | ((with_reducible refine gate_dst (N := 14) rfl ?_); refine Kd.R_lit (Kd.int .i64) _ 3 ?hg (N := 14) ?hd (xs := ([] : List Int)) (inner := []) (ok := fun _ => True) (okp := fun _ => True) ?hr ?hp (fun _ hk => hk) trivial (zV _ _) (zT _) (by simp) ?_; (case hd => rfl); (case hg => rfl); (case hr => first | (go_simp; done) | (go_simp; rfl)); (case hp => exact (Reps.none _ _)); intro v1 w1 ho hb hg_ hnew_; clear hg_ hnew_; have HM := yA (own_below (World.ownsMap_made (H := Unit) w Try.prog 9 (plainElem Try.prog 3)) hb); have n0_ := yA (Kd.R_lower ho (yX (mB HB.out))); have n1_ := yA (zD (mB HB.out) hb); clear HB ho hb; have HO := n0_; have HB := n1_; clear n0_ n1_))
  go_loopw [5, 17] (fun v5 v17 wr => ∃ (i : Nat) (D : DataW Unit), i ≤ l0.length ∧ v17 = .int .i64 (i : Int) ∧ Aside0 (Kd.R (Kd.int .i64) 3 wr w.heap.size (fun _ => True) v5 (numAll (l0.take i)).2) ∧ Aside0 (wr.ownsMap Try.prog 9 (plainElem (H := Unit) Try.prog 3) w.heap.size i D) ∧ Aside0 (MapHas D (numAll (l0.take i)).1) ∧ Aside0 (Below w.heap.size w wr)) (fun _ v17 _ => l0.length - (intOf v17).toNat)
  case atStart => exact ⟨0, .map [], Nat.zero_le _, rfl, HO, HM, ⟨MapHas.empty⟩, HB⟩
  case round =>
   clear HO HM HB
   obtain ⟨i, D, hi, rfl, HO, HM, HD, HB⟩ := hrel
   obtain ⟨hks, hos⟩ := numAll_le l0 i hi
   by_cases hlt : i < l0.length
   ·have c1 : decide ((i : Int) < (l0.length : Int)) = true := zH (by omega)
    have p1 : 0 ≤ (i : Int) := by omega
    have q1 : (i : Int) < (l0.length : Int) := by omega
    obtain ⟨ad1, A1, c1_, e1, hx1, hl1, hi1⟩ := at_L1 HR0.out (i : Int) p1 q1
    rw [rdRows_at hlt, Int.toNat_natCast] at hx1
    rw [rdRows_at hlt] at hl1 hi1
    obtain ⟨key, hkey⟩ : ∃ key, key = l0[i] := ⟨_, rfl⟩
    have hok := HK.out i hlt
    have hsucc := numAll_succ l0 i hlt
    rw [← hkey] at hx1 hl1 hi1 hok hsucc
    clear hkey
    have hsucc := yA hsucc
    obtain ⟨k0, k1, k2⟩ := okKey_use hok
    cases e1
    replace hx1 := (HB.out.cell (zE w _ hx1)).trans hx1
    have HR1 := yA hi1
    have HC1 := yA hl1
    clear hi1 hl1
    replace p1 := eq_true p1
    replace q1 := eq_true q1
    go_wp2_with (first | ((with_reducible refine gate_dst (N := 21) rfl ?_); refine Kd.R_lit (Kd.int .u8) _ 5 ?hg (N := 21) ?hd (xs := ([] : List Int)) (inner := []) (ok := fun _ => True) (okp := fun _ => True) ?hr ?hp (fun _ hk => hk) trivial (zV _ _) (zT _) (by simp) ?_; (case hd => rfl); (case hg => rfl); (case hr => first | (go_simp; done) | (go_simp; rfl)); (case hp => exact (Reps.none _ _)); intro v2 w2 ho hb hg_ hnew_; clear hg_ hnew_; have n0_ := yA (Kd.R_lower ho (yX (mB HB.out))); have n1_ := yA (yK (mR HO.out) hb); have n2_ := yA (own_below HM.out hb); have n3_ := yA (zD (mB HB.out) hb); clear HO HM HB ho hb; have HT := n0_; have HO := n1_; have HM := n2_; have HB := n3_; clear n0_ n1_ n2_ n3_))
    go_loopw [8, 24] (fun v8 v24 wr => ∃ (j : Nat), j ≤ key.length ∧ v24 = .int .i64 (j : Int) ∧ Aside0 (Kd.R (Kd.int .u8) 5 wr w.heap.size (fun _ => True) v8 (txI (key.take j))) ∧ Aside0 (Kd.R (Kd.int .i64) 3 wr w.heap.size (fun _ => True) u5 (numAll (l0.take i)).2) ∧ Aside0 (wr.ownsMap Try.prog 9 (plainElem (H := Unit) Try.prog 3) w.heap.size i D) ∧ Aside0 (Below w.heap.size w wr)) (fun _ v24 _ => key.length - (intOf v24).toNat)
    case atStart => exact ⟨0, Nat.zero_le _, rfl, HT, HO, HM, HB⟩
    case round =>
     clear HT HO HM HB hx1 p1 q1 c1
     obtain ⟨j, hj, rfl, HT, HO, HM, HB⟩ := hrel
     by_cases hjt : j < key.length
     ·have c2 : decide ((j : Int) < (key.length : Int)) = true := zH (by omega)
      have p2 : 0 ≤ (j : Int) := by omega
      have q2 : (j : Int) < (key.length : Int) := by omega
      obtain ⟨ad2, e2, hx2⟩ := Kd.at_int HR1.out (j : Int) p2 q2
      rw [rd_at hjt, Int.toNat_natCast] at hx2
      obtain ⟨x, hx⟩ : ∃ x, x = key[j] := ⟨_, rfl⟩
      have hsnoc := txI_snoc (key.take j) x
      rw [hx, ← List.take_succ_eq_append_getElem hjt, ← hx] at hsnoc
      rw [← hx] at hx2
      clear hx
      have hlen : (txI (key.take j)).length ≤ 2000000 := by rw [txI_len, zM]; omega
      cases e2
      replace hx2 := (HB.out.cell (zE w _ hx2)).trans hx2
      replace p2 := eq_true p2
      replace q2 := eq_true q2
      go_wp2_with (first | ((with_reducible refine gate_dst (N := 34) rfl ?_); refine Kd.R_lit (Kd.int .u8) _ 5 ?hg (N := 34) ?hd (xs := ([x % 256, x / 256 % 256] : List Int)) (inner := [.int .u8 (x % 256), .int .u8 (x / 256 % 256)]) (ok := fun _ => True) (okp := fun _ => True) ?hr ?hp (fun _ hk => hk) trivial (zV _ _) (zT _) (by simp) ?_; (case hd => rfl); (case hg => rfl); (case hr => first | (go_simp; done) | (go_simp; rfl)); (case hp => exact (Reps.one (show Kd.M (Kd.int .u8) _ _ _ (x % 256) [.int .u8 (x % 256)] from rfl) (Reps.one (show Kd.M (Kd.int .u8) _ _ _ (x / 256 % 256) [.int .u8 (x / 256 % 256)] from rfl) (Reps.none _ _)))); intro v3 w3 ho hb hg_ hnew_; clear hg_ hnew_; have n0_ := yA (Kd.R_new' ho (yZ (mR HT.out))); have n1_ := yA (zP (zO (mR HT.out) (yY ho) hb) (fun _ _ => trivial)); have n2_ := yA (yK (mR HO.out) hb); have n3_ := yA (own_below HM.out hb); have n4_ := yA (zD (mB HB.out) hb); clear HT HO HM HB ho hb; have HL := n0_; have HT := n1_; have HO := n2_; have HM := n3_; have HB := n4_; clear n0_ n1_ n2_ n3_ n4_; obtain ⟨A3, c3, e3⟩ := Kd.R_slice HL.out; subst e3) | ((with_reducible refine gate_builtin (b := .append) (xs := #[.tmp 28, .tmp 34]) rfl ?_); at_builtin; refine Kd.R_append_rows (Kd.int .u8) (w0 := w) w.heap.size rfl (.tmp 28) (.tmp 34) 104 5 (.int .u8 0) 1 rfl Try.underlying104 info5 rfl (by decide) (by omega) u8 (txI (key.take j)) [x % 256, x / 256 % 256] _ _ _ (fun _ => True) (fun _ => False) rfl rfl ?aO ?aR (fun _ _ h => h) (fun _ h => h.elim) (fun _ _ => trivial) ?aB ?aS ?aL ?_; (case aR => exact mC (zN HL.out).2.2); (case aB => exact (mB HB.out)); (case aO => exact (mR HT.out)); (case aS => exact (yX (mB HB.out))); (case aL => simp only [List.length_cons, List.length_nil]; omega); intro v_ w_ ho hb hg hat; rw [← hsnoc] at ho; have n0_ := yA (Kd.R_over' (mR HO.out) (Kd.R_typed (mR HT.out)) (by decide) hg); have n1_ := yA (own_append (own_below HM.out (zV _ _)) (mR HT.out) hg); have n2_ := yA (zP ho (fun _ _ => trivial)); have n3_ := yA (hb); clear HO HM HT HL HB ho hb hg hat; have HO := n0_; have HM := n1_; have HT := n2_; have HB := n3_; clear n0_ n1_ n2_ n3_))
      go_roundw
      case rel => exact ⟨j + 1, by omega, by go_num, HT, HO, HM, HB⟩
      case measure => simp [intOf]; omega
     ·obtain rfl : j = key.length := by omega
      have c2 : decide ((key.length : Int) < (key.length : Int)) = false := decide_eq_false (by omega)
      rw [List.take_length] at HT
      have htl : (txI key).length = (tx key).length := by rw [txI_len, tx_len]
      obtain ⟨g, cap, e8, hgb, hgl, hgc⟩ := Kd.R_form HT.out (by rw [txI_len]; omega)
      rw [htl] at e8
      subst e8
      have hcv := text_conv (key := key) HT.out
      have htx := tx_len key
      have hkl : keyOf Try.prog 9 (.string ⟨(tx key).toArray⟩) = some (.string (tx key)) := by
       have hz : (⟨(tx key).toArray⟩ : ByteArray).size ≤ maxLen := by
        show (tx key).toArray.size ≤ maxLen
        rw [List.size_toArray, htx]
        unfold maxLen
        omega
       exact WideMaps.keyOf_string_mk (P := Try.prog) Try.underlying9 hz
      obtain ⟨v4, ps4, hlk, hv4⟩ := HM.out.look_ok numLaw Try.underlying103 (numZero _) (plainElem_int Try.underlying3 (by decide)) hkl
      obtain ⟨cc, rfl, _, _⟩ := plainElem_int_inv Try.underlying3 hv4
      clear hv4
      have hhas := HD.out.has key hok
      clear htx
      by_cases hm : key ∈ (numAll (l0.take i)).1
      ·have hK : numK (numAll (l0.take i)).1 key = (numAll (l0.take i)).1 := if_pos hm
       rw [hhas, zH hm] at hlk
       obtain ⟨c5, hlk2, hat5, _⟩ := HM.out.lookup_int numLaw Try.underlying103 Try.underlying3 (numZero _) hkl
       have hc5 : ((numAll (l0.take i)).1.idxOf key : Int) = c5 := by
        have := (HD.out.at_ key hm _).symm.trans hat5
        injection this with this
        injection this
       have hout : (numAll (l0.take i)).2 ++ [c5] = (numAll (l0.take (i + 1))).2 := by rw [hsucc.out, ← hc5, numStep, hK]
       have hkks : (numAll (l0.take i)).1 = (numAll (l0.take (i + 1))).1 := by rw [hsucc.out, numStep, hK]
       have HD' := HD
       rw [hkks] at HD'
       have hout := yA hout
       clear hat5 hc5 hhas hkks hK
       go_wp2_with (first | ((with_reducible refine gate_dst (N := 56) rfl ?_); refine Kd.R_lit (Kd.int .i64) _ 3 ?hg (N := 56) ?hd (xs := ([c5] : List Int)) (inner := [.int .i64 c5]) (ok := fun _ => True) (okp := fun _ => True) ?hr ?hp (fun _ hk => hk) trivial (zV _ _) (zT _) (by simp) ?_; (case hd => rfl); (case hg => rfl); (case hr => first | (go_simp; done) | (go_simp; rfl)); (case hp => exact (Reps.one (show Kd.M (Kd.int .i64) _ _ _ (c5) [.int .i64 (c5)] from rfl) (Reps.none _ _))); intro v5 w5 ho hb hg_ hnew_; clear hg_ hnew_; have n0_ := yA (Kd.R_new' ho (yZ (mR HO.out))); have n1_ := yA (zP (zO (mR HO.out) (yY ho) hb) (fun _ _ => trivial)); have n2_ := yA (own_below HM.out hb); have n3_ := yA (zD (mB HB.out) hb); clear HO HM HB ho hb; have HL := n0_; have HO := n1_; have HM := n2_; have HB := n3_; clear n0_ n1_ n2_ n3_; obtain ⟨A6, c6, e6⟩ := Kd.R_slice HL.out; subst e6) | ((with_reducible refine gate_builtin (b := .append) (xs := #[.tmp 51, .tmp 56]) rfl ?_); at_builtin; refine Kd.R_append_rows (Kd.int .i64) (w0 := w) w.heap.size rfl (.tmp 51) (.tmp 56) 23 3 (.int .i64 0) 8 rfl Try.underlying23 info3 rfl (by decide) (by omega) u5 (numAll (l0.take i)).2 [c5] _ _ _ (fun _ => True) (fun _ => False) rfl rfl ?aO ?aR (fun _ _ h => h) (fun _ h => h.elim) (fun _ _ => trivial) ?aB ?aS ?aL ?_; (case aR => exact mC (zN HL.out).2.2); (case aB => exact (mB HB.out)); (case aO => exact (mR HO.out)); (case aS => exact (yX (mB HB.out))); (case aL => simp only [List.length_cons, List.length_nil]; omega); intro v_ w_ ho hb hg hat; rw [hout.out] at ho; have n0_ := yA (own_append (own_below HM.out (zV _ _)) (mR HO.out) hg); have n1_ := yA (zP ho (fun _ _ => trivial)); have n2_ := yA (hb); clear HO HM HL HB ho hb hg hat; have HM := n0_; have HO := n1_; have HB := n2_; clear n0_ n1_ n2_))
       go_roundw
       case rel => exact ⟨i + 1, D, by omega, by go_num, HO, ⟨HM.out.mono (Nat.le_succ _)⟩, HD', HB⟩
       case measure => simp [intOf]; omega
      ·have hK : numK (numAll (l0.take i)).1 key = (numAll (l0.take i)).1 ++ [key] := if_neg hm
       rw [hhas, decide_eq_false hm] at hlk
       have hml := HM.out.len Try.underlying103 3
       rw [HD.out.size] at hml
       have hwf : (Lit.int .i64 ((numAll (l0.take i)).1.length : Int)).wf = true := by
        have e : wrap64 ((numAll (l0.take i)).1.length : Int) = ((numAll (l0.take i)).1.length : Int) := by unfold wrap64; omega
        rw [← e]
        exact wrap64_wf _
       clear hhas
       go_wp2_with (at_mapUpdate; refine wpList_mapUpdate_own _ rfl _ _ _ 103 rfl 9 3 numLaw Try.underlying103 _ w.heap.size i D rfl HM.out (by unfold maxLen; omega) _ _ _ rfl rfl hkl _ [] (plainElem_int Try.underlying3 hwf) ?_)
       intro w9 hown9 hgrow9
       have HD' := yA (HD.out.put hok hm)
       have HO9 := yA (R_mapped HO.out HM.out hgrow9)
       have HT9 := yA (R_mapped HT.out HM.out hgrow9)
       have HB9 := yA (HB.out.grown hgrow9 (yX HB.out) (fun j hj => by cases hj; exact zT _))
       have HM9 := yA hown9
       clear HO HT HB HM HD hcv hlk hml hown9 hgrow9
       have HO := HO9
       have HT := HT9
       have HB := HB9
       have HM := HM9
       clear HO9 HT9 HB9 HM9
       have hcv := text_conv (key := key) HT.out
       obtain ⟨c5, hlk2, hat5, _⟩ := HM.out.lookup_int numLaw Try.underlying103 Try.underlying3 (numZero _) hkl
       have hc5 : (((numAll (l0.take i)).1 ++ [key]).idxOf key : Int) = c5 := by
        have := (HD'.out.at_ key (by simp) _).symm.trans hat5
        injection this with this
        injection this
       have hout : (numAll (l0.take i)).2 ++ [c5] = (numAll (l0.take (i + 1))).2 := by rw [hsucc.out, ← hc5, numStep, hK]
       have hkks : (numAll (l0.take i)).1 ++ [key] = (numAll (l0.take (i + 1))).1 := by rw [hsucc.out, numStep, hK]
       rw [hkks] at HD'
       have hout := yA hout
       clear hat5 hc5 hkks hK
       go_wp2_with (first | ((with_reducible refine gate_dst (N := 56) rfl ?_); refine Kd.R_lit (Kd.int .i64) _ 3 ?hg (N := 56) ?hd (xs := ([c5] : List Int)) (inner := [.int .i64 c5]) (ok := fun _ => True) (okp := fun _ => True) ?hr ?hp (fun _ hk => hk) trivial (zV _ _) (zT _) (by simp) ?_; (case hd => rfl); (case hg => rfl); (case hr => first | (go_simp; done) | (go_simp; rfl)); (case hp => exact (Reps.one (show Kd.M (Kd.int .i64) _ _ _ (c5) [.int .i64 (c5)] from rfl) (Reps.none _ _))); intro v5 w5 ho hb hg_ hnew_; clear hg_ hnew_; have n0_ := yA (Kd.R_new' ho (yZ (mR HO.out))); have n1_ := yA (zP (zO (mR HO.out) (yY ho) hb) (fun _ _ => trivial)); have n2_ := yA (own_below HM.out hb); have n3_ := yA (zD (mB HB.out) hb); clear HO HM HB ho hb; have HL := n0_; have HO := n1_; have HM := n2_; have HB := n3_; clear n0_ n1_ n2_ n3_; obtain ⟨A6, c6, e6⟩ := Kd.R_slice HL.out; subst e6) | ((with_reducible refine gate_builtin (b := .append) (xs := #[.tmp 51, .tmp 56]) rfl ?_); at_builtin; refine Kd.R_append_rows (Kd.int .i64) (w0 := w) w.heap.size rfl (.tmp 51) (.tmp 56) 23 3 (.int .i64 0) 8 rfl Try.underlying23 info3 rfl (by decide) (by omega) u5 (numAll (l0.take i)).2 [c5] _ _ _ (fun _ => True) (fun _ => False) rfl rfl ?aO ?aR (fun _ _ h => h) (fun _ h => h.elim) (fun _ _ => trivial) ?aB ?aS ?aL ?_; (case aR => exact mC (zN HL.out).2.2); (case aB => exact (mB HB.out)); (case aO => exact (mR HO.out)); (case aS => exact (yX (mB HB.out))); (case aL => simp only [List.length_cons, List.length_nil]; omega); intro v_ w_ ho hb hg hat; rw [hout.out] at ho; have n0_ := yA (own_append (own_below HM.out (zV _ _)) (mR HO.out) hg); have n1_ := yA (zP ho (fun _ _ => trivial)); have n2_ := yA (hb); clear HO HM HL HB ho hb hg hat; have HM := n0_; have HO := n1_; have HB := n2_; clear n0_ n1_ n2_))
       go_roundw
       case rel => exact ⟨i + 1, _, by omega, by go_num, HO, HM, HD', HB⟩
       case measure => simp [intOf]; omega
   ·obtain rfl : i = l0.length := by omega
    have c1 : decide ((l0.length : Int) < (l0.length : Int)) = false := decide_eq_false (by omega)
    rw [List.take_length] at HO HD
    have hml := HM.out.len Try.underlying103 3
    rw [HD.out.size, hr2] at hml
    rw [hr1] at HO
    obtain ⟨Ao, co, eo⟩ := Kd.R_slice HO.out
    subst eo
    go_wp2
    go_ret2
    exact ⟨_, rfl, mR HO.out, mB HB.out⟩
 ·rw [if_neg hq] at h
  cases h

end Go.Proofs.Ytefelghmmpmigaa.Q
