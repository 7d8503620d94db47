/- How the arguments of a law read: from the reading of the given statement to the facts on memory that the contracts of the printed functions ask for; no conditions. -/
import Derived.Test.YtefelghmmpmigaaQ0
import Derived.WalkKit
import Derived.ProofKit
import Derived.OpenShut
import Derived.ShutString
import Derived.ChangeOld
import Derived.Below
import Derived.SizedLaws
import Derived.Deep.Slices
import Derived.Lib.SmallJoins
namespace Go.Proofs.Ytefelghmmpmigaa.MRow
open Go.ChangeShapes Go.WideShapes Go.ChangeAt Go.RowKit Go.Proofs.YtefelghmmpmigaaW.PrintWords Go.Proofs.YtefelghmmpmigaaW.PrintLast
set_option linter.unusedVariables false
set_option linter.unusedSimpArgs false

theorem addr_add_add (a : Addr) (i j : Nat) : (a.add i).add j = a.add (i + j) := by
  unfold Addr.add
  rcases Nat.eq_zero_or_pos i with h | h
  · subst h
    simp
  · rw [if_neg (by omega : ¬ i = 0), if_neg (by omega : ¬ i + j = 0)]
    split
    · subst_vars
      simp
    · simp [Nat.add_assoc]

/-- What the form reads as data of a type is a value of a kind. -/
structure Opens {α : Type} (P : Program) (t : TypeId) (d : Kd α) (wf : α → Prop) : Prop where
  cells : P.cellsOf t = d.sz
  op : ∀ {H : Type} {enc : TypeId × Value → H} {w : World} {fuel : Nat} {cs : List Value} {x : DataW H × List MemPlace}, DataW.trod enc P w 0 (fun _ => true) true fuel t cs = some x → ∃ v, d.K w v cs ∧ wf v

def wfi (x : Int) : Prop := -9223372036854775808 ≤ x ∧ x ≤ 9223372036854775807
theorem opens_int {P : Program} {t : TypeId} (ht : P.underlying t = some (.int .i64)) (hc : P.cellsOf t = 1) : Opens P t (Kd.int .i64) wfi := by
  refine ⟨hc, fun h => ?_⟩
  obtain ⟨n, rfl, rfl, hw⟩ := DataW.trod_int ht h
  refine ⟨n, rfl, ?_⟩
  unfold wfi
  have := bounds_i64 hw
  omega
theorem opens_bool {P : Program} {t : TypeId} (ht : P.underlying t = some .bool) (hc : P.cellsOf t = 1) : Opens P t Kd.bool (fun _ => True) := by
  refine ⟨hc, fun h => ?_⟩
  obtain ⟨b, rfl, rfl⟩ := DataW.trod_bool ht h
  exact ⟨b, rfl, trivial⟩
def wfl {α : Type} (wf : α → Prop) (l : List α) : Prop := l.length ≤ 9223372036854775807 ∧ ∀ x ∈ l, wf x
theorem opens_row {α : Type} {P : Program} {t e : TypeId} {d : Kd α} {wf : α → Prop} (he : Opens P e d wf) (ht : P.underlying t = some (.slice e))
    {H : Type} {enc : TypeId × Value → H} {w : World} {fuel : Nat} {cs : List Value} {x : DataW H × List MemPlace} (h : DataW.trod enc P w 0 (fun _ => true) true fuel t cs = some x) :
    ∃ (l : List α) (A : Option Addr) (c : Nat), cs = [.slice A l.length c] ∧ l.length ≤ c ∧ d.C w A l.length l ∧ wfl wf l := by
  rcases Go.Deep.open_slice ht h with ⟨rfl, _⟩ | ⟨a, len, cap, m, n, D, Pl, rfl, _, hl, hm, hmm, _, hx⟩
  · exact ⟨[], none, 0, rfl, Nat.le_refl _, ⟨rfl, by simp, fun h => absurd h (by simp)⟩, by simp, fun x hx => by simp at hx⟩
  have hmx : cap ≤ 9223372036854775807 := by unfold maxLen at hm; exact hm
  have hmc : m = cap := by simpa using hmm
  clear hmm
  have key : ∀ i, i < len → ∃ v : α, wf v ∧ ∃ c, c.length = d.sz ∧ d.K w v c ∧ ∀ j u, c[j]? = some u → w.cell? ((a.add (i * d.sz)).add j) = some u := by
    intro i hi
    obtain ⟨cs', h1, h2⟩ := hx i (by omega)
    obtain ⟨v, hk, hw⟩ := he.op h2
    obtain ⟨_, h4, h5⟩ := World.cells?_some h1
    refine ⟨v, hw, cs', d.K_len hk, hk, fun j u hj => ?_⟩
    rw [← he.cells, h5 j (by have := (List.getElem?_eq_some_iff.1 hj).1; omega), hj]
  classical
  by_cases h0 : len = 0
  · subst h0
    exact ⟨[], some a, cap, rfl, by simp, ⟨rfl, by simp, fun h => absurd h (by simp)⟩, by simp, fun x hx => by simp at hx⟩
  obtain ⟨v0, _⟩ := key 0 (by omega)
  let f : Nat → α := fun i => if h : i < len then Classical.choose (key i h) else v0
  have hf : ∀ i (h : i < len), f i = Classical.choose (key i h) := fun i h => dif_pos h
  have hlen : ((List.range len).map f).length = len := by simp
  refine ⟨(List.range len).map f, some a, cap, by rw [hlen], by rw [hlen]; exact hl, ⟨rfl, by rw [hlen]; omega, fun _ => ⟨a, rfl, fun j p hj => ?_⟩⟩, by rw [hlen]; omega, fun x hx => ?_⟩
  · have hj' : j < len := by have := (List.getElem?_eq_some_iff.1 hj).1; omega
    have e : f j = p := by simpa [hj'] using hj
    obtain ⟨hw, c, hc, hk, hcell⟩ := Classical.choose_spec (key j hj')
    rw [← hf j hj', e] at hk
    refine ⟨c, hc, hk, fun i u hi => ?_⟩
    have := hcell i u hi
    rw [addr_add_add] at this
    exact this
  · obtain ⟨i, hi, rfl⟩ := List.mem_map.1 hx
    have hi' : i < len := List.mem_range.1 hi
    rw [hf i hi']
    exact (Classical.choose_spec (key i hi')).1
theorem opens_slice {α : Type} {P : Program} {t e : TypeId} {d : Kd α} {wf : α → Prop} (he : Opens P e d wf) (ht : P.underlying t = some (.slice e)) (hc : P.cellsOf t = 1) : Opens P t (Kd.slice e d) (wfl wf) := by
  refine ⟨hc, fun h => ?_⟩
  obtain ⟨l, A, c, rfl, hl, hC, hw⟩ := opens_row he ht h
  exact ⟨l, ⟨A, c, rfl, hl, hC⟩, hw⟩
theorem take_drop_one (cs : List Value) (i : Nat) (v : Value) (h : (cs.drop i).take 1 = [v]) : cs[i]? = some v := by
  have : ((cs.drop i).take 1)[0]? = some v := by rw [h]; rfl
  rw [List.getElem?_take_of_lt (by omega), List.getElem?_drop] at this
  simpa using this
theorem own : ownKnob Try.prog.godebug = none := by kernel_rfl
theorem laidOut : laidOutB Try.prog = true := by kernel_rfl
end Go.Proofs.Ytefelghmmpmigaa.MRow
