/-
  No cell of these rows narrows 'for every input' (looked for: loops, veiled, ifaces, maps, wideKeys, modest, calm, conditions, laid).
  DERIVED. THE GIVEN ROWS OF THIS SEAT. 12 by the template 'for every input the law returns true; each argument reads behind the call as it read before'; 0 by the template 'total and deterministic' (their statements: YtgopcliohchkmaaTotals.lean).
  GIVEN WITH THE SEED: the statements are not yours to turn. If you find one false, say at which input.
  Laid BY PROGRAM, IN A SANDBOX (cutbox-rows.mjs): the forced cells as the released guide's own fill.sh prints them over the translation 04156b771672a8d3… (all of the seat's roots in one cut). By AI agents, Wed Nov 11 2026. No macro, syntax, notation, axiom, sorry.
-/
import Derived.Test.YtgopcliohchkmaaChecked
import GoSem.Claim
import GoSem.ClaimJoined
import GoSem.ClaimMapViews
import Derived.JoinedTies
import Derived.KernelRfl
namespace Go.Proofs.Ytgopcliohchkmaa
/- THE CELL 'sum', in the pinned program and in every row, IS THE sha256 OF THE DUMP (.gsa) THAT YtgopcliohchkmaaProg.lean LOADS. Nothing in Lean hashes anything: it is a label: what it is worth is what the hold of that sum in a sandbox is worth. -/
noncomputable def Try.pinned : Pinned := { name := "ytgopcliohchkmaa", sum := "04156b771672a8d3827ac61400cfe194fefb84a870393cc289a315cbacdc09ad", checked := Try.checked }
namespace Rows
def none {H : Type} : Left H := { results := [], args := [] }

/-- 'laws.FnExactSumRelation': WHATEVER THE INPUT: true; the input reads as it did. -/
def fnExactSumRelationSpec : ChangeSpec := { name := "fnExactSumRelation", fn := fun _ => fun
  | [d] => { results := [.lit (.bool true)], args := [d] }
  | _ => none }
def fnExactSumRelationRow : OpenClaim := { program := "ytgopcliohchkmaa", sum := "04156b771672a8d3827ac61400cfe194fefb84a870393cc289a315cbacdc09ad", func := "loop.example/g02079/laws.FnExactSumRelation", spec := "fnExactSumRelation", unfollowed := true, recurses := true, apart := false }
def FnExactSumRelationSaid : Prop := fnExactSumRelationRow.holds Try.pinned (OpenSpec.ofChange fnExactSumRelationSpec)

/-- ITS FALSE NEIGHBOUR: 'it returns false'. Refute it at one input. -/
def fnExactSumRelationWrong : ChangeSpec := { name := "fnExactSumRelation", fn := fun _ => fun
  | [d] => { results := [.lit (.bool false)], args := [d] }
  | _ => none }
def FnExactSumRelationWrongFalsely : Prop := fnExactSumRelationRow.holds Try.pinned (OpenSpec.ofChange fnExactSumRelationWrong)

/-- 'laws.FnExactNumberRelation': WHATEVER THE INPUT: true; the input reads as it did. -/
def fnExactNumberRelationSpec : ChangeSpec := { name := "fnExactNumberRelation", fn := fun _ => fun
  | [d1, d2] => { results := [.lit (.bool true)], args := [d1, d2] }
  | _ => none }
def fnExactNumberRelationRow : OpenClaim := { program := "ytgopcliohchkmaa", sum := "04156b771672a8d3827ac61400cfe194fefb84a870393cc289a315cbacdc09ad", func := "loop.example/g02079/laws.FnExactNumberRelation", spec := "fnExactNumberRelation", unfollowed := true, recurses := true, apart := false }
def FnExactNumberRelationSaid : Prop := fnExactNumberRelationRow.holds Try.pinned (OpenSpec.ofChange fnExactNumberRelationSpec)

/-- ITS FALSE NEIGHBOUR: 'it returns false'. Refute it at one input. -/
def fnExactNumberRelationWrong : ChangeSpec := { name := "fnExactNumberRelation", fn := fun _ => fun
  | [d1, d2] => { results := [.lit (.bool false)], args := [d1, d2] }
  | _ => none }
def FnExactNumberRelationWrongFalsely : Prop := fnExactNumberRelationRow.holds Try.pinned (OpenSpec.ofChange fnExactNumberRelationWrong)

/-- 'laws.FnExactIsEmptyRelation': WHATEVER THE INPUT: true; the input reads as it did. -/
def fnExactIsEmptyRelationSpec : ChangeSpec := { name := "fnExactIsEmptyRelation", fn := fun _ => fun
  | [d] => { results := [.lit (.bool true)], args := [d] }
  | _ => none }
def fnExactIsEmptyRelationRow : OpenClaim := { program := "ytgopcliohchkmaa", sum := "04156b771672a8d3827ac61400cfe194fefb84a870393cc289a315cbacdc09ad", func := "loop.example/g02079/laws.FnExactIsEmptyRelation", spec := "fnExactIsEmptyRelation", apart := false }
def FnExactIsEmptyRelationSaid : Prop := fnExactIsEmptyRelationRow.holds Try.pinned (OpenSpec.ofChange fnExactIsEmptyRelationSpec)

/-- ITS FALSE NEIGHBOUR: 'it returns false'. Refute it at one input. -/
def fnExactIsEmptyRelationWrong : ChangeSpec := { name := "fnExactIsEmptyRelation", fn := fun _ => fun
  | [d] => { results := [.lit (.bool false)], args := [d] }
  | _ => none }
def FnExactIsEmptyRelationWrongFalsely : Prop := fnExactIsEmptyRelationRow.holds Try.pinned (OpenSpec.ofChange fnExactIsEmptyRelationWrong)

/-- 'laws.FnExactIsWholeRelation': WHATEVER THE INPUT: true; the input reads as it did. -/
def fnExactIsWholeRelationSpec : ChangeSpec := { name := "fnExactIsWholeRelation", fn := fun _ => fun
  | [d] => { results := [.lit (.bool true)], args := [d] }
  | _ => none }
def fnExactIsWholeRelationRow : OpenClaim := { program := "ytgopcliohchkmaa", sum := "04156b771672a8d3827ac61400cfe194fefb84a870393cc289a315cbacdc09ad", func := "loop.example/g02079/laws.FnExactIsWholeRelation", spec := "fnExactIsWholeRelation", apart := false }
def FnExactIsWholeRelationSaid : Prop := fnExactIsWholeRelationRow.holds Try.pinned (OpenSpec.ofChange fnExactIsWholeRelationSpec)

/-- ITS FALSE NEIGHBOUR: 'it returns false'. Refute it at one input. -/
def fnExactIsWholeRelationWrong : ChangeSpec := { name := "fnExactIsWholeRelation", fn := fun _ => fun
  | [d] => { results := [.lit (.bool false)], args := [d] }
  | _ => none }
def FnExactIsWholeRelationWrongFalsely : Prop := fnExactIsWholeRelationRow.holds Try.pinned (OpenSpec.ofChange fnExactIsWholeRelationWrong)

/-- 'laws.FnExactContains': WHATEVER THE INPUT: true; the input reads as it did. -/
def fnExactContainsSpec : ChangeSpec := { name := "fnExactContains", fn := fun _ => fun
  | [d1, d2] => { results := [.lit (.bool true)], args := [d1, d2] }
  | _ => none }
def fnExactContainsRow : OpenClaim := { program := "ytgopcliohchkmaa", sum := "04156b771672a8d3827ac61400cfe194fefb84a870393cc289a315cbacdc09ad", func := "loop.example/g02079/laws.FnExactContains", spec := "fnExactContains", apart := false }
def FnExactContainsSaid : Prop := fnExactContainsRow.holds Try.pinned (OpenSpec.ofChange fnExactContainsSpec)

/-- ITS FALSE NEIGHBOUR: 'it returns false'. Refute it at one input. -/
def fnExactContainsWrong : ChangeSpec := { name := "fnExactContains", fn := fun _ => fun
  | [d1, d2] => { results := [.lit (.bool false)], args := [d1, d2] }
  | _ => none }
def FnExactContainsWrongFalsely : Prop := fnExactContainsRow.holds Try.pinned (OpenSpec.ofChange fnExactContainsWrong)

/-- 'laws.FnExactLeastMember': WHATEVER THE INPUT: true; the input reads as it did. -/
def fnExactLeastMemberSpec : ChangeSpec := { name := "fnExactLeastMember", fn := fun _ => fun
  | [d] => { results := [.lit (.bool true)], args := [d] }
  | _ => none }
def fnExactLeastMemberRow : OpenClaim := { program := "ytgopcliohchkmaa", sum := "04156b771672a8d3827ac61400cfe194fefb84a870393cc289a315cbacdc09ad", func := "loop.example/g02079/laws.FnExactLeastMember", spec := "fnExactLeastMember", apart := false }
def FnExactLeastMemberSaid : Prop := fnExactLeastMemberRow.holds Try.pinned (OpenSpec.ofChange fnExactLeastMemberSpec)

/-- ITS FALSE NEIGHBOUR: 'it returns false'. Refute it at one input. -/
def fnExactLeastMemberWrong : ChangeSpec := { name := "fnExactLeastMember", fn := fun _ => fun
  | [d] => { results := [.lit (.bool false)], args := [d] }
  | _ => none }
def FnExactLeastMemberWrongFalsely : Prop := fnExactLeastMemberRow.holds Try.pinned (OpenSpec.ofChange fnExactLeastMemberWrong)

/-- 'laws.FnExactIsFiniteSet': WHATEVER THE INPUT: true; the input reads as it did. -/
def fnExactIsFiniteSetSpec : ChangeSpec := { name := "fnExactIsFiniteSet", fn := fun _ => fun
  | [d] => { results := [.lit (.bool true)], args := [d] }
  | _ => none }
def fnExactIsFiniteSetRow : OpenClaim := { program := "ytgopcliohchkmaa", sum := "04156b771672a8d3827ac61400cfe194fefb84a870393cc289a315cbacdc09ad", func := "loop.example/g02079/laws.FnExactIsFiniteSet", spec := "fnExactIsFiniteSet", apart := false }
def FnExactIsFiniteSetSaid : Prop := fnExactIsFiniteSetRow.holds Try.pinned (OpenSpec.ofChange fnExactIsFiniteSetSpec)

/-- ITS FALSE NEIGHBOUR: 'it returns false'. Refute it at one input. -/
def fnExactIsFiniteSetWrong : ChangeSpec := { name := "fnExactIsFiniteSet", fn := fun _ => fun
  | [d] => { results := [.lit (.bool false)], args := [d] }
  | _ => none }
def FnExactIsFiniteSetWrongFalsely : Prop := fnExactIsFiniteSetRow.holds Try.pinned (OpenSpec.ofChange fnExactIsFiniteSetWrong)

/-- 'laws.FnExactMembersOf': WHATEVER THE INPUT: true; the input reads as it did. -/
def fnExactMembersOfSpec : ChangeSpec := { name := "fnExactMembersOf", fn := fun _ => fun
  | [d1, d2] => { results := [.lit (.bool true)], args := [d1, d2] }
  | _ => none }
def fnExactMembersOfRow : OpenClaim := { program := "ytgopcliohchkmaa", sum := "04156b771672a8d3827ac61400cfe194fefb84a870393cc289a315cbacdc09ad", func := "loop.example/g02079/laws.FnExactMembersOf", spec := "fnExactMembersOf", apart := false }
def FnExactMembersOfSaid : Prop := fnExactMembersOfRow.holds Try.pinned (OpenSpec.ofChange fnExactMembersOfSpec)

/-- ITS FALSE NEIGHBOUR: 'it returns false'. Refute it at one input. -/
def fnExactMembersOfWrong : ChangeSpec := { name := "fnExactMembersOf", fn := fun _ => fun
  | [d1, d2] => { results := [.lit (.bool false)], args := [d1, d2] }
  | _ => none }
def FnExactMembersOfWrongFalsely : Prop := fnExactMembersOfRow.holds Try.pinned (OpenSpec.ofChange fnExactMembersOfWrong)

/-- 'laws.FnExactAreSameSets': WHATEVER THE INPUT: true; the input reads as it did. -/
def fnExactAreSameSetsSpec : ChangeSpec := { name := "fnExactAreSameSets", fn := fun _ => fun
  | [d1, d2] => { results := [.lit (.bool true)], args := [d1, d2] }
  | _ => none }
def fnExactAreSameSetsRow : OpenClaim := { program := "ytgopcliohchkmaa", sum := "04156b771672a8d3827ac61400cfe194fefb84a870393cc289a315cbacdc09ad", func := "loop.example/g02079/laws.FnExactAreSameSets", spec := "fnExactAreSameSets", unfollowed := true, recurses := true, apart := false }
def FnExactAreSameSetsSaid : Prop := fnExactAreSameSetsRow.holds Try.pinned (OpenSpec.ofChange fnExactAreSameSetsSpec)

/-- ITS FALSE NEIGHBOUR: 'it returns false'. Refute it at one input. -/
def fnExactAreSameSetsWrong : ChangeSpec := { name := "fnExactAreSameSets", fn := fun _ => fun
  | [d1, d2] => { results := [.lit (.bool false)], args := [d1, d2] }
  | _ => none }
def FnExactAreSameSetsWrongFalsely : Prop := fnExactAreSameSetsRow.holds Try.pinned (OpenSpec.ofChange fnExactAreSameSetsWrong)

/-- 'laws.FnExactReducedRelation': WHATEVER THE INPUT: true; the input reads as it did. -/
def fnExactReducedRelationSpec : ChangeSpec := { name := "fnExactReducedRelation", fn := fun _ => fun
  | [d] => { results := [.lit (.bool true)], args := [d] }
  | _ => none }
def fnExactReducedRelationRow : OpenClaim := { program := "ytgopcliohchkmaa", sum := "04156b771672a8d3827ac61400cfe194fefb84a870393cc289a315cbacdc09ad", func := "loop.example/g02079/laws.FnExactReducedRelation", spec := "fnExactReducedRelation", apart := false }
def FnExactReducedRelationSaid : Prop := fnExactReducedRelationRow.holds Try.pinned (OpenSpec.ofChange fnExactReducedRelationSpec)

/-- ITS FALSE NEIGHBOUR: 'it returns false'. Refute it at one input. -/
def fnExactReducedRelationWrong : ChangeSpec := { name := "fnExactReducedRelation", fn := fun _ => fun
  | [d] => { results := [.lit (.bool false)], args := [d] }
  | _ => none }
def FnExactReducedRelationWrongFalsely : Prop := fnExactReducedRelationRow.holds Try.pinned (OpenSpec.ofChange fnExactReducedRelationWrong)

/-- 'laws.FnExactNotRelation': WHATEVER THE INPUT: true; the input reads as it did. -/
def fnExactNotRelationSpec : ChangeSpec := { name := "fnExactNotRelation", fn := fun _ => fun
  | [d] => { results := [.lit (.bool true)], args := [d] }
  | _ => none }
def fnExactNotRelationRow : OpenClaim := { program := "ytgopcliohchkmaa", sum := "04156b771672a8d3827ac61400cfe194fefb84a870393cc289a315cbacdc09ad", func := "loop.example/g02079/laws.FnExactNotRelation", spec := "fnExactNotRelation", apart := false }
def FnExactNotRelationSaid : Prop := fnExactNotRelationRow.holds Try.pinned (OpenSpec.ofChange fnExactNotRelationSpec)

/-- ITS FALSE NEIGHBOUR: 'it returns false'. Refute it at one input. -/
def fnExactNotRelationWrong : ChangeSpec := { name := "fnExactNotRelation", fn := fun _ => fun
  | [d] => { results := [.lit (.bool false)], args := [d] }
  | _ => none }
def FnExactNotRelationWrongFalsely : Prop := fnExactNotRelationRow.holds Try.pinned (OpenSpec.ofChange fnExactNotRelationWrong)

/-- 'laws.FnExactRenameTracks': WHATEVER THE INPUT: true; the input reads as it did. -/
def fnExactRenameTracksSpec : ChangeSpec := { name := "fnExactRenameTracks", fn := fun _ => fun
  | [d1, d2, d3] => { results := [.lit (.bool true)], args := [d1, d2, d3] }
  | _ => none }
def fnExactRenameTracksRow : OpenClaim := { program := "ytgopcliohchkmaa", sum := "04156b771672a8d3827ac61400cfe194fefb84a870393cc289a315cbacdc09ad", func := "loop.example/g02079/laws.FnExactRenameTracks", spec := "fnExactRenameTracks", apart := false }
def FnExactRenameTracksSaid : Prop := fnExactRenameTracksRow.holds Try.pinned (OpenSpec.ofChange fnExactRenameTracksSpec)

/-- ITS FALSE NEIGHBOUR: 'it returns false'. Refute it at one input. -/
def fnExactRenameTracksWrong : ChangeSpec := { name := "fnExactRenameTracks", fn := fun _ => fun
  | [d1, d2, d3] => { results := [.lit (.bool false)], args := [d1, d2, d3] }
  | _ => none }
def FnExactRenameTracksWrongFalsely : Prop := fnExactRenameTracksRow.holds Try.pinned (OpenSpec.ofChange fnExactRenameTracksWrong)

/- THE SECOND FORM. 'bulk': how many values and letters a reading holds, each counted each time it is reached (what is shared counts as often as it is met; a slice's spare places count too). A statement '..UptoSaid' is the law's where the arguments, and the package variables that the reading takes, are together of bulk at most 1048576: NARROWER than '..Said'. Prove '..Said' where nothing that the law and all that it calls make is longer than what came in: it says more and counts as full. Else prove '..UptoSaid'. A law counts once. -/
mutual
def uptoBulk {H : Type} : DataW H → Nat
  | .lit (.string bytes) => bytes.length + 1
  | .lit _ => 1
  | .nil => 1
  | .ptr d => uptoBulk d + 1
  | .slice elems spare => uptoBulkAll elems + uptoBulkAll spare + 1
  | .agg parts => uptoBulkAll parts + 1
  | .iface _ d => uptoBulk d + 1
  | .map entries => uptoBulkEntries entries + 1
  | .held _ => 1
def uptoBulkAll {H : Type} : List (DataW H) → Nat
  | [] => 0
  | d :: r => uptoBulk d + uptoBulkAll r
def uptoBulkEntries {H : Type} : List (Lit × DataW H) → Nat
  | [] => 0
  | x :: r => uptoBulkEntry x + uptoBulkEntries r
def uptoBulkEntry {H : Type} : Lit × DataW H → Nat
  | (.string bytes, d) => bytes.length + uptoBulk d + 1
  | (_, d) => uptoBulk d + 1
 end
def uptoSmall : (H : Type) → List (DataW H) → Bool := fun _ ds => decide (uptoBulkAll ds ≤ 1048576)
def OpenSpec.upto (s : _root_.Go.ChangeSpec) : _root_.Go.OpenSpec := { _root_.Go.OpenSpec.ofChange s with cond := some uptoSmall }

/-- 'laws.FnExactSumRelation', WHERE WHAT IT READS IS OF BULK AT MOST 1048576: true; the input reads as it did. -/
def fnExactSumRelationUptoRow : OpenClaim := { program := "ytgopcliohchkmaa", sum := "04156b771672a8d3827ac61400cfe194fefb84a870393cc289a315cbacdc09ad", func := "loop.example/g02079/laws.FnExactSumRelation", spec := "fnExactSumRelation", unfollowed := true, recurses := true, apart := false, narrowed := true }
def FnExactSumRelationUptoSaid : Prop := fnExactSumRelationUptoRow.holds Try.pinned (OpenSpec.upto fnExactSumRelationSpec)

/-- 'laws.FnExactNumberRelation', WHERE WHAT IT READS IS OF BULK AT MOST 1048576: true; the input reads as it did. -/
def fnExactNumberRelationUptoRow : OpenClaim := { program := "ytgopcliohchkmaa", sum := "04156b771672a8d3827ac61400cfe194fefb84a870393cc289a315cbacdc09ad", func := "loop.example/g02079/laws.FnExactNumberRelation", spec := "fnExactNumberRelation", unfollowed := true, recurses := true, apart := false, narrowed := true }
def FnExactNumberRelationUptoSaid : Prop := fnExactNumberRelationUptoRow.holds Try.pinned (OpenSpec.upto fnExactNumberRelationSpec)

/-- 'laws.FnExactIsEmptyRelation', WHERE WHAT IT READS IS OF BULK AT MOST 1048576: true; the input reads as it did. -/
def fnExactIsEmptyRelationUptoRow : OpenClaim := { program := "ytgopcliohchkmaa", sum := "04156b771672a8d3827ac61400cfe194fefb84a870393cc289a315cbacdc09ad", func := "loop.example/g02079/laws.FnExactIsEmptyRelation", spec := "fnExactIsEmptyRelation", apart := false, narrowed := true }
def FnExactIsEmptyRelationUptoSaid : Prop := fnExactIsEmptyRelationUptoRow.holds Try.pinned (OpenSpec.upto fnExactIsEmptyRelationSpec)

/-- 'laws.FnExactIsWholeRelation', WHERE WHAT IT READS IS OF BULK AT MOST 1048576: true; the input reads as it did. -/
def fnExactIsWholeRelationUptoRow : OpenClaim := { program := "ytgopcliohchkmaa", sum := "04156b771672a8d3827ac61400cfe194fefb84a870393cc289a315cbacdc09ad", func := "loop.example/g02079/laws.FnExactIsWholeRelation", spec := "fnExactIsWholeRelation", apart := false, narrowed := true }
def FnExactIsWholeRelationUptoSaid : Prop := fnExactIsWholeRelationUptoRow.holds Try.pinned (OpenSpec.upto fnExactIsWholeRelationSpec)

/-- 'laws.FnExactContains', WHERE WHAT IT READS IS OF BULK AT MOST 1048576: true; the input reads as it did. -/
def fnExactContainsUptoRow : OpenClaim := { program := "ytgopcliohchkmaa", sum := "04156b771672a8d3827ac61400cfe194fefb84a870393cc289a315cbacdc09ad", func := "loop.example/g02079/laws.FnExactContains", spec := "fnExactContains", apart := false, narrowed := true }
def FnExactContainsUptoSaid : Prop := fnExactContainsUptoRow.holds Try.pinned (OpenSpec.upto fnExactContainsSpec)

/-- 'laws.FnExactLeastMember', WHERE WHAT IT READS IS OF BULK AT MOST 1048576: true; the input reads as it did. -/
def fnExactLeastMemberUptoRow : OpenClaim := { program := "ytgopcliohchkmaa", sum := "04156b771672a8d3827ac61400cfe194fefb84a870393cc289a315cbacdc09ad", func := "loop.example/g02079/laws.FnExactLeastMember", spec := "fnExactLeastMember", apart := false, narrowed := true }
def FnExactLeastMemberUptoSaid : Prop := fnExactLeastMemberUptoRow.holds Try.pinned (OpenSpec.upto fnExactLeastMemberSpec)

/-- 'laws.FnExactIsFiniteSet', WHERE WHAT IT READS IS OF BULK AT MOST 1048576: true; the input reads as it did. -/
def fnExactIsFiniteSetUptoRow : OpenClaim := { program := "ytgopcliohchkmaa", sum := "04156b771672a8d3827ac61400cfe194fefb84a870393cc289a315cbacdc09ad", func := "loop.example/g02079/laws.FnExactIsFiniteSet", spec := "fnExactIsFiniteSet", apart := false, narrowed := true }
def FnExactIsFiniteSetUptoSaid : Prop := fnExactIsFiniteSetUptoRow.holds Try.pinned (OpenSpec.upto fnExactIsFiniteSetSpec)

/-- 'laws.FnExactMembersOf', WHERE WHAT IT READS IS OF BULK AT MOST 1048576: true; the input reads as it did. -/
def fnExactMembersOfUptoRow : OpenClaim := { program := "ytgopcliohchkmaa", sum := "04156b771672a8d3827ac61400cfe194fefb84a870393cc289a315cbacdc09ad", func := "loop.example/g02079/laws.FnExactMembersOf", spec := "fnExactMembersOf", apart := false, narrowed := true }
def FnExactMembersOfUptoSaid : Prop := fnExactMembersOfUptoRow.holds Try.pinned (OpenSpec.upto fnExactMembersOfSpec)

/-- 'laws.FnExactAreSameSets', WHERE WHAT IT READS IS OF BULK AT MOST 1048576: true; the input reads as it did. -/
def fnExactAreSameSetsUptoRow : OpenClaim := { program := "ytgopcliohchkmaa", sum := "04156b771672a8d3827ac61400cfe194fefb84a870393cc289a315cbacdc09ad", func := "loop.example/g02079/laws.FnExactAreSameSets", spec := "fnExactAreSameSets", unfollowed := true, recurses := true, apart := false, narrowed := true }
def FnExactAreSameSetsUptoSaid : Prop := fnExactAreSameSetsUptoRow.holds Try.pinned (OpenSpec.upto fnExactAreSameSetsSpec)

/-- 'laws.FnExactReducedRelation', WHERE WHAT IT READS IS OF BULK AT MOST 1048576: true; the input reads as it did. -/
def fnExactReducedRelationUptoRow : OpenClaim := { program := "ytgopcliohchkmaa", sum := "04156b771672a8d3827ac61400cfe194fefb84a870393cc289a315cbacdc09ad", func := "loop.example/g02079/laws.FnExactReducedRelation", spec := "fnExactReducedRelation", apart := false, narrowed := true }
def FnExactReducedRelationUptoSaid : Prop := fnExactReducedRelationUptoRow.holds Try.pinned (OpenSpec.upto fnExactReducedRelationSpec)

/-- 'laws.FnExactNotRelation', WHERE WHAT IT READS IS OF BULK AT MOST 1048576: true; the input reads as it did. -/
def fnExactNotRelationUptoRow : OpenClaim := { program := "ytgopcliohchkmaa", sum := "04156b771672a8d3827ac61400cfe194fefb84a870393cc289a315cbacdc09ad", func := "loop.example/g02079/laws.FnExactNotRelation", spec := "fnExactNotRelation", apart := false, narrowed := true }
def FnExactNotRelationUptoSaid : Prop := fnExactNotRelationUptoRow.holds Try.pinned (OpenSpec.upto fnExactNotRelationSpec)

/-- 'laws.FnExactRenameTracks', WHERE WHAT IT READS IS OF BULK AT MOST 1048576: true; the input reads as it did. -/
def fnExactRenameTracksUptoRow : OpenClaim := { program := "ytgopcliohchkmaa", sum := "04156b771672a8d3827ac61400cfe194fefb84a870393cc289a315cbacdc09ad", func := "loop.example/g02079/laws.FnExactRenameTracks", spec := "fnExactRenameTracks", apart := false, narrowed := true }
def FnExactRenameTracksUptoSaid : Prop := fnExactRenameTracksUptoRow.holds Try.pinned (OpenSpec.upto fnExactRenameTracksSpec)

end Rows
end Go.Proofs.Ytgopcliohchkmaa
