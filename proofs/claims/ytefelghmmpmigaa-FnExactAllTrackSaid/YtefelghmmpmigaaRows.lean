/-
  No cell of these rows narrows 'for every input' (looked for: loops, veiled, ifaces, maps, wideKeys, modest, calm, conditions, laid).
  DERIVED. THE GIVEN ROWS OF THIS SEAT. 6 by the template 'for every input the law returns true; each argument reads behind the call as it read before'; 0 by the template 'total and deterministic' (their statements: YtefelghmmpmigaaTotals.lean).
  GIVEN WITH THE SEED: the statements are not yours to turn. If you find one false, say at which input.
  Laid BY PROGRAM, IN A SANDBOX (cutbox-rows.mjs): the forced cells as the released guide's own fill.sh prints them over the translation 19d565b8b23c25cb… (all of the seat's roots in one cut). By AI agents, Wed Nov 11 2026. No macro, syntax, notation, axiom, sorry.
-/
import Derived.Test.YtefelghmmpmigaaChecked
import GoSem.Claim
import GoSem.ClaimJoined
import GoSem.ClaimMapViews
import Derived.JoinedTies
import Derived.KernelRfl
namespace Go.Proofs.Ytefelghmmpmigaa
/- THE CELL 'sum', in the pinned program and in every row, IS THE sha256 OF THE DUMP (.gsa) THAT YtefelghmmpmigaaProg.lean LOADS. Nothing in Lean hashes anything: it is a label: what it is worth is what the hold of that sum in a sandbox is worth. -/
noncomputable def Try.pinned : Pinned := { name := "ytefelghmmpmigaa", sum := "19d565b8b23c25cb818dc5ad1756b546a93615619351f8164124e6a337efb585", checked := Try.checked }
namespace Rows
def none {H : Type} : Left H := { results := [], args := [] }

/-- 'laws.FnExactTermRelation': WHATEVER THE INPUT: true; the input reads as it did. -/
def fnExactTermRelationSpec : ChangeSpec := { name := "fnExactTermRelation", fn := fun _ => fun
  | [d1, d2] => { results := [.lit (.bool true)], args := [d1, d2] }
  | _ => none }
def fnExactTermRelationRow : OpenClaim := { program := "ytefelghmmpmigaa", sum := "19d565b8b23c25cb818dc5ad1756b546a93615619351f8164124e6a337efb585", func := "loop.example/g02079/laws.FnExactTermRelation", spec := "fnExactTermRelation", plainKeys := false, apart := false }
def FnExactTermRelationSaid : Prop := fnExactTermRelationRow.holds Try.pinned (OpenSpec.ofChange fnExactTermRelationSpec)

/-- ITS FALSE NEIGHBOUR: 'it returns false'. Refute it at one input. -/
def fnExactTermRelationWrong : ChangeSpec := { name := "fnExactTermRelation", fn := fun _ => fun
  | [d1, d2] => { results := [.lit (.bool false)], args := [d1, d2] }
  | _ => none }
def FnExactTermRelationWrongFalsely : Prop := fnExactTermRelationRow.holds Try.pinned (OpenSpec.ofChange fnExactTermRelationWrong)

/-- 'laws.FnExactBothRelations': WHATEVER THE INPUT: true; the input reads as it did. -/
def fnExactBothRelationsSpec : ChangeSpec := { name := "fnExactBothRelations", fn := fun _ => fun
  | [d1, d2] => { results := [.lit (.bool true)], args := [d1, d2] }
  | _ => none }
def fnExactBothRelationsRow : OpenClaim := { program := "ytefelghmmpmigaa", sum := "19d565b8b23c25cb818dc5ad1756b546a93615619351f8164124e6a337efb585", func := "loop.example/g02079/laws.FnExactBothRelations", spec := "fnExactBothRelations", unfollowed := true, recurses := true, plainKeys := false, apart := false }
def FnExactBothRelationsSaid : Prop := fnExactBothRelationsRow.holds Try.pinned (OpenSpec.ofChange fnExactBothRelationsSpec)

/-- ITS FALSE NEIGHBOUR: 'it returns false'. Refute it at one input. -/
def fnExactBothRelationsWrong : ChangeSpec := { name := "fnExactBothRelations", fn := fun _ => fun
  | [d1, d2] => { results := [.lit (.bool false)], args := [d1, d2] }
  | _ => none }
def FnExactBothRelationsWrongFalsely : Prop := fnExactBothRelationsRow.holds Try.pinned (OpenSpec.ofChange fnExactBothRelationsWrong)

/-- 'laws.FnExactEitherRelation': WHATEVER THE INPUT: true; the input reads as it did. -/
def fnExactEitherRelationSpec : ChangeSpec := { name := "fnExactEitherRelation", fn := fun _ => fun
  | [d1, d2] => { results := [.lit (.bool true)], args := [d1, d2] }
  | _ => none }
def fnExactEitherRelationRow : OpenClaim := { program := "ytefelghmmpmigaa", sum := "19d565b8b23c25cb818dc5ad1756b546a93615619351f8164124e6a337efb585", func := "loop.example/g02079/laws.FnExactEitherRelation", spec := "fnExactEitherRelation", unfollowed := true, recurses := true, plainKeys := false, apart := false }
def FnExactEitherRelationSaid : Prop := fnExactEitherRelationRow.holds Try.pinned (OpenSpec.ofChange fnExactEitherRelationSpec)

/-- ITS FALSE NEIGHBOUR: 'it returns false'. Refute it at one input. -/
def fnExactEitherRelationWrong : ChangeSpec := { name := "fnExactEitherRelation", fn := fun _ => fun
  | [d1, d2] => { results := [.lit (.bool false)], args := [d1, d2] }
  | _ => none }
def FnExactEitherRelationWrongFalsely : Prop := fnExactEitherRelationRow.holds Try.pinned (OpenSpec.ofChange fnExactEitherRelationWrong)

/-- 'laws.FnExactExistsTrack': WHATEVER THE INPUT: true; the input reads as it did. -/
def fnExactExistsTrackSpec : ChangeSpec := { name := "fnExactExistsTrack", fn := fun _ => fun
  | [d1, d2] => { results := [.lit (.bool true)], args := [d1, d2] }
  | _ => none }
def fnExactExistsTrackRow : OpenClaim := { program := "ytefelghmmpmigaa", sum := "19d565b8b23c25cb818dc5ad1756b546a93615619351f8164124e6a337efb585", func := "loop.example/g02079/laws.FnExactExistsTrack", spec := "fnExactExistsTrack", inPlace := ["slices.overlaps[int]"], plainKeys := false, apart := false }
def FnExactExistsTrackSaid : Prop := fnExactExistsTrackRow.holds Try.pinned (OpenSpec.ofChange fnExactExistsTrackSpec)

/-- ITS FALSE NEIGHBOUR: 'it returns false'. Refute it at one input. -/
def fnExactExistsTrackWrong : ChangeSpec := { name := "fnExactExistsTrack", fn := fun _ => fun
  | [d1, d2] => { results := [.lit (.bool false)], args := [d1, d2] }
  | _ => none }
def FnExactExistsTrackWrongFalsely : Prop := fnExactExistsTrackRow.holds Try.pinned (OpenSpec.ofChange fnExactExistsTrackWrong)

/-- 'laws.FnExactAllTrack': WHATEVER THE INPUT: true; the input reads as it did. -/
def fnExactAllTrackSpec : ChangeSpec := { name := "fnExactAllTrack", fn := fun _ => fun
  | [d1, d2] => { results := [.lit (.bool true)], args := [d1, d2] }
  | _ => none }
def fnExactAllTrackRow : OpenClaim := { program := "ytefelghmmpmigaa", sum := "19d565b8b23c25cb818dc5ad1756b546a93615619351f8164124e6a337efb585", func := "loop.example/g02079/laws.FnExactAllTrack", spec := "fnExactAllTrack", inPlace := ["slices.overlaps[int]"], plainKeys := false, apart := false }
def FnExactAllTrackSaid : Prop := fnExactAllTrackRow.holds Try.pinned (OpenSpec.ofChange fnExactAllTrackSpec)

/-- ITS FALSE NEIGHBOUR: 'it returns false'. Refute it at one input. -/
def fnExactAllTrackWrong : ChangeSpec := { name := "fnExactAllTrack", fn := fun _ => fun
  | [d1, d2] => { results := [.lit (.bool false)], args := [d1, d2] }
  | _ => none }
def FnExactAllTrackWrongFalsely : Prop := fnExactAllTrackRow.holds Try.pinned (OpenSpec.ofChange fnExactAllTrackWrong)

/-- 'laws.FnExactIsFiniteSet': WHATEVER THE INPUT: true; the input reads as it did. -/
def fnExactIsFiniteSetSpec : ChangeSpec := { name := "fnExactIsFiniteSet", fn := fun _ => fun
  | [d] => { results := [.lit (.bool true)], args := [d] }
  | _ => none }
def fnExactIsFiniteSetRow : OpenClaim := { program := "ytefelghmmpmigaa", sum := "19d565b8b23c25cb818dc5ad1756b546a93615619351f8164124e6a337efb585", func := "loop.example/g02079/laws.FnExactIsFiniteSet", spec := "fnExactIsFiniteSet", plainKeys := false, apart := false }
def FnExactIsFiniteSetSaid : Prop := fnExactIsFiniteSetRow.holds Try.pinned (OpenSpec.ofChange fnExactIsFiniteSetSpec)

/-- ITS FALSE NEIGHBOUR: 'it returns false'. Refute it at one input. -/
def fnExactIsFiniteSetWrong : ChangeSpec := { name := "fnExactIsFiniteSet", fn := fun _ => fun
  | [d] => { results := [.lit (.bool false)], args := [d] }
  | _ => none }
def FnExactIsFiniteSetWrongFalsely : Prop := fnExactIsFiniteSetRow.holds Try.pinned (OpenSpec.ofChange fnExactIsFiniteSetWrong)

/- THE SECOND FORM. 'bulk': how many values and letters a reading holds, each counted each time it is reached (what is shared counts as often as it is met; a slice's spare places count too). A statement '..UptoSaid' is the law's where the arguments, and the package variables that the reading takes, are together of bulk at most 1048576: NARROWER than '..Said'. Prove '..Said' where nothing that the law and all that it calls make is longer than what came in: it says more and counts as full. Else prove '..UptoSaid'. A law counts once. -/
mutual
def uptoBulk {H : Type} : DataW H → Nat
  | .lit (.string bytes) => bytes.length + 1
  | .lit _ => 1
  | .nil => 1
  | .ptr d => uptoBulk d + 1
  | .slice elems spare => uptoBulkAll elems + uptoBulkAll spare + 1
  | .agg parts => uptoBulkAll parts + 1
  | .iface _ d => uptoBulk d + 1
  | .map entries => uptoBulkEntries entries + 1
  | .held _ => 1
def uptoBulkAll {H : Type} : List (DataW H) → Nat
  | [] => 0
  | d :: r => uptoBulk d + uptoBulkAll r
def uptoBulkEntries {H : Type} : List (Lit × DataW H) → Nat
  | [] => 0
  | x :: r => uptoBulkEntry x + uptoBulkEntries r
def uptoBulkEntry {H : Type} : Lit × DataW H → Nat
  | (.string bytes, d) => bytes.length + uptoBulk d + 1
  | (_, d) => uptoBulk d + 1
 end
def uptoSmall : (H : Type) → List (DataW H) → Bool := fun _ ds => decide (uptoBulkAll ds ≤ 1048576)
def OpenSpec.upto (s : _root_.Go.ChangeSpec) : _root_.Go.OpenSpec := { _root_.Go.OpenSpec.ofChange s with cond := some uptoSmall }

/-- 'laws.FnExactTermRelation', WHERE WHAT IT READS IS OF BULK AT MOST 1048576: true; the input reads as it did. -/
def fnExactTermRelationUptoRow : OpenClaim := { program := "ytefelghmmpmigaa", sum := "19d565b8b23c25cb818dc5ad1756b546a93615619351f8164124e6a337efb585", func := "loop.example/g02079/laws.FnExactTermRelation", spec := "fnExactTermRelation", plainKeys := false, apart := false, narrowed := true }
def FnExactTermRelationUptoSaid : Prop := fnExactTermRelationUptoRow.holds Try.pinned (OpenSpec.upto fnExactTermRelationSpec)

/-- 'laws.FnExactBothRelations', WHERE WHAT IT READS IS OF BULK AT MOST 1048576: true; the input reads as it did. -/
def fnExactBothRelationsUptoRow : OpenClaim := { program := "ytefelghmmpmigaa", sum := "19d565b8b23c25cb818dc5ad1756b546a93615619351f8164124e6a337efb585", func := "loop.example/g02079/laws.FnExactBothRelations", spec := "fnExactBothRelations", unfollowed := true, recurses := true, plainKeys := false, apart := false, narrowed := true }
def FnExactBothRelationsUptoSaid : Prop := fnExactBothRelationsUptoRow.holds Try.pinned (OpenSpec.upto fnExactBothRelationsSpec)

/-- 'laws.FnExactEitherRelation', WHERE WHAT IT READS IS OF BULK AT MOST 1048576: true; the input reads as it did. -/
def fnExactEitherRelationUptoRow : OpenClaim := { program := "ytefelghmmpmigaa", sum := "19d565b8b23c25cb818dc5ad1756b546a93615619351f8164124e6a337efb585", func := "loop.example/g02079/laws.FnExactEitherRelation", spec := "fnExactEitherRelation", unfollowed := true, recurses := true, plainKeys := false, apart := false, narrowed := true }
def FnExactEitherRelationUptoSaid : Prop := fnExactEitherRelationUptoRow.holds Try.pinned (OpenSpec.upto fnExactEitherRelationSpec)

/-- 'laws.FnExactExistsTrack', WHERE WHAT IT READS IS OF BULK AT MOST 1048576: true; the input reads as it did. -/
def fnExactExistsTrackUptoRow : OpenClaim := { program := "ytefelghmmpmigaa", sum := "19d565b8b23c25cb818dc5ad1756b546a93615619351f8164124e6a337efb585", func := "loop.example/g02079/laws.FnExactExistsTrack", spec := "fnExactExistsTrack", inPlace := ["slices.overlaps[int]"], plainKeys := false, apart := false, narrowed := true }
def FnExactExistsTrackUptoSaid : Prop := fnExactExistsTrackUptoRow.holds Try.pinned (OpenSpec.upto fnExactExistsTrackSpec)

/-- 'laws.FnExactAllTrack', WHERE WHAT IT READS IS OF BULK AT MOST 1048576: true; the input reads as it did. -/
def fnExactAllTrackUptoRow : OpenClaim := { program := "ytefelghmmpmigaa", sum := "19d565b8b23c25cb818dc5ad1756b546a93615619351f8164124e6a337efb585", func := "loop.example/g02079/laws.FnExactAllTrack", spec := "fnExactAllTrack", inPlace := ["slices.overlaps[int]"], plainKeys := false, apart := false, narrowed := true }
def FnExactAllTrackUptoSaid : Prop := fnExactAllTrackUptoRow.holds Try.pinned (OpenSpec.upto fnExactAllTrackSpec)

/-- 'laws.FnExactIsFiniteSet', WHERE WHAT IT READS IS OF BULK AT MOST 1048576: true; the input reads as it did. -/
def fnExactIsFiniteSetUptoRow : OpenClaim := { program := "ytefelghmmpmigaa", sum := "19d565b8b23c25cb818dc5ad1756b546a93615619351f8164124e6a337efb585", func := "loop.example/g02079/laws.FnExactIsFiniteSet", spec := "fnExactIsFiniteSet", plainKeys := false, apart := false, narrowed := true }
def FnExactIsFiniteSetUptoSaid : Prop := fnExactIsFiniteSetUptoRow.holds Try.pinned (OpenSpec.upto fnExactIsFiniteSetSpec)

end Rows
end Go.Proofs.Ytefelghmmpmigaa
