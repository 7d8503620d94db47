/-
  No cell of these rows narrows 'for every input' (looked for: loops, veiled, ifaces, maps, wideKeys, modest, calm, conditions, laid).
  DERIVED. THE GIVEN ROWS OF THIS SEAT. 8 by the template 'for every input the law returns true; each argument reads behind the call as it read before'; 0 by the template 'total and deterministic' (their statements: YtaobkepknhnfoaaTotals.lean).
  GIVEN WITH THE SEED: the statements are not yours to turn. If you find one false, say at which input.
  Laid BY PROGRAM, IN A SANDBOX (cutbox-rows.mjs): the forced cells as the released guide's own fill.sh prints them over the translation 526621b36cc754f3… (all of the seat's roots in one cut). By AI agents, Wed Nov 11 2026. No macro, syntax, notation, axiom, sorry.
-/
import Derived.Test.YtaobkepknhnfoaaChecked
import GoSem.Claim
import GoSem.ClaimJoined
import GoSem.ClaimMapViews
import Derived.JoinedTies
import Derived.KernelRfl
namespace Go.Proofs.Ytaobkepknhnfoaa
/- THE CELL 'sum', in the pinned program and in every row, IS THE sha256 OF THE DUMP (.gsa) THAT YtaobkepknhnfoaaProg.lean LOADS. Nothing in Lean hashes anything: it is a label: what it is worth is what the hold of that sum in a sandbox is worth. -/
noncomputable def Try.pinned : Pinned := { name := "ytaobkepknhnfoaa", sum := "526621b36cc754f331911dccbaf414d655f4b6176c2cfee2482e7d2cf3f35cfe", checked := Try.checked }
namespace Rows
def none {H : Type} : Left H := { results := [], args := [] }

/-- 'laws.FnExactFibonacciNumber': WHATEVER THE INPUT: true; the input reads as it did. -/
def fnExactFibonacciNumberSpec : ChangeSpec := { name := "fnExactFibonacciNumber", fn := fun _ => fun
  | [d] => { results := [.lit (.bool true)], args := [d] }
  | _ => none }
def fnExactFibonacciNumberRow : OpenClaim := { program := "ytaobkepknhnfoaa", sum := "526621b36cc754f331911dccbaf414d655f4b6176c2cfee2482e7d2cf3f35cfe", func := "loop.example/g02079/laws.FnExactFibonacciNumber", spec := "fnExactFibonacciNumber", apart := false }
def FnExactFibonacciNumberSaid : Prop := fnExactFibonacciNumberRow.holds Try.pinned (OpenSpec.ofChange fnExactFibonacciNumberSpec)

/-- ITS FALSE NEIGHBOUR: 'it returns false'. Refute it at one input. -/
def fnExactFibonacciNumberWrong : ChangeSpec := { name := "fnExactFibonacciNumber", fn := fun _ => fun
  | [d] => { results := [.lit (.bool false)], args := [d] }
  | _ => none }
def FnExactFibonacciNumberWrongFalsely : Prop := fnExactFibonacciNumberRow.holds Try.pinned (OpenSpec.ofChange fnExactFibonacciNumberWrong)

/-- 'laws.FnExactIsZeckendorf': WHATEVER THE INPUT: true; the input reads as it did. -/
def fnExactIsZeckendorfSpec : ChangeSpec := { name := "fnExactIsZeckendorf", fn := fun _ => fun
  | [d] => { results := [.lit (.bool true)], args := [d] }
  | _ => none }
def fnExactIsZeckendorfRow : OpenClaim := { program := "ytaobkepknhnfoaa", sum := "526621b36cc754f331911dccbaf414d655f4b6176c2cfee2482e7d2cf3f35cfe", func := "loop.example/g02079/laws.FnExactIsZeckendorf", spec := "fnExactIsZeckendorf", apart := false }
def FnExactIsZeckendorfSaid : Prop := fnExactIsZeckendorfRow.holds Try.pinned (OpenSpec.ofChange fnExactIsZeckendorfSpec)

/-- ITS FALSE NEIGHBOUR: 'it returns false'. Refute it at one input. -/
def fnExactIsZeckendorfWrong : ChangeSpec := { name := "fnExactIsZeckendorf", fn := fun _ => fun
  | [d] => { results := [.lit (.bool false)], args := [d] }
  | _ => none }
def FnExactIsZeckendorfWrongFalsely : Prop := fnExactIsZeckendorfRow.holds Try.pinned (OpenSpec.ofChange fnExactIsZeckendorfWrong)

/-- 'laws.FnExactLemmaNames': WHATEVER THE INPUT: true; the input reads as it did. -/
def fnExactLemmaNamesSpec : ChangeSpec := { name := "fnExactLemmaNames", fn := fun _ => fun
  | [] => { results := [.lit (.bool true)], args := [] }
  | _ => none }
def fnExactLemmaNamesRow : OpenClaim := { program := "ytaobkepknhnfoaa", sum := "526621b36cc754f331911dccbaf414d655f4b6176c2cfee2482e7d2cf3f35cfe", func := "loop.example/g02079/laws.FnExactLemmaNames", spec := "fnExactLemmaNames", apart := false }
def FnExactLemmaNamesSaid : Prop := fnExactLemmaNamesRow.holds Try.pinned (OpenSpec.ofChange fnExactLemmaNamesSpec)

/-- ITS FALSE NEIGHBOUR: 'it returns false'. Refute it at one input. -/
def fnExactLemmaNamesWrong : ChangeSpec := { name := "fnExactLemmaNames", fn := fun _ => fun
  | [] => { results := [.lit (.bool false)], args := [] }
  | _ => none }
def FnExactLemmaNamesWrongFalsely : Prop := fnExactLemmaNamesRow.holds Try.pinned (OpenSpec.ofChange fnExactLemmaNamesWrong)

/-- 'laws.FnExactLemmaOf': WHATEVER THE INPUT: true; the input reads as it did. -/
def fnExactLemmaOfSpec : ChangeSpec := { name := "fnExactLemmaOf", fn := fun _ => fun
  | [d] => { results := [.lit (.bool true)], args := [d] }
  | _ => none }
def fnExactLemmaOfRow : OpenClaim := { program := "ytaobkepknhnfoaa", sum := "526621b36cc754f331911dccbaf414d655f4b6176c2cfee2482e7d2cf3f35cfe", func := "loop.example/g02079/laws.FnExactLemmaOf", spec := "fnExactLemmaOf", apart := false }
def FnExactLemmaOfSaid : Prop := fnExactLemmaOfRow.holds Try.pinned (OpenSpec.ofChange fnExactLemmaOfSpec)

/-- ITS FALSE NEIGHBOUR: 'it returns false'. Refute it at one input. -/
def fnExactLemmaOfWrong : ChangeSpec := { name := "fnExactLemmaOf", fn := fun _ => fun
  | [d] => { results := [.lit (.bool false)], args := [d] }
  | _ => none }
def FnExactLemmaOfWrongFalsely : Prop := fnExactLemmaOfRow.holds Try.pinned (OpenSpec.ofChange fnExactLemmaOfWrong)

/-- 'laws.FnExactZeckendorfValue': WHATEVER THE INPUT: true; the input reads as it did. -/
def fnExactZeckendorfValueSpec : ChangeSpec := { name := "fnExactZeckendorfValue", fn := fun _ => fun
  | [d] => { results := [.lit (.bool true)], args := [d] }
  | _ => none }
def fnExactZeckendorfValueRow : OpenClaim := { program := "ytaobkepknhnfoaa", sum := "526621b36cc754f331911dccbaf414d655f4b6176c2cfee2482e7d2cf3f35cfe", func := "loop.example/g02079/laws.FnExactZeckendorfValue", spec := "fnExactZeckendorfValue", apart := false }
def FnExactZeckendorfValueSaid : Prop := fnExactZeckendorfValueRow.holds Try.pinned (OpenSpec.ofChange fnExactZeckendorfValueSpec)

/-- ITS FALSE NEIGHBOUR: 'it returns false'. Refute it at one input. -/
def fnExactZeckendorfValueWrong : ChangeSpec := { name := "fnExactZeckendorfValue", fn := fun _ => fun
  | [d] => { results := [.lit (.bool false)], args := [d] }
  | _ => none }
def FnExactZeckendorfValueWrongFalsely : Prop := fnExactZeckendorfValueRow.holds Try.pinned (OpenSpec.ofChange fnExactZeckendorfValueWrong)

/-- 'laws.FnExactZeckendorfOf': WHATEVER THE INPUT: true; the input reads as it did. -/
def fnExactZeckendorfOfSpec : ChangeSpec := { name := "fnExactZeckendorfOf", fn := fun _ => fun
  | [d] => { results := [.lit (.bool true)], args := [d] }
  | _ => none }
def fnExactZeckendorfOfRow : OpenClaim := { program := "ytaobkepknhnfoaa", sum := "526621b36cc754f331911dccbaf414d655f4b6176c2cfee2482e7d2cf3f35cfe", func := "loop.example/g02079/laws.FnExactZeckendorfOf", spec := "fnExactZeckendorfOf", apart := false }
def FnExactZeckendorfOfSaid : Prop := fnExactZeckendorfOfRow.holds Try.pinned (OpenSpec.ofChange fnExactZeckendorfOfSpec)

/-- ITS FALSE NEIGHBOUR: 'it returns false'. Refute it at one input. -/
def fnExactZeckendorfOfWrong : ChangeSpec := { name := "fnExactZeckendorfOf", fn := fun _ => fun
  | [d] => { results := [.lit (.bool false)], args := [d] }
  | _ => none }
def FnExactZeckendorfOfWrongFalsely : Prop := fnExactZeckendorfOfRow.holds Try.pinned (OpenSpec.ofChange fnExactZeckendorfOfWrong)

/-- 'laws.FnExactCompareZeckendorf': WHATEVER THE INPUT: true; the input reads as it did. -/
def fnExactCompareZeckendorfSpec : ChangeSpec := { name := "fnExactCompareZeckendorf", fn := fun _ => fun
  | [d1, d2] => { results := [.lit (.bool true)], args := [d1, d2] }
  | _ => none }
def fnExactCompareZeckendorfRow : OpenClaim := { program := "ytaobkepknhnfoaa", sum := "526621b36cc754f331911dccbaf414d655f4b6176c2cfee2482e7d2cf3f35cfe", func := "loop.example/g02079/laws.FnExactCompareZeckendorf", spec := "fnExactCompareZeckendorf", apart := false }
def FnExactCompareZeckendorfSaid : Prop := fnExactCompareZeckendorfRow.holds Try.pinned (OpenSpec.ofChange fnExactCompareZeckendorfSpec)

/-- ITS FALSE NEIGHBOUR: 'it returns false'. Refute it at one input. -/
def fnExactCompareZeckendorfWrong : ChangeSpec := { name := "fnExactCompareZeckendorf", fn := fun _ => fun
  | [d1, d2] => { results := [.lit (.bool false)], args := [d1, d2] }
  | _ => none }
def FnExactCompareZeckendorfWrongFalsely : Prop := fnExactCompareZeckendorfRow.holds Try.pinned (OpenSpec.ofChange fnExactCompareZeckendorfWrong)

/-- 'laws.FnExactShiftZeckendorf': WHATEVER THE INPUT: true; the input reads as it did. -/
def fnExactShiftZeckendorfSpec : ChangeSpec := { name := "fnExactShiftZeckendorf", fn := fun _ => fun
  | [d] => { results := [.lit (.bool true)], args := [d] }
  | _ => none }
def fnExactShiftZeckendorfRow : OpenClaim := { program := "ytaobkepknhnfoaa", sum := "526621b36cc754f331911dccbaf414d655f4b6176c2cfee2482e7d2cf3f35cfe", func := "loop.example/g02079/laws.FnExactShiftZeckendorf", spec := "fnExactShiftZeckendorf", apart := false }
def FnExactShiftZeckendorfSaid : Prop := fnExactShiftZeckendorfRow.holds Try.pinned (OpenSpec.ofChange fnExactShiftZeckendorfSpec)

/-- ITS FALSE NEIGHBOUR: 'it returns false'. Refute it at one input. -/
def fnExactShiftZeckendorfWrong : ChangeSpec := { name := "fnExactShiftZeckendorf", fn := fun _ => fun
  | [d] => { results := [.lit (.bool false)], args := [d] }
  | _ => none }
def FnExactShiftZeckendorfWrongFalsely : Prop := fnExactShiftZeckendorfRow.holds Try.pinned (OpenSpec.ofChange fnExactShiftZeckendorfWrong)

/- THE SECOND FORM. 'bulk': how many values and letters a reading holds, each counted each time it is reached (what is shared counts as often as it is met; a slice's spare places count too). A statement '..UptoSaid' is the law's where the arguments, and the package variables that the reading takes, are together of bulk at most 1048576: NARROWER than '..Said'. Prove '..Said' where nothing that the law and all that it calls make is longer than what came in: it says more and counts as full. Else prove '..UptoSaid'. A law counts once. -/
mutual
def uptoBulk {H : Type} : DataW H → Nat
  | .lit (.string bytes) => bytes.length + 1
  | .lit _ => 1
  | .nil => 1
  | .ptr d => uptoBulk d + 1
  | .slice elems spare => uptoBulkAll elems + uptoBulkAll spare + 1
  | .agg parts => uptoBulkAll parts + 1
  | .iface _ d => uptoBulk d + 1
  | .map entries => uptoBulkEntries entries + 1
  | .held _ => 1
def uptoBulkAll {H : Type} : List (DataW H) → Nat
  | [] => 0
  | d :: r => uptoBulk d + uptoBulkAll r
def uptoBulkEntries {H : Type} : List (Lit × DataW H) → Nat
  | [] => 0
  | x :: r => uptoBulkEntry x + uptoBulkEntries r
def uptoBulkEntry {H : Type} : Lit × DataW H → Nat
  | (.string bytes, d) => bytes.length + uptoBulk d + 1
  | (_, d) => uptoBulk d + 1
 end
def uptoSmall : (H : Type) → List (DataW H) → Bool := fun _ ds => decide (uptoBulkAll ds ≤ 1048576)
def OpenSpec.upto (s : _root_.Go.ChangeSpec) : _root_.Go.OpenSpec := { _root_.Go.OpenSpec.ofChange s with cond := some uptoSmall }

/-- 'laws.FnExactFibonacciNumber', WHERE WHAT IT READS IS OF BULK AT MOST 1048576: true; the input reads as it did. -/
def fnExactFibonacciNumberUptoRow : OpenClaim := { program := "ytaobkepknhnfoaa", sum := "526621b36cc754f331911dccbaf414d655f4b6176c2cfee2482e7d2cf3f35cfe", func := "loop.example/g02079/laws.FnExactFibonacciNumber", spec := "fnExactFibonacciNumber", apart := false, narrowed := true }
def FnExactFibonacciNumberUptoSaid : Prop := fnExactFibonacciNumberUptoRow.holds Try.pinned (OpenSpec.upto fnExactFibonacciNumberSpec)

/-- 'laws.FnExactIsZeckendorf', WHERE WHAT IT READS IS OF BULK AT MOST 1048576: true; the input reads as it did. -/
def fnExactIsZeckendorfUptoRow : OpenClaim := { program := "ytaobkepknhnfoaa", sum := "526621b36cc754f331911dccbaf414d655f4b6176c2cfee2482e7d2cf3f35cfe", func := "loop.example/g02079/laws.FnExactIsZeckendorf", spec := "fnExactIsZeckendorf", apart := false, narrowed := true }
def FnExactIsZeckendorfUptoSaid : Prop := fnExactIsZeckendorfUptoRow.holds Try.pinned (OpenSpec.upto fnExactIsZeckendorfSpec)

/-- 'laws.FnExactLemmaNames', WHERE WHAT IT READS IS OF BULK AT MOST 1048576: true; the input reads as it did. -/
def fnExactLemmaNamesUptoRow : OpenClaim := { program := "ytaobkepknhnfoaa", sum := "526621b36cc754f331911dccbaf414d655f4b6176c2cfee2482e7d2cf3f35cfe", func := "loop.example/g02079/laws.FnExactLemmaNames", spec := "fnExactLemmaNames", apart := false, narrowed := true }
def FnExactLemmaNamesUptoSaid : Prop := fnExactLemmaNamesUptoRow.holds Try.pinned (OpenSpec.upto fnExactLemmaNamesSpec)

/-- 'laws.FnExactLemmaOf', WHERE WHAT IT READS IS OF BULK AT MOST 1048576: true; the input reads as it did. -/
def fnExactLemmaOfUptoRow : OpenClaim := { program := "ytaobkepknhnfoaa", sum := "526621b36cc754f331911dccbaf414d655f4b6176c2cfee2482e7d2cf3f35cfe", func := "loop.example/g02079/laws.FnExactLemmaOf", spec := "fnExactLemmaOf", apart := false, narrowed := true }
def FnExactLemmaOfUptoSaid : Prop := fnExactLemmaOfUptoRow.holds Try.pinned (OpenSpec.upto fnExactLemmaOfSpec)

/-- 'laws.FnExactZeckendorfValue', WHERE WHAT IT READS IS OF BULK AT MOST 1048576: true; the input reads as it did. -/
def fnExactZeckendorfValueUptoRow : OpenClaim := { program := "ytaobkepknhnfoaa", sum := "526621b36cc754f331911dccbaf414d655f4b6176c2cfee2482e7d2cf3f35cfe", func := "loop.example/g02079/laws.FnExactZeckendorfValue", spec := "fnExactZeckendorfValue", apart := false, narrowed := true }
def FnExactZeckendorfValueUptoSaid : Prop := fnExactZeckendorfValueUptoRow.holds Try.pinned (OpenSpec.upto fnExactZeckendorfValueSpec)

/-- 'laws.FnExactZeckendorfOf', WHERE WHAT IT READS IS OF BULK AT MOST 1048576: true; the input reads as it did. -/
def fnExactZeckendorfOfUptoRow : OpenClaim := { program := "ytaobkepknhnfoaa", sum := "526621b36cc754f331911dccbaf414d655f4b6176c2cfee2482e7d2cf3f35cfe", func := "loop.example/g02079/laws.FnExactZeckendorfOf", spec := "fnExactZeckendorfOf", apart := false, narrowed := true }
def FnExactZeckendorfOfUptoSaid : Prop := fnExactZeckendorfOfUptoRow.holds Try.pinned (OpenSpec.upto fnExactZeckendorfOfSpec)

/-- 'laws.FnExactCompareZeckendorf', WHERE WHAT IT READS IS OF BULK AT MOST 1048576: true; the input reads as it did. -/
def fnExactCompareZeckendorfUptoRow : OpenClaim := { program := "ytaobkepknhnfoaa", sum := "526621b36cc754f331911dccbaf414d655f4b6176c2cfee2482e7d2cf3f35cfe", func := "loop.example/g02079/laws.FnExactCompareZeckendorf", spec := "fnExactCompareZeckendorf", apart := false, narrowed := true }
def FnExactCompareZeckendorfUptoSaid : Prop := fnExactCompareZeckendorfUptoRow.holds Try.pinned (OpenSpec.upto fnExactCompareZeckendorfSpec)

/-- 'laws.FnExactShiftZeckendorf', WHERE WHAT IT READS IS OF BULK AT MOST 1048576: true; the input reads as it did. -/
def fnExactShiftZeckendorfUptoRow : OpenClaim := { program := "ytaobkepknhnfoaa", sum := "526621b36cc754f331911dccbaf414d655f4b6176c2cfee2482e7d2cf3f35cfe", func := "loop.example/g02079/laws.FnExactShiftZeckendorf", spec := "fnExactShiftZeckendorf", apart := false, narrowed := true }
def FnExactShiftZeckendorfUptoSaid : Prop := fnExactShiftZeckendorfUptoRow.holds Try.pinned (OpenSpec.upto fnExactShiftZeckendorfSpec)

end Rows
end Go.Proofs.Ytaobkepknhnfoaa
