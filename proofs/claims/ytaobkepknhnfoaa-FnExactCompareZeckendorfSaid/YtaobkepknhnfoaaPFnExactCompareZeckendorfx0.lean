-- PRINTED BY print.sh 35421559b90ae4d0a3588c463048766b98c2df88dd9212a6774a882060cdf62d: not written by this session
import Derived.Test.YtaobkepknhnfoaaProg
import Derived.Below
import Derived.Deep.Draws
import Derived.Deep.AppendLies
import Derived.Maps.AppendAt
import Derived.OwnWalk
import Derived.Laws.BytesArg
import Derived.Laws.MakeOwn
import Derived.Laws.OwnMore
import Derived.Deep.OwnRows
import Derived.Tactics
import Derived.Lib.ConvBytes
import Derived.Laws.Slices
import Derived.WalkKit
import Derived.KernelRfl
import Derived.RowKit3
import Derived.Deep.LoopGhost
import Derived.Deep.QuietTactic
import Derived.BigQuiet
import Derived.WideLaws
import Derived.Deep.DeepCutAuto
import Derived.Deep.CutBlock
import Derived.Deep.RegionHeld3
import Derived.Laws.Rows
import Derived.Lib.AppendStr
import Derived.ArgAppend
import Derived.Laws.IdiomCopy
import Derived.OrdersHeld
import Derived.Laws.BitsLemmas
import Derived.RowKit
import Derived.Test.YtaobkepknhnfoaaWWords
import Derived.Test.YtaobkepknhnfoaaWLast
import Derived.Test.YtaobkepknhnfoaaWTab
import Derived.Test.YtaobkepknhnfoaaWFour
import Derived.Test.YtaobkepknhnfoaaWQPut
import Derived.Test.YtaobkepknhnfoaaWApart
import Derived.Test.YtaobkepknhnfoaaWArr
import Derived.Test.YtaobkepknhnfoaaWZeros
import Derived.Test.YtaobkepknhnfoaaWFoot
import Derived.Test.YtaobkepknhnfoaaWKept
import Derived.Test.YtaobkepknhnfoaaWShare
import Derived.Test.YtaobkepknhnfoaaWN
import Derived.Test.YtaobkepknhnfoaaWFootNe
import Derived.Test.YtaobkepknhnfoaaWAt
import Derived.Test.YtaobkepknhnfoaaWEqStruct
import Derived.Test.YtaobkepknhnfoaaWRepsOne
import Derived.Test.YtaobkepknhnfoaaWInv
import Derived.Test.YtaobkepknhnfoaaWInvWords
import Derived.Test.YtaobkepknhnfoaaWGuard
import Derived.Test.YtaobkepknhnfoaaWNEv
import Derived.Test.YtaobkepknhnfoaaWMore
namespace Go.Proofs.Ytaobkepknhnfoaa.PFnExactCompareZeckendorf
open Go.RowKit Go.Proofs.YtaobkepknhnfoaaW.PrintWords Go.Proofs.YtaobkepknhnfoaaW.PrintLast Go.Proofs.YtaobkepknhnfoaaW.PrintMore
attribute [local go_sem] max2_int min2_int max_two min_two max_three min_three max_four min_four   -- for this text's walks alone
set_option linter.unusedVariables false
set_option linter.unusedSimpArgs false



def errW : Option Int → Value
  | none => .nilIface
  | some c => .iface 0 (.int .i64 c)
theorem errW_none : errW none = .nilIface := rfl
theorem errW_some (c : Int) : errW (some c) = .iface 0 (.int .i64 c) := rfl

theorem info3 : (Try.prog.info? 3).map (fun i => (i.zero, i.size, i.bytes)) = some (some (.int .i64 0), 1, 8) := by kernel_rfl
-- the values' own types

end Go.Proofs.Ytaobkepknhnfoaa.PFnExactCompareZeckendorf
