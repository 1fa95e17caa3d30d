-- Made by this session's program gprint.py out of the translation. Not trusted: Lean checks it.
import Derived.Test.YtaalmfjpdgdnaaaProg
import Derived.Below
import Derived.Deep.Draws
import Derived.Deep.AppendLies
import Derived.Maps.AppendAt
import Derived.OwnWalk
import Derived.Laws.BytesArg
import Derived.Laws.MakeOwn
import Derived.Laws.OwnMore
import Derived.Deep.OwnRows
import Derived.Tactics
import Derived.Lib.ConvBytes
import Derived.Laws.Slices
import Derived.WalkKit
import Derived.KernelRfl
import Derived.RowKit3
import Derived.Deep.LoopGhost
import Derived.Deep.QuietTactic
import Derived.BigQuiet
import Derived.WideLaws
import Derived.Deep.DeepCutAuto
import Derived.Deep.CutBlock
import Derived.Deep.RegionHeld3
import Derived.Laws.Rows
import Derived.Lib.AppendStr
import Derived.ArgAppend
import Derived.Laws.IdiomCopy
import Derived.OrdersHeld
import Derived.Laws.BitsLemmas
import Derived.RowKit
import Derived.Test.YtaalmfjpdgdnaaaWWords
import Derived.Test.YtaalmfjpdgdnaaaWLast
import Derived.Test.YtaalmfjpdgdnaaaWTab
import Derived.Test.YtaalmfjpdgdnaaaWFour
import Derived.Test.YtaalmfjpdgdnaaaWQPut
import Derived.Test.YtaalmfjpdgdnaaaWApart
import Derived.Test.YtaalmfjpdgdnaaaWArr
import Derived.Test.YtaalmfjpdgdnaaaWZeros
import Derived.Test.YtaalmfjpdgdnaaaWFoot
import Derived.Test.YtaalmfjpdgdnaaaWKept
import Derived.Test.YtaalmfjpdgdnaaaWShare
import Derived.Test.YtaalmfjpdgdnaaaWN
import Derived.Test.YtaalmfjpdgdnaaaWFootNe
import Derived.Test.YtaalmfjpdgdnaaaWAt
import Derived.Test.YtaalmfjpdgdnaaaWEqStruct
import Derived.Test.YtaalmfjpdgdnaaaWRepsOne
import Derived.Test.YtaalmfjpdgdnaaaWInv
import Derived.Test.YtaalmfjpdgdnaaaWInvWords
import Derived.Test.YtaalmfjpdgdnaaaWGuard
import Derived.Test.YtaalmfjpdgdnaaaWNEv
import Derived.Test.YtaalmfjpdgdnaaaWMore
namespace Go.Proofs.Ytaalmfjpdgdnaaa.G
open Go.RowKit Go.Proofs.YtaalmfjpdgdnaaaW.PrintWords Go.Proofs.YtaalmfjpdgdnaaaW.PrintLast Go.Proofs.YtaalmfjpdgdnaaaW.PrintMore
attribute [local go_sem] max2_int min2_int max_two min_two max_three min_three max_four min_four   -- for this text's walks alone
set_option linter.unusedVariables false
set_option linter.unusedSimpArgs false



def errW : Option Int → Value
  | none => .nilIface
  | some c => .iface 0 (.int .i64 c)
theorem errW_none : errW none = .nilIface := rfl
theorem errW_some (c : Int) : errW (some c) = .iface 0 (.int .i64 c) := rfl

-- the values' own types

end Go.Proofs.Ytaalmfjpdgdnaaa.G
