/- The Lean functions that Go functions of this seat come to, each with the proof that its call does just that. Written by a program of this session (wip/myprint.py over the kit's printer). -/
import Derived.Test.YtkahmcdnnknhmaaProg
import Derived.Below
import Derived.Deep.Draws
import Derived.Deep.AppendLies
import Derived.Maps.AppendAt
import Derived.OwnWalk
import Derived.Laws.BytesArg
import Derived.Laws.MakeOwn
import Derived.Laws.OwnMore
import Derived.Deep.OwnRows
import Derived.Tactics
import Derived.Lib.ConvBytes
import Derived.Laws.Slices
import Derived.WalkKit
import Derived.KernelRfl
import Derived.RowKit3
import Derived.Deep.LoopGhost
import Derived.Deep.QuietTactic
import Derived.BigQuiet
import Derived.WideLaws
import Derived.Deep.DeepCutAuto
import Derived.Deep.CutBlock
import Derived.Deep.RegionHeld3
import Derived.Laws.Rows
import Derived.Lib.AppendStr
import Derived.ArgAppend
import Derived.Laws.IdiomCopy
import Derived.OrdersHeld
import Derived.Laws.BitsLemmas
import Derived.RowKit
import Derived.Test.YtkahmcdnnknhmaaWWords
import Derived.Test.YtkahmcdnnknhmaaWLast
import Derived.Test.YtkahmcdnnknhmaaWTab
import Derived.Test.YtkahmcdnnknhmaaWFour
import Derived.Test.YtkahmcdnnknhmaaWQPut
import Derived.Test.YtkahmcdnnknhmaaWApart
import Derived.Test.YtkahmcdnnknhmaaWArr
import Derived.Test.YtkahmcdnnknhmaaWZeros
import Derived.Test.YtkahmcdnnknhmaaWFoot
import Derived.Test.YtkahmcdnnknhmaaWKept
import Derived.Test.YtkahmcdnnknhmaaWShare
import Derived.Test.YtkahmcdnnknhmaaWN
import Derived.Test.YtkahmcdnnknhmaaWFootNe
import Derived.Test.YtkahmcdnnknhmaaWAt
import Derived.Test.YtkahmcdnnknhmaaWEqStruct
import Derived.Test.YtkahmcdnnknhmaaWRepsOne
import Derived.Test.YtkahmcdnnknhmaaWInv
import Derived.Test.YtkahmcdnnknhmaaWInvWords
import Derived.Test.YtkahmcdnnknhmaaWGuard
import Derived.Test.YtkahmcdnnknhmaaWNEv
import Derived.Test.YtkahmcdnnknhmaaWMore
namespace Go.Proofs.Ytkahmcdnnknhmaa.A
open Go.RowKit Go.Proofs.YtkahmcdnnknhmaaW.PrintWords Go.Proofs.YtkahmcdnnknhmaaW.PrintLast Go.Proofs.YtkahmcdnnknhmaaW.PrintMore
attribute [local go_sem] max2_int min2_int max_two min_two max_three min_three max_four min_four   -- for this text's walks alone
set_option linter.unusedVariables false
set_option linter.unusedSimpArgs false



def errW : Option Int → Value
  | none => .nilIface
  | some c => .iface 0 (.int .i64 c)
theorem errW_none : errW none = .nilIface := rfl
theorem errW_some (c : Int) : errW (some c) = .iface 0 (.int .i64 c) := rfl

-- the values' own types

end Go.Proofs.Ytkahmcdnnknhmaa.A
