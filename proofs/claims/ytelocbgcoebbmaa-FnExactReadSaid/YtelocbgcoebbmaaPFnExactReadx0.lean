-- PRINTED BY print.sh 35421559b90ae4d0a3588c463048766b98c2df88dd9212a6774a882060cdf62d: not written by this session
import Derived.Test.YtelocbgcoebbmaaProg
import Derived.Below
import Derived.Deep.Draws
import Derived.Deep.AppendLies
import Derived.Maps.AppendAt
import Derived.OwnWalk
import Derived.Laws.BytesArg
import Derived.Laws.MakeOwn
import Derived.Laws.OwnMore
import Derived.Deep.OwnRows
import Derived.Tactics
import Derived.Lib.ConvBytes
import Derived.Laws.Slices
import Derived.WalkKit
import Derived.KernelRfl
import Derived.RowKit3
import Derived.Deep.LoopGhost
import Derived.Deep.QuietTactic
import Derived.BigQuiet
import Derived.WideLaws
import Derived.Deep.DeepCutAuto
import Derived.Deep.CutBlock
import Derived.Deep.RegionHeld3
import Derived.Laws.Rows
import Derived.Lib.AppendStr
import Derived.ArgAppend
import Derived.Laws.IdiomCopy
import Derived.OrdersHeld
import Derived.Laws.BitsLemmas
import Derived.RowKit
import Derived.Test.YtelocbgcoebbmaaWWords
import Derived.Test.YtelocbgcoebbmaaWLast
import Derived.Test.YtelocbgcoebbmaaWTab
import Derived.Test.YtelocbgcoebbmaaWFour
import Derived.Test.YtelocbgcoebbmaaWQPut
import Derived.Test.YtelocbgcoebbmaaWApart
import Derived.Test.YtelocbgcoebbmaaWArr
import Derived.Test.YtelocbgcoebbmaaWZeros
import Derived.Test.YtelocbgcoebbmaaWFoot
import Derived.Test.YtelocbgcoebbmaaWKept
import Derived.Test.YtelocbgcoebbmaaWShare
import Derived.Test.YtelocbgcoebbmaaWN
import Derived.Test.YtelocbgcoebbmaaWFootNe
import Derived.Test.YtelocbgcoebbmaaWAt
import Derived.Test.YtelocbgcoebbmaaWEqStruct
import Derived.Test.YtelocbgcoebbmaaWRepsOne
import Derived.Test.YtelocbgcoebbmaaWInv
import Derived.Test.YtelocbgcoebbmaaWInvWords
import Derived.Test.YtelocbgcoebbmaaWGuard
import Derived.Test.YtelocbgcoebbmaaWNEv
import Derived.Test.YtelocbgcoebbmaaWMore
namespace Go.Proofs.Ytelocbgcoebbmaa.PFnExactRead
open Go.RowKit Go.Proofs.YtelocbgcoebbmaaW.PrintWords Go.Proofs.YtelocbgcoebbmaaW.PrintLast Go.Proofs.YtelocbgcoebbmaaW.PrintMore
attribute [local go_sem] max2_int min2_int max_two min_two max_three min_three max_four min_four   -- for this text's walks alone
set_option linter.unusedVariables false
set_option linter.unusedSimpArgs false



def errW : Option Int → Value
  | none => .nilIface
  | some c => .iface 0 (.int .i64 c)
theorem errW_none : errW none = .nilIface := rfl
theorem errW_some (c : Int) : errW (some c) = .iface 0 (.int .i64 c) := rfl

-- the values' own types

end Go.Proofs.Ytelocbgcoebbmaa.PFnExactRead
