-- PRINTED BY print.sh 35421559b90ae4d0a3588c463048766b98c2df88dd9212a6774a882060cdf62d: not written by this session
import Derived.Test.YtdknjbadnbangaaProg
import Derived.Below
import Derived.Deep.Draws
import Derived.Deep.AppendLies
import Derived.Maps.AppendAt
import Derived.OwnWalk
import Derived.Laws.BytesArg
import Derived.Laws.MakeOwn
import Derived.Laws.OwnMore
import Derived.Deep.OwnRows
import Derived.Tactics
import Derived.Lib.ConvBytes
import Derived.Laws.Slices
import Derived.WalkKit
import Derived.KernelRfl
import Derived.RowKit3
import Derived.Deep.LoopGhost
import Derived.Deep.QuietTactic
import Derived.BigQuiet
import Derived.WideLaws
import Derived.Deep.DeepCutAuto
import Derived.Deep.CutBlock
import Derived.Deep.RegionHeld3
import Derived.Laws.Rows
import Derived.Lib.AppendStr
import Derived.ArgAppend
import Derived.Laws.IdiomCopy
import Derived.OrdersHeld
import Derived.Laws.BitsLemmas
import Derived.RowKit
import Derived.Test.YtdknjbadnbangaaWWords
import Derived.Test.YtdknjbadnbangaaWLast
import Derived.Test.YtdknjbadnbangaaWTab
import Derived.Test.YtdknjbadnbangaaWFour
import Derived.Test.YtdknjbadnbangaaWQPut
import Derived.Test.YtdknjbadnbangaaWApart
import Derived.Test.YtdknjbadnbangaaWArr
import Derived.Test.YtdknjbadnbangaaWZeros
import Derived.Test.YtdknjbadnbangaaWFoot
import Derived.Test.YtdknjbadnbangaaWKept
import Derived.Test.YtdknjbadnbangaaWShare
import Derived.Test.YtdknjbadnbangaaWN
import Derived.Test.YtdknjbadnbangaaWFootNe
import Derived.Test.YtdknjbadnbangaaWAt
import Derived.Test.YtdknjbadnbangaaWEqStruct
import Derived.Test.YtdknjbadnbangaaWRepsOne
import Derived.Test.YtdknjbadnbangaaWInv
import Derived.Test.YtdknjbadnbangaaWInvWords
import Derived.Test.YtdknjbadnbangaaWGuard
import Derived.Test.YtdknjbadnbangaaWNEv
import Derived.Test.YtdknjbadnbangaaWMore
namespace Go.Proofs.Ytdknjbadnbangaa.PFnExactConstants
open Go.RowKit Go.Proofs.YtdknjbadnbangaaW.PrintWords Go.Proofs.YtdknjbadnbangaaW.PrintLast Go.Proofs.YtdknjbadnbangaaW.PrintMore
attribute [local go_sem] max2_int min2_int max_two min_two max_three min_three max_four min_four   -- for this text's walks alone
set_option linter.unusedVariables false
set_option linter.unusedSimpArgs false



def errW : Option Int → Value
  | none => .nilIface
  | some c => .iface 0 (.int .i64 c)
theorem errW_none : errW none = .nilIface := rfl
theorem errW_some (c : Int) : errW (some c) = .iface 0 (.int .i64 c) := rfl

-- the values' own types

end Go.Proofs.Ytdknjbadnbangaa.PFnExactConstants
