import Derived.Test.YtdknjbadnbangaaOk
import Derived.Test.YtdknjbadnbangaaF4
namespace Go.Proofs.Ytdknjbadnbangaa.Q
open Go.RowKit Go.Proofs.YtdknjbadnbangaaW.PrintWords Go.Proofs.YtdknjbadnbangaaW.PrintLast
set_option linter.unusedVariables false

/-- The law over lists and numbers. -/
def laws_FnExactInRange.Pure : Prop := ∀ (a0_0 : ByteArray) (a0_1 : Bool) (a0_2 : ByteArray) (a1 : ByteArray), a0_0.size ≤ maxLen → a0_2.size ≤ maxLen → a1.size ≤ maxLen → laws_FnExactInRange.f a0_0 a0_1 a0_2 a1 = some true
end Go.Proofs.Ytdknjbadnbangaa.Q
