import Derived.Test.YtdknjbadnbangaaOk
import Derived.Test.YtdknjbadnbangaaF7
namespace Go.Proofs.Ytdknjbadnbangaa.Q
open Go.RowKit Go.Proofs.YtdknjbadnbangaaW.PrintWords Go.Proofs.YtdknjbadnbangaaW.PrintLast
set_option linter.unusedVariables false

/-- The law over lists and numbers. -/
def laws_FnExactCompareKeys.Pure : Prop := ∀ (a0_0 : ByteArray) (a0_1 : ByteArray) (a0_2 : ByteArray) (a0_3 : Int) (a0_4 : Int) (a0_5 : ByteArray) (a1_0 : ByteArray) (a1_1 : ByteArray) (a1_2 : ByteArray) (a1_3 : Int) (a1_4 : Int) (a1_5 : ByteArray), a0_0.size ≤ maxLen → a0_1.size ≤ maxLen → a0_2.size ≤ maxLen → (Lit.int .u64 a0_3).wf = true → (Lit.int .i64 a0_4).wf = true → a0_5.size ≤ maxLen → a1_0.size ≤ maxLen → a1_1.size ≤ maxLen → a1_2.size ≤ maxLen → (Lit.int .u64 a1_3).wf = true → (Lit.int .i64 a1_4).wf = true → a1_5.size ≤ maxLen → ∃ k, laws_FnExactCompareKeys.f k a0_0 a0_1 a0_2 a0_3 a0_4 a0_5 a1_0 a1_1 a1_2 a1_3 a1_4 a1_5 = some true
end Go.Proofs.Ytdknjbadnbangaa.Q
