import Derived.Test.YtdknjbadnbangaaF
namespace Go.Proofs.Ytdknjbadnbangaa.Q
open Go.RowKit Go.Proofs.YtdknjbadnbangaaW.PrintWords Go.Proofs.YtdknjbadnbangaaW.PrintLast
set_option linter.unusedVariables false

def ok103 (x : S103) : Prop := (x.f0.size ≤ maxLen) ∧ (x.f1.size ≤ maxLen) ∧ (x.f2.size ≤ maxLen) ∧ ((Lit.int .u64 x.f3).wf = true) ∧ (x.f4.size ≤ maxLen)
def ok32 (x : S32) : Prop := (x.f0.size ≤ maxLen) ∧ (x.f1.size ≤ maxLen) ∧ (x.f2.size ≤ maxLen) ∧ ((Lit.int .u64 x.f3).wf = true) ∧ ((Lit.int .i64 x.f4).wf = true) ∧ (x.f5.size ≤ maxLen)
def ok61 (x : S61) : Prop := ((x.f0.length ≤ maxLen ∧ ∀ x_ ∈ x.f0, ok32 x_))
def ok165 (x : S165) : Prop := (x.f0.size ≤ maxLen) ∧ ((x.f1.length ≤ maxLen ∧ ∀ x_ ∈ x.f1, ok61 x_))
end Go.Proofs.Ytdknjbadnbangaa.Q
