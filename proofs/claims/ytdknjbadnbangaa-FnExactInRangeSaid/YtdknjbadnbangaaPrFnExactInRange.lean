/- FnExactInRange: the program's InRange answers as the reference's for every range and row. No condition. -/
import Derived.Test.YtdknjbadnbangaaStFnExactInRange
namespace Go.Proofs.Ytdknjbadnbangaa.Pr
open Q
theorem szRange_some (a : ByteArray) (b : Bool) (c : ByteArray) (n : Int) : ∃ t, laws_szRange.f a b c n = some t := by
  unfold laws_szRange.f; repeat' (first | exact ⟨_, rfl⟩ | split)
theorem inRange_some (a : ByteArray) (b : Bool) (c d : ByteArray) : ∃ t, spec_InRange.f a b c d = some t ∧ impl_InRange.f a b c d = some t := by
  unfold spec_InRange.f impl_InRange.f; repeat' (first | exact ⟨_, rfl, rfl⟩ | split)
theorem FnExactInRange : laws_FnExactInRange.Pure := by
  intro a b c d _ _ _
  obtain ⟨t, ht⟩ := szRange_some a b c 1048576
  obtain ⟨u, h1, h2⟩ := inRange_some a b c d
  simp only [laws_FnExactInRange.f, ht, laws_toRange.f, Option.bind_some, h1, h2, bne_self_eq_false, Bool.false_eq_true, if_false]
  repeat' (first | rfl | split)
end Go.Proofs.Ytdknjbadnbangaa.Pr
