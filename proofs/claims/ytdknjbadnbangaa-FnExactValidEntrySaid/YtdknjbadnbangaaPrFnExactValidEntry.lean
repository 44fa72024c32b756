/- FnExactValidEntry: the program's ValidEntry answers as the reference's for every entry. No condition. -/
import Derived.Test.YtdknjbadnbangaaStFnExactValidEntry
namespace Go.Proofs.Ytdknjbadnbangaa.Pr
open Q
theorem szEntry_some (a b c : ByteArray) (d e : Int) (f : ByteArray) (n : Int) : ∃ t, laws_szEntry.f a b c d e f n = some t := by
  unfold laws_szEntry.f; repeat' (first | exact ⟨_, rfl⟩ | split)
theorem validEntry_some (a b c : ByteArray) (d e : Int) (f : ByteArray) : ∃ t, spec_ValidEntry.f a b c d e f = some t ∧ impl_ValidEntry.f a b c d e f = some t := by
  have h : spec_ValidEntry.f a b c d e f = impl_ValidEntry.f a b c d e f := rfl
  rw [h]
  unfold impl_ValidEntry.f; repeat' (first | exact ⟨_, rfl, rfl⟩ | split)
theorem FnExactValidEntry : laws_FnExactValidEntry.Pure := by
  intro a b c d e f _ _ _ _ _ _
  obtain ⟨t, ht⟩ := szEntry_some a b c d e f 1048576
  obtain ⟨u, h1, h2⟩ := validEntry_some a b c d e f
  simp only [laws_FnExactValidEntry.f, ht, laws_toEntry.f, Option.bind_some, h1, h2, bne_self_eq_false, Bool.false_eq_true, if_false]
  split <;> rfl
end Go.Proofs.Ytdknjbadnbangaa.Pr
