/- FnExactCompareKeys: the program's CompareKeys answers as the reference's for every two entries. No condition. -/
import Derived.Test.YtdknjbadnbangaaStFnExactCompareKeys
import Derived.Test.YtdknjbadnbangaaCmp
namespace Go.Proofs.Ytdknjbadnbangaa.Pr
open Q
theorem szEntry_some' (a b c : ByteArray) (d e : Int) (f : ByteArray) (n : Int) : ∃ t, laws_szEntry.f a b c d e f n = some t := by
  unfold laws_szEntry.f; repeat' (first | exact ⟨_, rfl⟩ | split)
theorem FnExactCompareKeys : laws_FnExactCompareKeys.Pure := by
  intro a b c d e f a' b' c' d' e' f' _ _ _ _ _ _ _ _ _ _ _ _
  obtain ⟨t, ht⟩ := szEntry_some' a b c d e f 1048576
  obtain ⟨t', ht'⟩ := szEntry_some' a' b' c' d' e' f' t
  refine ⟨0 + 6, ?_⟩
  simp only [laws_FnExactCompareKeys.f, ht, ht', laws_toEntry.f, Option.bind_some, spec_cmp_is, impl_CompareKeys.f, impl_cmp_is, if_true]
  repeat' (first | rfl | split)
end Go.Proofs.Ytdknjbadnbangaa.Pr
