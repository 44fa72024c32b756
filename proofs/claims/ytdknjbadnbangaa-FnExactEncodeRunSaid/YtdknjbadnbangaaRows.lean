/-
  No cell of these rows narrows 'for every input' (looked for: loops, veiled, ifaces, maps, wideKeys, modest, calm, conditions, laid).
  DERIVED. THE GIVEN ROWS OF THIS SEAT. 12 by the template 'for every input the law returns true; each argument reads behind the call as it read before'; 0 by the template 'total and deterministic' (their statements: YtdknjbadnbangaaTotals.lean).
  GIVEN WITH THE SEED: the statements are not yours to turn. If you find one false, say at which input.
  Laid BY PROGRAM, IN A SANDBOX (cutbox-rows.mjs): the forced cells as the released guide's own fill.sh prints them over the translation 9abac105a15b8556… (all of the seat's roots in one cut). By AI agents, Wed Nov 11 2026. No macro, syntax, notation, axiom, sorry.
-/
import Derived.Test.YtdknjbadnbangaaChecked
import GoSem.Claim
import GoSem.ClaimJoined
import GoSem.ClaimMapViews
import Derived.JoinedTies
import Derived.KernelRfl
namespace Go.Proofs.Ytdknjbadnbangaa
/- THE CELL 'sum', in the pinned program and in every row, IS THE sha256 OF THE DUMP (.gsa) THAT YtdknjbadnbangaaProg.lean LOADS. Nothing in Lean hashes anything: it is a label: what it is worth is what the hold of that sum in a sandbox is worth. -/
noncomputable def Try.pinned : Pinned := { name := "ytdknjbadnbangaa", sum := "9abac105a15b85568a978199919d09f287abc5e4c30f5842bd4cb8ded806fd2a", checked := Try.checked }
namespace Rows
def none {H : Type} : Left H := { results := [], args := [] }

/-- 'laws.FnExactConstants': WHATEVER THE INPUT: true; the input reads as it did. -/
def fnExactConstantsSpec : ChangeSpec := { name := "fnExactConstants", fn := fun _ => fun
  | [] => { results := [.lit (.bool true)], args := [] }
  | _ => none }
def fnExactConstantsRow : OpenClaim := { program := "ytdknjbadnbangaa", sum := "9abac105a15b85568a978199919d09f287abc5e4c30f5842bd4cb8ded806fd2a", func := "loop.example/s01854/laws.FnExactConstants", spec := "fnExactConstants", apart := false }
def FnExactConstantsSaid : Prop := fnExactConstantsRow.holds Try.pinned (OpenSpec.ofChange fnExactConstantsSpec)

/-- ITS FALSE NEIGHBOUR: 'it returns false'. Refute it at one input. -/
def fnExactConstantsWrong : ChangeSpec := { name := "fnExactConstants", fn := fun _ => fun
  | [] => { results := [.lit (.bool false)], args := [] }
  | _ => none }
def FnExactConstantsWrongFalsely : Prop := fnExactConstantsRow.holds Try.pinned (OpenSpec.ofChange fnExactConstantsWrong)

/-- 'laws.FnExactInRange': WHATEVER THE INPUT: true; the input reads as it did. -/
def fnExactInRangeSpec : ChangeSpec := { name := "fnExactInRange", fn := fun _ => fun
  | [d1, d2] => { results := [.lit (.bool true)], args := [d1, d2] }
  | _ => none }
def fnExactInRangeRow : OpenClaim := { program := "ytdknjbadnbangaa", sum := "9abac105a15b85568a978199919d09f287abc5e4c30f5842bd4cb8ded806fd2a", func := "loop.example/s01854/laws.FnExactInRange", spec := "fnExactInRange", apart := false }
def FnExactInRangeSaid : Prop := fnExactInRangeRow.holds Try.pinned (OpenSpec.ofChange fnExactInRangeSpec)

/-- ITS FALSE NEIGHBOUR: 'it returns false'. Refute it at one input. -/
def fnExactInRangeWrong : ChangeSpec := { name := "fnExactInRange", fn := fun _ => fun
  | [d1, d2] => { results := [.lit (.bool false)], args := [d1, d2] }
  | _ => none }
def FnExactInRangeWrongFalsely : Prop := fnExactInRangeRow.holds Try.pinned (OpenSpec.ofChange fnExactInRangeWrong)

/-- 'laws.FnExactValidEntry': WHATEVER THE INPUT: true; the input reads as it did. -/
def fnExactValidEntrySpec : ChangeSpec := { name := "fnExactValidEntry", fn := fun _ => fun
  | [d] => { results := [.lit (.bool true)], args := [d] }
  | _ => none }
def fnExactValidEntryRow : OpenClaim := { program := "ytdknjbadnbangaa", sum := "9abac105a15b85568a978199919d09f287abc5e4c30f5842bd4cb8ded806fd2a", func := "loop.example/s01854/laws.FnExactValidEntry", spec := "fnExactValidEntry", apart := false }
def FnExactValidEntrySaid : Prop := fnExactValidEntryRow.holds Try.pinned (OpenSpec.ofChange fnExactValidEntrySpec)

/-- ITS FALSE NEIGHBOUR: 'it returns false'. Refute it at one input. -/
def fnExactValidEntryWrong : ChangeSpec := { name := "fnExactValidEntry", fn := fun _ => fun
  | [d] => { results := [.lit (.bool false)], args := [d] }
  | _ => none }
def FnExactValidEntryWrongFalsely : Prop := fnExactValidEntryRow.holds Try.pinned (OpenSpec.ofChange fnExactValidEntryWrong)

/-- 'laws.FnExactCrc32': WHATEVER THE INPUT: true; the input reads as it did. -/
def fnExactCrc32Spec : ChangeSpec := { name := "fnExactCrc32", fn := fun _ => fun
  | [d] => { results := [.lit (.bool true)], args := [d] }
  | _ => none }
def fnExactCrc32Row : OpenClaim := { program := "ytdknjbadnbangaa", sum := "9abac105a15b85568a978199919d09f287abc5e4c30f5842bd4cb8ded806fd2a", func := "loop.example/s01854/laws.FnExactCrc32", spec := "fnExactCrc32", apart := false }
def FnExactCrc32Said : Prop := fnExactCrc32Row.holds Try.pinned (OpenSpec.ofChange fnExactCrc32Spec)

/-- ITS FALSE NEIGHBOUR: 'it returns false'. Refute it at one input. -/
def fnExactCrc32Wrong : ChangeSpec := { name := "fnExactCrc32", fn := fun _ => fun
  | [d] => { results := [.lit (.bool false)], args := [d] }
  | _ => none }
def FnExactCrc32WrongFalsely : Prop := fnExactCrc32Row.holds Try.pinned (OpenSpec.ofChange fnExactCrc32Wrong)

/-- 'laws.FnExactCompareKeys': WHATEVER THE INPUT: true; the input reads as it did. -/
def fnExactCompareKeysSpec : ChangeSpec := { name := "fnExactCompareKeys", fn := fun _ => fun
  | [d1, d2] => { results := [.lit (.bool true)], args := [d1, d2] }
  | _ => none }
def fnExactCompareKeysRow : OpenClaim := { program := "ytdknjbadnbangaa", sum := "9abac105a15b85568a978199919d09f287abc5e4c30f5842bd4cb8ded806fd2a", func := "loop.example/s01854/laws.FnExactCompareKeys", spec := "fnExactCompareKeys", inPlace := ["internal/bytealg.abigen_runtime_cmpstring"], apart := false }
def FnExactCompareKeysSaid : Prop := fnExactCompareKeysRow.holds Try.pinned (OpenSpec.ofChange fnExactCompareKeysSpec)

/-- ITS FALSE NEIGHBOUR: 'it returns false'. Refute it at one input. -/
def fnExactCompareKeysWrong : ChangeSpec := { name := "fnExactCompareKeys", fn := fun _ => fun
  | [d1, d2] => { results := [.lit (.bool false)], args := [d1, d2] }
  | _ => none }
def FnExactCompareKeysWrongFalsely : Prop := fnExactCompareKeysRow.holds Try.pinned (OpenSpec.ofChange fnExactCompareKeysWrong)

/-- 'laws.FnExactEmptyStore': WHATEVER THE INPUT: true; the input reads as it did. -/
def fnExactEmptyStoreSpec : ChangeSpec := { name := "fnExactEmptyStore", fn := fun _ => fun
  | [] => { results := [.lit (.bool true)], args := [] }
  | _ => none }
def fnExactEmptyStoreRow : OpenClaim := { program := "ytdknjbadnbangaa", sum := "9abac105a15b85568a978199919d09f287abc5e4c30f5842bd4cb8ded806fd2a", func := "loop.example/s01854/laws.FnExactEmptyStore", spec := "fnExactEmptyStore", apart := false }
def FnExactEmptyStoreSaid : Prop := fnExactEmptyStoreRow.holds Try.pinned (OpenSpec.ofChange fnExactEmptyStoreSpec)

/-- ITS FALSE NEIGHBOUR: 'it returns false'. Refute it at one input. -/
def fnExactEmptyStoreWrong : ChangeSpec := { name := "fnExactEmptyStore", fn := fun _ => fun
  | [] => { results := [.lit (.bool false)], args := [] }
  | _ => none }
def FnExactEmptyStoreWrongFalsely : Prop := fnExactEmptyStoreRow.holds Try.pinned (OpenSpec.ofChange fnExactEmptyStoreWrong)

/-- 'laws.FnExactValidCells': WHATEVER THE INPUT: true; the input reads as it did. -/
def fnExactValidCellsSpec : ChangeSpec := { name := "fnExactValidCells", fn := fun _ => fun
  | [d] => { results := [.lit (.bool true)], args := [d] }
  | _ => none }
def fnExactValidCellsRow : OpenClaim := { program := "ytdknjbadnbangaa", sum := "9abac105a15b85568a978199919d09f287abc5e4c30f5842bd4cb8ded806fd2a", func := "loop.example/s01854/laws.FnExactValidCells", spec := "fnExactValidCells", inPlace := ["internal/bytealg.abigen_runtime_cmpstring"], apart := false }
def FnExactValidCellsSaid : Prop := fnExactValidCellsRow.holds Try.pinned (OpenSpec.ofChange fnExactValidCellsSpec)

/-- ITS FALSE NEIGHBOUR: 'it returns false'. Refute it at one input. -/
def fnExactValidCellsWrong : ChangeSpec := { name := "fnExactValidCells", fn := fun _ => fun
  | [d] => { results := [.lit (.bool false)], args := [d] }
  | _ => none }
def FnExactValidCellsWrongFalsely : Prop := fnExactValidCellsRow.holds Try.pinned (OpenSpec.ofChange fnExactValidCellsWrong)

/-- 'laws.FnExactValidRun': WHATEVER THE INPUT: true; the input reads as it did. -/
def fnExactValidRunSpec : ChangeSpec := { name := "fnExactValidRun", fn := fun _ => fun
  | [d] => { results := [.lit (.bool true)], args := [d] }
  | _ => none }
def fnExactValidRunRow : OpenClaim := { program := "ytdknjbadnbangaa", sum := "9abac105a15b85568a978199919d09f287abc5e4c30f5842bd4cb8ded806fd2a", func := "loop.example/s01854/laws.FnExactValidRun", spec := "fnExactValidRun", inPlace := ["internal/bytealg.abigen_runtime_cmpstring"], apart := false }
def FnExactValidRunSaid : Prop := fnExactValidRunRow.holds Try.pinned (OpenSpec.ofChange fnExactValidRunSpec)

/-- ITS FALSE NEIGHBOUR: 'it returns false'. Refute it at one input. -/
def fnExactValidRunWrong : ChangeSpec := { name := "fnExactValidRun", fn := fun _ => fun
  | [d] => { results := [.lit (.bool false)], args := [d] }
  | _ => none }
def FnExactValidRunWrongFalsely : Prop := fnExactValidRunRow.holds Try.pinned (OpenSpec.ofChange fnExactValidRunWrong)

/-- 'laws.FnExactCheckRegex': WHATEVER THE INPUT: true; the input reads as it did. -/
def fnExactCheckRegexSpec : ChangeSpec := { name := "fnExactCheckRegex", fn := fun _ => fun
  | [d] => { results := [.lit (.bool true)], args := [d] }
  | _ => none }
def fnExactCheckRegexRow : OpenClaim := { program := "ytdknjbadnbangaa", sum := "9abac105a15b85568a978199919d09f287abc5e4c30f5842bd4cb8ded806fd2a", func := "loop.example/s01854/laws.FnExactCheckRegex", spec := "fnExactCheckRegex", inPlace := ["internal/bytealg.IndexByteString"], unfollowed := true, recurses := true, apart := false }
def FnExactCheckRegexSaid : Prop := fnExactCheckRegexRow.holds Try.pinned (OpenSpec.ofChange fnExactCheckRegexSpec)

/-- ITS FALSE NEIGHBOUR: 'it returns false'. Refute it at one input. -/
def fnExactCheckRegexWrong : ChangeSpec := { name := "fnExactCheckRegex", fn := fun _ => fun
  | [d] => { results := [.lit (.bool false)], args := [d] }
  | _ => none }
def FnExactCheckRegexWrongFalsely : Prop := fnExactCheckRegexRow.holds Try.pinned (OpenSpec.ofChange fnExactCheckRegexWrong)

/-- 'laws.FnExactPrefixOf': WHATEVER THE INPUT: true; the input reads as it did. -/
def fnExactPrefixOfSpec : ChangeSpec := { name := "fnExactPrefixOf", fn := fun _ => fun
  | [d] => { results := [.lit (.bool true)], args := [d] }
  | _ => none }
def fnExactPrefixOfRow : OpenClaim := { program := "ytdknjbadnbangaa", sum := "9abac105a15b85568a978199919d09f287abc5e4c30f5842bd4cb8ded806fd2a", func := "loop.example/s01854/laws.FnExactPrefixOf", spec := "fnExactPrefixOf", inPlace := ["internal/bytealg.IndexByteString"], unfollowed := true, recurses := true, apart := false }
def FnExactPrefixOfSaid : Prop := fnExactPrefixOfRow.holds Try.pinned (OpenSpec.ofChange fnExactPrefixOfSpec)

/-- ITS FALSE NEIGHBOUR: 'it returns false'. Refute it at one input. -/
def fnExactPrefixOfWrong : ChangeSpec := { name := "fnExactPrefixOf", fn := fun _ => fun
  | [d] => { results := [.lit (.bool false)], args := [d] }
  | _ => none }
def FnExactPrefixOfWrongFalsely : Prop := fnExactPrefixOfRow.holds Try.pinned (OpenSpec.ofChange fnExactPrefixOfWrong)

/-- 'laws.FnExactValidStore': WHATEVER THE INPUT: true; the input reads as it did. -/
def fnExactValidStoreSpec : ChangeSpec := { name := "fnExactValidStore", fn := fun _ => fun
  | [d] => { results := [.lit (.bool true)], args := [d] }
  | _ => none }
def fnExactValidStoreRow : OpenClaim := { program := "ytdknjbadnbangaa", sum := "9abac105a15b85568a978199919d09f287abc5e4c30f5842bd4cb8ded806fd2a", func := "loop.example/s01854/laws.FnExactValidStore", spec := "fnExactValidStore", inPlace := ["internal/bytealg.abigen_runtime_cmpstring"], apart := false }
def FnExactValidStoreSaid : Prop := fnExactValidStoreRow.holds Try.pinned (OpenSpec.ofChange fnExactValidStoreSpec)

/-- ITS FALSE NEIGHBOUR: 'it returns false'. Refute it at one input. -/
def fnExactValidStoreWrong : ChangeSpec := { name := "fnExactValidStore", fn := fun _ => fun
  | [d] => { results := [.lit (.bool false)], args := [d] }
  | _ => none }
def FnExactValidStoreWrongFalsely : Prop := fnExactValidStoreRow.holds Try.pinned (OpenSpec.ofChange fnExactValidStoreWrong)

/-- 'laws.FnExactEncodeRun': WHATEVER THE INPUT: true; the input reads as it did. -/
def fnExactEncodeRunSpec : ChangeSpec := { name := "fnExactEncodeRun", fn := fun _ => fun
  | [d1, d2] => { results := [.lit (.bool true)], args := [d1, d2] }
  | _ => none }
def fnExactEncodeRunRow : OpenClaim := { program := "ytdknjbadnbangaa", sum := "9abac105a15b85568a978199919d09f287abc5e4c30f5842bd4cb8ded806fd2a", func := "loop.example/s01854/laws.FnExactEncodeRun", spec := "fnExactEncodeRun", inPlace := ["internal/bytealg.abigen_runtime_cmpstring"], recurses := true, apart := false }
def FnExactEncodeRunSaid : Prop := fnExactEncodeRunRow.holds Try.pinned (OpenSpec.ofChange fnExactEncodeRunSpec)

/-- ITS FALSE NEIGHBOUR: 'it returns false'. Refute it at one input. -/
def fnExactEncodeRunWrong : ChangeSpec := { name := "fnExactEncodeRun", fn := fun _ => fun
  | [d1, d2] => { results := [.lit (.bool false)], args := [d1, d2] }
  | _ => none }
def FnExactEncodeRunWrongFalsely : Prop := fnExactEncodeRunRow.holds Try.pinned (OpenSpec.ofChange fnExactEncodeRunWrong)

/- THE SECOND FORM. 'bulk': how many values and letters a reading holds, each counted each time it is reached (what is shared counts as often as it is met; a slice's spare places count too). A statement '..UptoSaid' is the law's where the arguments, and the package variables that the reading takes, are together of bulk at most 1048576: NARROWER than '..Said'. Prove '..Said' where nothing that the law and all that it calls make is longer than what came in: it says more and counts as full. Else prove '..UptoSaid'. A law counts once. -/
mutual
def uptoBulk {H : Type} : DataW H → Nat
  | .lit (.string bytes) => bytes.length + 1
  | .lit _ => 1
  | .nil => 1
  | .ptr d => uptoBulk d + 1
  | .slice elems spare => uptoBulkAll elems + uptoBulkAll spare + 1
  | .agg parts => uptoBulkAll parts + 1
  | .iface _ d => uptoBulk d + 1
  | .map entries => uptoBulkEntries entries + 1
  | .held _ => 1
def uptoBulkAll {H : Type} : List (DataW H) → Nat
  | [] => 0
  | d :: r => uptoBulk d + uptoBulkAll r
def uptoBulkEntries {H : Type} : List (Lit × DataW H) → Nat
  | [] => 0
  | x :: r => uptoBulkEntry x + uptoBulkEntries r
def uptoBulkEntry {H : Type} : Lit × DataW H → Nat
  | (.string bytes, d) => bytes.length + uptoBulk d + 1
  | (_, d) => uptoBulk d + 1
 end
def uptoSmall : (H : Type) → List (DataW H) → Bool := fun _ ds => decide (uptoBulkAll ds ≤ 1048576)
def OpenSpec.upto (s : _root_.Go.ChangeSpec) : _root_.Go.OpenSpec := { _root_.Go.OpenSpec.ofChange s with cond := some uptoSmall }

/-- 'laws.FnExactConstants', WHERE WHAT IT READS IS OF BULK AT MOST 1048576: true; the input reads as it did. -/
def fnExactConstantsUptoRow : OpenClaim := { program := "ytdknjbadnbangaa", sum := "9abac105a15b85568a978199919d09f287abc5e4c30f5842bd4cb8ded806fd2a", func := "loop.example/s01854/laws.FnExactConstants", spec := "fnExactConstants", apart := false, narrowed := true }
def FnExactConstantsUptoSaid : Prop := fnExactConstantsUptoRow.holds Try.pinned (OpenSpec.upto fnExactConstantsSpec)

/-- 'laws.FnExactInRange', WHERE WHAT IT READS IS OF BULK AT MOST 1048576: true; the input reads as it did. -/
def fnExactInRangeUptoRow : OpenClaim := { program := "ytdknjbadnbangaa", sum := "9abac105a15b85568a978199919d09f287abc5e4c30f5842bd4cb8ded806fd2a", func := "loop.example/s01854/laws.FnExactInRange", spec := "fnExactInRange", apart := false, narrowed := true }
def FnExactInRangeUptoSaid : Prop := fnExactInRangeUptoRow.holds Try.pinned (OpenSpec.upto fnExactInRangeSpec)

/-- 'laws.FnExactValidEntry', WHERE WHAT IT READS IS OF BULK AT MOST 1048576: true; the input reads as it did. -/
def fnExactValidEntryUptoRow : OpenClaim := { program := "ytdknjbadnbangaa", sum := "9abac105a15b85568a978199919d09f287abc5e4c30f5842bd4cb8ded806fd2a", func := "loop.example/s01854/laws.FnExactValidEntry", spec := "fnExactValidEntry", apart := false, narrowed := true }
def FnExactValidEntryUptoSaid : Prop := fnExactValidEntryUptoRow.holds Try.pinned (OpenSpec.upto fnExactValidEntrySpec)

/-- 'laws.FnExactCrc32', WHERE WHAT IT READS IS OF BULK AT MOST 1048576: true; the input reads as it did. -/
def fnExactCrc32UptoRow : OpenClaim := { program := "ytdknjbadnbangaa", sum := "9abac105a15b85568a978199919d09f287abc5e4c30f5842bd4cb8ded806fd2a", func := "loop.example/s01854/laws.FnExactCrc32", spec := "fnExactCrc32", apart := false, narrowed := true }
def FnExactCrc32UptoSaid : Prop := fnExactCrc32UptoRow.holds Try.pinned (OpenSpec.upto fnExactCrc32Spec)

/-- 'laws.FnExactCompareKeys', WHERE WHAT IT READS IS OF BULK AT MOST 1048576: true; the input reads as it did. -/
def fnExactCompareKeysUptoRow : OpenClaim := { program := "ytdknjbadnbangaa", sum := "9abac105a15b85568a978199919d09f287abc5e4c30f5842bd4cb8ded806fd2a", func := "loop.example/s01854/laws.FnExactCompareKeys", spec := "fnExactCompareKeys", inPlace := ["internal/bytealg.abigen_runtime_cmpstring"], apart := false, narrowed := true }
def FnExactCompareKeysUptoSaid : Prop := fnExactCompareKeysUptoRow.holds Try.pinned (OpenSpec.upto fnExactCompareKeysSpec)

/-- 'laws.FnExactEmptyStore', WHERE WHAT IT READS IS OF BULK AT MOST 1048576: true; the input reads as it did. -/
def fnExactEmptyStoreUptoRow : OpenClaim := { program := "ytdknjbadnbangaa", sum := "9abac105a15b85568a978199919d09f287abc5e4c30f5842bd4cb8ded806fd2a", func := "loop.example/s01854/laws.FnExactEmptyStore", spec := "fnExactEmptyStore", apart := false, narrowed := true }
def FnExactEmptyStoreUptoSaid : Prop := fnExactEmptyStoreUptoRow.holds Try.pinned (OpenSpec.upto fnExactEmptyStoreSpec)

/-- 'laws.FnExactValidCells', WHERE WHAT IT READS IS OF BULK AT MOST 1048576: true; the input reads as it did. -/
def fnExactValidCellsUptoRow : OpenClaim := { program := "ytdknjbadnbangaa", sum := "9abac105a15b85568a978199919d09f287abc5e4c30f5842bd4cb8ded806fd2a", func := "loop.example/s01854/laws.FnExactValidCells", spec := "fnExactValidCells", inPlace := ["internal/bytealg.abigen_runtime_cmpstring"], apart := false, narrowed := true }
def FnExactValidCellsUptoSaid : Prop := fnExactValidCellsUptoRow.holds Try.pinned (OpenSpec.upto fnExactValidCellsSpec)

/-- 'laws.FnExactValidRun', WHERE WHAT IT READS IS OF BULK AT MOST 1048576: true; the input reads as it did. -/
def fnExactValidRunUptoRow : OpenClaim := { program := "ytdknjbadnbangaa", sum := "9abac105a15b85568a978199919d09f287abc5e4c30f5842bd4cb8ded806fd2a", func := "loop.example/s01854/laws.FnExactValidRun", spec := "fnExactValidRun", inPlace := ["internal/bytealg.abigen_runtime_cmpstring"], apart := false, narrowed := true }
def FnExactValidRunUptoSaid : Prop := fnExactValidRunUptoRow.holds Try.pinned (OpenSpec.upto fnExactValidRunSpec)

/-- 'laws.FnExactCheckRegex', WHERE WHAT IT READS IS OF BULK AT MOST 1048576: true; the input reads as it did. -/
def fnExactCheckRegexUptoRow : OpenClaim := { program := "ytdknjbadnbangaa", sum := "9abac105a15b85568a978199919d09f287abc5e4c30f5842bd4cb8ded806fd2a", func := "loop.example/s01854/laws.FnExactCheckRegex", spec := "fnExactCheckRegex", inPlace := ["internal/bytealg.IndexByteString"], unfollowed := true, recurses := true, apart := false, narrowed := true }
def FnExactCheckRegexUptoSaid : Prop := fnExactCheckRegexUptoRow.holds Try.pinned (OpenSpec.upto fnExactCheckRegexSpec)

/-- 'laws.FnExactPrefixOf', WHERE WHAT IT READS IS OF BULK AT MOST 1048576: true; the input reads as it did. -/
def fnExactPrefixOfUptoRow : OpenClaim := { program := "ytdknjbadnbangaa", sum := "9abac105a15b85568a978199919d09f287abc5e4c30f5842bd4cb8ded806fd2a", func := "loop.example/s01854/laws.FnExactPrefixOf", spec := "fnExactPrefixOf", inPlace := ["internal/bytealg.IndexByteString"], unfollowed := true, recurses := true, apart := false, narrowed := true }
def FnExactPrefixOfUptoSaid : Prop := fnExactPrefixOfUptoRow.holds Try.pinned (OpenSpec.upto fnExactPrefixOfSpec)

/-- 'laws.FnExactValidStore', WHERE WHAT IT READS IS OF BULK AT MOST 1048576: true; the input reads as it did. -/
def fnExactValidStoreUptoRow : OpenClaim := { program := "ytdknjbadnbangaa", sum := "9abac105a15b85568a978199919d09f287abc5e4c30f5842bd4cb8ded806fd2a", func := "loop.example/s01854/laws.FnExactValidStore", spec := "fnExactValidStore", inPlace := ["internal/bytealg.abigen_runtime_cmpstring"], apart := false, narrowed := true }
def FnExactValidStoreUptoSaid : Prop := fnExactValidStoreUptoRow.holds Try.pinned (OpenSpec.upto fnExactValidStoreSpec)

/-- 'laws.FnExactEncodeRun', WHERE WHAT IT READS IS OF BULK AT MOST 1048576: true; the input reads as it did. -/
def fnExactEncodeRunUptoRow : OpenClaim := { program := "ytdknjbadnbangaa", sum := "9abac105a15b85568a978199919d09f287abc5e4c30f5842bd4cb8ded806fd2a", func := "loop.example/s01854/laws.FnExactEncodeRun", spec := "fnExactEncodeRun", inPlace := ["internal/bytealg.abigen_runtime_cmpstring"], recurses := true, apart := false, narrowed := true }
def FnExactEncodeRunUptoSaid : Prop := fnExactEncodeRunUptoRow.holds Try.pinned (OpenSpec.upto fnExactEncodeRunSpec)

end Rows
end Go.Proofs.Ytdknjbadnbangaa
