/-
  No cell of these rows narrows 'for every input' (looked for: loops, veiled, ifaces, maps, wideKeys, modest, calm, conditions, laid).
  DERIVED. THE GIVEN ROWS OF THIS SEAT. 2 by the template 'for every input the law returns true; each argument reads behind the call as it read before'; 0 by the template 'total and deterministic' (their statements: YtcdpmmpdfdillaaTotals.lean).
  GIVEN WITH THE SEED: the statements are not yours to turn. If you find one false, say at which input.
  Laid BY PROGRAM, IN A SANDBOX (cutbox-rows.mjs): the forced cells as the released guide's own fill.sh prints them over the translation 91a390d50d601f00… (all of the seat's roots in one cut). By AI agents, Wed Nov 11 2026. No macro, syntax, notation, axiom, sorry.
-/
import Derived.Test.YtcdpmmpdfdillaaChecked
import GoSem.Claim
import GoSem.ClaimJoined
import GoSem.ClaimMapViews
import Derived.JoinedTies
import Derived.KernelRfl
namespace Go.Proofs.Ytcdpmmpdfdillaa
/- THE CELL 'sum', in the pinned program and in every row, IS THE sha256 OF THE DUMP (.gsa) THAT YtcdpmmpdfdillaaProg.lean LOADS. Nothing in Lean hashes anything: it is a label: what it is worth is what the hold of that sum in a sandbox is worth. -/
noncomputable def Try.pinned : Pinned := { name := "ytcdpmmpdfdillaa", sum := "91a390d50d601f0065fb093505758f1c314f44882421d602cd0c01636e2d17fc", checked := Try.checked }
namespace Rows
def none {H : Type} : Left H := { results := [], args := [] }

/-- 'laws.FnExactMatchRegex': WHATEVER THE INPUT: true; the input reads as it did. -/
def fnExactMatchRegexSpec : ChangeSpec := { name := "fnExactMatchRegex", fn := fun _ => fun
  | [d1, d2] => { results := [.lit (.bool true)], args := [d1, d2] }
  | _ => none }
def fnExactMatchRegexRow : OpenClaim := { program := "ytcdpmmpdfdillaa", sum := "91a390d50d601f0065fb093505758f1c314f44882421d602cd0c01636e2d17fc", func := "loop.example/s01854/laws.FnExactMatchRegex", spec := "fnExactMatchRegex", inPlace := ["internal/bytealg.IndexByteString"], unfollowed := true, recurses := true, apart := false }
def FnExactMatchRegexSaid : Prop := fnExactMatchRegexRow.holds Try.pinned (OpenSpec.ofChange fnExactMatchRegexSpec)

/-- ITS FALSE NEIGHBOUR: 'it returns false'. Refute it at one input. -/
def fnExactMatchRegexWrong : ChangeSpec := { name := "fnExactMatchRegex", fn := fun _ => fun
  | [d1, d2] => { results := [.lit (.bool false)], args := [d1, d2] }
  | _ => none }
def FnExactMatchRegexWrongFalsely : Prop := fnExactMatchRegexRow.holds Try.pinned (OpenSpec.ofChange fnExactMatchRegexWrong)

/-- 'laws.FnRegex': WHATEVER THE INPUT: true; the input reads as it did. -/
def fnRegexSpec : ChangeSpec := { name := "fnRegex", fn := fun _ => fun
  | [d] => { results := [.lit (.bool true)], args := [d] }
  | _ => none }
def fnRegexRow : OpenClaim := { program := "ytcdpmmpdfdillaa", sum := "91a390d50d601f0065fb093505758f1c314f44882421d602cd0c01636e2d17fc", func := "loop.example/s01854/laws.FnRegex", spec := "fnRegex", inPlace := ["internal/bytealg.IndexByteString"], unfollowed := true, recurses := true, apart := false }
def FnRegexSaid : Prop := fnRegexRow.holds Try.pinned (OpenSpec.ofChange fnRegexSpec)

/-- ITS FALSE NEIGHBOUR: 'it returns false'. Refute it at one input. -/
def fnRegexWrong : ChangeSpec := { name := "fnRegex", fn := fun _ => fun
  | [d] => { results := [.lit (.bool false)], args := [d] }
  | _ => none }
def FnRegexWrongFalsely : Prop := fnRegexRow.holds Try.pinned (OpenSpec.ofChange fnRegexWrong)

/- THE SECOND FORM. 'bulk': how many values and letters a reading holds, each counted each time it is reached (what is shared counts as often as it is met; a slice's spare places count too). A statement '..UptoSaid' is the law's where the arguments, and the package variables that the reading takes, are together of bulk at most 1048576: NARROWER than '..Said'. Prove '..Said' where nothing that the law and all that it calls make is longer than what came in: it says more and counts as full. Else prove '..UptoSaid'. A law counts once. -/
mutual
def uptoBulk {H : Type} : DataW H → Nat
  | .lit (.string bytes) => bytes.length + 1
  | .lit _ => 1
  | .nil => 1
  | .ptr d => uptoBulk d + 1
  | .slice elems spare => uptoBulkAll elems + uptoBulkAll spare + 1
  | .agg parts => uptoBulkAll parts + 1
  | .iface _ d => uptoBulk d + 1
  | .map entries => uptoBulkEntries entries + 1
  | .held _ => 1
def uptoBulkAll {H : Type} : List (DataW H) → Nat
  | [] => 0
  | d :: r => uptoBulk d + uptoBulkAll r
def uptoBulkEntries {H : Type} : List (Lit × DataW H) → Nat
  | [] => 0
  | x :: r => uptoBulkEntry x + uptoBulkEntries r
def uptoBulkEntry {H : Type} : Lit × DataW H → Nat
  | (.string bytes, d) => bytes.length + uptoBulk d + 1
  | (_, d) => uptoBulk d + 1
 end
def uptoSmall : (H : Type) → List (DataW H) → Bool := fun _ ds => decide (uptoBulkAll ds ≤ 1048576)
def OpenSpec.upto (s : _root_.Go.ChangeSpec) : _root_.Go.OpenSpec := { _root_.Go.OpenSpec.ofChange s with cond := some uptoSmall }

/-- 'laws.FnExactMatchRegex', WHERE WHAT IT READS IS OF BULK AT MOST 1048576: true; the input reads as it did. -/
def fnExactMatchRegexUptoRow : OpenClaim := { program := "ytcdpmmpdfdillaa", sum := "91a390d50d601f0065fb093505758f1c314f44882421d602cd0c01636e2d17fc", func := "loop.example/s01854/laws.FnExactMatchRegex", spec := "fnExactMatchRegex", inPlace := ["internal/bytealg.IndexByteString"], unfollowed := true, recurses := true, apart := false, narrowed := true }
def FnExactMatchRegexUptoSaid : Prop := fnExactMatchRegexUptoRow.holds Try.pinned (OpenSpec.upto fnExactMatchRegexSpec)

/-- 'laws.FnRegex', WHERE WHAT IT READS IS OF BULK AT MOST 1048576: true; the input reads as it did. -/
def fnRegexUptoRow : OpenClaim := { program := "ytcdpmmpdfdillaa", sum := "91a390d50d601f0065fb093505758f1c314f44882421d602cd0c01636e2d17fc", func := "loop.example/s01854/laws.FnRegex", spec := "fnRegex", inPlace := ["internal/bytealg.IndexByteString"], unfollowed := true, recurses := true, apart := false, narrowed := true }
def FnRegexUptoSaid : Prop := fnRegexUptoRow.holds Try.pinned (OpenSpec.upto fnRegexSpec)

end Rows
end Go.Proofs.Ytcdpmmpdfdillaa
