/- FnExactValidEntry: the row of the law: its arguments opened, its walk, its statement over lists (PrFnExactValidEntry). No condition. -/
import Derived.Test.YtdknjbadnbangaaRows
import Derived.Test.YtdknjbadnbangaaOp
import Derived.Test.YtdknjbadnbangaaPrFnExactValidEntry
import Derived.Test.YtdknjbadnbangaaF5
import Derived.WalkKit
import Derived.ProofKit
import Derived.OpenShut
import Derived.ShutString
import Derived.ChangeOld
import Derived.Below
import Derived.SizedLaws
namespace Go.Proofs.Ytdknjbadnbangaa.fnExactValidEntry
open Go.ChangeShapes Go.WideShapes Go.ChangeAt Go.RowKit Go.Proofs.YtdknjbadnbangaaW.PrintWords Go.Proofs.Ytdknjbadnbangaa.RowK Go.Proofs.Ytdknjbadnbangaa.Q
open Go.ChangeMaps (open_string shut_string)
set_option linter.unusedVariables false
theorem own : ownKnob Try.prog.godebug = none := by kernel_rfl
theorem laidOut : laidOutB Try.prog = true := by kernel_rfl
set_option maxRecDepth 100000 in
theorem lifted (os : Os) (started : os.Started) (H : Type) (enc : TypeId × Value → H) :
    ReturnsInHanded {} Try.checked os 5 .any (Rows.fnExactValidEntrySpec.pre6 enc Try.prog Try.f5 Rows.fnExactValidEntryRow.domain false) (Rows.fnExactValidEntrySpec.post enc Try.prog Try.f5 false true false false) := by
  refine returnsInHanded_of_change_sized (C := Try.checked) own started (by kernel_rfl) Try.func5
    (ChangeSpec.witness6 (enc := enc) (C := Try.checked) false ⟨#[], #[.agg #[.string ByteArray.empty, .string ByteArray.empty, .string ByteArray.empty, .int .u64 0, .int .i64 0, .string ByteArray.empty]], []⟩ 8 (by kernel_rfl) (by kernel_rfl) (by kernel_rfl) (by kernel_rfl)) ?_
  intro W base args ds gs before hval0 hW hcnd hsz0 _
  have hval : ∀ (j : Nat) t v, Try.f5.params[j]? = some t → args[j]? = some v → Value.okWide Try.prog W .any base t v := hval0
  have hW' := hW
  obtain ⟨p, q, hA0, hV, rfl, hfz, hnd⟩ := hW
  have hA : DataW.TrodAll enc Try.prog W 0 (fun _ => true) true Try.f5.params.toList args.toList ds p := hA0
  rw [Try.params5] at hA hval
  obtain ⟨v0, vs0, d0, ds0, p0, q0, hargs, rfl, rfl, h0, r0⟩ := trodAll_cons hA
  obtain ⟨rfl, rfl, rfl⟩ := trodAll_nil r0
  obtain rfl : args = #[v0] := by cases args; simp_all
  obtain ⟨rfl, rfl⟩ := trodVars_none hV
  obtain ⟨cs0, rfl, _⟩ := okWide_struct Try.underlying32 (hval 0 32 v0 rfl rfl)
  have k0 := h0
  have lt0 : ∀ x ∈ p0, x.block < W.heap.size := by obtain ⟨m, hm⟩ := k0; exact DataW.trod_lt m _ _ _ hm
  obtain ⟨x0_, hK0, ok0_⟩ := Opens.arg (d := (Kd.pair Kd.string (Kd.pair Kd.string (Kd.pair Kd.string (Kd.pair (Kd.int .u64) (Kd.pair (Kd.int .i64) Kd.string)))))) (opens_imp (opens_struct Try.underlying32 (by kernel_rfl) (opensF_cons rfl (by kernel_rfl) (opens_string Try.underlying9) (opensF_cons rfl (by kernel_rfl) (opens_string Try.underlying9) (opensF_cons rfl (by kernel_rfl) (opens_string Try.underlying9) (opensF_cons rfl (by kernel_rfl) (opens_int Try.underlying30) (opensF_cons rfl (by kernel_rfl) (opens_int Try.underlying2) (opensF_last rfl (by kernel_rfl) (opens_string Try.underlying9)))))))) (fun _ h => h)) h0
  obtain ⟨e0_0_0, f0_0_0, hE0_0_0, hA0_0_0, hB0_0_0⟩ := hK0
  have hs0_0 : e0_0_0 = [.string x0_.1] := hA0_0_0
  obtain ⟨e0_1_2, f0_1_2, hE0_1_2, hA0_1_2, hB0_1_2⟩ := hB0_0_0
  have hs0_1 : e0_1_2 = [.string x0_.2.1] := hA0_1_2
  obtain ⟨e0_2_4, f0_2_4, hE0_2_4, hA0_2_4, hB0_2_4⟩ := hB0_1_2
  have hs0_2 : e0_2_4 = [.string x0_.2.2.1] := hA0_2_4
  obtain ⟨e0_3_6, f0_3_6, hE0_3_6, hA0_3_6, hB0_3_6⟩ := hB0_2_4
  have hs0_3 : e0_3_6 = [.int .u64 x0_.2.2.2.1] := hA0_3_6
  obtain ⟨e0_4_8, f0_4_8, hE0_4_8, hA0_4_8, hB0_4_8⟩ := hB0_3_6
  have hs0_4 : e0_4_8 = [.int .i64 x0_.2.2.2.2.1] := hA0_4_8
  have hs0_5 : f0_4_8 = [.string x0_.2.2.2.2.2] := hB0_4_8
  have hv0 : Value.agg cs0 = .agg #[.string x0_.1, .string x0_.2.1, .string x0_.2.2.1, .int .u64 x0_.2.2.2.1, .int .i64 x0_.2.2.2.2.1, .string x0_.2.2.2.2.2] := agg_cells (l := [.string x0_.1, .string x0_.2.1, .string x0_.2.2.1, .int .u64 x0_.2.2.2.1, .int .i64 x0_.2.2.2.2.1, .string x0_.2.2.2.2.2]) (by simp only [hE0_0_0, hs0_0, hE0_1_2, hs0_1, hE0_2_4, hs0_2, hE0_3_6, hs0_3, hE0_4_8, hs0_4, hs0_5]; rfl)
  have hp_ := Pr.FnExactValidEntry x0_.1 x0_.2.1 x0_.2.2.1 x0_.2.2.2.1 x0_.2.2.2.2.1 x0_.2.2.2.2.2 ok0_.1 ok0_.2.1 ok0_.2.2.1 ok0_.2.2.2.1 ok0_.2.2.2.2.1 ok0_.2.2.2.2.2
  clear hA0 hval0 hsz0
  have hc_ := Q.laws_FnExactValidEntry.calls x0_.1 x0_.2.1 x0_.2.2.1 x0_.2.2.2.1 x0_.2.2.2.2.1 x0_.2.2.2.2.2 true W  hp_
  rw [← hv0] at hc_
  refine hc_.mono fun e W' ⟨he, bel0⟩ => ?_
  subst he
  have bel : Below W.heap.size W W' := bel0
  exact ⟨_, rfl, _, _, _, [], _, [], hW', trodAll_mk1 (shut_bool Try.underlying4 _), (trodAll_cons_mk (Below.trod laidOut (by kernel_rfl) (of_decide_eq_true (by kernel_rfl)) k0 bel lt0) trodAll_mk0), rfl, bel.frame _, fun h => by cases h⟩
theorem over : Rows.fnExactValidEntryRow.holds Try.pinned (OpenSpec.ofChange Rows.fnExactValidEntrySpec) :=
  OpenClaim.holds_of_wide 5 Try.f5 rfl rfl rfl rfl rfl rfl rfl ⟨rfl, rfl, rfl, rfl, rfl⟩ rfl rfl rfl rfl rfl (by kernel_rfl) Try.func5 (by kernel_rfl)
    (of_decide_eq_true (by kernel_rfl)) (by unfold Func.isWrapper; first | (rw [if_pos (by decide +kernel)]; kernel_rfl) | (rw [if_neg (by decide +kernel)]; exact ⟨rfl, rfl⟩))
    (fun os started H enc _ => lifted os started H enc)
end Go.Proofs.Ytdknjbadnbangaa.fnExactValidEntry
namespace Go.Proofs.Ytdknjbadnbangaa
theorem fnExactValidEntry_holds : Rows.FnExactValidEntrySaid := fnExactValidEntry.over
#print axioms fnExactValidEntry_holds
end Go.Proofs.Ytdknjbadnbangaa
