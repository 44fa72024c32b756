/- FnExactCompareKeys: the row of the law: its arguments opened, its walk, its statement over lists (PrFnExactCompareKeys). No condition. -/
import Derived.Test.YtdknjbadnbangaaRows
import Derived.Test.YtdknjbadnbangaaOp
import Derived.Test.YtdknjbadnbangaaPrFnExactCompareKeys
import Derived.Test.YtdknjbadnbangaaF7
import Derived.WalkKit
import Derived.ProofKit
import Derived.OpenShut
import Derived.ShutString
import Derived.ChangeOld
import Derived.Below
import Derived.SizedLaws
namespace Go.Proofs.Ytdknjbadnbangaa.fnExactCompareKeys
open Go.ChangeShapes Go.WideShapes Go.ChangeAt Go.RowKit Go.Proofs.YtdknjbadnbangaaW.PrintWords Go.Proofs.Ytdknjbadnbangaa.RowK Go.Proofs.Ytdknjbadnbangaa.Q
open Go.ChangeMaps (open_string shut_string)
set_option linter.unusedVariables false
theorem own : ownKnob Try.prog.godebug = none := by kernel_rfl
theorem laidOut : laidOutB Try.prog = true := by kernel_rfl
set_option maxRecDepth 100000 in
theorem lifted (os : Os) (started : os.Started) (H : Type) (enc : TypeId × Value → H) :
    ReturnsInHanded {} Try.checked os 7 .any (Rows.fnExactCompareKeysSpec.pre6 enc Try.prog Try.f7 Rows.fnExactCompareKeysRow.domain false) (Rows.fnExactCompareKeysSpec.post enc Try.prog Try.f7 false true false false) := by
  refine returnsInHanded_of_change_sized (C := Try.checked) own started (by kernel_rfl) Try.func7
    (ChangeSpec.witness6 (enc := enc) (C := Try.checked) false ⟨#[], #[.agg #[.string ByteArray.empty, .string ByteArray.empty, .string ByteArray.empty, .int .u64 0, .int .i64 0, .string ByteArray.empty], .agg #[.string ByteArray.empty, .string ByteArray.empty, .string ByteArray.empty, .int .u64 0, .int .i64 0, .string ByteArray.empty]], []⟩ 8 (by kernel_rfl) (by kernel_rfl) (by kernel_rfl) (by kernel_rfl)) ?_
  intro W base args ds gs before hval0 hW hcnd hsz0 _
  have hval : ∀ (j : Nat) t v, Try.f7.params[j]? = some t → args[j]? = some v → Value.okWide Try.prog W .any base t v := hval0
  have hW' := hW
  obtain ⟨p, q, hA0, hV, rfl, hfz, hnd⟩ := hW
  have hA : DataW.TrodAll enc Try.prog W 0 (fun _ => true) true Try.f7.params.toList args.toList ds p := hA0
  rw [Try.params7] at hA hval
  obtain ⟨v0, vs0, d0, ds0, p0, q0, hargs, rfl, rfl, h0, r0⟩ := trodAll_cons hA
  obtain ⟨v1, vs1, d1, ds1, p1, q1, rfl, rfl, rfl, h1, r1⟩ := trodAll_cons r0
  obtain ⟨rfl, rfl, rfl⟩ := trodAll_nil r1
  obtain rfl : args = #[v0, v1] := by cases args; simp_all
  obtain ⟨rfl, rfl⟩ := trodVars_none hV
  obtain ⟨cs0, rfl, _⟩ := okWide_struct Try.underlying32 (hval 0 32 v0 rfl rfl)
  have k0 := h0
  have lt0 : ∀ x ∈ p0, x.block < W.heap.size := by obtain ⟨m, hm⟩ := k0; exact DataW.trod_lt m _ _ _ hm
  obtain ⟨x0_, hK0, ok0_⟩ := Opens.arg (d := (Kd.pair Kd.string (Kd.pair Kd.string (Kd.pair Kd.string (Kd.pair (Kd.int .u64) (Kd.pair (Kd.int .i64) Kd.string)))))) (opens_imp (opens_struct Try.underlying32 (by kernel_rfl) (opensF_cons rfl (by kernel_rfl) (opens_string Try.underlying9) (opensF_cons rfl (by kernel_rfl) (opens_string Try.underlying9) (opensF_cons rfl (by kernel_rfl) (opens_string Try.underlying9) (opensF_cons rfl (by kernel_rfl) (opens_int Try.underlying30) (opensF_cons rfl (by kernel_rfl) (opens_int Try.underlying2) (opensF_last rfl (by kernel_rfl) (opens_string Try.underlying9)))))))) (fun _ h => h)) h0
  obtain ⟨e0_0_0, f0_0_0, hE0_0_0, hA0_0_0, hB0_0_0⟩ := hK0
  have hs0_0 : e0_0_0 = [.string x0_.1] := hA0_0_0
  obtain ⟨e0_1_2, f0_1_2, hE0_1_2, hA0_1_2, hB0_1_2⟩ := hB0_0_0
  have hs0_1 : e0_1_2 = [.string x0_.2.1] := hA0_1_2
  obtain ⟨e0_2_4, f0_2_4, hE0_2_4, hA0_2_4, hB0_2_4⟩ := hB0_1_2
  have hs0_2 : e0_2_4 = [.string x0_.2.2.1] := hA0_2_4
  obtain ⟨e0_3_6, f0_3_6, hE0_3_6, hA0_3_6, hB0_3_6⟩ := hB0_2_4
  have hs0_3 : e0_3_6 = [.int .u64 x0_.2.2.2.1] := hA0_3_6
  obtain ⟨e0_4_8, f0_4_8, hE0_4_8, hA0_4_8, hB0_4_8⟩ := hB0_3_6
  have hs0_4 : e0_4_8 = [.int .i64 x0_.2.2.2.2.1] := hA0_4_8
  have hs0_5 : f0_4_8 = [.string x0_.2.2.2.2.2] := hB0_4_8
  have hv0 : Value.agg cs0 = .agg #[.string x0_.1, .string x0_.2.1, .string x0_.2.2.1, .int .u64 x0_.2.2.2.1, .int .i64 x0_.2.2.2.2.1, .string x0_.2.2.2.2.2] := agg_cells (l := [.string x0_.1, .string x0_.2.1, .string x0_.2.2.1, .int .u64 x0_.2.2.2.1, .int .i64 x0_.2.2.2.2.1, .string x0_.2.2.2.2.2]) (by simp only [hE0_0_0, hs0_0, hE0_1_2, hs0_1, hE0_2_4, hs0_2, hE0_3_6, hs0_3, hE0_4_8, hs0_4, hs0_5]; rfl)
  obtain ⟨cs1, rfl, _⟩ := okWide_struct Try.underlying32 (hval 1 32 v1 rfl rfl)
  have k1 := h1
  have lt1 : ∀ x ∈ p1, x.block < W.heap.size := by obtain ⟨m, hm⟩ := k1; exact DataW.trod_lt m _ _ _ hm
  obtain ⟨x1_, hK1, ok1_⟩ := Opens.arg (d := (Kd.pair Kd.string (Kd.pair Kd.string (Kd.pair Kd.string (Kd.pair (Kd.int .u64) (Kd.pair (Kd.int .i64) Kd.string)))))) (opens_imp (opens_struct Try.underlying32 (by kernel_rfl) (opensF_cons rfl (by kernel_rfl) (opens_string Try.underlying9) (opensF_cons rfl (by kernel_rfl) (opens_string Try.underlying9) (opensF_cons rfl (by kernel_rfl) (opens_string Try.underlying9) (opensF_cons rfl (by kernel_rfl) (opens_int Try.underlying30) (opensF_cons rfl (by kernel_rfl) (opens_int Try.underlying2) (opensF_last rfl (by kernel_rfl) (opens_string Try.underlying9)))))))) (fun _ h => h)) h1
  obtain ⟨e1_0_0, f1_0_0, hE1_0_0, hA1_0_0, hB1_0_0⟩ := hK1
  have hs1_0 : e1_0_0 = [.string x1_.1] := hA1_0_0
  obtain ⟨e1_1_2, f1_1_2, hE1_1_2, hA1_1_2, hB1_1_2⟩ := hB1_0_0
  have hs1_1 : e1_1_2 = [.string x1_.2.1] := hA1_1_2
  obtain ⟨e1_2_4, f1_2_4, hE1_2_4, hA1_2_4, hB1_2_4⟩ := hB1_1_2
  have hs1_2 : e1_2_4 = [.string x1_.2.2.1] := hA1_2_4
  obtain ⟨e1_3_6, f1_3_6, hE1_3_6, hA1_3_6, hB1_3_6⟩ := hB1_2_4
  have hs1_3 : e1_3_6 = [.int .u64 x1_.2.2.2.1] := hA1_3_6
  obtain ⟨e1_4_8, f1_4_8, hE1_4_8, hA1_4_8, hB1_4_8⟩ := hB1_3_6
  have hs1_4 : e1_4_8 = [.int .i64 x1_.2.2.2.2.1] := hA1_4_8
  have hs1_5 : f1_4_8 = [.string x1_.2.2.2.2.2] := hB1_4_8
  have hv1 : Value.agg cs1 = .agg #[.string x1_.1, .string x1_.2.1, .string x1_.2.2.1, .int .u64 x1_.2.2.2.1, .int .i64 x1_.2.2.2.2.1, .string x1_.2.2.2.2.2] := agg_cells (l := [.string x1_.1, .string x1_.2.1, .string x1_.2.2.1, .int .u64 x1_.2.2.2.1, .int .i64 x1_.2.2.2.2.1, .string x1_.2.2.2.2.2]) (by simp only [hE1_0_0, hs1_0, hE1_1_2, hs1_1, hE1_2_4, hs1_2, hE1_3_6, hs1_3, hE1_4_8, hs1_4, hs1_5]; rfl)
  obtain ⟨k_, hp_⟩ := Pr.FnExactCompareKeys x0_.1 x0_.2.1 x0_.2.2.1 x0_.2.2.2.1 x0_.2.2.2.2.1 x0_.2.2.2.2.2 x1_.1 x1_.2.1 x1_.2.2.1 x1_.2.2.2.1 x1_.2.2.2.2.1 x1_.2.2.2.2.2 ok0_.1 ok0_.2.1 ok0_.2.2.1 ok0_.2.2.2.1 ok0_.2.2.2.2.1 ok0_.2.2.2.2.2 ok1_.1 ok1_.2.1 ok1_.2.2.1 ok1_.2.2.2.1 ok1_.2.2.2.2.1 ok1_.2.2.2.2.2
  clear hA0 hval0 hsz0
  have hc_ := Q.laws_FnExactCompareKeys.calls k_ x0_.1 x0_.2.1 x0_.2.2.1 x0_.2.2.2.1 x0_.2.2.2.2.1 x0_.2.2.2.2.2 x1_.1 x1_.2.1 x1_.2.2.1 x1_.2.2.2.1 x1_.2.2.2.2.1 x1_.2.2.2.2.2 true W  hp_
  rw [← hv0] at hc_
  rw [← hv1] at hc_
  refine hc_.mono fun e W' ⟨he, bel0⟩ => ?_
  subst he
  have bel : Below W.heap.size W W' := bel0
  exact ⟨_, rfl, _, _, _, [], _, [], hW', trodAll_mk1 (shut_bool Try.underlying4 _), (trodAll_cons_mk (Below.trod laidOut (by kernel_rfl) (of_decide_eq_true (by kernel_rfl)) k0 bel lt0) (trodAll_cons_mk (Below.trod laidOut (by kernel_rfl) (of_decide_eq_true (by kernel_rfl)) k1 bel lt1) trodAll_mk0)), rfl, bel.frame _, fun h => by cases h⟩
theorem over : Rows.fnExactCompareKeysRow.holds Try.pinned (OpenSpec.ofChange Rows.fnExactCompareKeysSpec) :=
  OpenClaim.holds_of_wide 7 Try.f7 rfl rfl rfl rfl rfl rfl rfl ⟨rfl, rfl, rfl, rfl, rfl⟩ rfl rfl rfl rfl rfl (by kernel_rfl) Try.func7 (by kernel_rfl)
    (of_decide_eq_true (by kernel_rfl)) (by unfold Func.isWrapper; first | (rw [if_pos (by decide +kernel)]; kernel_rfl) | (rw [if_neg (by decide +kernel)]; exact ⟨rfl, rfl⟩))
    (fun os started H enc _ => lifted os started H enc)
end Go.Proofs.Ytdknjbadnbangaa.fnExactCompareKeys
namespace Go.Proofs.Ytdknjbadnbangaa
theorem fnExactCompareKeys_holds : Rows.FnExactCompareKeysSaid := fnExactCompareKeys.over
#print axioms fnExactCompareKeys_holds
end Go.Proofs.Ytdknjbadnbangaa
