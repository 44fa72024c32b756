/- FnExactNormal: the row of the law: its arguments opened, its walk, its statement over lists (PrFnExactNormal). No condition. -/
import Derived.Test.YtpfehkkfakofaaaCFnExactNormal6
import Derived.Test.YtpfehkkfakofaaaRows
import Derived.WalkKit
import Derived.ProofKit
import Derived.OpenShut
import Derived.ShutString
import Derived.ChangeOld
import Derived.Below
import Derived.SizedLaws

namespace Go.Proofs.Ytpfehkkfakofaaa.fnExactNormal
open Go.ChangeShapes Go.WideShapes Go.ChangeAt Go.RowKit Go.Proofs.YtpfehkkfakofaaaW.PrintWords Go.Proofs.Ytpfehkkfakofaaa.RowK Go.Proofs.Ytpfehkkfakofaaa.Q
open Go.ChangeMaps (open_string shut_string)
set_option linter.unusedVariables false
theorem own : ownKnob Try.prog.godebug = none := by kernel_rfl
theorem laidOut : laidOutB Try.prog = true := by kernel_rfl
set_option maxRecDepth 100000 in
theorem lifted (os : Os) (started : os.Started) (H : Type) (enc : TypeId × Value → H) :
    ReturnsInHanded {} Try.checked os 3 .any (Rows.fnExactNormalSpec.pre6 enc Try.prog Try.f3 Rows.fnExactNormalRow.domain false) (Rows.fnExactNormalSpec.post enc Try.prog Try.f3 false true false false) := by
  refine returnsInHanded_of_change_sized (C := Try.checked) own started (by kernel_rfl) Try.func3
    (ChangeSpec.witness6 (enc := enc) (C := Try.checked) false ⟨#[], #[.agg #[.slice none 0 0]], []⟩ 8 (by kernel_rfl) (by kernel_rfl) (by kernel_rfl) (by kernel_rfl)) ?_
  intro W base args ds gs before hval0 hW hcnd hsz0 _
  have hval : ∀ (j : Nat) t v, Try.f3.params[j]? = some t → args[j]? = some v → Value.okWide Try.prog W .any base t v := hval0
  have hW' := hW
  obtain ⟨p, q, hA0, hV, rfl, hfz, hnd⟩ := hW
  have hA : DataW.TrodAll enc Try.prog W 0 (fun _ => true) true Try.f3.params.toList args.toList ds p := hA0
  rw [Try.params3] at hA hval
  obtain ⟨v0, vs0, d0, ds0, p0, q0, hargs, rfl, rfl, h0, r0⟩ := trodAll_cons hA
  obtain ⟨rfl, rfl, rfl⟩ := trodAll_nil r0
  obtain rfl : args = #[v0] := by cases args; simp_all
  obtain ⟨rfl, rfl⟩ := trodVars_none hV
  obtain ⟨cs0, rfl, _⟩ := okWide_struct Try.underlying24 (hval 0 24 v0 rfl rfl)
  have k0 := h0
  have lt0 : ∀ x ∈ p0, x.block < W.heap.size := by obtain ⟨m, hm⟩ := k0; exact DataW.trod_lt m _ _ _ hm
  obtain ⟨x0_, hK0, ok0_⟩ := Opens.arg (d := (Kd.slice 72 k72)) (opens_imp (opens_struct Try.underlying24 (by kernel_rfl) (opensF_last rfl (by kernel_rfl) (opens_slice Try.underlying22 (by kernel_rfl) opens72))) (fun _ h => h)) h0
  obtain ⟨A0_0, c0_0, hs0_0, hc0_0, hr0_0⟩ := hK0
  have hv0 : Value.agg cs0 = .agg #[.slice A0_0 (x0_).length c0_0] := agg_cells (l := [.slice A0_0 (x0_).length c0_0]) (by simp only [hs0_0] <;> rfl)
  obtain ⟨k_, hp_⟩ := Pr.FnExactNormal x0_ ok0_
  clear hA0 hval0 hsz0
  have hc_ := Q.laws_FnExactNormal.calls k_ _ _ x0_ true W hr0_0 hc0_0 hp_
  rw [← hv0] at hc_
  refine hc_.mono fun e W' ⟨he, bel0⟩ => ?_
  subst he
  have bel : Below W.heap.size W W' := bel0
  exact ⟨_, rfl, _, _, _, [], _, [], hW', trodAll_mk1 (shut_bool Try.underlying4 _), (trodAll_cons_mk (Below.trod laidOut (by kernel_rfl) (of_decide_eq_true (by kernel_rfl)) k0 bel lt0) trodAll_mk0), rfl, bel.frame _, fun h => by cases h⟩
theorem over : Rows.fnExactNormalRow.holds Try.pinned (OpenSpec.ofChange Rows.fnExactNormalSpec) :=
  OpenClaim.holds_of_wide 3 Try.f3 rfl rfl rfl rfl rfl rfl rfl ⟨rfl, rfl, rfl, rfl, rfl⟩ rfl rfl rfl rfl rfl (by kernel_rfl) Try.func3 (by kernel_rfl)
    (of_decide_eq_true (by kernel_rfl)) (by unfold Func.isWrapper; first | (rw [if_pos (by decide +kernel)]; kernel_rfl) | (rw [if_neg (by decide +kernel)]; exact ⟨rfl, rfl⟩))
    (fun os started H enc _ => lifted os started H enc)
end Go.Proofs.Ytpfehkkfakofaaa.fnExactNormal
namespace Go.Proofs.Ytpfehkkfakofaaa
theorem fnExactNormal_holds : Rows.FnExactNormalSaid := fnExactNormal.over
#print axioms fnExactNormal_holds
end Go.Proofs.Ytpfehkkfakofaaa
