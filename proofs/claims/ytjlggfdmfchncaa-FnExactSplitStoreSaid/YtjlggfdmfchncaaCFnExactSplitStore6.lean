/- FnExactSplitStore: the row of the law: its arguments opened, its walk, its statement over lists (PrFnExactSplitStore). No condition. -/
import Derived.Test.YtjlggfdmfchncaaCFnExactSplitStore5
import Derived.Test.YtjlggfdmfchncaaRows
import Derived.WalkKit
import Derived.ProofKit
import Derived.OpenShut
import Derived.ShutString
import Derived.ChangeOld
import Derived.Below
import Derived.SizedLaws

namespace Go.Proofs.Ytjlggfdmfchncaa.Q
open Go.RowKit Go.Proofs.YtjlggfdmfchncaaW.PrintWords Go.Proofs.YtjlggfdmfchncaaW.PrintLast Go.Proofs.YtjlggfdmfchncaaW.PrintMore
set_option linter.unusedVariables false
set_option linter.unusedSimpArgs false

/-! ### laws_markEntryS: function 58 -/
def laws_markEntryS.l0 : Nat → List (S65) → Int → Int → Option (Int × (List (S65)))
 | 0, _, _, _ => none
 | k + 1, x0, x1, x5 => if x5 < (x0.length : Int) then ((laws_markText.f k x1).bind fun t355 => (if 0 ≤ x5 then ((some (x0.set (x5 : Int).toNat (⟨t355, (rd_T65 x0 x5).f1, (rd_T65 x0 x5).f2, (rd_T65 x0 x5).f3, (rd_T65 x0 x5).f4, (rd_T65 x0 x5).f5⟩ : S65) : List (S65))).bind fun y356 => ((laws_markText.f k (wrap64 (x1 + 1))).bind fun t357 => ((some (y356.set (x5 : Int).toNat (⟨(rd_T65 y356 x5).f0, t357, (rd_T65 y356 x5).f2, (rd_T65 y356 x5).f3, (rd_T65 y356 x5).f4, (rd_T65 y356 x5).f5⟩ : S65) : List (S65))).bind fun y358 => ((laws_markText.f k (wrap64 ((wrap64 (x1 + 1)) + 1))).bind fun t359 => ((some (y358.set (x5 : Int).toNat (⟨(rd_T65 y358 x5).f0, (rd_T65 y358 x5).f1, t359, (rd_T65 y358 x5).f3, (rd_T65 y358 x5).f4, (rd_T65 y358 x5).f5⟩ : S65) : List (S65))).bind fun y360 => ((some (y360.set (x5 : Int).toNat (⟨(rd_T65 y360 x5).f0, (rd_T65 y360 x5).f1, (rd_T65 y360 x5).f2, IntKind.u64.wrap (wrap64 ((wrap64 ((wrap64 (x1 + 1)) + 1)) + 1)), (rd_T65 y360 x5).f4, (rd_T65 y360 x5).f5⟩ : S65) : List (S65))).bind fun y361 => ((some (y361.set (x5 : Int).toNat (⟨(rd_T65 y361 x5).f0, (rd_T65 y361 x5).f1, (rd_T65 y361 x5).f2, (rd_T65 y361 x5).f3, wrap64 ((wrap64 ((wrap64 ((wrap64 (x1 + 1)) + 1)) + 1)) + 1), (rd_T65 y361 x5).f5⟩ : S65) : List (S65))).bind fun y362 => ((laws_markText.f k (wrap64 ((wrap64 ((wrap64 ((wrap64 ((wrap64 (x1 + 1)) + 1)) + 1)) + 1)) + 1))).bind fun t363 => (laws_markEntryS.l0 k (y362.set (x5 : Int).toNat (⟨(rd_T65 y362 x5).f0, (rd_T65 y362 x5).f1, (rd_T65 y362 x5).f2, (rd_T65 y362 x5).f3, (rd_T65 y362 x5).f4, t363⟩ : S65)) (wrap64 ((wrap64 ((wrap64 ((wrap64 ((wrap64 ((wrap64 (x1 + 1)) + 1)) + 1)) + 1)) + 1)) + 1)) (wrap64 (x5 + 1))))))))))) else (none))) else (some (x1, x0))
def laws_markEntryS.f (k : Nat) (l0 : List (S65)) (a1 : Int) : Option (Int × (List (S65))) := laws_markEntryS.l0 k l0 a1 0
set_option maxHeartbeats 8000000 in
set_option maxRecDepth 100000 in
theorem laws_markEntryS.calls (k : Nat) (P0_ : Nat → Prop) (u9000_ : Value) (l0 : List (S65)) (a1 : Int) (r1 : Int) (r2 : List (S65)) (w0 w : World) (hB : Below w0.heap.size w0 w) (ho0 : Kd.R k65 65 w w0.heap.size P0_ u9000_ l0) (h : laws_markEntryS.f k l0 a1 = some (r1, r2)) :
  Calls Try.prog 58 #[u9000_, .int .i64 a1] w fun e w' => e = .returned (.int .i64 r1) ∧ Kd.R k65 65 w' w0.heap.size (fun k_ => (P0_ k_ ∨ w.heap.size ≤ k_)) u9000_ r2 ∧ Below w0.heap.size w0 w' ∧ Kept w w' (fun k_ => P0_ k_) := by
 have HO0 := Aside0.mk (show Kd.R k65 65 w w0.heap.size (fun k_ => (P0_ k_ ∨ w.heap.size ≤ k_)) u9000_ l0 from Kd.R_mono ho0 (fun k_ hk => (.inl hk)))
 have HK := Aside0.mk (Kept.refl w (fun k_ => P0_ k_))
 have HW0 := Aside0.mk hB.size
 have HB := Aside0.mk hB
 clear hB
 have H : (laws_markEntryS.l0 k l0 a1 0) = some (r1, r2) := h
 clear h
 have H' := Aside0.mk H
 clear H
 go_enter Try.func58, Try.ntmps58
 go_wp2
 go_loopg [1, 5] k (fun kq v1 v5 w' => ∃ (x0_1 : List (S65)) (x1_1 : Int) (x5_1 : Int), v1 = .int .i64 x1_1 ∧ v5 = .int .i64 x5_1 ∧ Aside0 (laws_markEntryS.l0 kq x0_1 x1_1 x5_1 = some (r1, r2)) ∧ Aside0 (kq ≤ k) ∧ Aside0 (Kd.R k65 65 w' w0.heap.size (fun k_ => (P0_ k_ ∨ w.heap.size ≤ k_)) u9000_ x0_1) ∧ Aside0 (Kept w w' (fun k_ => P0_ k_)) ∧ Aside0 (Below w0.heap.size w0 w'))
 case atStart => exact ⟨(l0), (a1), (0), (by first | rfl | (simp; done) | (simp [*]; done)), (by first | rfl | (simp; done) | (simp [*]; done)), H', ⟨Nat.le_refl _⟩, ⟨lf HO0⟩, ⟨by repeat (first | (with_reducible first | exact HK.out | apply Kept.alloc | apply Kept.drewN | apply Kept.drew) | exact HK.out)⟩, ⟨bw⟩⟩
 case round =>
  clear H'
  try clear p2
  obtain ⟨x0_1, x1_1, x5_1, rfl, rfl, HA, HK1, HO_0, HK, HB⟩ := hrel
  cases gk with
  | zero => exact absurd HA.out (by simp [laws_markEntryS.l0])
  | succ k1 =>
   have H := HA.out
   clear HA
   simp only [laws_markEntryS.l0] at H
   by_cases c3 : x5_1 < (x0_1.length : Int)
   ·rw [if_pos c3] at H
    have c3b0 : decide (x5_1 < (x0_1.length : Int)) = true := decide_eq_true c3
    clear c3
    replace H := Option.bind_eq_some_iff.mp H
    obtain ⟨t355, A40, H⟩ := H
    replace H : (if 0 ≤ x5_1 then ((some (x0_1.set (x5_1 : Int).toNat (⟨t355, (rd_T65 x0_1 x5_1).f1, (rd_T65 x0_1 x5_1).f2, (rd_T65 x0_1 x5_1).f3, (rd_T65 x0_1 x5_1).f4, (rd_T65 x0_1 x5_1).f5⟩ : S65) : List (S65))).bind fun y356 => ((laws_markText.f k1 (wrap64 (x1_1 + 1))).bind fun t357 => ((some (y356.set (x5_1 : Int).toNat (⟨(rd_T65 y356 x5_1).f0, t357, (rd_T65 y356 x5_1).f2, (rd_T65 y356 x5_1).f3, (rd_T65 y356 x5_1).f4, (rd_T65 y356 x5_1).f5⟩ : S65) : List (S65))).bind fun y358 => ((laws_markText.f k1 (wrap64 ((wrap64 (x1_1 + 1)) + 1))).bind fun t359 => ((some (y358.set (x5_1 : Int).toNat (⟨(rd_T65 y358 x5_1).f0, (rd_T65 y358 x5_1).f1, t359, (rd_T65 y358 x5_1).f3, (rd_T65 y358 x5_1).f4, (rd_T65 y358 x5_1).f5⟩ : S65) : List (S65))).bind fun y360 => ((some (y360.set (x5_1 : Int).toNat (⟨(rd_T65 y360 x5_1).f0, (rd_T65 y360 x5_1).f1, (rd_T65 y360 x5_1).f2, IntKind.u64.wrap (wrap64 ((wrap64 ((wrap64 (x1_1 + 1)) + 1)) + 1)), (rd_T65 y360 x5_1).f4, (rd_T65 y360 x5_1).f5⟩ : S65) : List (S65))).bind fun y361 => ((some (y361.set (x5_1 : Int).toNat (⟨(rd_T65 y361 x5_1).f0, (rd_T65 y361 x5_1).f1, (rd_T65 y361 x5_1).f2, (rd_T65 y361 x5_1).f3, wrap64 ((wrap64 ((wrap64 ((wrap64 (x1_1 + 1)) + 1)) + 1)) + 1), (rd_T65 y361 x5_1).f5⟩ : S65) : List (S65))).bind fun y362 => ((laws_markText.f k1 (wrap64 ((wrap64 ((wrap64 ((wrap64 ((wrap64 (x1_1 + 1)) + 1)) + 1)) + 1)) + 1))).bind fun t363 => (laws_markEntryS.l0 k1 (y362.set (x5_1 : Int).toNat (⟨(rd_T65 y362 x5_1).f0, (rd_T65 y362 x5_1).f1, (rd_T65 y362 x5_1).f2, (rd_T65 y362 x5_1).f3, (rd_T65 y362 x5_1).f4, t363⟩ : S65)) (wrap64 ((wrap64 ((wrap64 ((wrap64 ((wrap64 ((wrap64 (x1_1 + 1)) + 1)) + 1)) + 1)) + 1)) + 1)) (wrap64 (x5_1 + 1))))))))))) else (none)) = some (r1, r2) := H
    have A4 := Aside0.mk A40
    clear A40
    by_cases c5 : 0 ≤ x5_1
    ·rw [if_pos c5] at H
     have c5b0 : decide (0 ≤ x5_1) = true := decide_eq_true c5
     clear c5
     obtain ⟨y356, hy356⟩ : ∃ y_ : List (S65), y_ = (x0_1.set (x5_1 : Int).toNat (⟨t355, (rd_T65 x0_1 x5_1).f1, (rd_T65 x0_1 x5_1).f2, (rd_T65 x0_1 x5_1).f3, (rd_T65 x0_1 x5_1).f4, (rd_T65 x0_1 x5_1).f5⟩ : S65)) := ⟨_, rfl⟩
     replace H : ((laws_markText.f k1 (wrap64 (x1_1 + 1))).bind fun t357 => ((some (y356.set (x5_1 : Int).toNat (⟨(rd_T65 y356 x5_1).f0, t357, (rd_T65 y356 x5_1).f2, (rd_T65 y356 x5_1).f3, (rd_T65 y356 x5_1).f4, (rd_T65 y356 x5_1).f5⟩ : S65) : List (S65))).bind fun y358 => ((laws_markText.f k1 (wrap64 ((wrap64 (x1_1 + 1)) + 1))).bind fun t359 => ((some (y358.set (x5_1 : Int).toNat (⟨(rd_T65 y358 x5_1).f0, (rd_T65 y358 x5_1).f1, t359, (rd_T65 y358 x5_1).f3, (rd_T65 y358 x5_1).f4, (rd_T65 y358 x5_1).f5⟩ : S65) : List (S65))).bind fun y360 => ((some (y360.set (x5_1 : Int).toNat (⟨(rd_T65 y360 x5_1).f0, (rd_T65 y360 x5_1).f1, (rd_T65 y360 x5_1).f2, IntKind.u64.wrap (wrap64 ((wrap64 ((wrap64 (x1_1 + 1)) + 1)) + 1)), (rd_T65 y360 x5_1).f4, (rd_T65 y360 x5_1).f5⟩ : S65) : List (S65))).bind fun y361 => ((some (y361.set (x5_1 : Int).toNat (⟨(rd_T65 y361 x5_1).f0, (rd_T65 y361 x5_1).f1, (rd_T65 y361 x5_1).f2, (rd_T65 y361 x5_1).f3, wrap64 ((wrap64 ((wrap64 ((wrap64 (x1_1 + 1)) + 1)) + 1)) + 1), (rd_T65 y361 x5_1).f5⟩ : S65) : List (S65))).bind fun y362 => ((laws_markText.f k1 (wrap64 ((wrap64 ((wrap64 ((wrap64 ((wrap64 (x1_1 + 1)) + 1)) + 1)) + 1)) + 1))).bind fun t363 => (laws_markEntryS.l0 k1 (y362.set (x5_1 : Int).toNat (⟨(rd_T65 y362 x5_1).f0, (rd_T65 y362 x5_1).f1, (rd_T65 y362 x5_1).f2, (rd_T65 y362 x5_1).f3, (rd_T65 y362 x5_1).f4, t363⟩ : S65)) (wrap64 ((wrap64 ((wrap64 ((wrap64 ((wrap64 ((wrap64 (x1_1 + 1)) + 1)) + 1)) + 1)) + 1)) + 1)) (wrap64 (x5_1 + 1)))))))))) = some (r1, r2) := by first | (rw [hy356]; with_reducible exact H) | (have H2_ := (Option.bind_some _ _).symm.trans H; rw [hy356]; with_reducible exact H2_) | (have H2_ := (Option.bind_some _ _).symm.trans H; with_reducible exact H2_) | with_reducible exact H | (rw [hy356]; exact H) | exact H
     have Ny356 := Aside0.mk hy356
     clear hy356
     replace H := Option.bind_eq_some_iff.mp H
     obtain ⟨t357, A70, H⟩ := H
     replace H : ((some (y356.set (x5_1 : Int).toNat (⟨(rd_T65 y356 x5_1).f0, t357, (rd_T65 y356 x5_1).f2, (rd_T65 y356 x5_1).f3, (rd_T65 y356 x5_1).f4, (rd_T65 y356 x5_1).f5⟩ : S65) : List (S65))).bind fun y358 => ((laws_markText.f k1 (wrap64 ((wrap64 (x1_1 + 1)) + 1))).bind fun t359 => ((some (y358.set (x5_1 : Int).toNat (⟨(rd_T65 y358 x5_1).f0, (rd_T65 y358 x5_1).f1, t359, (rd_T65 y358 x5_1).f3, (rd_T65 y358 x5_1).f4, (rd_T65 y358 x5_1).f5⟩ : S65) : List (S65))).bind fun y360 => ((some (y360.set (x5_1 : Int).toNat (⟨(rd_T65 y360 x5_1).f0, (rd_T65 y360 x5_1).f1, (rd_T65 y360 x5_1).f2, IntKind.u64.wrap (wrap64 ((wrap64 ((wrap64 (x1_1 + 1)) + 1)) + 1)), (rd_T65 y360 x5_1).f4, (rd_T65 y360 x5_1).f5⟩ : S65) : List (S65))).bind fun y361 => ((some (y361.set (x5_1 : Int).toNat (⟨(rd_T65 y361 x5_1).f0, (rd_T65 y361 x5_1).f1, (rd_T65 y361 x5_1).f2, (rd_T65 y361 x5_1).f3, wrap64 ((wrap64 ((wrap64 ((wrap64 (x1_1 + 1)) + 1)) + 1)) + 1), (rd_T65 y361 x5_1).f5⟩ : S65) : List (S65))).bind fun y362 => ((laws_markText.f k1 (wrap64 ((wrap64 ((wrap64 ((wrap64 ((wrap64 (x1_1 + 1)) + 1)) + 1)) + 1)) + 1))).bind fun t363 => (laws_markEntryS.l0 k1 (y362.set (x5_1 : Int).toNat (⟨(rd_T65 y362 x5_1).f0, (rd_T65 y362 x5_1).f1, (rd_T65 y362 x5_1).f2, (rd_T65 y362 x5_1).f3, (rd_T65 y362 x5_1).f4, t363⟩ : S65)) (wrap64 ((wrap64 ((wrap64 ((wrap64 ((wrap64 ((wrap64 (x1_1 + 1)) + 1)) + 1)) + 1)) + 1)) + 1)) (wrap64 (x5_1 + 1))))))))) = some (r1, r2) := H
     have A7 := Aside0.mk A70
     clear A70
     obtain ⟨y358, hy358⟩ : ∃ y_ : List (S65), y_ = (y356.set (x5_1 : Int).toNat (⟨(rd_T65 y356 x5_1).f0, t357, (rd_T65 y356 x5_1).f2, (rd_T65 y356 x5_1).f3, (rd_T65 y356 x5_1).f4, (rd_T65 y356 x5_1).f5⟩ : S65)) := ⟨_, rfl⟩
     replace H : ((laws_markText.f k1 (wrap64 ((wrap64 (x1_1 + 1)) + 1))).bind fun t359 => ((some (y358.set (x5_1 : Int).toNat (⟨(rd_T65 y358 x5_1).f0, (rd_T65 y358 x5_1).f1, t359, (rd_T65 y358 x5_1).f3, (rd_T65 y358 x5_1).f4, (rd_T65 y358 x5_1).f5⟩ : S65) : List (S65))).bind fun y360 => ((some (y360.set (x5_1 : Int).toNat (⟨(rd_T65 y360 x5_1).f0, (rd_T65 y360 x5_1).f1, (rd_T65 y360 x5_1).f2, IntKind.u64.wrap (wrap64 ((wrap64 ((wrap64 (x1_1 + 1)) + 1)) + 1)), (rd_T65 y360 x5_1).f4, (rd_T65 y360 x5_1).f5⟩ : S65) : List (S65))).bind fun y361 => ((some (y361.set (x5_1 : Int).toNat (⟨(rd_T65 y361 x5_1).f0, (rd_T65 y361 x5_1).f1, (rd_T65 y361 x5_1).f2, (rd_T65 y361 x5_1).f3, wrap64 ((wrap64 ((wrap64 ((wrap64 (x1_1 + 1)) + 1)) + 1)) + 1), (rd_T65 y361 x5_1).f5⟩ : S65) : List (S65))).bind fun y362 => ((laws_markText.f k1 (wrap64 ((wrap64 ((wrap64 ((wrap64 ((wrap64 (x1_1 + 1)) + 1)) + 1)) + 1)) + 1))).bind fun t363 => (laws_markEntryS.l0 k1 (y362.set (x5_1 : Int).toNat (⟨(rd_T65 y362 x5_1).f0, (rd_T65 y362 x5_1).f1, (rd_T65 y362 x5_1).f2, (rd_T65 y362 x5_1).f3, (rd_T65 y362 x5_1).f4, t363⟩ : S65)) (wrap64 ((wrap64 ((wrap64 ((wrap64 ((wrap64 ((wrap64 (x1_1 + 1)) + 1)) + 1)) + 1)) + 1)) + 1)) (wrap64 (x5_1 + 1)))))))) = some (r1, r2) := by first | (rw [hy358]; with_reducible exact H) | (have H2_ := (Option.bind_some _ _).symm.trans H; rw [hy358]; with_reducible exact H2_) | (have H2_ := (Option.bind_some _ _).symm.trans H; with_reducible exact H2_) | with_reducible exact H | (rw [hy358]; exact H) | exact H
     have Ny358 := Aside0.mk hy358
     clear hy358
     replace H := Option.bind_eq_some_iff.mp H
     obtain ⟨t359, A90, H⟩ := H
     replace H : ((some (y358.set (x5_1 : Int).toNat (⟨(rd_T65 y358 x5_1).f0, (rd_T65 y358 x5_1).f1, t359, (rd_T65 y358 x5_1).f3, (rd_T65 y358 x5_1).f4, (rd_T65 y358 x5_1).f5⟩ : S65) : List (S65))).bind fun y360 => ((some (y360.set (x5_1 : Int).toNat (⟨(rd_T65 y360 x5_1).f0, (rd_T65 y360 x5_1).f1, (rd_T65 y360 x5_1).f2, IntKind.u64.wrap (wrap64 ((wrap64 ((wrap64 (x1_1 + 1)) + 1)) + 1)), (rd_T65 y360 x5_1).f4, (rd_T65 y360 x5_1).f5⟩ : S65) : List (S65))).bind fun y361 => ((some (y361.set (x5_1 : Int).toNat (⟨(rd_T65 y361 x5_1).f0, (rd_T65 y361 x5_1).f1, (rd_T65 y361 x5_1).f2, (rd_T65 y361 x5_1).f3, wrap64 ((wrap64 ((wrap64 ((wrap64 (x1_1 + 1)) + 1)) + 1)) + 1), (rd_T65 y361 x5_1).f5⟩ : S65) : List (S65))).bind fun y362 => ((laws_markText.f k1 (wrap64 ((wrap64 ((wrap64 ((wrap64 ((wrap64 (x1_1 + 1)) + 1)) + 1)) + 1)) + 1))).bind fun t363 => (laws_markEntryS.l0 k1 (y362.set (x5_1 : Int).toNat (⟨(rd_T65 y362 x5_1).f0, (rd_T65 y362 x5_1).f1, (rd_T65 y362 x5_1).f2, (rd_T65 y362 x5_1).f3, (rd_T65 y362 x5_1).f4, t363⟩ : S65)) (wrap64 ((wrap64 ((wrap64 ((wrap64 ((wrap64 ((wrap64 (x1_1 + 1)) + 1)) + 1)) + 1)) + 1)) + 1)) (wrap64 (x5_1 + 1))))))) = some (r1, r2) := H
     have A9 := Aside0.mk A90
     clear A90
     obtain ⟨y360, hy360⟩ : ∃ y_ : List (S65), y_ = (y358.set (x5_1 : Int).toNat (⟨(rd_T65 y358 x5_1).f0, (rd_T65 y358 x5_1).f1, t359, (rd_T65 y358 x5_1).f3, (rd_T65 y358 x5_1).f4, (rd_T65 y358 x5_1).f5⟩ : S65)) := ⟨_, rfl⟩
     replace H : ((some (y360.set (x5_1 : Int).toNat (⟨(rd_T65 y360 x5_1).f0, (rd_T65 y360 x5_1).f1, (rd_T65 y360 x5_1).f2, IntKind.u64.wrap (wrap64 ((wrap64 ((wrap64 (x1_1 + 1)) + 1)) + 1)), (rd_T65 y360 x5_1).f4, (rd_T65 y360 x5_1).f5⟩ : S65) : List (S65))).bind fun y361 => ((some (y361.set (x5_1 : Int).toNat (⟨(rd_T65 y361 x5_1).f0, (rd_T65 y361 x5_1).f1, (rd_T65 y361 x5_1).f2, (rd_T65 y361 x5_1).f3, wrap64 ((wrap64 ((wrap64 ((wrap64 (x1_1 + 1)) + 1)) + 1)) + 1), (rd_T65 y361 x5_1).f5⟩ : S65) : List (S65))).bind fun y362 => ((laws_markText.f k1 (wrap64 ((wrap64 ((wrap64 ((wrap64 ((wrap64 (x1_1 + 1)) + 1)) + 1)) + 1)) + 1))).bind fun t363 => (laws_markEntryS.l0 k1 (y362.set (x5_1 : Int).toNat (⟨(rd_T65 y362 x5_1).f0, (rd_T65 y362 x5_1).f1, (rd_T65 y362 x5_1).f2, (rd_T65 y362 x5_1).f3, (rd_T65 y362 x5_1).f4, t363⟩ : S65)) (wrap64 ((wrap64 ((wrap64 ((wrap64 ((wrap64 ((wrap64 (x1_1 + 1)) + 1)) + 1)) + 1)) + 1)) + 1)) (wrap64 (x5_1 + 1)))))) = some (r1, r2) := by first | (rw [hy360]; with_reducible exact H) | (have H2_ := (Option.bind_some _ _).symm.trans H; rw [hy360]; with_reducible exact H2_) | (have H2_ := (Option.bind_some _ _).symm.trans H; with_reducible exact H2_) | with_reducible exact H | (rw [hy360]; exact H) | exact H
     have Ny360 := Aside0.mk hy360
     clear hy360
     obtain ⟨y361, hy361⟩ : ∃ y_ : List (S65), y_ = (y360.set (x5_1 : Int).toNat (⟨(rd_T65 y360 x5_1).f0, (rd_T65 y360 x5_1).f1, (rd_T65 y360 x5_1).f2, IntKind.u64.wrap (wrap64 ((wrap64 ((wrap64 (x1_1 + 1)) + 1)) + 1)), (rd_T65 y360 x5_1).f4, (rd_T65 y360 x5_1).f5⟩ : S65)) := ⟨_, rfl⟩
     replace H : ((some (y361.set (x5_1 : Int).toNat (⟨(rd_T65 y361 x5_1).f0, (rd_T65 y361 x5_1).f1, (rd_T65 y361 x5_1).f2, (rd_T65 y361 x5_1).f3, wrap64 ((wrap64 ((wrap64 ((wrap64 (x1_1 + 1)) + 1)) + 1)) + 1), (rd_T65 y361 x5_1).f5⟩ : S65) : List (S65))).bind fun y362 => ((laws_markText.f k1 (wrap64 ((wrap64 ((wrap64 ((wrap64 ((wrap64 (x1_1 + 1)) + 1)) + 1)) + 1)) + 1))).bind fun t363 => (laws_markEntryS.l0 k1 (y362.set (x5_1 : Int).toNat (⟨(rd_T65 y362 x5_1).f0, (rd_T65 y362 x5_1).f1, (rd_T65 y362 x5_1).f2, (rd_T65 y362 x5_1).f3, (rd_T65 y362 x5_1).f4, t363⟩ : S65)) (wrap64 ((wrap64 ((wrap64 ((wrap64 ((wrap64 ((wrap64 (x1_1 + 1)) + 1)) + 1)) + 1)) + 1)) + 1)) (wrap64 (x5_1 + 1))))) = some (r1, r2) := by first | (rw [hy361]; with_reducible exact H) | (have H2_ := (Option.bind_some _ _).symm.trans H; rw [hy361]; with_reducible exact H2_) | (have H2_ := (Option.bind_some _ _).symm.trans H; with_reducible exact H2_) | with_reducible exact H | (rw [hy361]; exact H) | exact H
     have Ny361 := Aside0.mk hy361
     clear hy361
     obtain ⟨y362, hy362⟩ : ∃ y_ : List (S65), y_ = (y361.set (x5_1 : Int).toNat (⟨(rd_T65 y361 x5_1).f0, (rd_T65 y361 x5_1).f1, (rd_T65 y361 x5_1).f2, (rd_T65 y361 x5_1).f3, wrap64 ((wrap64 ((wrap64 ((wrap64 (x1_1 + 1)) + 1)) + 1)) + 1), (rd_T65 y361 x5_1).f5⟩ : S65)) := ⟨_, rfl⟩
     replace H : ((laws_markText.f k1 (wrap64 ((wrap64 ((wrap64 ((wrap64 ((wrap64 (x1_1 + 1)) + 1)) + 1)) + 1)) + 1))).bind fun t363 => (laws_markEntryS.l0 k1 (y362.set (x5_1 : Int).toNat (⟨(rd_T65 y362 x5_1).f0, (rd_T65 y362 x5_1).f1, (rd_T65 y362 x5_1).f2, (rd_T65 y362 x5_1).f3, (rd_T65 y362 x5_1).f4, t363⟩ : S65)) (wrap64 ((wrap64 ((wrap64 ((wrap64 ((wrap64 ((wrap64 (x1_1 + 1)) + 1)) + 1)) + 1)) + 1)) + 1)) (wrap64 (x5_1 + 1)))) = some (r1, r2) := by first | (rw [hy362]; with_reducible exact H) | (have H2_ := (Option.bind_some _ _).symm.trans H; rw [hy362]; with_reducible exact H2_) | (have H2_ := (Option.bind_some _ _).symm.trans H; with_reducible exact H2_) | with_reducible exact H | (rw [hy362]; exact H) | exact H
     have Ny362 := Aside0.mk hy362
     clear hy362
     replace H := Option.bind_eq_some_iff.mp H
     obtain ⟨t363, A130, H⟩ := H
     replace H : (laws_markEntryS.l0 k1 (y362.set (x5_1 : Int).toNat (⟨(rd_T65 y362 x5_1).f0, (rd_T65 y362 x5_1).f1, (rd_T65 y362 x5_1).f2, (rd_T65 y362 x5_1).f3, (rd_T65 y362 x5_1).f4, t363⟩ : S65)) (wrap64 ((wrap64 ((wrap64 ((wrap64 ((wrap64 ((wrap64 (x1_1 + 1)) + 1)) + 1)) + 1)) + 1)) + 1)) (wrap64 (x5_1 + 1))) = some (r1, r2) := H
     have A13 := Aside0.mk A130
     clear A130
     obtain ⟨y364, hy364⟩ : ∃ y_ : List (S65), y_ = (y362.set (x5_1 : Int).toNat (⟨(rd_T65 y362 x5_1).f0, (rd_T65 y362 x5_1).f1, (rd_T65 y362 x5_1).f2, (rd_T65 y362 x5_1).f3, (rd_T65 y362 x5_1).f4, t363⟩ : S65)) := ⟨_, rfl⟩
     replace H : (laws_markEntryS.l0 k1 y364 (wrap64 ((wrap64 ((wrap64 ((wrap64 ((wrap64 ((wrap64 (x1_1 + 1)) + 1)) + 1)) + 1)) + 1)) + 1)) (wrap64 (x5_1 + 1))) = some (r1, r2) := by first | (rw [hy364]; with_reducible exact H) | (have H2_ := (Option.bind_some _ _).symm.trans H; rw [hy364]; with_reducible exact H2_) | (have H2_ := (Option.bind_some _ _).symm.trans H; with_reducible exact H2_) | with_reducible exact H | (rw [hy364]; exact H) | exact H
     have Ny364 := Aside0.mk hy364
     clear hy364
     have H' := Aside0.mk H
     clear H
     obtain ⟨Ao15, co15, eo15⟩ := Kd.R_slice HO_0.out
     subst eo15
     go_wp2_with (first | ((with_reducible refine at_fn (f := 44) rfl ?_); refine goesL_ (some 15) rfl rfl Try.func44 (by kernel_rfl) rfl #[.int .i64 x1_1] rfl (by (try simp only [List.map_toArray, List.map_cons, List.map_nil]); first | done | rfl | (simp only [List.length_drop, List.length_take]; rfl)) ?_; (with_reducible refine (laws_markText.calls k1 x1_1 t355 _ A4.out).mono ?_); rintro e w16 ⟨rfl, hb⟩; refine ⟨_, rfl, ?_⟩; have n0_ := Aside0.mk (Kd.R_below (lf HO_0) hb); have n1_ := Aside0.mk (Kept.below (S := (fun k_ => P0_ k_)) (by repeat (first | (with_reducible first | exact HK.out | apply Kept.alloc | apply Kept.drewN | apply Kept.drew) | exact HK.out)) hb); have n2_ := Aside0.mk (below_step bw hb); clear HO_0; clear HK; clear HB; have HO_0 := n0_; have HK := n1_; have HB := n2_; clear n0_ n1_ n2_; (try clear hb); (try clear hb2); (try clear hk); (try clear hi); have p6 : 0 ≤ (x5_1 : Int) := of_decide_eq_true (by first | (with_reducible assumption) | assumption); have q6 : (x5_1 : Int) < ((x0_1.length : Int) : Int) := of_decide_eq_true (by first | (with_reducible assumption) | assumption); obtain ⟨go6, co6, eo6, gb6, gl6, cl6, HG6⟩ := Kd.R_form HO_0.out (by omega); (first | cases eo6 | (injection eo6 with ea_ en_ ec_; (first | subst ea_ | (injection ea_ with ea_; subst ea_)); subst ec_; clear en_)); have GB6 := Aside0.mk gb6; have GG6 := Aside0.mk HG6; clear gb6 gl6 HG6; have HMgo6 := Aside0.mk (show (P0_ go6 ∨ w.heap.size ≤ go6) from (HO_0.out.1 _ rfl)); obtain ⟨ce6, hcl6, hM6, hcc6, hfr6⟩ := Kd.R_elem HO_0.out z65 (x5_1 : Int) p6 q6; obtain rfl := k65_openM hM6; have hx6_0 : w16.cell? ⟨go6, (x5_1 : Int).toNat * 6, none⟩ = some (.string ((rd_T65 x0_1 x5_1).f0)) := hcc6 0 _ rfl; have hx6_1 : w16.cell? ⟨go6, (x5_1 : Int).toNat * 6 + 1, none⟩ = some (.string ((rd_T65 x0_1 x5_1).f1)) := hcc6 1 _ rfl; have hx6_2 : w16.cell? ⟨go6, (x5_1 : Int).toNat * 6 + 2, none⟩ = some (.string ((rd_T65 x0_1 x5_1).f2)) := hcc6 2 _ rfl; have hx6_3 : w16.cell? ⟨go6, (x5_1 : Int).toNat * 6 + 3, none⟩ = some (.int .u64 ((rd_T65 x0_1 x5_1).f3)) := hcc6 3 _ rfl; have hx6_4 : w16.cell? ⟨go6, (x5_1 : Int).toNat * 6 + 4, none⟩ = some (.int .i64 ((rd_T65 x0_1 x5_1).f4)) := hcc6 4 _ rfl; have hx6_5 : w16.cell? ⟨go6, (x5_1 : Int).toNat * 6 + 5, none⟩ = some (.string ((rd_T65 x0_1 x5_1).f5)) := hcc6 5 _ rfl; have hf6_0 : w16.frozen? ⟨go6, (x5_1 : Int).toNat * 6, none⟩ = false := hfr6 0; have hf6_1 : w16.frozen? ⟨go6, (x5_1 : Int).toNat * 6 + 1, none⟩ = false := hfr6 1; have hf6_2 : w16.frozen? ⟨go6, (x5_1 : Int).toNat * 6 + 2, none⟩ = false := hfr6 2; have hf6_3 : w16.frozen? ⟨go6, (x5_1 : Int).toNat * 6 + 3, none⟩ = false := hfr6 3; have hf6_4 : w16.frozen? ⟨go6, (x5_1 : Int).toNat * 6 + 4, none⟩ = false := hfr6 4; have hf6_5 : w16.frozen? ⟨go6, (x5_1 : Int).toNat * 6 + 5, none⟩ = false := hfr6 5; clear hcl6 hcc6 hfr6 hM6; replace p6 := eq_true p6; replace q6 := eq_true q6; have HX17 := Aside0.mk (show Kd.R k65 65 w16 w0.heap.size (fun k_ => (P0_ k_ ∨ w.heap.size ≤ k_)) (.slice (some ⟨go6, 0, none⟩) x0_1.length co15) x0_1 from (lf HO_0)); obtain ⟨ce17, hcl17, hM17, hcc17, hfr17⟩ := Kd.R_elem HX17.out z65 (x5_1 : Int) (of_decide_eq_true (by first | (with_reducible assumption) | assumption)) (by have h_ : (x5_1 : Int) < ((x0_1.length : Int) : Int) := of_decide_eq_true (by first | (with_reducible assumption) | assumption); first | exact h_ | (have e_ := (Kd.R_reads' HO_0.out).1; omega) | simpa using h_); obtain rfl := k65_openM hM17; have HP17 := Kd.R_seg HX17.out (x5_1 : Int) (of_decide_eq_true (by first | (with_reducible assumption) | assumption)) (by have h_ : (x5_1 : Int) < ((x0_1.length : Int) : Int) := of_decide_eq_true (by first | (with_reducible assumption) | assumption); first | exact h_ | (have e_ := (Kd.R_reads' HO_0.out).1; omega) | simpa using h_) (seg := [.string t355]) (j := 0) hcl17 hcc17 (show 1 ≤ 6 from by decide) (x' := (⟨t355, (rd_T65 x0_1 x5_1).f1, (rd_T65 x0_1 x5_1).f2, (rd_T65 x0_1 x5_1).f3, (rd_T65 x0_1 x5_1).f4, (rd_T65 x0_1 x5_1).f5⟩ : S65)) (k65_mkM _ _ _ (⟨t355, (rd_T65 x0_1 x5_1).f1, (rd_T65 x0_1 x5_1).f2, (rd_T65 x0_1 x5_1).f3, (rd_T65 x0_1 x5_1).f4, (rd_T65 x0_1 x5_1).f5⟩ : S65) ) (fun _ hk => hk); have hx17_0 := hcc17 0 _ rfl; (try simp only [show (k65).sz = 6 from rfl, Nat.mul_one, Nat.add_zero] at hx17_0); have hf17_0 := hfr17 0; (try simp only [show (k65).sz = 6 from rfl, Nat.mul_one, Nat.add_zero] at hf17_0); clear hcl17 hcc17 hfr17 hM17) | ((with_reducible refine gate_store (t := 9) (p := 17) rfl ?_); refine store_event (t := 9) (p := 17) (v := ?vo_w18) (w1 := (w16.setCell ⟨go6, (x5_1 : Int).toNat * 6, none⟩ (.string t355))) ?hg ?ho ?hn ?hr ?_; (case ho => rfl); (case hg => rfl); (case hn => rfl); (case hr => first | (go_simp; done) | (go_simp; rfl)); intro w18 hw; have hg : w16.grownBy w18 (some go6) := (by rw [hw]; exact HP17.2); have hp_ : Kd.R k65 65 w18 w0.heap.size (fun k_ => (P0_ k_ ∨ w.heap.size ≤ k_)) (.slice (some ⟨go6, 0, none⟩) x0_1.length co15) y356 := (by rw [hw, Ny356.out]; exact HP17.1); clear HP17; have n0_ := Aside0.mk (hp_); have n1_ := Aside0.mk ((by rw [hw]; exact below_set (HB.out) GB6.out : Below w0.heap.size w0 w18)); have n2_ := Aside0.mk (Kept.of_grown (S := (fun k_ => P0_ k_)) hg (by repeat (first | (with_reducible first | exact HK.out | apply Kept.alloc | apply Kept.drewN | apply Kept.drew) | exact HK.out)) (fun k_ e_ => (HO_0.out.1 k_ e_))); clear HO_0; clear HB; clear HK; have HO_0 := n0_; have HB := n1_; have HK := n2_; clear n0_ n1_ n2_; clear hg hw hp_) | ((with_reducible refine at_fn (f := 44) rfl ?_); refine goesL_ (some 23) rfl rfl Try.func44 (by kernel_rfl) rfl #[.int .i64 (wrap64 (x1_1 + 1))] rfl (by (try simp only [List.map_toArray, List.map_cons, List.map_nil]); first | done | rfl | (simp only [List.length_drop, List.length_take]; rfl)) ?_; (with_reducible refine (laws_markText.calls k1 (wrap64 (x1_1 + 1)) t357 _ A7.out).mono ?_); rintro e w19 ⟨rfl, hb⟩; refine ⟨_, rfl, ?_⟩; have n0_ := Aside0.mk (Kd.R_below (lf HO_0) hb); have n1_ := Aside0.mk (Kept.below (S := (fun k_ => P0_ k_)) (by repeat (first | (with_reducible first | exact HK.out | apply Kept.alloc | apply Kept.drewN | apply Kept.drew) | exact HK.out)) hb); have n2_ := Aside0.mk (below_step bw hb); clear HO_0; clear HK; clear HB; have HO_0 := n0_; have HK := n1_; have HB := n2_; clear n0_ n1_ n2_; (try clear hb); (try clear hb2); (try clear hk); (try clear hi); have p8 : 0 ≤ (x5_1 : Int) := of_decide_eq_true (by first | (with_reducible assumption) | assumption); have q8 : (x5_1 : Int) < ((x0_1.length : Int) : Int) := of_decide_eq_true (by first | (with_reducible assumption) | assumption); obtain ⟨ce8, hcl8, hM8, hcc8, hfr8⟩ := Kd.R_elem HO_0.out z65 (x5_1 : Int) p8 q8; obtain rfl := k65_openM hM8; have hx8_0 : w19.cell? ⟨go6, (x5_1 : Int).toNat * 6, none⟩ = some (.string ((rd_T65 y356 x5_1).f0)) := hcc8 0 _ rfl; have hx8_1 : w19.cell? ⟨go6, (x5_1 : Int).toNat * 6 + 1, none⟩ = some (.string ((rd_T65 y356 x5_1).f1)) := hcc8 1 _ rfl; have hx8_2 : w19.cell? ⟨go6, (x5_1 : Int).toNat * 6 + 2, none⟩ = some (.string ((rd_T65 y356 x5_1).f2)) := hcc8 2 _ rfl; have hx8_3 : w19.cell? ⟨go6, (x5_1 : Int).toNat * 6 + 3, none⟩ = some (.int .u64 ((rd_T65 y356 x5_1).f3)) := hcc8 3 _ rfl; have hx8_4 : w19.cell? ⟨go6, (x5_1 : Int).toNat * 6 + 4, none⟩ = some (.int .i64 ((rd_T65 y356 x5_1).f4)) := hcc8 4 _ rfl; have hx8_5 : w19.cell? ⟨go6, (x5_1 : Int).toNat * 6 + 5, none⟩ = some (.string ((rd_T65 y356 x5_1).f5)) := hcc8 5 _ rfl; have hf8_0 : w19.frozen? ⟨go6, (x5_1 : Int).toNat * 6, none⟩ = false := hfr8 0; have hf8_1 : w19.frozen? ⟨go6, (x5_1 : Int).toNat * 6 + 1, none⟩ = false := hfr8 1; have hf8_2 : w19.frozen? ⟨go6, (x5_1 : Int).toNat * 6 + 2, none⟩ = false := hfr8 2; have hf8_3 : w19.frozen? ⟨go6, (x5_1 : Int).toNat * 6 + 3, none⟩ = false := hfr8 3; have hf8_4 : w19.frozen? ⟨go6, (x5_1 : Int).toNat * 6 + 4, none⟩ = false := hfr8 4; have hf8_5 : w19.frozen? ⟨go6, (x5_1 : Int).toNat * 6 + 5, none⟩ = false := hfr8 5; clear hcl8 hcc8 hfr8 hM8; replace p8 := eq_true p8; replace q8 := eq_true q8; have HX20 := Aside0.mk (show Kd.R k65 65 w19 w0.heap.size (fun k_ => (P0_ k_ ∨ w.heap.size ≤ k_)) (.slice (some ⟨go6, 0, none⟩) x0_1.length co15) y356 from (lf HO_0)); obtain ⟨ce20, hcl20, hM20, hcc20, hfr20⟩ := Kd.R_elem HX20.out z65 (x5_1 : Int) (of_decide_eq_true (by first | (with_reducible assumption) | assumption)) (by have h_ : (x5_1 : Int) < ((x0_1.length : Int) : Int) := of_decide_eq_true (by first | (with_reducible assumption) | assumption); first | exact h_ | (have e_ := (Kd.R_reads' HO_0.out).1; omega) | simpa using h_); obtain rfl := k65_openM hM20; have HP20 := Kd.R_seg HX20.out (x5_1 : Int) (of_decide_eq_true (by first | (with_reducible assumption) | assumption)) (by have h_ : (x5_1 : Int) < ((x0_1.length : Int) : Int) := of_decide_eq_true (by first | (with_reducible assumption) | assumption); first | exact h_ | (have e_ := (Kd.R_reads' HO_0.out).1; omega) | simpa using h_) (seg := [.string t357]) (j := 1) hcl20 hcc20 (show 2 ≤ 6 from by decide) (x' := (⟨(rd_T65 y356 x5_1).f0, t357, (rd_T65 y356 x5_1).f2, (rd_T65 y356 x5_1).f3, (rd_T65 y356 x5_1).f4, (rd_T65 y356 x5_1).f5⟩ : S65)) (k65_mkM _ _ _ (⟨(rd_T65 y356 x5_1).f0, t357, (rd_T65 y356 x5_1).f2, (rd_T65 y356 x5_1).f3, (rd_T65 y356 x5_1).f4, (rd_T65 y356 x5_1).f5⟩ : S65) ) (fun _ hk => hk); have hx20_1 := hcc20 1 _ rfl; (try simp only [show (k65).sz = 6 from rfl, Nat.mul_one, Nat.add_zero] at hx20_1); have hf20_1 := hfr20 1; (try simp only [show (k65).sz = 6 from rfl, Nat.mul_one, Nat.add_zero] at hf20_1); clear hcl20 hcc20 hfr20 hM20) | ((with_reducible refine gate_store (t := 9) (p := 25) rfl ?_); refine store_event (t := 9) (p := 25) (v := ?vo_w21) (w1 := (w19.setCell ⟨go6, (x5_1 : Int).toNat * 6 + 1, none⟩ (.string t357))) ?hg ?ho ?hn ?hr ?_; (case ho => rfl); (case hg => rfl); (case hn => rfl); (case hr => first | (go_simp; done) | (go_simp; rfl)); intro w21 hw; have hg : w19.grownBy w21 (some go6) := (by rw [hw]; exact HP20.2); have hp_ : Kd.R k65 65 w21 w0.heap.size (fun k_ => (P0_ k_ ∨ w.heap.size ≤ k_)) (.slice (some ⟨go6, 0, none⟩) x0_1.length co15) y358 := (by rw [hw, Ny358.out]; exact HP20.1); clear HP20; have n0_ := Aside0.mk (hp_); have n1_ := Aside0.mk ((by rw [hw]; exact below_set (HB.out) GB6.out : Below w0.heap.size w0 w21)); have n2_ := Aside0.mk (Kept.of_grown (S := (fun k_ => P0_ k_)) hg (by repeat (first | (with_reducible first | exact HK.out | apply Kept.alloc | apply Kept.drewN | apply Kept.drew) | exact HK.out)) (fun k_ e_ => (HO_0.out.1 k_ e_))); clear HO_0; clear HB; clear HK; have HO_0 := n0_; have HB := n1_; have HK := n2_; clear n0_ n1_ n2_; clear hg hw hp_) | ((with_reducible refine at_fn (f := 44) rfl ?_); refine goesL_ (some 31) rfl rfl Try.func44 (by kernel_rfl) rfl #[.int .i64 (wrap64 ((wrap64 (x1_1 + 1)) + 1))] rfl (by (try simp only [List.map_toArray, List.map_cons, List.map_nil]); first | done | rfl | (simp only [List.length_drop, List.length_take]; rfl)) ?_; (with_reducible refine (laws_markText.calls k1 (wrap64 ((wrap64 (x1_1 + 1)) + 1)) t359 _ A9.out).mono ?_); rintro e w22 ⟨rfl, hb⟩; refine ⟨_, rfl, ?_⟩; have n0_ := Aside0.mk (Kd.R_below (lf HO_0) hb); have n1_ := Aside0.mk (Kept.below (S := (fun k_ => P0_ k_)) (by repeat (first | (with_reducible first | exact HK.out | apply Kept.alloc | apply Kept.drewN | apply Kept.drew) | exact HK.out)) hb); have n2_ := Aside0.mk (below_step bw hb); clear HO_0; clear HK; clear HB; have HO_0 := n0_; have HK := n1_; have HB := n2_; clear n0_ n1_ n2_; (try clear hb); (try clear hb2); (try clear hk); (try clear hi); have p10 : 0 ≤ (x5_1 : Int) := of_decide_eq_true (by first | (with_reducible assumption) | assumption); have q10 : (x5_1 : Int) < ((x0_1.length : Int) : Int) := of_decide_eq_true (by first | (with_reducible assumption) | assumption); obtain ⟨ce10, hcl10, hM10, hcc10, hfr10⟩ := Kd.R_elem HO_0.out z65 (x5_1 : Int) p10 q10; obtain rfl := k65_openM hM10; have hx10_0 : w22.cell? ⟨go6, (x5_1 : Int).toNat * 6, none⟩ = some (.string ((rd_T65 y358 x5_1).f0)) := hcc10 0 _ rfl; have hx10_1 : w22.cell? ⟨go6, (x5_1 : Int).toNat * 6 + 1, none⟩ = some (.string ((rd_T65 y358 x5_1).f1)) := hcc10 1 _ rfl; have hx10_2 : w22.cell? ⟨go6, (x5_1 : Int).toNat * 6 + 2, none⟩ = some (.string ((rd_T65 y358 x5_1).f2)) := hcc10 2 _ rfl; have hx10_3 : w22.cell? ⟨go6, (x5_1 : Int).toNat * 6 + 3, none⟩ = some (.int .u64 ((rd_T65 y358 x5_1).f3)) := hcc10 3 _ rfl; have hx10_4 : w22.cell? ⟨go6, (x5_1 : Int).toNat * 6 + 4, none⟩ = some (.int .i64 ((rd_T65 y358 x5_1).f4)) := hcc10 4 _ rfl; have hx10_5 : w22.cell? ⟨go6, (x5_1 : Int).toNat * 6 + 5, none⟩ = some (.string ((rd_T65 y358 x5_1).f5)) := hcc10 5 _ rfl; have hf10_0 : w22.frozen? ⟨go6, (x5_1 : Int).toNat * 6, none⟩ = false := hfr10 0; have hf10_1 : w22.frozen? ⟨go6, (x5_1 : Int).toNat * 6 + 1, none⟩ = false := hfr10 1; have hf10_2 : w22.frozen? ⟨go6, (x5_1 : Int).toNat * 6 + 2, none⟩ = false := hfr10 2; have hf10_3 : w22.frozen? ⟨go6, (x5_1 : Int).toNat * 6 + 3, none⟩ = false := hfr10 3; have hf10_4 : w22.frozen? ⟨go6, (x5_1 : Int).toNat * 6 + 4, none⟩ = false := hfr10 4; have hf10_5 : w22.frozen? ⟨go6, (x5_1 : Int).toNat * 6 + 5, none⟩ = false := hfr10 5; clear hcl10 hcc10 hfr10 hM10; replace p10 := eq_true p10; replace q10 := eq_true q10; have HX23 := Aside0.mk (show Kd.R k65 65 w22 w0.heap.size (fun k_ => (P0_ k_ ∨ w.heap.size ≤ k_)) (.slice (some ⟨go6, 0, none⟩) x0_1.length co15) y358 from (lf HO_0)); obtain ⟨ce23, hcl23, hM23, hcc23, hfr23⟩ := Kd.R_elem HX23.out z65 (x5_1 : Int) (of_decide_eq_true (by first | (with_reducible assumption) | assumption)) (by have h_ : (x5_1 : Int) < ((x0_1.length : Int) : Int) := of_decide_eq_true (by first | (with_reducible assumption) | assumption); first | exact h_ | (have e_ := (Kd.R_reads' HO_0.out).1; omega) | simpa using h_); obtain rfl := k65_openM hM23; have HP23 := Kd.R_seg HX23.out (x5_1 : Int) (of_decide_eq_true (by first | (with_reducible assumption) | assumption)) (by have h_ : (x5_1 : Int) < ((x0_1.length : Int) : Int) := of_decide_eq_true (by first | (with_reducible assumption) | assumption); first | exact h_ | (have e_ := (Kd.R_reads' HO_0.out).1; omega) | simpa using h_) (seg := [.string t359]) (j := 2) hcl23 hcc23 (show 3 ≤ 6 from by decide) (x' := (⟨(rd_T65 y358 x5_1).f0, (rd_T65 y358 x5_1).f1, t359, (rd_T65 y358 x5_1).f3, (rd_T65 y358 x5_1).f4, (rd_T65 y358 x5_1).f5⟩ : S65)) (k65_mkM _ _ _ (⟨(rd_T65 y358 x5_1).f0, (rd_T65 y358 x5_1).f1, t359, (rd_T65 y358 x5_1).f3, (rd_T65 y358 x5_1).f4, (rd_T65 y358 x5_1).f5⟩ : S65) ) (fun _ hk => hk); have hx23_2 := hcc23 2 _ rfl; (try simp only [show (k65).sz = 6 from rfl, Nat.mul_one, Nat.add_zero] at hx23_2); have hf23_2 := hfr23 2; (try simp only [show (k65).sz = 6 from rfl, Nat.mul_one, Nat.add_zero] at hf23_2); clear hcl23 hcc23 hfr23 hM23) | ((with_reducible refine gate_store (t := 9) (p := 33) rfl ?_); refine store_event (t := 9) (p := 33) (v := ?vo_w24) (w1 := (w22.setCell ⟨go6, (x5_1 : Int).toNat * 6 + 2, none⟩ (.string t359))) ?hg ?ho ?hn ?hr ?_; (case ho => rfl); (case hg => rfl); (case hn => rfl); (case hr => first | (go_simp; done) | (go_simp; rfl)); intro w24 hw; have hg : w22.grownBy w24 (some go6) := (by rw [hw]; exact HP23.2); have hp_ : Kd.R k65 65 w24 w0.heap.size (fun k_ => (P0_ k_ ∨ w.heap.size ≤ k_)) (.slice (some ⟨go6, 0, none⟩) x0_1.length co15) y360 := (by rw [hw, Ny360.out]; exact HP23.1); clear HP23; have n0_ := Aside0.mk (hp_); have n1_ := Aside0.mk ((by rw [hw]; exact below_set (HB.out) GB6.out : Below w0.heap.size w0 w24)); have n2_ := Aside0.mk (Kept.of_grown (S := (fun k_ => P0_ k_)) hg (by repeat (first | (with_reducible first | exact HK.out | apply Kept.alloc | apply Kept.drewN | apply Kept.drew) | exact HK.out)) (fun k_ e_ => (HO_0.out.1 k_ e_))); clear HO_0; clear HB; clear HK; have HO_0 := n0_; have HB := n1_; have HK := n2_; clear n0_ n1_ n2_; clear hg hw hp_; have p11 : 0 ≤ (x5_1 : Int) := of_decide_eq_true (by first | (with_reducible assumption) | assumption); have q11 : (x5_1 : Int) < ((x0_1.length : Int) : Int) := of_decide_eq_true (by first | (with_reducible assumption) | assumption); obtain ⟨ce11, hcl11, hM11, hcc11, hfr11⟩ := Kd.R_elem HO_0.out z65 (x5_1 : Int) p11 q11; obtain rfl := k65_openM hM11; have hx11_0 : w24.cell? ⟨go6, (x5_1 : Int).toNat * 6, none⟩ = some (.string ((rd_T65 y360 x5_1).f0)) := hcc11 0 _ rfl; have hx11_1 : w24.cell? ⟨go6, (x5_1 : Int).toNat * 6 + 1, none⟩ = some (.string ((rd_T65 y360 x5_1).f1)) := hcc11 1 _ rfl; have hx11_2 : w24.cell? ⟨go6, (x5_1 : Int).toNat * 6 + 2, none⟩ = some (.string ((rd_T65 y360 x5_1).f2)) := hcc11 2 _ rfl; have hx11_3 : w24.cell? ⟨go6, (x5_1 : Int).toNat * 6 + 3, none⟩ = some (.int .u64 ((rd_T65 y360 x5_1).f3)) := hcc11 3 _ rfl; have hx11_4 : w24.cell? ⟨go6, (x5_1 : Int).toNat * 6 + 4, none⟩ = some (.int .i64 ((rd_T65 y360 x5_1).f4)) := hcc11 4 _ rfl; have hx11_5 : w24.cell? ⟨go6, (x5_1 : Int).toNat * 6 + 5, none⟩ = some (.string ((rd_T65 y360 x5_1).f5)) := hcc11 5 _ rfl; have hf11_0 : w24.frozen? ⟨go6, (x5_1 : Int).toNat * 6, none⟩ = false := hfr11 0; have hf11_1 : w24.frozen? ⟨go6, (x5_1 : Int).toNat * 6 + 1, none⟩ = false := hfr11 1; have hf11_2 : w24.frozen? ⟨go6, (x5_1 : Int).toNat * 6 + 2, none⟩ = false := hfr11 2; have hf11_3 : w24.frozen? ⟨go6, (x5_1 : Int).toNat * 6 + 3, none⟩ = false := hfr11 3; have hf11_4 : w24.frozen? ⟨go6, (x5_1 : Int).toNat * 6 + 4, none⟩ = false := hfr11 4; have hf11_5 : w24.frozen? ⟨go6, (x5_1 : Int).toNat * 6 + 5, none⟩ = false := hfr11 5; clear hcl11 hcc11 hfr11 hM11; replace p11 := eq_true p11; replace q11 := eq_true q11; have HX25 := Aside0.mk (show Kd.R k65 65 w24 w0.heap.size (fun k_ => (P0_ k_ ∨ w.heap.size ≤ k_)) (.slice (some ⟨go6, 0, none⟩) x0_1.length co15) y360 from (lf HO_0)); obtain ⟨ce25, hcl25, hM25, hcc25, hfr25⟩ := Kd.R_elem HX25.out z65 (x5_1 : Int) (of_decide_eq_true (by first | (with_reducible assumption) | assumption)) (by have h_ : (x5_1 : Int) < ((x0_1.length : Int) : Int) := of_decide_eq_true (by first | (with_reducible assumption) | assumption); first | exact h_ | (have e_ := (Kd.R_reads' HO_0.out).1; omega) | simpa using h_); obtain rfl := k65_openM hM25; have HP25 := Kd.R_seg HX25.out (x5_1 : Int) (of_decide_eq_true (by first | (with_reducible assumption) | assumption)) (by have h_ : (x5_1 : Int) < ((x0_1.length : Int) : Int) := of_decide_eq_true (by first | (with_reducible assumption) | assumption); first | exact h_ | (have e_ := (Kd.R_reads' HO_0.out).1; omega) | simpa using h_) (seg := [.int .u64 (IntKind.u64.wrap (wrap64 ((wrap64 ((wrap64 (x1_1 + 1)) + 1)) + 1)))]) (j := 3) hcl25 hcc25 (show 4 ≤ 6 from by decide) (x' := (⟨(rd_T65 y360 x5_1).f0, (rd_T65 y360 x5_1).f1, (rd_T65 y360 x5_1).f2, IntKind.u64.wrap (wrap64 ((wrap64 ((wrap64 (x1_1 + 1)) + 1)) + 1)), (rd_T65 y360 x5_1).f4, (rd_T65 y360 x5_1).f5⟩ : S65)) (k65_mkM _ _ _ (⟨(rd_T65 y360 x5_1).f0, (rd_T65 y360 x5_1).f1, (rd_T65 y360 x5_1).f2, IntKind.u64.wrap (wrap64 ((wrap64 ((wrap64 (x1_1 + 1)) + 1)) + 1)), (rd_T65 y360 x5_1).f4, (rd_T65 y360 x5_1).f5⟩ : S65) ) (fun _ hk => hk); have hx25_3 := hcc25 3 _ rfl; (try simp only [show (k65).sz = 6 from rfl, Nat.mul_one, Nat.add_zero] at hx25_3); have hf25_3 := hfr25 3; (try simp only [show (k65).sz = 6 from rfl, Nat.mul_one, Nat.add_zero] at hf25_3); clear hcl25 hcc25 hfr25 hM25) | ((with_reducible refine gate_store (t := 63) (p := 41) rfl ?_); refine store_event (t := 63) (p := 41) (v := ?vo_w26) (w1 := (w24.setCell ⟨go6, (x5_1 : Int).toNat * 6 + 3, none⟩ (.int .u64 (IntKind.u64.wrap (wrap64 ((wrap64 ((wrap64 (x1_1 + 1)) + 1)) + 1)))))) ?hg ?ho ?hn ?hr ?_; (case ho => rfl); (case hg => rfl); (case hn => rfl); (case hr => first | (go_simp; done) | (go_simp; rfl)); intro w26 hw; have hg : w24.grownBy w26 (some go6) := (by rw [hw]; exact HP25.2); have hp_ : Kd.R k65 65 w26 w0.heap.size (fun k_ => (P0_ k_ ∨ w.heap.size ≤ k_)) (.slice (some ⟨go6, 0, none⟩) x0_1.length co15) y361 := (by rw [hw, Ny361.out]; exact HP25.1); clear HP25; have n0_ := Aside0.mk (hp_); have n1_ := Aside0.mk ((by rw [hw]; exact below_set (HB.out) GB6.out : Below w0.heap.size w0 w26)); have n2_ := Aside0.mk (Kept.of_grown (S := (fun k_ => P0_ k_)) hg (by repeat (first | (with_reducible first | exact HK.out | apply Kept.alloc | apply Kept.drewN | apply Kept.drew) | exact HK.out)) (fun k_ e_ => (HO_0.out.1 k_ e_))); clear HO_0; clear HB; clear HK; have HO_0 := n0_; have HB := n1_; have HK := n2_; clear n0_ n1_ n2_; clear hg hw hp_; have p12 : 0 ≤ (x5_1 : Int) := of_decide_eq_true (by first | (with_reducible assumption) | assumption); have q12 : (x5_1 : Int) < ((x0_1.length : Int) : Int) := of_decide_eq_true (by first | (with_reducible assumption) | assumption); obtain ⟨ce12, hcl12, hM12, hcc12, hfr12⟩ := Kd.R_elem HO_0.out z65 (x5_1 : Int) p12 q12; obtain rfl := k65_openM hM12; have hx12_0 : w26.cell? ⟨go6, (x5_1 : Int).toNat * 6, none⟩ = some (.string ((rd_T65 y361 x5_1).f0)) := hcc12 0 _ rfl; have hx12_1 : w26.cell? ⟨go6, (x5_1 : Int).toNat * 6 + 1, none⟩ = some (.string ((rd_T65 y361 x5_1).f1)) := hcc12 1 _ rfl; have hx12_2 : w26.cell? ⟨go6, (x5_1 : Int).toNat * 6 + 2, none⟩ = some (.string ((rd_T65 y361 x5_1).f2)) := hcc12 2 _ rfl; have hx12_3 : w26.cell? ⟨go6, (x5_1 : Int).toNat * 6 + 3, none⟩ = some (.int .u64 ((rd_T65 y361 x5_1).f3)) := hcc12 3 _ rfl; have hx12_4 : w26.cell? ⟨go6, (x5_1 : Int).toNat * 6 + 4, none⟩ = some (.int .i64 ((rd_T65 y361 x5_1).f4)) := hcc12 4 _ rfl; have hx12_5 : w26.cell? ⟨go6, (x5_1 : Int).toNat * 6 + 5, none⟩ = some (.string ((rd_T65 y361 x5_1).f5)) := hcc12 5 _ rfl; have hf12_0 : w26.frozen? ⟨go6, (x5_1 : Int).toNat * 6, none⟩ = false := hfr12 0; have hf12_1 : w26.frozen? ⟨go6, (x5_1 : Int).toNat * 6 + 1, none⟩ = false := hfr12 1; have hf12_2 : w26.frozen? ⟨go6, (x5_1 : Int).toNat * 6 + 2, none⟩ = false := hfr12 2; have hf12_3 : w26.frozen? ⟨go6, (x5_1 : Int).toNat * 6 + 3, none⟩ = false := hfr12 3; have hf12_4 : w26.frozen? ⟨go6, (x5_1 : Int).toNat * 6 + 4, none⟩ = false := hfr12 4; have hf12_5 : w26.frozen? ⟨go6, (x5_1 : Int).toNat * 6 + 5, none⟩ = false := hfr12 5; clear hcl12 hcc12 hfr12 hM12; replace p12 := eq_true p12; replace q12 := eq_true q12; have HX27 := Aside0.mk (show Kd.R k65 65 w26 w0.heap.size (fun k_ => (P0_ k_ ∨ w.heap.size ≤ k_)) (.slice (some ⟨go6, 0, none⟩) x0_1.length co15) y361 from (lf HO_0)); obtain ⟨ce27, hcl27, hM27, hcc27, hfr27⟩ := Kd.R_elem HX27.out z65 (x5_1 : Int) (of_decide_eq_true (by first | (with_reducible assumption) | assumption)) (by have h_ : (x5_1 : Int) < ((x0_1.length : Int) : Int) := of_decide_eq_true (by first | (with_reducible assumption) | assumption); first | exact h_ | (have e_ := (Kd.R_reads' HO_0.out).1; omega) | simpa using h_); obtain rfl := k65_openM hM27; have HP27 := Kd.R_seg HX27.out (x5_1 : Int) (of_decide_eq_true (by first | (with_reducible assumption) | assumption)) (by have h_ : (x5_1 : Int) < ((x0_1.length : Int) : Int) := of_decide_eq_true (by first | (with_reducible assumption) | assumption); first | exact h_ | (have e_ := (Kd.R_reads' HO_0.out).1; omega) | simpa using h_) (seg := [.int .i64 (wrap64 ((wrap64 ((wrap64 ((wrap64 (x1_1 + 1)) + 1)) + 1)) + 1))]) (j := 4) hcl27 hcc27 (show 5 ≤ 6 from by decide) (x' := (⟨(rd_T65 y361 x5_1).f0, (rd_T65 y361 x5_1).f1, (rd_T65 y361 x5_1).f2, (rd_T65 y361 x5_1).f3, wrap64 ((wrap64 ((wrap64 ((wrap64 (x1_1 + 1)) + 1)) + 1)) + 1), (rd_T65 y361 x5_1).f5⟩ : S65)) (k65_mkM _ _ _ (⟨(rd_T65 y361 x5_1).f0, (rd_T65 y361 x5_1).f1, (rd_T65 y361 x5_1).f2, (rd_T65 y361 x5_1).f3, wrap64 ((wrap64 ((wrap64 ((wrap64 (x1_1 + 1)) + 1)) + 1)) + 1), (rd_T65 y361 x5_1).f5⟩ : S65) ) (fun _ hk => hk); have hx27_4 := hcc27 4 _ rfl; (try simp only [show (k65).sz = 6 from rfl, Nat.mul_one, Nat.add_zero] at hx27_4); have hf27_4 := hfr27 4; (try simp only [show (k65).sz = 6 from rfl, Nat.mul_one, Nat.add_zero] at hf27_4); clear hcl27 hcc27 hfr27 hM27) | ((with_reducible refine gate_store (t := 2) (p := 48) rfl ?_); refine store_event (t := 2) (p := 48) (v := ?vo_w28) (w1 := (w26.setCell ⟨go6, (x5_1 : Int).toNat * 6 + 4, none⟩ (.int .i64 (wrap64 ((wrap64 ((wrap64 ((wrap64 (x1_1 + 1)) + 1)) + 1)) + 1))))) ?hg ?ho ?hn ?hr ?_; (case ho => rfl); (case hg => rfl); (case hn => rfl); (case hr => first | (go_simp; done) | (go_simp; rfl)); intro w28 hw; have hg : w26.grownBy w28 (some go6) := (by rw [hw]; exact HP27.2); have hp_ : Kd.R k65 65 w28 w0.heap.size (fun k_ => (P0_ k_ ∨ w.heap.size ≤ k_)) (.slice (some ⟨go6, 0, none⟩) x0_1.length co15) y362 := (by rw [hw, Ny362.out]; exact HP27.1); clear HP27; have n0_ := Aside0.mk (hp_); have n1_ := Aside0.mk ((by rw [hw]; exact below_set (HB.out) GB6.out : Below w0.heap.size w0 w28)); have n2_ := Aside0.mk (Kept.of_grown (S := (fun k_ => P0_ k_)) hg (by repeat (first | (with_reducible first | exact HK.out | apply Kept.alloc | apply Kept.drewN | apply Kept.drew) | exact HK.out)) (fun k_ e_ => (HO_0.out.1 k_ e_))); clear HO_0; clear HB; clear HK; have HO_0 := n0_; have HB := n1_; have HK := n2_; clear n0_ n1_ n2_; clear hg hw hp_) | ((with_reducible refine at_fn (f := 44) rfl ?_); refine goesL_ (some 54) rfl rfl Try.func44 (by kernel_rfl) rfl #[.int .i64 (wrap64 ((wrap64 ((wrap64 ((wrap64 ((wrap64 (x1_1 + 1)) + 1)) + 1)) + 1)) + 1))] rfl (by (try simp only [List.map_toArray, List.map_cons, List.map_nil]); first | done | rfl | (simp only [List.length_drop, List.length_take]; rfl)) ?_; (with_reducible refine (laws_markText.calls k1 (wrap64 ((wrap64 ((wrap64 ((wrap64 ((wrap64 (x1_1 + 1)) + 1)) + 1)) + 1)) + 1)) t363 _ A13.out).mono ?_); rintro e w29 ⟨rfl, hb⟩; refine ⟨_, rfl, ?_⟩; have n0_ := Aside0.mk (Kd.R_below (lf HO_0) hb); have n1_ := Aside0.mk (Kept.below (S := (fun k_ => P0_ k_)) (by repeat (first | (with_reducible first | exact HK.out | apply Kept.alloc | apply Kept.drewN | apply Kept.drew) | exact HK.out)) hb); have n2_ := Aside0.mk (below_step bw hb); clear HO_0; clear HK; clear HB; have HO_0 := n0_; have HK := n1_; have HB := n2_; clear n0_ n1_ n2_; (try clear hb); (try clear hb2); (try clear hk); (try clear hi); have p14 : 0 ≤ (x5_1 : Int) := of_decide_eq_true (by first | (with_reducible assumption) | assumption); have q14 : (x5_1 : Int) < ((x0_1.length : Int) : Int) := of_decide_eq_true (by first | (with_reducible assumption) | assumption); obtain ⟨ce14, hcl14, hM14, hcc14, hfr14⟩ := Kd.R_elem HO_0.out z65 (x5_1 : Int) p14 q14; obtain rfl := k65_openM hM14; have hx14_0 : w29.cell? ⟨go6, (x5_1 : Int).toNat * 6, none⟩ = some (.string ((rd_T65 y362 x5_1).f0)) := hcc14 0 _ rfl; have hx14_1 : w29.cell? ⟨go6, (x5_1 : Int).toNat * 6 + 1, none⟩ = some (.string ((rd_T65 y362 x5_1).f1)) := hcc14 1 _ rfl; have hx14_2 : w29.cell? ⟨go6, (x5_1 : Int).toNat * 6 + 2, none⟩ = some (.string ((rd_T65 y362 x5_1).f2)) := hcc14 2 _ rfl; have hx14_3 : w29.cell? ⟨go6, (x5_1 : Int).toNat * 6 + 3, none⟩ = some (.int .u64 ((rd_T65 y362 x5_1).f3)) := hcc14 3 _ rfl; have hx14_4 : w29.cell? ⟨go6, (x5_1 : Int).toNat * 6 + 4, none⟩ = some (.int .i64 ((rd_T65 y362 x5_1).f4)) := hcc14 4 _ rfl; have hx14_5 : w29.cell? ⟨go6, (x5_1 : Int).toNat * 6 + 5, none⟩ = some (.string ((rd_T65 y362 x5_1).f5)) := hcc14 5 _ rfl; have hf14_0 : w29.frozen? ⟨go6, (x5_1 : Int).toNat * 6, none⟩ = false := hfr14 0; have hf14_1 : w29.frozen? ⟨go6, (x5_1 : Int).toNat * 6 + 1, none⟩ = false := hfr14 1; have hf14_2 : w29.frozen? ⟨go6, (x5_1 : Int).toNat * 6 + 2, none⟩ = false := hfr14 2; have hf14_3 : w29.frozen? ⟨go6, (x5_1 : Int).toNat * 6 + 3, none⟩ = false := hfr14 3; have hf14_4 : w29.frozen? ⟨go6, (x5_1 : Int).toNat * 6 + 4, none⟩ = false := hfr14 4; have hf14_5 : w29.frozen? ⟨go6, (x5_1 : Int).toNat * 6 + 5, none⟩ = false := hfr14 5; clear hcl14 hcc14 hfr14 hM14; replace p14 := eq_true p14; replace q14 := eq_true q14; have HX30 := Aside0.mk (show Kd.R k65 65 w29 w0.heap.size (fun k_ => (P0_ k_ ∨ w.heap.size ≤ k_)) (.slice (some ⟨go6, 0, none⟩) x0_1.length co15) y362 from (lf HO_0)); obtain ⟨ce30, hcl30, hM30, hcc30, hfr30⟩ := Kd.R_elem HX30.out z65 (x5_1 : Int) (of_decide_eq_true (by first | (with_reducible assumption) | assumption)) (by have h_ : (x5_1 : Int) < ((x0_1.length : Int) : Int) := of_decide_eq_true (by first | (with_reducible assumption) | assumption); first | exact h_ | (have e_ := (Kd.R_reads' HO_0.out).1; omega) | simpa using h_); obtain rfl := k65_openM hM30; have HP30 := Kd.R_seg HX30.out (x5_1 : Int) (of_decide_eq_true (by first | (with_reducible assumption) | assumption)) (by have h_ : (x5_1 : Int) < ((x0_1.length : Int) : Int) := of_decide_eq_true (by first | (with_reducible assumption) | assumption); first | exact h_ | (have e_ := (Kd.R_reads' HO_0.out).1; omega) | simpa using h_) (seg := [.string t363]) (j := 5) hcl30 hcc30 (show 6 ≤ 6 from by decide) (x' := (⟨(rd_T65 y362 x5_1).f0, (rd_T65 y362 x5_1).f1, (rd_T65 y362 x5_1).f2, (rd_T65 y362 x5_1).f3, (rd_T65 y362 x5_1).f4, t363⟩ : S65)) (k65_mkM _ _ _ (⟨(rd_T65 y362 x5_1).f0, (rd_T65 y362 x5_1).f1, (rd_T65 y362 x5_1).f2, (rd_T65 y362 x5_1).f3, (rd_T65 y362 x5_1).f4, t363⟩ : S65) ) (fun _ hk => hk); have hx30_5 := hcc30 5 _ rfl; (try simp only [show (k65).sz = 6 from rfl, Nat.mul_one, Nat.add_zero] at hx30_5); have hf30_5 := hfr30 5; (try simp only [show (k65).sz = 6 from rfl, Nat.mul_one, Nat.add_zero] at hf30_5); clear hcl30 hcc30 hfr30 hM30) | ((with_reducible refine gate_store (t := 9) (p := 56) rfl ?_); refine store_event (t := 9) (p := 56) (v := ?vo_w31) (w1 := (w29.setCell ⟨go6, (x5_1 : Int).toNat * 6 + 5, none⟩ (.string t363))) ?hg ?ho ?hn ?hr ?_; (case ho => rfl); (case hg => rfl); (case hn => rfl); (case hr => first | (go_simp; done) | (go_simp; rfl)); intro w31 hw; have hg : w29.grownBy w31 (some go6) := (by rw [hw]; exact HP30.2); have hp_ : Kd.R k65 65 w31 w0.heap.size (fun k_ => (P0_ k_ ∨ w.heap.size ≤ k_)) (.slice (some ⟨go6, 0, none⟩) x0_1.length co15) y364 := (by rw [hw, Ny364.out]; exact HP30.1); clear HP30; have n0_ := Aside0.mk (hp_); have n1_ := Aside0.mk ((by rw [hw]; exact below_set (HB.out) GB6.out : Below w0.heap.size w0 w31)); have n2_ := Aside0.mk (Kept.of_grown (S := (fun k_ => P0_ k_)) hg (by repeat (first | (with_reducible first | exact HK.out | apply Kept.alloc | apply Kept.drewN | apply Kept.drew) | exact HK.out)) (fun k_ e_ => (HO_0.out.1 k_ e_))); clear HO_0; clear HB; clear HK; have HO_0 := n0_; have HB := n1_; have HK := n2_; clear n0_ n1_ n2_; clear hg hw hp_))
     go_roundg k1
     case measure => have := HK1.out; omega
     case rel => exact ⟨(y364), (wrap64 ((wrap64 ((wrap64 ((wrap64 ((wrap64 ((wrap64 (x1_1 + 1)) + 1)) + 1)) + 1)) + 1)) + 1)), (wrap64 (x5_1 + 1)), (by first | rfl | (simp; done) | (simp [*]; done)), (by first | rfl | (simp; done) | (simp [*]; done)), H', ⟨by have := HK1.out; omega⟩, ⟨lf HO_0⟩, ⟨by repeat (first | (with_reducible first | exact HK.out | apply Kept.alloc | apply Kept.drewN | apply Kept.drew) | exact HK.out)⟩, ⟨bw⟩⟩
    ·rw [if_neg c5] at H
     exact absurd H (by simp)
   ·rw [if_neg c3] at H
    have c3b0 : decide (x5_1 < (x0_1.length : Int)) = false := decide_eq_false c3
    clear c3
    simp only [Option.some.injEq, Prod.mk.injEq] at H
    obtain ⟨rfl, rfl⟩ := H
    obtain ⟨Ao32, co32, eo32⟩ := Kd.R_slice HO_0.out
    subst eo32
    go_wp2
    go_ret
    exact ⟨by first | rfl | (simp [errW_none, errW_some] <;> rfl) | (simp [*, errW_none, errW_some] <;> rfl), lf HO_0, bw, by repeat (first | (with_reducible first | exact HK.out | apply Kept.alloc | apply Kept.drewN | apply Kept.drew) | exact HK.out)⟩

end Go.Proofs.Ytjlggfdmfchncaa.Q

namespace Go.Proofs.Ytjlggfdmfchncaa.Q
open Go.RowKit Go.Proofs.YtjlggfdmfchncaaW.PrintWords Go.Proofs.YtjlggfdmfchncaaW.PrintLast
set_option linter.unusedVariables false
set_option linter.unusedSimpArgs false
noncomputable def mEnt (x : Int) : S65 := ⟨mkT x, mkT (x + 1), mkT (x + 1 + 1), IntKind.u64.wrap (x + 1 + 1 + 1), x + 1 + 1 + 1 + 1, mkT (x + 1 + 1 + 1 + 1 + 1)⟩
noncomputable def mEnts : Nat → Int → List S65
  | 0, _ => []
  | d + 1, x => mEnt x :: mEnts d (x + 1 + 1 + 1 + 1 + 1 + 1)
theorem mEnts_len : ∀ (d : Nat) (x : Int), (mEnts d x).length = d
  | 0, _ => rfl
  | d + 1, x => by simp [mEnts, mEnts_len d]
theorem wraps (x : Int) (h0 : 0 ≤ x) (h1 : x + 6 ≤ 9000000000000000000) : wrap64 (x + 1) = x + 1 ∧ wrap64 (x + 1 + 1) = x + 1 + 1 ∧ wrap64 (x + 1 + 1 + 1) = x + 1 + 1 + 1 ∧ wrap64 (x + 1 + 1 + 1 + 1) = x + 1 + 1 + 1 + 1 ∧ wrap64 (x + 1 + 1 + 1 + 1 + 1) = x + 1 + 1 + 1 + 1 + 1 ∧ wrap64 (x + 1 + 1 + 1 + 1 + 1 + 1) = x + 1 + 1 + 1 + 1 + 1 + 1 :=
  ⟨wrap_id _ (by omega) (by omega), wrap_id _ (by omega) (by omega), wrap_id _ (by omega) (by omega), wrap_id _ (by omega) (by omega), wrap_id _ (by omega) (by omega), wrap_id _ (by omega) (by omega)⟩
theorem markE_loop : ∀ (rest pre : List S65) (x : Int), 0 ≤ x → x + 6 * rest.length ≤ 9000000000000000000 → pre.length + rest.length < 1000000000 → Ev (fun k => laws_markEntryS.l0 k (pre ++ rest) x (pre.length : Int)) (x + 6 * rest.length, pre ++ mEnts rest.length x)
  | [], pre, x, h0, h1, h2 => Ev.shift 1 fun k => by
    simp only [laws_markEntryS.l0]; rw [if_neg (by simp)]; simp [mEnts]
  | y :: rest, pre, x, h0, h1, h2 => by
    have hl : ((y :: rest).length : Int) = (rest.length : Int) + 1 := by simp
    have hl2 : (y :: rest).length = rest.length + 1 := by simp
    rw [hl] at h1
    rw [hl2] at h2
    have ih := markE_loop rest (pre ++ [mEnt x]) (x + 1 + 1 + 1 + 1 + 1 + 1) (by omega) (by omega) (by rw [List.length_append, List.length_singleton]; omega)
    rw [List.append_assoc, List.append_assoc, List.singleton_append, List.singleton_append, List.length_append, List.length_singleton] at ih
    have hs : ∀ b c : S65, (pre ++ b :: rest).set pre.length c = pre ++ c :: rest := fun b c => by rw [List.set_append_right _ _ (Nat.le_refl _), Nat.sub_self, List.set_cons_zero]
    have hr : ∀ b : S65, rd_T65 (pre ++ b :: rest) (pre.length : Int) = b := fun b => by unfold rd_T65; rw [Int.toNat_natCast]; simp
    have hx : x + 6 ≤ 9000000000000000000 := by omega
    have hp0 : (0 : Int) ≤ (pre.length : Int) := by omega
    obtain ⟨K0, k0⟩ := mkT_ev x (by omega) (by omega)
    obtain ⟨K1, k1⟩ := mkT_ev (x + 1) (by omega) (by omega)
    obtain ⟨K2, k2⟩ := mkT_ev (x + 1 + 1) (by omega) (by omega)
    obtain ⟨K5, k5⟩ := mkT_ev (x + 1 + 1 + 1 + 1 + 1) (by omega) (by omega)
    obtain ⟨K6, k6⟩ := ih
    refine ⟨K0 + K1 + K2 + K5 + K6 + 1, fun k hk => ?_⟩
    obtain ⟨k, rfl⟩ : ∃ m, k = m + 1 := ⟨k - 1, by omega⟩
    have j0 := k0 k (by omega)
    have j1 := k1 k (by omega)
    have j2 := k2 k (by omega)
    have j5 := k5 k (by omega)
    have j6 := k6 k (by omega)
    have e1 : x + 6 * ((y :: rest).length : Int) = x + 1 + 1 + 1 + 1 + 1 + 1 + 6 * (rest.length : Int) := by rw [hl]; omega
    have hlt : (pre.length : Int) < ((pre ++ y :: rest).length : Int) := by simp; omega
    have wj : wrap64 ((pre.length : Int) + 1) = ((pre.length + 1 : Nat) : Int) := wrap_nat _ (by omega)
    obtain ⟨w1, w2, w3, w4, w5, w6⟩ := wraps x h0 hx
    have e2 : pre ++ mEnts (y :: rest).length x = pre ++ mEnt x :: mEnts rest.length (x + 1 + 1 + 1 + 1 + 1 + 1) := rfl
    rw [e1, e2, ← j6]
    simp only [laws_markEntryS.l0]
    rw [if_pos hlt]
    simp only [w1, w2, w3, w4, w5, w6, j0, j1, j2, j5, Option.bind_some, hp0, if_true, Int.toNat_natCast, hs, hr, wj, mEnt]
theorem markE_is (xs : List S65) (x : Int) (h0 : 0 ≤ x) (h1 : x + 6 * xs.length ≤ 9000000000000000000) (hl : xs.length < 1000000000) : Ev (fun k => laws_markEntryS.f k xs x) (x + 6 * (xs.length : Int), mEnts xs.length x) :=
  markE_loop xs [] x h0 h1 (by simpa using hl)
/-! runs -/
def nRuns : List IR → Int → Int
  | [], x => x
  | b :: bs, x => nRuns bs (x + 6 * b.f0.length)
noncomputable def mRuns : List IR → Int → List IR
  | [], _ => []
  | b :: bs, x => ⟨mEnts b.f0.length x⟩ :: mRuns bs (x + 6 * b.f0.length)
theorem mRuns_len : ∀ (bs : List IR) (x : Int), (mRuns bs x).length = bs.length
  | [], x => rfl
  | b :: bs, x => by simp [mRuns, mRuns_len bs]
theorem nRuns_ge : ∀ (bs : List IR) (x : Int), x ≤ nRuns bs x
  | [], x => Int.le_refl _
  | b :: bs, x => by
    have := nRuns_ge bs (x + 6 * b.f0.length)
    simp only [nRuns]
    omega
theorem nRuns_le : ∀ (bs : List IR) (x : Int), (∀ q ∈ bs, q.f0.length ≤ 1048576) → nRuns bs x ≤ x + 6291456 * bs.length
  | [], x, h => by simp [nRuns]
  | b :: bs, x, h => by
    have h1 := nRuns_le bs (x + 6 * b.f0.length) (fun q hq => h q (List.mem_cons_of_mem _ hq))
    have h2 := h b List.mem_cons_self
    simp only [nRuns, List.length_cons]
    omega
/-! tablets -/
def nTabs : List IT → Int → Int
  | [], x => x
  | t :: ts, x => nTabs ts (nRuns t.f1 (x + 1))
noncomputable def mTabs : List IT → Int → List IT
  | [], _ => []
  | t :: ts, x => ⟨mkT x, mRuns t.f1 (x + 1)⟩ :: mTabs ts (nRuns t.f1 (x + 1))
theorem mTabs_len : ∀ (bs : List IT) (x : Int), (mTabs bs x).length = bs.length
  | [], x => rfl
  | b :: bs, x => by simp [mTabs, mTabs_len bs]
theorem nTabs_ge : ∀ (bs : List IT) (x : Int), x ≤ nTabs bs x
  | [], x => Int.le_refl _
  | b :: bs, x => by
    have := nTabs_ge bs (nRuns b.f1 (x + 1))
    have := nRuns_ge b.f1 (x + 1)
    simp only [nTabs]
    omega
end Go.Proofs.Ytjlggfdmfchncaa.Q

namespace Go.Proofs.Ytjlggfdmfchncaa.Q
open Go.RowKit Go.Proofs.YtjlggfdmfchncaaW.PrintWords Go.Proofs.YtjlggfdmfchncaaW.PrintLast Go.Proofs.YtjlggfdmfchncaaW.PrintMore
set_option linter.unusedVariables false
set_option linter.unusedSimpArgs false
theorem markE_call (w0 w : World) (P : Nat → Prop) (v : Value) (l : List S65) (x : Int) (hB : Below w0.heap.size w0 w) (h : Kd.R k65 65 w w0.heap.size P v l) (h0 : 0 ≤ x) (h1 : x + 6 * l.length ≤ 9000000000000000000) (hl : l.length < 1000000000) :
    Calls Try.prog 58 #[v, .int .i64 x] w fun e w' => e = .returned (.int .i64 (x + 6 * l.length)) ∧ Kd.R k65 65 w' w0.heap.size P v (mEnts l.length x) ∧ w.grownBy w' v.ownBlock := by
  obtain ⟨K, hK⟩ := markE_is l x h0 h1 hl
  refine (laws_markEntryS.calls K (fun k => some k = v.ownBlock) v l x _ _ w0 w hB (Kd.R_tight rfl h) (hK K (Nat.le_refl _))).mono ?_
  rintro e w' ⟨rfl, hR, hb, hk⟩
  refine ⟨rfl, Kd.R_reok rfl hR (fun k hk => h.1 k hk), hb.os.trans hB.os.symm, hb.tape.trans hB.tape.symm, hb.output.trans hB.output.symm, hk.1, fun k hlt hne => hk.2 k hlt hne⟩
theorem below_kept0 {w0 w W : World} {P : Nat → Prop} {r : Option Nat} (h0 : Below w0.heap.size w0 w) (hg : w.grownBy W r) (hr : ∀ k, r = some k → w0.heap.size ≤ k) : Below w0.heap.size w0 W :=
  ⟨hg.os.trans h0.os, hg.tape.trans h0.tape, hg.output.trans h0.output, Nat.le_trans h0.size hg.size, fun k hk => (hg.block k (Nat.lt_of_lt_of_le hk h0.size) (fun he => by have := hr k he.symm; omega)).trans (h0.block k hk)⟩
set_option maxHeartbeats 4000000 in
set_option maxRecDepth 100000 in
theorem markR_call (w0 w : World) (P : Nat → Prop) (v : Value) (l : List IR) (x : Int) (hB : Below w0.heap.size w0 w) (h : Kd.S k60 60 w w0.heap.size P v l) (h0 : 0 ≤ x) (hq : ∀ q ∈ l, q.f0.length ≤ 1048576) (h1 : x + 6291456 * l.length ≤ 9000000000000000000) (hl : l.length ≤ 1048576) :
    Calls Try.prog 45 #[v, .int .i64 x] w fun e w' => e = .returned (.int .i64 (nRuns l x)) ∧ Kd.S k60 60 w' w0.heap.size P v (mRuns l x) ∧ Below w0.heap.size w0 w' ∧ Kept w w' P := by
  obtain ⟨Av, cv, rfl⟩ := Kd.S_slice h
  have HS := Aside0.mk h
  have HK := Aside0.mk (And.intro hB (Kept.refl w P))
  have H0 := Aside0.mk (And.intro h0 (And.intro hq (And.intro h1 hl)))
  clear h h0 hq h1 hl hB
  obtain ⟨n, hn⟩ : ∃ n, l.length = n := ⟨_, rfl⟩
  rw [hn] at HS ⊢
  have HN := Aside0.mk hn
  clear hn
  go_enter Try.func45, Try.ntmps45
  go_wp2_with fail
  go_loopw [1, 5] (fun v1 v5 W => ∃ (j : Nat) (pre bs : List IR) (y : Int), v5 = .int .i64 j ∧ v1 = .int .i64 y ∧ pre.length = j ∧ pre.length + bs.length = n ∧ Aside0 (mRuns l x = pre ++ mRuns bs y ∧ nRuns l x = nRuns bs y ∧ 0 ≤ y ∧ y + 6291456 * bs.length ≤ 9000000000000000000 ∧ ∀ q ∈ bs, q.f0.length ≤ 1048576) ∧ Aside0 (Kd.S k60 60 W w0.heap.size P (.slice Av n cv) (pre ++ bs)) ∧ Aside0 (Below w0.heap.size w0 W ∧ Kept w W P)) (fun _ v5 _ => n - (intOf v5).toNat)
  case atStart => exact ⟨0, [], l, x, rfl, rfl, rfl, by simpa using HN.out, ⟨rfl, rfl, H0.out.1, H0.out.2.2.1, H0.out.2.1⟩, HS, HK⟩
  case round =>
    clear HS HK
    obtain ⟨j, pre, bs, y, rfl, rfl, hp, hpb, HM, HS, HK⟩ := hrel
    cases bs with
    | nil =>
      obtain rfl : j = n := by simpa [hp] using hpb
      have dl : decide ((j : Int) < (j : Int)) = false := decide_eq_false (by omega)
      go_wp2
      go_ret
      refine ⟨?_, ?_, HK.out⟩
      · rw [HM.out.2.1]; rfl
      · have := HM.out.1
        simp only [mRuns, List.append_nil] at this
        rw [this]
        have h2 := HS.out
        rw [List.append_nil] at h2
        exact h2
    | cons b rest =>
      have hlt : j < n := by rw [List.length_cons] at hpb; omega
      have dl : decide ((j : Int) < (n : Int)) = true := decide_eq_true (by omega)
      have hwj : IntKind.i64.wrap ((j : Int) + 1) = ((j + 1 : Nat) : Int) := by have := H0.out.2.2.2; have := HN.out; rw [IntKind.wrap_i64]; omega
      obtain ⟨g, cap, e4, hgB, hgl, -⟩ := Kd.S_form HS.out (by rw [List.length_append, List.length_cons]; omega)
      injection e4 with e5 e6 e7
      clear e6 e7
      subst e5
      obtain ⟨oki, c, hcl, hM, hcc, hfr, hoki, hH⟩ := Kd.S_elem HS.out b (j : Int) (by omega) (by omega)
      rw [Int.toNat_natCast, show (pre ++ b :: rest).getD j b = b from by simp [List.getD_eq_getElem?_getD, ← hp]] at hM
      obtain ⟨v0, rfl, hR⟩ := k60_openM hM
      obtain ⟨A0, c0, rfl⟩ := Kd.R_slice hR
      have y0 : wr.cell? ⟨g, j, none⟩ = some (.slice A0 b.f0.length c0) := by have := hcc 0 _ rfl; rw [Int.toNat_natCast] at this; have h1 : wr.cell? ⟨g, j * 1 + 0, none⟩ = some (.slice A0 b.f0.length c0) := this; rwa [Nat.mul_one, Nat.add_zero] at h1
      have hb1 : b.f0.length ≤ 1048576 := HM.out.2.2.2.2 b List.mem_cons_self
      have hy : 0 ≤ y ∧ y + 6 * (b.f0.length : Int) ≤ 9000000000000000000 ∧ (y + 6 * (b.f0.length : Int)) + 6291456 * rest.length ≤ 9000000000000000000 := by
        have h2 := HM.out.2.2
        rw [List.length_cons] at h2
        have := h2.2.1
        omega
      have HX := Aside0.mk (And.intro hR (And.intro hoki (And.intro hH (And.intro hy hb1))))
      have HPB := Aside0.mk (And.intro hp (And.intro hpb hlt))
      clear hM hcc hfr hoki hH hR hcl hgB hgl hy hp hpb hb1
      go_wp2_with fail
      refine (markE_call w0 wr oki (.slice A0 b.f0.length c0) b.f0 y HK.out.1 HX.out.1 HX.out.2.2.2.1.1 HX.out.2.2.2.1.2.1 (by have := HX.out.2.2.2.2; omega)).mono ?_
      rintro ex W1 ⟨rfl, hR1, hg1⟩
      have HY := Aside0.mk (And.intro hR1 hg1)
      clear hR1 hg1 y0
      go_wp2_with fail
      go_roundw
      case measure => have := HPB.out.2.2; simp only [intOf]; omega
      case rel =>
        obtain ⟨hp, hpb, hlt⟩ := HPB.out
        have hH1 := Kd.H_grown HX.out.2.2.1 HY.out.2 (fun k hk => HX.out.1.1 k hk)
        have hS2 := Kd.H_back hH1 (x' := (⟨mEnts b.f0.length y⟩ : IR)) (okp := oki)
          (show k60.M W1 w0.heap.size oki (⟨mEnts b.f0.length y⟩ : IR) [.slice A0 b.f0.length c0] from k60_mkM W1 w0.heap.size oki ⟨mEnts b.f0.length y⟩ HY.out.1) (fun k hk => hk)
        rw [Int.toNat_natCast, show (pre ++ b :: rest).set j (⟨mEnts b.f0.length y⟩ : IR) = (pre ++ [⟨mEnts b.f0.length y⟩]) ++ rest from by rw [← hp, List.set_append_right _ _ (Nat.le_refl _), Nat.sub_self, List.set_cons_zero]; simp] at hS2
        have hown : ∀ k, Value.ownBlock (.slice A0 b.f0.length c0) = some k → P k ∧ w0.heap.size ≤ k := fun k hk => ⟨(HX.out.2.1 k (HX.out.1.1 k hk)).1, Kd.R_base HX.out.1 k hk⟩
        refine ⟨j + 1, pre ++ [⟨mEnts b.f0.length y⟩], rest, y + 6 * b.f0.length, by rw [Int.natCast_add]; rfl, rfl, by rw [List.length_append, List.length_singleton, hp], by rw [List.length_append, List.length_singleton]; rw [List.length_cons] at hpb; omega, ⟨?_, ?_, ?_, ?_, ?_⟩, ⟨hS2⟩, ⟨below_kept0 (P := P) HK.out.1 HY.out.2 (fun k hk => (hown k hk).2), ?_⟩⟩
        · rw [HM.out.1]; simp [mRuns]
        · rw [HM.out.2.1]; rfl
        · have := HX.out.2.2.2.1; omega
        · exact HX.out.2.2.2.1.2.2
        · exact fun q hq => HM.out.2.2.2.2 q (List.mem_cons_of_mem _ hq)
        · exact Kept.of_grown HY.out.2 HK.out.2 (fun k hk => .inl (hown k hk).1)
end Go.Proofs.Ytjlggfdmfchncaa.Q

namespace Go.Proofs.Ytjlggfdmfchncaa.Q
open Go.RowKit Go.Proofs.YtjlggfdmfchncaaW.PrintWords Go.Proofs.YtjlggfdmfchncaaW.PrintLast Go.Proofs.YtjlggfdmfchncaaW.PrintMore
set_option linter.unusedVariables false
set_option linter.unusedSimpArgs false
set_option maxHeartbeats 4000000 in
set_option maxRecDepth 100000 in
theorem markT_call (w0 w : World) (P : Nat → Prop) (v : Value) (l : List IT) (x : Int) (hB : Below w0.heap.size w0 w) (h : Kd.S kTb 40 w w0.heap.size P v l) (h0 : 0 ≤ x) (hq : ∀ q ∈ l, smT q) (h1 : x + 6597069766657 * l.length ≤ 9000000000000000000) (hl : l.length ≤ 1048576) :
    Calls Try.prog 26 #[v, .int .i64 x] w fun e w' => e = .returned (.int .i64 (nTabs l x)) ∧ Kd.S kTb 40 w' w0.heap.size P v (mTabs l x) ∧ Below w0.heap.size w0 w' ∧ Kept w w' P := by
  obtain ⟨Av, cv, rfl⟩ := Kd.S_slice h
  have HS := Aside0.mk h
  have HK := Aside0.mk (And.intro hB (Kept.refl w P))
  have H0 := Aside0.mk (And.intro h0 (And.intro hq (And.intro h1 hl)))
  clear h h0 hq h1 hl hB
  obtain ⟨n, hn⟩ : ∃ n, l.length = n := ⟨_, rfl⟩
  rw [hn] at HS ⊢
  have HN := Aside0.mk hn
  clear hn
  go_enter Try.func26, Try.ntmps26
  go_wp2_with fail
  go_loopw [1, 5] (fun v1 v5 W => ∃ (j : Nat) (pre bs : List IT) (y : Int), v5 = .int .i64 j ∧ v1 = .int .i64 y ∧ pre.length = j ∧ pre.length + bs.length = n ∧ Aside0 (mTabs l x = pre ++ mTabs bs y ∧ nTabs l x = nTabs bs y ∧ 0 ≤ y ∧ y + 6597069766657 * bs.length ≤ 9000000000000000000 ∧ ∀ q ∈ bs, smT q) ∧ Aside0 (Kd.S kTb 40 W w0.heap.size P (.slice Av n cv) (pre ++ bs)) ∧ Aside0 (Below w0.heap.size w0 W ∧ Kept w W P)) (fun _ v5 _ => n - (intOf v5).toNat)
  case atStart => exact ⟨0, [], l, x, rfl, rfl, rfl, by simpa using HN.out, ⟨rfl, rfl, H0.out.1, H0.out.2.2.1, H0.out.2.1⟩, HS, HK⟩
  case round =>
    clear HS HK
    obtain ⟨j, pre, bs, y, rfl, rfl, hp, hpb, HM, HS, HK⟩ := hrel
    cases bs with
    | nil =>
      obtain rfl : j = n := by simpa [hp] using hpb
      have dl : decide ((j : Int) < (j : Int)) = false := decide_eq_false (by omega)
      go_wp2
      go_ret
      refine ⟨?_, ?_, HK.out⟩
      · rw [HM.out.2.1]; rfl
      · have := HM.out.1
        simp only [mTabs, List.append_nil] at this
        rw [this]
        have h2 := HS.out
        rw [List.append_nil] at h2
        exact h2
    | cons b rest =>
      have hlt : j < n := by rw [List.length_cons] at hpb; omega
      have dl : decide ((j : Int) < (n : Int)) = true := decide_eq_true (by omega)
      have hwj : IntKind.i64.wrap ((j : Int) + 1) = ((j + 1 : Nat) : Int) := by have := H0.out.2.2.2; have := HN.out; rw [IntKind.wrap_i64]; omega
      have hb1 : smT b := HM.out.2.2.2.2 b List.mem_cons_self
      have hnr := nRuns_ge b.f1 (y + 1)
      have hnl := nRuns_le b.f1 (y + 1) hb1.2
      have hb2 := hb1.1
      have hy0 : 0 ≤ y := HM.out.2.2.1
      have hy1 : y + 6597069766657 * ((rest.length : Int) + 1) ≤ 9000000000000000000 := by have := HM.out.2.2.2.1; rw [List.length_cons] at this; omega
      have hwy : IntKind.i64.wrap (y + 1) = y + 1 := by clear hwj dl; rw [IntKind.wrap_i64]; omega
      have hy : 0 ≤ y ∧ y ≤ 9000000000000000000 ∧ (y + 1) + 6291456 * (b.f1.length : Int) ≤ 9000000000000000000 ∧ 0 ≤ nRuns b.f1 (y + 1) ∧ nRuns b.f1 (y + 1) + 6597069766657 * rest.length ≤ 9000000000000000000 := by clear hwj dl hwy; omega
      have HX := Aside0.mk (And.intro hy hb1)
      have HPB := Aside0.mk (And.intro hp (And.intro hpb hlt))
      obtain ⟨g, cap, e4, hgB, hgl, -⟩ := Kd.S_form HS.out (by rw [List.length_append, List.length_cons]; omega)
      injection e4 with e5 e6 e7
      clear e6 e7
      subst e5
      clear hgB hgl hy hb1 hnr hnl hb2 hy0 hy1 hp hpb
      go_wp2_with fail
      refine (mkT_call y HX.out.1.1 (by have := HX.out.1.2.1; omega) wr).mono ?_
      rintro ex W1 ⟨rfl, hb⟩
      obtain ⟨oki, c, hcl, hM, hcc, hfr, hoki, hH⟩ := Kd.S_elem (Kd.S_below HS.out hb) b (j : Int) (by omega) (by omega)
      rw [Int.toNat_natCast, show (pre ++ b :: rest).getD j b = b from by simp [List.getD_eq_getElem?_getD, ← HPB.out.1]] at hM
      obtain ⟨v0, rfl, hR⟩ := kTb_openM hM
      have y0 : W1.cell? ⟨g, j * 2, none⟩ = some (.string b.f0) := by have := hcc 0 _ rfl; rw [Int.toNat_natCast] at this; exact this
      have f0 : W1.frozen? ⟨g, j * 2, none⟩ = false := by have := hfr 0; rw [Int.toNat_natCast] at this; exact this
      obtain ⟨A0, c0, rfl⟩ := Kd.S_slice hR
      have y1 : W1.cell? ⟨g, j * 2 + 1, none⟩ = some (.slice A0 b.f1.length c0) := by have := hcc 1 _ rfl; rw [Int.toNat_natCast] at this; exact this
      obtain ⟨hH2, hg2⟩ := Kd.H_seg hH (by omega) (by omega) (seg := [.string (mkT y)]) (j := 0) (show 0 + 1 ≤ 2 by omega) (fun q hq => by rw [List.mem_singleton.1 hq]; rfl)
      have hH2 : Kd.H kTb 40 (W1.setCell ⟨g, j * 2, none⟩ (.string (mkT y))) w0.heap.size P (.slice (some ⟨g, 0, none⟩) n cv) (pre ++ b :: rest) (j : Int) oki [.string (mkT y), .slice A0 b.f1.length c0] := by rw [Int.toNat_natCast] at hH2; exact hH2
      have hg2 : W1.grownBy (W1.setCell ⟨g, j * 2, none⟩ (.string (mkT y))) (some g) := by rw [Int.toNat_natCast] at hg2; exact hg2
      have hPg : P g ∧ w0.heap.size ≤ g := ⟨(Kd.S_R HS.out).1 g rfl, Kd.S_base HS.out g rfl⟩
      obtain ⟨W2, hW2⟩ : ∃ W, W = W1.setCell ⟨g, j * 2, none⟩ (.string (mkT y)) := ⟨_, rfl⟩
      rw [← hW2] at hH2 hg2
      have hb1 : Below w0.heap.size w0 W1 := HK.out.1.trans (hb.mono HK.out.1.size)
      have HK2 := Aside0.mk (show Below w0.heap.size w0 W2 ∧ Kept w W2 P from ⟨below_kept0 (P := P) hb1 hg2 (fun k hk => by cases hk; exact hPg.2), Kept.of_grown hg2 (HK.out.2.below hb) (fun k hk => by cases hk; exact .inl hPg.1)⟩)
      have HY := Aside0.mk (And.intro (Kd.S_grown hR hg2 (fun k hk e => (hoki k hk).2 (by injection e))) (And.intro hoki hH2))
      clear hM hcc hfr hoki hH hR hcl hb hH2 hg2 hb1 HK HS hPg
      go_wp2_with fail
      rw [← hW2]
      clear hW2 y0 f0 y1
      refine (markR_call w0 W2 oki (.slice A0 b.f1.length c0) b.f1 (y + 1) HK2.out.1 HY.out.1 (by have := HX.out.1.1; omega) HX.out.2.2 HX.out.1.2.2.1 HX.out.2.1).mono ?_
      rintro ex W3 ⟨rfl, hS3, hb3, hk3⟩
      have hH3 := Kd.H_kept HY.out.2.2 hk3 (fun k h1 h2 => h2)
      have HZ := Aside0.mk (And.intro hS3 (And.intro hb3 (And.intro hk3 hH3)))
      clear hS3 hb3 hk3 hH3
      go_wp2_with fail
      go_roundw
      case measure => have := HPB.out.2.2; simp only [intOf]; omega
      case rel =>
        obtain ⟨hp, hpb, hlt⟩ := HPB.out
        have hS4 := Kd.H_back HZ.out.2.2.2 (x' := (⟨mkT y, mRuns b.f1 (y + 1)⟩ : IT)) (okp := oki) (by have h := kTb_mkM W3 w0.heap.size oki (⟨mkT y, mRuns b.f1 (y + 1)⟩ : IT) (v0 := .slice A0 b.f1.length c0) HZ.out.1; exact h) (fun k hk => hk)
        rw [Int.toNat_natCast, show (pre ++ b :: rest).set j (⟨mkT y, mRuns b.f1 (y + 1)⟩ : IT) = (pre ++ [⟨mkT y, mRuns b.f1 (y + 1)⟩]) ++ rest from by rw [← hp, List.set_append_right _ _ (Nat.le_refl _), Nat.sub_self, List.set_cons_zero]; simp] at hS4
        refine ⟨j + 1, pre ++ [⟨mkT y, mRuns b.f1 (y + 1)⟩], rest, nRuns b.f1 (y + 1), by rw [Int.natCast_add]; rfl, rfl, by rw [List.length_append, List.length_singleton, hp], by rw [List.length_append, List.length_singleton]; rw [List.length_cons] at hpb; omega, ⟨?_, ?_, ?_, ?_, ?_⟩, ⟨hS4⟩, ⟨HZ.out.2.1, ?_⟩⟩
        · rw [HM.out.1]; simp [mTabs]
        · rw [HM.out.2.1]; rfl
        · exact HX.out.1.2.2.2.1
        · exact HX.out.1.2.2.2.2
        · exact fun q hq => HM.out.2.2.2.2 q (List.mem_cons_of_mem _ hq)
        · exact HK2.out.2.then_ HZ.out.2.2.1 (fun k hk => .inl (HY.out.2.1 k hk).1)
set_option maxHeartbeats 4000000 in
set_option maxRecDepth 100000 in
theorem markS_call (w0 w : World) (P : Nat → Prop) (v : Value) (l : List IT) (hB : Below w0.heap.size w0 w) (h : Kd.S kTb 40 w w0.heap.size P v l) (hs : SmS l) :
    Calls Try.prog 10 #[.agg #[v], .int .i64 1] w fun e w' => e = .returned (.int .i64 (nTabs l 1)) ∧ Kd.S kTb 40 w' w0.heap.size P v (mTabs l 1) ∧ Below w0.heap.size w0 w' ∧ Kept w w' P := by
  have kr : K0 (Below w.heap.size w w) := ⟨Below.refl _ _⟩
  obtain ⟨Av, cv, rfl⟩ := Kd.S_slice h
  obtain ⟨wb, hwb⟩ : ∃ wb, wb = w.alloc (.cells #[.slice Av l.length cv] 28) := ⟨_, rfl⟩
  have hb : Below w.heap.size w wb := hwb ▸ kk
  have hh : wb.heap[w.heap.size]? = some (.cells #[.slice Av l.length cv] 28 (0, 0)) := hwb ▸ heap_alloc_new w _
  have c0 : wb.cell? ⟨w.heap.size, 0, none⟩ = some (.slice Av l.length cv) := (blk_cell hh 0).trans rfl
  have H := Aside0.mk (And.intro hb (And.intro (Kd.S_below h hb) (And.intro hs (hB.trans (hb.mono hB.size)))))
  clear hb hh h hs hB
  go_enter Try.func10, Try.ntmps10
  go_wp2_with fail
  rw [← hwb]
  clear hwb
  refine (markT_call w0 wb P _ l 1 H.out.2.2.2 H.out.2.1 (by omega) H.out.2.2.1.2 (by have := H.out.2.2.1.1; omega) H.out.2.2.1.1).mono ?_
  rintro ex W1 ⟨rfl, hR1, hb1, hk1⟩
  have HY := Aside0.mk (And.intro hR1 (And.intro hb1 ((Kept.of_below H.out.1 P).then_ hk1 (fun k hk => .inl hk))))
  clear hR1 hb1 hk1
  go_wp2
  go_ret
  exact ⟨rfl, HY.out⟩
end Go.Proofs.Ytjlggfdmfchncaa.Q

namespace Go.Proofs.Ytjlggfdmfchncaa.Q
open Go.RowKit Go.Proofs.YtjlggfdmfchncaaW.PrintWords Go.Proofs.YtjlggfdmfchncaaW.PrintLast Go.Proofs.YtjlggfdmfchncaaW.PrintMore
set_option linter.unusedVariables false
set_option linter.unusedSimpArgs false
theorem mEnts_get : ∀ (d : Nat) (x : Int) (j : Nat), j < d → (mEnts d x)[j]? = some (mEnt (x + 6 * (j : Nat)))
  | 0, _, j, h => absurd h (Nat.not_lt_zero j)
  | d + 1, x, 0, h => by simp [mEnts]
  | d + 1, x, j + 1, h => by
    have := mEnts_get d (x + 1 + 1 + 1 + 1 + 1 + 1) j (by omega)
    rw [show mEnts (d + 1) x = mEnt x :: mEnts d (x + 1 + 1 + 1 + 1 + 1 + 1) from rfl, List.getElem?_cons_succ, this]
    congr 2
    omega
theorem six_up (y : Int) (h0 : 0 ≤ y) (h1 : y + 6 ≤ 9000000000000000000) : ∃ k1 k2 k3 k4 k5 k6 : Int, IntKind.i64.wrap (y + 1) = k1 ∧ IntKind.i64.wrap (k1 + 1) = k2 ∧ IntKind.i64.wrap (k2 + 1) = k3 ∧ IntKind.i64.wrap (k3 + 1) = k4 ∧ IntKind.i64.wrap (k4 + 1) = k5 ∧ IntKind.i64.wrap (k5 + 1) = k6 ∧ mEnt y = ⟨mkT y, mkT k1, mkT k2, IntKind.u64.wrap k3, k4, mkT k5⟩ ∧ k1 = y + 1 ∧ k2 = y + 2 ∧ k3 = y + 3 ∧ k4 = y + 4 ∧ k5 = y + 5 ∧ k6 = y + 6 := by
  have w : ∀ z : Int, 0 ≤ z → z + 1 ≤ 9000000000000000000 → IntKind.i64.wrap (z + 1) = z + 1 := fun z a b => by rw [IntKind.wrap_i64]; omega
  exact ⟨y + 1, y + 1 + 1, y + 1 + 1 + 1, y + 1 + 1 + 1 + 1, y + 1 + 1 + 1 + 1 + 1, y + 1 + 1 + 1 + 1 + 1 + 1, w _ (by omega) (by omega), w _ (by omega) (by omega), w _ (by omega) (by omega), w _ (by omega) (by omega), w _ (by omega) (by omega), w _ (by omega) (by omega), rfl, rfl, by omega, by omega, by omega, by omega, by omega⟩
set_option maxHeartbeats 8000000 in
set_option maxRecDepth 100000 in
theorem heldE_call (A : Option Addr) (d c : Nat) (x : Int) (w : World) (hr : Kd.C k65 w A d (mEnts d x)) (h0 : 0 ≤ x) (h1 : x + 6 * d ≤ 9000000000000000000) (hd : d ≤ 1048576) :
    Calls Try.prog 59 #[.slice A d c, .int .i64 x] w fun e w' => e = .returned (.int .i64 (x + 6 * d)) ∧ Below w.heap.size w w' := by
  have kr : K0 (Below w.heap.size w w) := ⟨Below.refl _ _⟩
  have HR := Aside0.mk hr
  have H0 := Aside0.mk (And.intro h0 (And.intro h1 hd))
  have HB0 := Aside0.mk (Below.refl w.heap.size w)
  clear hr h0 h1 hd
  go_enter Try.func59, Try.ntmps59
  go_wp2_with fail
  go_loopw [1, 5] (fun v1 v5 W => ∃ (j : Nat), j ≤ d ∧ v5 = .int .i64 j ∧ v1 = .int .i64 (x + 6 * (j : Nat)) ∧ Aside0 (Below w.heap.size w W)) (fun _ v5 _ => d - (intOf v5).toNat)
  case atStart => exact ⟨0, by omega, rfl, by simp, HB0⟩
  case round =>
    clear HB0
    obtain ⟨j, hj, rfl, rfl, HB⟩ := hrel
    have kW : K0 (Below w.heap.size w wr) := ⟨HB.out⟩
    by_cases hlt : j < d
    · have dl : decide ((j : Int) < (d : Int)) = true := decide_eq_true (by omega)
      have hwj : IntKind.i64.wrap ((j : Int) + 1) = ((j + 1 : Nat) : Int) := by have := H0.out.2.2; rw [IntKind.wrap_i64]; omega
      obtain ⟨y, hy⟩ : ∃ y : Int, y = x + 6 * (j : Nat) := ⟨_, rfl⟩
      have hyb : 0 ≤ y ∧ y + 6 ≤ 9000000000000000000 := by have := H0.out; clear hwj; omega
      obtain ⟨K1', K2', K3', K4', K5', K6', w1, w2, w3, w4, w5, w6, hm, e1, e2, e3, e4, e5, e6⟩ := six_up y hyb.1 hyb.2
      obtain ⟨ad, e0, hx⟩ := at_T65 HR.out (j : Int) (by clear hwj w1 w2 w3 w4 w5 w6; omega) (by clear hwj w1 w2 w3 w4 w5 w6; omega)
      subst e0
      rw [Int.toNat_natCast, show rd_T65 (mEnts d x) (j : Int) = (⟨mkT y, mkT K1', mkT K2', IntKind.u64.wrap K3', K4', mkT K5'⟩ : S65) from by
        rw [← hm, hy]; unfold rd_T65; rw [Int.toNat_natCast, List.getD_eq_getElem?_getD, mEnts_get d x j hlt]; rfl] at hx
      obtain ⟨y0, y1, y2, y3, y4, y5⟩ := hx
      have y0 := clk y0
      have y1 := clk y1
      have y2 := clk y2
      have y3 := clk y3
      have y4 := clk y4
      have y5 := clk y5
      rw [← hy]
      have HY := Aside0.mk (And.intro hyb (And.intro hy (And.intro e1 (And.intro e2 (And.intro e3 (And.intro e4 (And.intro e5 e6)))))))
      clear hm hyb hy e1 e2 e3 e4 e5 e6
      go_upto_region 4 with (fail)
      have kd4 : K0 (Below w.heap.size w wr.drew) := ⟨below_drew1 kW.out⟩
      refine sq_region (S := fun W' => K0 (Below w.heap.size w W')) [(0, false), (1, false), (2, false), (3, false), (4, false), (5, false), (6, true), (7, false)] (by kernel_rfl) (by kernel_rfl) kd4 (fun hS => ?_)
      repeat (refine sq_n ?_ ?_ rfl ?_ ?_ ?_; rotate_left 2; (intro W hW; go_simp; first | done | with_reducible rfl); (simp only [List.setIfInBounds_toArray, List.set_cons_zero, List.set_cons_succ]; try rfl))
      refine sq_1n rfl (fun hS KK hKK => ?_)
      go_simp
      go_at_call 44
      refine (mkT_call y (by have := HY.out; omega) (by have := HY.out; omega) wr.drew).mono ?_
      rintro ex T4 ⟨rfl, hb⟩
      have k4 : K0 (Below w.heap.size w T4) := ⟨kd4.out.trans (hb.mono kd4.out.size)⟩
      clear hb
      refine hKK.out _ _ k4 (fun hS => ?_)
      repeat (refine sq_n ?_ ?_ rfl ?_ ?_ ?_; rotate_left 2; (intro W hW; go_simp; first | done | with_reducible rfl); (simp only [List.setIfInBounds_toArray, List.set_cons_zero, List.set_cons_succ]; try rfl))
      refine sq_done (fun hS => ?_)
      clear hS hKK kd4
      go_upto_region 7 with (fail)
      have kd7 : K0 (Below w.heap.size w T4.drew) := ⟨below_drew1 k4.out⟩
      refine sq_region (S := fun W' => K0 (Below w.heap.size w W')) [(0, false), (1, false), (2, false), (3, false), (4, false), (5, false), (6, true), (7, false)] (by kernel_rfl) (by kernel_rfl) kd7 (fun hS => ?_)
      repeat (refine sq_n ?_ ?_ rfl ?_ ?_ ?_; rotate_left 2; (intro W hW; go_simp; first | done | with_reducible rfl); (simp only [List.setIfInBounds_toArray, List.set_cons_zero, List.set_cons_succ]; try rfl))
      refine sq_1n rfl (fun hS KK hKK => ?_)
      go_simp
      go_at_call 44
      refine (mkT_call K1' (by have := HY.out; omega) (by have := HY.out; omega) T4.drew).mono ?_
      rintro ex T7 ⟨rfl, hb⟩
      have k7 : K0 (Below w.heap.size w T7) := ⟨kd7.out.trans (hb.mono kd7.out.size)⟩
      clear hb
      refine hKK.out _ _ k7 (fun hS => ?_)
      repeat (refine sq_n ?_ ?_ rfl ?_ ?_ ?_; rotate_left 2; (intro W hW; go_simp; first | done | with_reducible rfl); (simp only [List.setIfInBounds_toArray, List.set_cons_zero, List.set_cons_succ]; try rfl))
      refine sq_done (fun hS => ?_)
      clear hS hKK kd7
      go_upto_region 10 with (fail)
      have kd10 : K0 (Below w.heap.size w T7.drew) := ⟨below_drew1 k7.out⟩
      refine sq_region (S := fun W' => K0 (Below w.heap.size w W')) [(0, false), (1, false), (2, false), (3, false), (4, false), (5, false), (6, true), (7, false)] (by kernel_rfl) (by kernel_rfl) kd10 (fun hS => ?_)
      repeat (refine sq_n ?_ ?_ rfl ?_ ?_ ?_; rotate_left 2; (intro W hW; go_simp; first | done | with_reducible rfl); (simp only [List.setIfInBounds_toArray, List.set_cons_zero, List.set_cons_succ]; try rfl))
      refine sq_1n rfl (fun hS KK hKK => ?_)
      go_simp
      go_at_call 44
      refine (mkT_call K2' (by have := HY.out; omega) (by have := HY.out; omega) T7.drew).mono ?_
      rintro ex T10 ⟨rfl, hb⟩
      have k10 : K0 (Below w.heap.size w T10) := ⟨kd10.out.trans (hb.mono kd10.out.size)⟩
      clear hb
      refine hKK.out _ _ k10 (fun hS => ?_)
      repeat (refine sq_n ?_ ?_ rfl ?_ ?_ ?_; rotate_left 2; (intro W hW; go_simp; first | done | with_reducible rfl); (simp only [List.setIfInBounds_toArray, List.set_cons_zero, List.set_cons_succ]; try rfl))
      refine sq_done (fun hS => ?_)
      clear hS hKK kd10
      go_upto_region 19 with (fail)
      have kd19 : K0 (Below w.heap.size w T10.drew) := ⟨below_drew1 k10.out⟩
      refine sq_region (S := fun W' => K0 (Below w.heap.size w W')) [(0, false), (1, false), (2, false), (3, false), (4, false), (5, false), (6, true), (7, false)] (by kernel_rfl) (by kernel_rfl) kd19 (fun hS => ?_)
      repeat (refine sq_n ?_ ?_ rfl ?_ ?_ ?_; rotate_left 2; (intro W hW; go_simp; first | done | with_reducible rfl); (simp only [List.setIfInBounds_toArray, List.set_cons_zero, List.set_cons_succ]; try rfl))
      refine sq_1n rfl (fun hS KK hKK => ?_)
      go_simp
      go_at_call 44
      refine (mkT_call K5' (by have := HY.out; omega) (by have := HY.out; omega) T10.drew).mono ?_
      rintro ex T19 ⟨rfl, hb⟩
      have k19 : K0 (Below w.heap.size w T19) := ⟨kd19.out.trans (hb.mono kd19.out.size)⟩
      clear hb
      refine hKK.out _ _ k19 (fun hS => ?_)
      repeat (refine sq_n ?_ ?_ rfl ?_ ?_ ?_; rotate_left 2; (intro W hW; go_simp; first | done | with_reducible rfl); (simp only [List.setIfInBounds_toArray, List.set_cons_zero, List.set_cons_succ]; try rfl))
      refine sq_done (fun hS => ?_)
      clear hS hKK kd19
      go_wp2_with fail
      go_roundw
      case measure => simp only [intOf]; omega
      case rel =>
        have hk := HY.out
        refine ⟨j + 1, by omega, by rw [Int.natCast_add]; rfl, congrArg (Value.int .i64) (by clear hwj w1 w2 w3 w4 w5 w6; rw [Int.natCast_add]; omega), ⟨k19.out⟩⟩
    · obtain rfl : j = d := by omega
      have dl : decide ((j : Int) < (j : Int)) = false := decide_eq_false (by omega)
      go_wp2
      go_ret
      exact ⟨rfl, HB.out⟩
set_option maxHeartbeats 4000000 in
set_option maxRecDepth 100000 in
theorem heldR_call (A : Option Addr) (c : Nat) (l : List IR) (x : Int) (w : World) (hr : Kd.C k60 w A l.length (mRuns l x)) (hc : l.length ≤ c) (h0 : 0 ≤ x) (hq : ∀ q ∈ l, q.f0.length ≤ 1048576) (h1 : x + 6291456 * l.length ≤ 9000000000000000000) (hl : l.length ≤ 1048576) :
    Calls Try.prog 46 #[.slice A l.length c, .int .i64 x] w fun e w' => e = .returned (.int .i64 (nRuns l x)) ∧ Below w.heap.size w w' := by
  have kr : K0 (Below w.heap.size w w) := ⟨Below.refl _ _⟩
  obtain ⟨n, hn⟩ : ∃ n, l.length = n := ⟨_, rfl⟩
  have HB0 := Aside0.mk (Below.refl w.heap.size w)
  have H0 := Aside0.mk (And.intro h0 (And.intro hq (And.intro h1 (And.intro hl hn))))
  rw [hn] at hr ⊢
  have HR := Aside0.mk hr
  clear hr h0 hq h1 hl hn hc
  go_enter Try.func46, Try.ntmps46
  go_wp2_with fail
  go_loopw [1, 5] (fun v1 v5 W => ∃ (j : Nat) (pre bs : List IR) (y : Int), v5 = .int .i64 j ∧ v1 = .int .i64 y ∧ pre.length = j ∧ pre.length + bs.length = n ∧ Aside0 (mRuns l x = pre ++ mRuns bs y ∧ nRuns l x = nRuns bs y ∧ 0 ≤ y ∧ y + 6291456 * bs.length ≤ 9000000000000000000 ∧ ∀ q ∈ bs, q.f0.length ≤ 1048576) ∧ Aside0 (Below w.heap.size w W)) (fun _ v5 _ => n - (intOf v5).toNat)
  case atStart => exact ⟨0, [], l, x, rfl, rfl, rfl, by simpa using H0.out.2.2.2.2, ⟨rfl, rfl, H0.out.1, H0.out.2.2.1, H0.out.2.1⟩, HB0⟩
  case round =>
    clear HB0
    obtain ⟨j, pre, bs, y, rfl, rfl, hp, hpb, HM, HB⟩ := hrel
    have kW : K0 (Below w.heap.size w wr) := ⟨HB.out⟩
    cases bs with
    | nil =>
      obtain rfl : j = n := by simpa [hp] using hpb
      have dl : decide ((j : Int) < (j : Int)) = false := decide_eq_false (by omega)
      go_wp2
      go_ret
      exact ⟨by rw [HM.out.2.1]; rfl, HB.out⟩
    | cons b rest =>
      have hlt : j < n := by rw [List.length_cons] at hpb; omega
      have dl : decide ((j : Int) < (n : Int)) = true := decide_eq_true (by omega)
      have hwj : IntKind.i64.wrap ((j : Int) + 1) = ((j + 1 : Nat) : Int) := by have := H0.out.2.2.2; rw [IntKind.wrap_i64]; omega
      have hb1 : b.f0.length ≤ 1048576 := HM.out.2.2.2.2 b List.mem_cons_self
      have hy0 : 0 ≤ y := HM.out.2.2.1
      have hy : 0 ≤ y ∧ y + 6 * (b.f0.length : Int) ≤ 9000000000000000000 ∧ (y + 6 * (b.f0.length : Int)) + 6291456 * rest.length ≤ 9000000000000000000 := by
        have := HM.out.2.2.2.1
        rw [List.length_cons] at this
        clear hwj dl
        omega
      have hneg : decide (y + 6 * (b.f0.length : Int) < 0) = false := decide_eq_false (by clear hwj dl; omega)
      have HX := Aside0.mk (And.intro hy hb1)
      obtain ⟨ad, A0, c0, e0, y0, hc0, hC0⟩ := at_T60 HR.out (j : Int) (by omega) (by omega)
      subst e0
      have hrd : rd_T60 (mRuns l x) (j : Int) = ⟨mEnts b.f0.length y⟩ := by
        unfold rd_T60; rw [Int.toNat_natCast, HM.out.1, List.getD_eq_getElem?_getD, ← hp, List.getElem?_append_right (Nat.le_refl _), Nat.sub_self]; rfl
      rw [hrd] at y0 hc0 hC0
      rw [Int.toNat_natCast] at y0
      simp only [mEnts_len] at y0 hc0 hC0
      have y0 := clk y0
      have HC := Aside0.mk hC0
      have HPB := Aside0.mk (And.intro hp (And.intro hpb hlt))
      clear hrd hc0 hC0 hy hb1 hy0 hp hpb
      go_wp2_with fail
      refine (heldE_call A0 b.f0.length c0 y wr (Kd.C_below HC.out HB.out) HX.out.1.1 HX.out.1.2.1 HX.out.2).mono ?_
      rintro ex W1 ⟨rfl, hb⟩
      have k1 : K0 (Below w.heap.size w W1) := ⟨HB.out.trans (hb.mono HB.out.size)⟩
      clear hb
      go_wp2_with fail
      go_roundw
      case measure => have := HPB.out.2.2; simp only [intOf]; omega
      case rel =>
        obtain ⟨hp, hpb, hlt⟩ := HPB.out
        refine ⟨j + 1, pre ++ [⟨mEnts b.f0.length y⟩], rest, y + 6 * b.f0.length, by rw [Int.natCast_add]; rfl, rfl, by rw [List.length_append, List.length_singleton, hp], by rw [List.length_append, List.length_singleton]; rw [List.length_cons] at hpb; omega, ⟨?_, ?_, ?_, ?_, ?_⟩, ⟨k1.out⟩⟩
        · rw [HM.out.1]; simp [mRuns]
        · rw [HM.out.2.1]; rfl
        · have := HX.out.1; clear hwj dl hneg; omega
        · exact HX.out.1.2.2
        · exact fun q hq => HM.out.2.2.2.2 q (List.mem_cons_of_mem _ hq)
end Go.Proofs.Ytjlggfdmfchncaa.Q

namespace Go.Proofs.Ytjlggfdmfchncaa.Q
open Go.RowKit Go.Proofs.YtjlggfdmfchncaaW.PrintWords Go.Proofs.YtjlggfdmfchncaaW.PrintLast Go.Proofs.YtjlggfdmfchncaaW.PrintMore
set_option linter.unusedVariables false
set_option linter.unusedSimpArgs false
set_option maxHeartbeats 8000000 in
set_option maxRecDepth 100000 in
theorem heldT_call (A : Option Addr) (n c : Nat) (l : List IT) (x : Int) (w : World) (hr : Kd.C k40 w A n (mTabs l x)) (hn : l.length = n) (h0 : 0 ≤ x) (hq : ∀ q ∈ l, smT q) (h1 : x + 6597069766657 * l.length ≤ 9000000000000000000) (hl : l.length ≤ 1048576) :
    Calls Try.prog 27 #[.slice A n c, .int .i64 x] w fun e w' => e = .returned (.int .i64 (nTabs l x)) ∧ Below w.heap.size w w' := by
  have kr : K0 (Below w.heap.size w w) := ⟨Below.refl _ _⟩
  have HR := Aside0.mk hr
  have HB0 := Aside0.mk (Below.refl w.heap.size w)
  have H0 := Aside0.mk (And.intro h0 (And.intro hq (And.intro h1 (And.intro hl hn))))
  clear hr h0 hq h1 hl hn
  go_enter Try.func27, Try.ntmps27
  go_wp2_with fail
  go_loopw [1, 5] (fun v1 v5 W => ∃ (j : Nat) (pre bs : List IT) (y : Int), v5 = .int .i64 j ∧ v1 = .int .i64 y ∧ pre.length = j ∧ pre.length + bs.length = n ∧ Aside0 (mTabs l x = pre ++ mTabs bs y ∧ nTabs l x = nTabs bs y ∧ 0 ≤ y ∧ y + 6597069766657 * bs.length ≤ 9000000000000000000 ∧ ∀ q ∈ bs, smT q) ∧ Aside0 (Below w.heap.size w W)) (fun _ v5 _ => n - (intOf v5).toNat)
  case atStart => exact ⟨0, [], l, x, rfl, rfl, rfl, by simpa using H0.out.2.2.2.2, ⟨rfl, rfl, H0.out.1, H0.out.2.2.1, H0.out.2.1⟩, HB0⟩
  case round =>
    clear HB0
    obtain ⟨j, pre, bs, y, rfl, rfl, hp, hpb, HM, HB⟩ := hrel
    have kW : K0 (Below w.heap.size w wr) := ⟨HB.out⟩
    cases bs with
    | nil =>
      obtain rfl : j = n := by simpa [hp] using hpb
      have dl : decide ((j : Int) < (j : Int)) = false := decide_eq_false (by omega)
      go_wp2
      go_ret
      exact ⟨by rw [HM.out.2.1]; rfl, HB.out⟩
    | cons b rest =>
      have hlt : j < n := by rw [List.length_cons] at hpb; omega
      have dl : decide ((j : Int) < (n : Int)) = true := decide_eq_true (by omega)
      have hwj : IntKind.i64.wrap ((j : Int) + 1) = ((j + 1 : Nat) : Int) := by have := H0.out.2.2.2; rw [IntKind.wrap_i64]; omega
      have hb1 : smT b := HM.out.2.2.2.2 b List.mem_cons_self
      have hnr := nRuns_ge b.f1 (y + 1)
      have hnl := nRuns_le b.f1 (y + 1) hb1.2
      have hb2 := hb1.1
      have hy0 : 0 ≤ y := HM.out.2.2.1
      have hy1 : y + 6597069766657 * ((rest.length : Int) + 1) ≤ 9000000000000000000 := by have := HM.out.2.2.2.1; rw [List.length_cons] at this; omega
      have hwy : IntKind.i64.wrap (y + 1) = y + 1 := by clear hwj dl; rw [IntKind.wrap_i64]; omega
      have hneg : decide (nRuns b.f1 (y + 1) < 0) = false := decide_eq_false (by clear hwj dl hwy; omega)
      have hy : 0 ≤ y ∧ y ≤ 9000000000000000000 ∧ (y + 1) + 6291456 * (b.f1.length : Int) ≤ 9000000000000000000 ∧ 0 ≤ nRuns b.f1 (y + 1) ∧ nRuns b.f1 (y + 1) + 6597069766657 * rest.length ≤ 9000000000000000000 := by clear hwj dl hwy hneg; omega
      have HX := Aside0.mk (And.intro hy hb1)
      obtain ⟨ad, A0, c0, e0, y0, y1, hc0, hC0⟩ := at_T40 HR.out (j : Int) (by omega) (by omega)
      subst e0
      have hrd : rd_T40 (mTabs l x) (j : Int) = ⟨mkT y, mRuns b.f1 (y + 1)⟩ := by
        unfold rd_T40; rw [Int.toNat_natCast, HM.out.1, List.getD_eq_getElem?_getD, ← hp, List.getElem?_append_right (Nat.le_refl _), Nat.sub_self]; rfl
      rw [hrd] at y0 y1 hc0 hC0
      rw [Int.toNat_natCast] at y0 y1
      simp only [mRuns_len] at y0 y1 hc0 hC0
      have y0 := clk y0
      have y1 := clk y1
      have HC := Aside0.mk (And.intro hC0 hc0)
      have HPB := Aside0.mk (And.intro hp (And.intro hpb hlt))
      clear hrd hc0 hC0 hy hb1 hnr hnl hb2 hy0 hy1 hp hpb
      go_upto_region 4 with (fail)
      have kd : K0 (Below w.heap.size w wr.drew) := ⟨below_drew1 kW.out⟩
      refine sq_region (S := fun W' => K0 (Below w.heap.size w W')) [(0, false), (1, false), (2, false), (3, false), (4, false), (5, false), (6, true), (7, false)] (by kernel_rfl) (by kernel_rfl) kd (fun hS => ?_)
      repeat (refine sq_n ?_ ?_ rfl ?_ ?_ ?_; rotate_left 2; (intro W hW; go_simp; first | done | with_reducible rfl); (simp only [List.setIfInBounds_toArray, List.set_cons_zero, List.set_cons_succ]; try rfl))
      refine sq_1n rfl (fun hS KA hKA => ?_)
      go_simp
      go_at_call 44
      refine (mkT_call y HX.out.1.1 (by have := HX.out.1.2.1; omega) wr.drew).mono ?_
      rintro ex W1 ⟨rfl, hb⟩
      have k1 : K0 (Below w.heap.size w W1) := ⟨kd.out.trans (hb.mono kd.out.size)⟩
      clear hb
      refine hKA.out _ _ k1 (fun hS => ?_)
      repeat (refine sq_n ?_ ?_ rfl ?_ ?_ ?_; rotate_left 2; (intro W hW; go_simp; first | done | with_reducible rfl); (simp only [List.setIfInBounds_toArray, List.set_cons_zero, List.set_cons_succ]; try rfl))
      refine sq_done (fun hS => ?_)
      clear hS hKA
      go_wp2_with fail
      refine (heldR_call A0 c0 b.f1 (y + 1) W1 (Kd.C_below HC.out.1 k1.out) HC.out.2 (by have := HX.out.1.1; omega) HX.out.2.2 HX.out.1.2.2.1 HX.out.2.1).mono ?_
      rintro ex W2 ⟨rfl, hb⟩
      have k2 : K0 (Below w.heap.size w W2) := ⟨k1.out.trans (hb.mono k1.out.size)⟩
      clear hb
      go_wp2_with fail
      go_roundw
      case measure => have := HPB.out.2.2; simp only [intOf]; omega
      case rel =>
        obtain ⟨hp, hpb, hlt⟩ := HPB.out
        refine ⟨j + 1, pre ++ [⟨mkT y, mRuns b.f1 (y + 1)⟩], rest, nRuns b.f1 (y + 1), by rw [Int.natCast_add]; rfl, rfl, by rw [List.length_append, List.length_singleton, hp], by rw [List.length_append, List.length_singleton]; rw [List.length_cons] at hpb; omega, ⟨?_, ?_, ?_, ?_, ?_⟩, ⟨k2.out⟩⟩
        · rw [HM.out.1]; simp [mTabs]
        · rw [HM.out.2.1]; rfl
        · exact HX.out.1.2.2.2.1
        · exact HX.out.1.2.2.2.2
        · exact fun q hq => HM.out.2.2.2.2 q (List.mem_cons_of_mem _ hq)
set_option maxHeartbeats 4000000 in
set_option maxRecDepth 100000 in
theorem heldS_call (A : Option Addr) (c : Nat) (l : List IT) (w : World) (hr : Kd.C k40 w A l.length (mTabs l 1)) (hs : SmS l) :
    Calls Try.prog 11 #[.agg #[.slice A l.length c], .int .i64 1] w fun e w' => e = .returned (.int .i64 (nTabs l 1)) ∧ Below w.heap.size w w' := by
  have kr : K0 (Below w.heap.size w w) := ⟨Below.refl _ _⟩
  obtain ⟨wb, hwb⟩ : ∃ wb, wb = w.alloc (.cells #[.slice A l.length c] 28) := ⟨_, rfl⟩
  have hb : Below w.heap.size w wb := hwb ▸ kk
  have hh : wb.heap[w.heap.size]? = some (.cells #[.slice A l.length c] 28 (0, 0)) := hwb ▸ heap_alloc_new w _
  have c0 : wb.cell? ⟨w.heap.size, 0, none⟩ = some (.slice A l.length c) := (blk_cell hh 0).trans rfl
  have hge := nTabs_ge l 1
  have hneg : decide (nTabs l 1 < 0) = false := decide_eq_false (by omega)
  have H := Aside0.mk (And.intro hb (And.intro (Kd.C_below hr hb) hs))
  clear hb hh hr hs hge
  go_enter Try.func11, Try.ntmps11
  go_wp2_with fail
  rw [← hwb]
  clear hwb
  refine (heldT_call A l.length c l 1 wb H.out.2.1 rfl (by omega) H.out.2.2.2 (by have := H.out.2.2.1; omega) H.out.2.2.1).mono ?_
  rintro ex W1 ⟨rfl, hb⟩
  have HY := Aside0.mk (H.out.1.trans (hb.mono H.out.1.size))
  clear hb
  go_wp2
  go_ret
  exact ⟨rfl, HY.out⟩
end Go.Proofs.Ytjlggfdmfchncaa.Q

namespace Go.Proofs.Ytjlggfdmfchncaa.Q
open Go.RowKit Go.Proofs.YtjlggfdmfchncaaW.PrintWords Go.Proofs.YtjlggfdmfchncaaW.PrintLast Go.Proofs.YtjlggfdmfchncaaW.PrintMore
set_option linter.unusedVariables false
set_option linter.unusedSimpArgs false
theorem smS_cv {l : List LT} (hl : l.length ≤ 1048576) (hq : ∀ q ∈ l, bT q) : SmS (l.map cvT) := by
  refine ⟨by rw [List.length_map]; exact hl, fun x hx => ?_⟩
  obtain ⟨y, hy, rfl⟩ := List.mem_map.mp hx
  obtain ⟨h5, h6⟩ := hq y hy
  refine ⟨by show (y.f1.map cvR).length ≤ _; rw [List.length_map]; exact h5, fun p hp => ?_⟩
  obtain ⟨u, hu, rfl⟩ := List.mem_map.mp hp
  have h7 := h6 u hu
  unfold bR at h7
  show (u.f0.map cvE).length ≤ _
  rw [List.length_map]; exact h7
theorem toS_call (A : Option Addr) (c : Nat) (l : List LT) (ts : List IT) (hts : l.map cvT = ts) (w : World) (hr : Kd.C k56 w A l.length l) (hc : l.length ≤ c) (hl : l.length ≤ 1048576) (hq : ∀ q ∈ l, bT q) :
    Calls Try.prog 7 #[.agg #[.slice A l.length c]] w fun e w' => ∃ B cb, e = .returned (.agg #[.slice B ts.length cb]) ∧ ts.length ≤ cb ∧ Kd.S kTb 40 w' w.heap.size (fun _ => True) (.slice B ts.length cb) ts ∧ Kd.C k40 w' B ts.length ts ∧ Below w.heap.size w w' := by
  subst hts
  refine (toStore_call A c l w hr hc hl hq).mono ?_
  rintro e w' ⟨v, rfl, hS, hb⟩
  obtain ⟨B, cb, rfl⟩ := Kd.S_slice hS
  have h := Kd.S_reads' hS
  exact ⟨B, cb, rfl, h.2.1, hS, h.2.2, hb⟩
theorem eqS_same (A0 A1 : Option Addr) (n c0 c1 : Nat) (ts : List IT) (w : World) (hn : ts.length = n) (hc0 : n ≤ c0) (hc1 : n ≤ c1) (h0 : Kd.C k40 w A0 n ts) (h1 : Kd.C k40 w A1 n ts) (hs : SmS ts) :
    Calls Try.prog 9 #[.agg #[.slice A0 n c0], .agg #[.slice A1 n c1]] w fun e w' => e = .returned (.bool true) ∧ Below w.heap.size w w' := by
  subst hn
  obtain ⟨K, hK⟩ := eqStore_refl ts (by have := hs.1; omega) (SmS_T hs)
  exact laws_eqStore.calls K A0 c0 ts A1 c1 ts true w h0 hc0 h1 hc1 (hK K (Nat.le_refl _))
end Go.Proofs.Ytjlggfdmfchncaa.Q

namespace Go.Proofs.Ytjlggfdmfchncaa.Q
open Go.RowKit Go.Proofs.YtjlggfdmfchncaaW.PrintWords Go.Proofs.YtjlggfdmfchncaaW.PrintLast Go.Proofs.YtjlggfdmfchncaaW.PrintMore
set_option linter.unusedVariables false
set_option linter.unusedSimpArgs false
open Classical in
/-- What the law answers: true, for all that may come in. -/
noncomputable def laws_FnExactSplitStore.f (l : List LT) (a1 : ByteArray) : Option Bool := if (l.length ≤ maxLen ∧ ∀ x ∈ l, ok56 x) ∧ a1.size ≤ maxLen then some true else none
set_option maxHeartbeats 8000000 in
set_option maxRecDepth 100000 in
theorem lawSplitStore_call (A : Option Addr) (c : Nat) (l : List LT) (row : ByteArray) (w : World) (hr : Kd.C k56 w A l.length l) (hc : l.length ≤ c) (hm : l.length ≤ maxLen) (hok : ∀ x ∈ l, ok56 x) :
    Calls Try.prog 4 #[.agg #[.slice A l.length c], .string row] w fun e w' => e = .returned (.bool true) ∧ Below w.heap.size w w' := by
  have kr : K0 (Below w.heap.size w w) := ⟨Below.refl _ _⟩
  obtain ⟨tt, ⟨Kt, hKt⟩, ht⟩ := szStore_ok l 1048576 hm hok (by omega) (by omega)
  obtain ⟨wb, hwb⟩ : ∃ wb, wb = w.alloc (.cells #[.slice A l.length c] 24) := ⟨_, rfl⟩
  have hb0 : Below w.heap.size w wb := hwb ▸ kk
  have h1 : wb.heap[w.heap.size]? = some (.cells #[.slice A l.length c] 24 (0, 0)) := hwb ▸ heap_alloc_new w _
  have b1 := clk ((blk_cell h1 0).trans rfl : wb.cell? ⟨w.heap.size, 0, none⟩ = some (.slice A l.length c))
  have HSz := Aside0.mk (laws_szStore.calls Kt A c l 1048576 tt wb (Kd.C_below hr hb0) hc (hKt Kt (Nat.le_refl _)))
  have HT := Aside0.mk ht
  have H0 := Aside0.mk (And.intro hb0 (And.intro (Kd.C_below hr hb0) hc))
  have kb : K0 (Below wb.heap.size wb wb) := ⟨Below.refl _ _⟩
  clear hr hc hm hok hKt ht hb0 h1
  by_cases hrow : 1048576 < row.size
  · have d0 : decide ((1048576 : Int) < (row.size : Int)) = true := decide_eq_true (by omega)
    clear HSz HT hrow
    go_enter Try.func4, Try.ntmps4
    go_wp2
    go_ret
    exact ⟨rfl, hwb ▸ H0.out.1⟩
  have d0 : decide ((1048576 : Int) < (row.size : Int)) = false := decide_eq_false (by omega)
  go_enter Try.func4, Try.ntmps4
  go_wp2_with fail
  rw [← hwb]
  clear hwb
  refine HSz.out.mono ?_
  rintro ex W1 ⟨rfl, hb⟩
  have k1 : K0 (Below wb.heap.size wb W1) := ⟨hb⟩
  clear hb
  rcases HT.out with ht | ⟨ht, ht2, hl, hq⟩
  · have dt : decide (tt < 0) = true := decide_eq_true ht
    have HF := Aside0.mk (H0.out.1.trans (k1.out.mono H0.out.1.size))
    clear HSz HT
    go_wp2
    go_ret
    exact ⟨rfl, HF.out⟩
  have dt : decide (tt < 0) = false := decide_eq_false (by omega)
  have HL := Aside0.mk (And.intro hl hq)
  clear HSz HT ht ht2 hl hq hrow
  obtain ⟨ts, hts⟩ : ∃ ts, l.map cvT = ts := ⟨_, rfl⟩
  have hsm : SmS ts := hts ▸ smS_cv HL.out.1 HL.out.2
  have HTo := Aside0.mk (fun W (hC : Kd.C k56 W A l.length l) => toS_call A c l ts hts W hC H0.out.2.2 HL.out.1 HL.out.2)
  clear hts
  have HSm := Aside0.mk hsm
  clear hsm
  go_wp2_with fail
  refine (HTo.out W1 (Kd.C_below H0.out.2.1 k1.out)).mono ?_
  rintro ex W2 ⟨B2, c2, rfl, hle, -, hC, hb⟩
  have k2 : K0 (Below wb.heap.size wb W2) := ⟨k1.out.trans (hb.mono k1.out.size)⟩
  have H2 := Aside0.mk (And.intro hC hle)
  clear hC hle hb
  go_wp2_with fail
  refine (ssplit_call B2 c2 ts row W2 H2.out.1 H2.out.2 HSm.out).mono ?_
  rintro ex W3 ⟨P0, p0, r, hM, rfl, hle, hC, hb⟩
  have k3 : K0 (Below wb.heap.size wb W3) := ⟨k2.out.trans (hb.mono k2.out.size)⟩
  obtain ⟨D, hD⟩ : ∃ D, D = W3.alloc (.cells #[.slice P0 r.length p0] 28) := ⟨_, rfl⟩
  have hbD : Below W3.heap.size W3 D := hD ▸ Below.alloc (Below.refl _ _) (Nat.le_refl _) _
  have hD4 : D.heap[W3.heap.size]? = some (.cells #[.slice P0 r.length p0] 28 (0, 0)) := hD ▸ heap_alloc_new W3 _
  have d1 := clk ((blk_cell hD4 0).trans rfl : D.cell? ⟨W3.heap.size, 0, none⟩ = some (.slice P0 r.length p0))
  have kD : K0 (Below D.heap.size D D) := ⟨Below.refl _ _⟩
  have hbwD : Below wb.heap.size wb D := k3.out.trans (hbD.mono k3.out.size)
  have HD := Aside0.mk (And.intro hbwD (And.intro hle (Kd.C_below hC hbD)))
  have HM := Aside0.mk (And.intro hM (show SmS r from split_rows hM HSm.out))
  have tD : ∀ W [K0 (Below D.heap.size D W)], K0 (Below wb.heap.size wb W) := fun W k => ⟨HD.out.1.trans (k.out.mono HD.out.1.size)⟩
  clear hle hC hb hbD hD4 hbwD hM
  go_wp2_with fail
  rw [← hD]
  clear hD
  refine (HTo.out D (Kd.C_below H0.out.2.1 HD.out.1)).mono ?_
  rintro ex W4 ⟨B4, c4, rfl, hle, hR, hC, hb⟩
  have kD4 : K0 (Below D.heap.size D W4) := ⟨hb⟩
  obtain ⟨E, hE⟩ : ∃ E, E = W4.alloc (.cells #[.slice B4 ts.length c4] 28) := ⟨_, rfl⟩
  have hbE : Below W4.heap.size W4 E := hE ▸ Below.alloc (Below.refl _ _) (Nat.le_refl _) _
  have hE4 : E.heap[W4.heap.size]? = some (.cells #[.slice B4 ts.length c4] 28 (0, 0)) := hE ▸ heap_alloc_new W4 _
  have hEs : E.heap.size = W4.heap.size + 1 := hE ▸ sz_al W4 _
  have e0 := clk ((blk_cell hE4 0).trans rfl : E.cell? ⟨W4.heap.size, 0, none⟩ = some (.slice B4 ts.length c4))
  have hDE : Below D.heap.size D E := hb.trans (hbE.mono hb.size)
  have HE := Aside0.mk (And.intro hDE (And.intro (Kd.S_below (Kd.S_mono (ok' := fun k => D.heap.size ≤ k ∧ k < E.heap.size) (Kd.S_bound hR) (fun k hk => ⟨hk.2.1, by have := hk.2.2.1; omega⟩)) hbE) (And.intro hle (And.intro (Kd.C_below hC hbE) hEs))))
  have tE : ∀ W [K0 (Below E.heap.size E W)], K0 (Below D.heap.size D W) := fun W k => ⟨HE.out.1.trans (k.out.mono HE.out.1.size)⟩
  have kE : K0 (Below E.heap.size E E) := ⟨Below.refl _ _⟩
  clear hle hR hC hb hbE hE4 hDE hEs
  go_wp2_with fail
  rw [← hE]
  clear hE
  refine (isplit_call B4 c4 ts row E HE.out.2.2.2.1 HE.out.2.2.1 HSm.out).mono ?_
  rintro ex W5 ⟨v0, r', hM', rfl, hS, hb⟩
  obtain rfl := split_one hM' HM.out.1
  obtain ⟨G0, g0, rfl⟩ := Kd.S_slice hS
  have kE5 : K0 (Below E.heap.size E W5) := ⟨hb⟩
  obtain ⟨F, hF⟩ : ∃ F, F = W5.alloc (.cells #[.slice G0 r'.length g0] 28) := ⟨_, rfl⟩
  have hbF : Below W5.heap.size W5 F := hF ▸ Below.alloc (Below.refl _ _) (Nat.le_refl _) _
  have hF4 : F.heap[W5.heap.size]? = some (.cells #[.slice G0 r'.length g0] 28 (0, 0)) := hF ▸ heap_alloc_new W5 _
  have f0 := clk ((blk_cell hF4 0).trans rfl : F.cell? ⟨W5.heap.size, 0, none⟩ = some (.slice G0 r'.length g0))
  have hEF : Below E.heap.size E F := hb.trans (hbF.mono hb.size)
  have HF := Aside0.mk (And.intro hEF (And.intro (Kd.S_below (Kd.S_mono (ok' := fun k => E.heap.size ≤ k ∧ k < W5.heap.size) (Kd.S_bound hS) (fun k hk => ⟨hk.2.1, hk.2.2.1⟩)) hbF) (And.intro hF4 (And.intro hb.size (blk_lt hF4)))))
  have tF : ∀ W [K0 (Below F.heap.size F W)], K0 (Below E.heap.size E W) := fun W k => ⟨HF.out.1.trans (k.out.mono HF.out.1.size)⟩
  have kF : K0 (Below F.heap.size F F) := ⟨Below.refl _ _⟩
  clear hS hb hbF hF4 hEF hM'
  go_wp2_with fail
  rw [← hF]
  clear hF
  have hDF : Below D.heap.size D F := HE.out.1.trans (HF.out.1.mono HE.out.1.size)
  refine (eqS_same G0 P0 r'.length g0 p0 r' F rfl (Kd.S_reads' HF.out.2.1).2.1 HD.out.2.1 (Kd.S_reads' HF.out.2.1).2.2 (Kd.C_below HD.out.2.2 hDF) HM.out.2).mono ?_
  rintro ex W6 ⟨rfl, hb⟩
  have k6 : K0 (Below F.heap.size F W6) := ⟨hb⟩
  clear hb hDF
  go_upto_region 12 with (fail)
  have kd : K0 (Below F.heap.size F W6.drew) := ⟨below_drew1 k6.out⟩
  refine sq_region (S := fun W' => K0 (Below F.heap.size F W')) [(0, false), (1, false), (2, true), (3, true), (4, false)] (by kernel_rfl) (by kernel_rfl) kd (fun hS => ?_)
  repeat (refine sq_n ?_ ?_ rfl ?_ ?_ ?_; rotate_left 2; (intro W hW; go_simp; first | done | with_reducible rfl); (simp only [List.setIfInBounds_toArray, List.set_cons_zero, List.set_cons_succ]; try rfl))
  refine sq_1n rfl (fun hS KA hKA => ?_)
  go_simp
  go_at_call 7
  refine (HTo.out W6.drew (Kd.C_below H0.out.2.1 ((tD _).out : Below wb.heap.size wb W6.drew))).mono ?_
  rintro ex W7 ⟨B7, c7, rfl, hle, -, hC, hb⟩
  have k7 : K0 (Below F.heap.size F W7) := ⟨kd.out.trans (hb.mono kd.out.size)⟩
  have H7 := Aside0.mk (And.intro hC hle)
  clear hle hC hb
  refine hKA.out _ _ k7 (fun hS => ?_)
  refine sq_1n rfl (fun hS KB hKB => ?_)
  go_simp
  go_at_call 9
  refine (eqS_same B4 B7 ts.length c4 c7 ts W7 rfl HE.out.2.2.1 H7.out.2 (Kd.C_below HE.out.2.2.2.1 ((tF _).out : Below E.heap.size E W7)) H7.out.1 HSm.out).mono ?_
  rintro ex W8 ⟨rfl, hb⟩
  have k8 : K0 (Below F.heap.size F W8) := ⟨k7.out.trans (hb.mono k7.out.size)⟩
  clear hb
  refine hKB.out _ _ k8 (fun hS => ?_)
  repeat (refine sq_n ?_ ?_ rfl ?_ ?_ ?_; rotate_left 2; (intro W hW; go_simp; first | done | with_reducible rfl); (simp only [List.setIfInBounds_toArray, List.set_cons_zero, List.set_cons_succ]; try rfl))
  refine sq_done (fun hS => ?_)
  go_wp2_with fail
  have hE8 : Below E.heap.size E W8 := (tF W8).out
  have hD8 : Below D.heap.size D W8 := (tE W8).out
  refine (markS_call D W8 (fun k => D.heap.size ≤ k ∧ k < E.heap.size) (.slice B4 ts.length c4) ts hD8 (Kd.S_below HE.out.2.1 hE8) HSm.out).mono ?_
  rintro ex W9 ⟨rfl, -, hb9, hk9⟩
  have dk : decide (nTabs ts 1 < 0) = false := decide_eq_false (by have := nTabs_ge ts 1; omega)
  have hF9 : W9.heap[W5.heap.size]? = some (.cells #[.slice G0 r'.length g0] 28 (0, 0)) := blk_kept ((k8.out.block _ HF.out.2.2.2.2).trans HF.out.2.2.1) hk9 (fun h => by have := h.2; have := HF.out.2.2.2.1; omega)
  have h0 := clk ((blk_cell hF9 0).trans rfl : W9.cell? ⟨W5.heap.size, 0, none⟩ = some (.slice G0 r'.length g0))
  have H9 := Aside0.mk (And.intro hb9 (And.intro (Kd.S_kept (Kd.S_below HF.out.2.1 k8.out) hk9 (fun k hk h => by have := hk.1; have := h.2; omega)) hF9))
  have k9 : K0 (Below W9.heap.size W9 W9) := ⟨Below.refl _ _⟩
  have t9 : ∀ W [K0 (Below W9.heap.size W9 W)], K0 (Below D.heap.size D W) := fun W k => ⟨H9.out.1.trans (k.out.mono H9.out.1.size)⟩
  clear f0 hE8 hD8 hb9 hk9 hF9 e0 kE kF kE5 k6 kd k7 k8 tE tF
  go_wp2_with fail
  refine (eqS_same G0 P0 r'.length g0 p0 r' W9 rfl (Kd.S_reads' H9.out.2.1).2.1 HD.out.2.1 (Kd.S_reads' H9.out.2.1).2.2 (Kd.C_below HD.out.2.2 H9.out.1) HM.out.2).mono ?_
  rintro ex W10 ⟨rfl, hb⟩
  have k10 : K0 (Below W9.heap.size W9 W10) := ⟨hb⟩
  clear hb
  go_wp2_with fail
  have hD10 : Below D.heap.size D W10 := (t9 W10).out
  refine (markS_call D W10 (fun k => E.heap.size ≤ k ∧ k < W5.heap.size) (.slice G0 r'.length g0) r' hD10 (Kd.S_lower (Kd.S_below H9.out.2.1 k10.out) HE.out.1.size) HM.out.2).mono ?_
  rintro ex W11 ⟨rfl, hS11, hD11, hk11⟩
  have hF11 : W11.heap[W5.heap.size]? = some (.cells #[.slice G0 r'.length g0] 28 (0, 0)) := blk_kept ((k10.out.block _ (blk_lt H9.out.2.2)).trans H9.out.2.2) hk11 (fun h => by have := h.2; omega)
  have j0 := clk ((blk_cell hF11 0).trans rfl : W11.cell? ⟨W5.heap.size, 0, none⟩ = some (.slice G0 r'.length g0))
  have dm : decide (nTabs r' 1 < 0) = false := decide_eq_false (by have := nTabs_ge r' 1; omega)
  have hC11 := (Kd.S_reads' hS11).2.2
  rw [mTabs_len] at hC11
  have H11 := Aside0.mk (And.intro hD11 hC11)
  have k11 : K0 (Below W11.heap.size W11 W11) := ⟨Below.refl _ _⟩
  have t11 : ∀ W [K0 (Below W11.heap.size W11 W)], K0 (Below D.heap.size D W) := fun W k => ⟨H11.out.1.trans (k.out.mono H11.out.1.size)⟩
  clear h0 hS11 hk11 hD10 hD11 hF11 hC11 k9 k10 t9
  go_wp2_with fail
  refine (heldS_call G0 g0 r' W11 H11.out.2 HM.out.2).mono ?_
  rintro ex W12 ⟨rfl, hb⟩
  have k12 : K0 (Below W11.heap.size W11 W12) := ⟨hb⟩
  clear hb
  go_wp2_with fail
  refine (HTo.out W12 (Kd.C_below H0.out.2.1 ((tD _).out : Below wb.heap.size wb W12))).mono ?_
  rintro ex W13 ⟨B13, c13, rfl, hle, -, hC, hb⟩
  have k13 : K0 (Below W11.heap.size W11 W13) := ⟨k12.out.trans (hb.mono k12.out.size)⟩
  have H13 := Aside0.mk (And.intro hC hle)
  clear hle hC hb
  go_wp2_with fail
  refine (isplit_call B13 c13 ts row W13 H13.out.1 H13.out.2 HSm.out).mono ?_
  rintro ex W14 ⟨v0, r2, hM', rfl, hS, hb⟩
  have hr2 := split_one hM' HM.out.1
  subst hr2
  obtain ⟨J0, r0, rfl⟩ := Kd.S_slice hS
  have k14 : K0 (Below W11.heap.size W11 W14) := ⟨k13.out.trans (hb.mono k13.out.size)⟩
  obtain ⟨Z, hZ⟩ : ∃ Z, Z = W14.alloc (.cells #[.slice J0 r2.length r0] 28) := ⟨_, rfl⟩
  have hbZ : Below W14.heap.size W14 Z := hZ ▸ Below.alloc (Below.refl _ _) (Nat.le_refl _) _
  have hZ4 : Z.heap[W14.heap.size]? = some (.cells #[.slice J0 r2.length r0] 28 (0, 0)) := hZ ▸ heap_alloc_new W14 _
  have kZ : K0 (Below W11.heap.size W11 Z) := ⟨k14.out.trans (hbZ.mono k14.out.size)⟩
  have n0 : Z.cell? ⟨W14.heap.size, 0, none⟩ = some (.slice J0 r2.length r0) := (blk_cell hZ4 0).trans rfl
  have HZ := Aside0.mk (Kd.S_reads' (Kd.S_below hS hbZ)).2
  clear hS hb hbZ hZ4 j0 hM'
  go_wp2_with fail
  rw [← hZ]
  clear hZ
  have hDZ : Below D.heap.size D Z := (t11 Z).out
  refine (eqS_same J0 P0 r2.length r0 p0 r2 Z rfl HZ.out.1 HD.out.2.1 HZ.out.2 (Kd.C_below HD.out.2.2 hDZ) HM.out.2).mono ?_
  rintro ex W15 ⟨rfl, hb⟩
  have HFin := Aside0.mk (H0.out.1.trans (((HD.out.1.trans ((hDZ.trans (hb.mono hDZ.size)).mono HD.out.1.size))).mono H0.out.1.size))
  clear hb hDZ
  go_wp2
  go_ret
  exact ⟨rfl, HFin.out⟩
theorem laws_FnExactSplitStore.calls (A0_0 : Option Addr) (c0_0 : Nat) (l0_0 : List LT) (a1 : ByteArray) (r : Bool) (w : World) (hr0_0 : Kd.C k56 w A0_0 l0_0.length l0_0) (hc0_0 : l0_0.length ≤ c0_0) (h : laws_FnExactSplitStore.f l0_0 a1 = some r) :
    Calls Try.prog 4 #[.agg #[.slice A0_0 l0_0.length c0_0], .string a1] w fun e w' => e = .returned (.bool r) ∧ Below w.heap.size w w' := by
  unfold laws_FnExactSplitStore.f at h
  split at h
  · rename_i hx
    cases h
    exact lawSplitStore_call A0_0 c0_0 l0_0 a1 w hr0_0 hc0_0 hx.1.1 hx.1.2
  · cases h
end Go.Proofs.Ytjlggfdmfchncaa.Q

namespace Go.Proofs.Ytjlggfdmfchncaa.Q
open Go.RowKit Go.Proofs.YtjlggfdmfchncaaW.PrintWords Go.Proofs.YtjlggfdmfchncaaW.PrintLast
set_option linter.unusedVariables false

/-- The law over lists and numbers. -/
def laws_FnExactSplitStore.Pure : Prop := ∀ (l0_0 : List (S56)) (a1 : ByteArray), (l0_0.length ≤ maxLen ∧ ∀ x_ ∈ l0_0, ok56 x_) → a1.size ≤ maxLen → laws_FnExactSplitStore.f l0_0 a1 = some true
end Go.Proofs.Ytjlggfdmfchncaa.Q

namespace Go.Proofs.Ytjlggfdmfchncaa.Pr
open Q Go.Proofs.YtjlggfdmfchncaaW.PrintWords
theorem FnExactSplitStore : laws_FnExactSplitStore.Pure := by
  intro xs a h h1
  unfold laws_FnExactSplitStore.f
  exact if_pos ⟨h, h1⟩
end Go.Proofs.Ytjlggfdmfchncaa.Pr

namespace Go.Proofs.Ytjlggfdmfchncaa.fnExactSplitStore
open Go.ChangeShapes Go.WideShapes Go.ChangeAt Go.RowKit Go.Proofs.YtjlggfdmfchncaaW.PrintWords Go.Proofs.Ytjlggfdmfchncaa.RowK Go.Proofs.Ytjlggfdmfchncaa.Q
open Go.ChangeMaps (open_string shut_string)
set_option linter.unusedVariables false
theorem own : ownKnob Try.prog.godebug = none := by kernel_rfl
theorem laidOut : laidOutB Try.prog = true := by kernel_rfl
set_option maxRecDepth 100000 in
theorem lifted (os : Os) (started : os.Started) (H : Type) (enc : TypeId × Value → H) :
    ReturnsInHanded {} Try.checked os 4 .any (Rows.fnExactSplitStoreSpec.pre6 enc Try.prog Try.f4 Rows.fnExactSplitStoreRow.domain false) (Rows.fnExactSplitStoreSpec.post enc Try.prog Try.f4 false true false false) := by
  refine returnsInHanded_of_change_sized (C := Try.checked) own started (by kernel_rfl) Try.func4
    (ChangeSpec.witness6 (enc := enc) (C := Try.checked) false ⟨#[], #[.agg #[.slice none 0 0], .string ByteArray.empty], []⟩ 8 (by kernel_rfl) (by kernel_rfl) (by kernel_rfl) (by kernel_rfl)) ?_
  intro W base args ds gs before hval0 hW hcnd hsz0 _
  have hval : ∀ (j : Nat) t v, Try.f4.params[j]? = some t → args[j]? = some v → Value.okWide Try.prog W .any base t v := hval0
  have hW' := hW
  obtain ⟨p, q, hA0, hV, rfl, hfz, hnd⟩ := hW
  have hA : DataW.TrodAll enc Try.prog W 0 (fun _ => true) true Try.f4.params.toList args.toList ds p := hA0
  rw [Try.params4] at hA hval
  obtain ⟨v0, vs0, d0, ds0, p0, q0, hargs, rfl, rfl, h0, r0⟩ := trodAll_cons hA
  obtain ⟨v1, vs1, d1, ds1, p1, q1, rfl, rfl, rfl, h1, r1⟩ := trodAll_cons r0
  obtain ⟨rfl, rfl, rfl⟩ := trodAll_nil r1
  obtain rfl : args = #[v0, v1] := by cases args; simp_all
  obtain ⟨rfl, rfl⟩ := trodVars_none hV
  obtain ⟨cs0, rfl, _⟩ := okWide_struct Try.underlying24 (hval 0 24 v0 rfl rfl)
  have k0 := h0
  have lt0 : ∀ x ∈ p0, x.block < W.heap.size := by obtain ⟨m, hm⟩ := k0; exact DataW.trod_lt m _ _ _ hm
  obtain ⟨x0_, hK0, ok0_⟩ := Opens.arg (d := (Kd.slice 56 k56)) (opens_imp (opens_struct Try.underlying24 (by kernel_rfl) (opensF_last rfl (by kernel_rfl) (opens_slice Try.underlying22 (by kernel_rfl) opens56))) (fun _ h => h)) h0
  obtain ⟨A0_0, c0_0, hs0_0, hc0_0, hr0_0⟩ := hK0
  have hv0 : Value.agg cs0 = .agg #[.slice A0_0 (x0_).length c0_0] := agg_cells (l := [.slice A0_0 (x0_).length c0_0]) (by simp only [hs0_0] <;> rfl)
  obtain ⟨a1, rfl, rfl, rfl, y1⟩ := open_string Try.underlying9 (hval 1 9 v1 rfl rfl) h1
  have hp_ := Pr.FnExactSplitStore x0_ a1 ok0_ y1
  clear hA0 hval0 hsz0
  have hc_ := Q.laws_FnExactSplitStore.calls _ _ x0_ a1 true W hr0_0 hc0_0 hp_
  rw [← hv0] at hc_
  refine hc_.mono fun e W' ⟨he, bel0⟩ => ?_
  subst he
  have bel : Below W.heap.size W W' := bel0
  exact ⟨_, rfl, _, _, _, [], _, [], hW', trodAll_mk1 (shut_bool Try.underlying4 _), (trodAll_cons_mk (Below.trod laidOut (by kernel_rfl) (of_decide_eq_true (by kernel_rfl)) k0 bel lt0) (trodAll_cons_mk (shut_string Try.underlying9 y1) trodAll_mk0)), rfl, bel.frame _, fun h => by cases h⟩
theorem over : Rows.fnExactSplitStoreRow.holds Try.pinned (OpenSpec.ofChange Rows.fnExactSplitStoreSpec) :=
  OpenClaim.holds_of_wide 4 Try.f4 rfl rfl rfl rfl rfl rfl rfl ⟨rfl, rfl, rfl, rfl, rfl⟩ rfl rfl rfl rfl rfl (by kernel_rfl) Try.func4 (by kernel_rfl)
    (of_decide_eq_true (by kernel_rfl)) (by unfold Func.isWrapper; first | (rw [if_pos (by decide +kernel)]; kernel_rfl) | (rw [if_neg (by decide +kernel)]; exact ⟨rfl, rfl⟩))
    (fun os started H enc _ => lifted os started H enc)
end Go.Proofs.Ytjlggfdmfchncaa.fnExactSplitStore
namespace Go.Proofs.Ytjlggfdmfchncaa
theorem fnExactSplitStore_holds : Rows.FnExactSplitStoreSaid := fnExactSplitStore.over
#print axioms fnExactSplitStore_holds
end Go.Proofs.Ytjlggfdmfchncaa
