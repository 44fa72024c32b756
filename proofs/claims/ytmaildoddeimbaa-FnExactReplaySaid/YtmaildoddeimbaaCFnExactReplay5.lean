/- FnExactReplay: the row of the law: its arguments opened, its walk, its statement over lists (PrFnExactReplay). No condition. -/
import Derived.Test.YtmaildoddeimbaaCFnExactReplay4
import Derived.Test.YtmaildoddeimbaaRows
import Derived.WalkKit
import Derived.ProofKit
import Derived.OpenShut
import Derived.ShutString
import Derived.ChangeOld
import Derived.Below
import Derived.SizedLaws

namespace Go.Proofs.Ytmaildoddeimbaa.Q
open Go.RowKit Go.Proofs.YtmaildoddeimbaaW.PrintWords Go.Proofs.YtmaildoddeimbaaW.PrintLast Go.Proofs.YtmaildoddeimbaaW.PrintMore
set_option linter.unusedVariables false
set_option linter.unusedSimpArgs false

/-! ### laws_heldCellS: function 18 -/
def laws_heldCellS.l0 : Nat → List (S61) → Int → Int → Option (Int)
 | 0, _, _, _ => none
 | k + 1, x0, x1, x5 => if x5 < (x0.length : Int) then (if 0 ≤ x5 then ((laws_markText.f k x1).bind fun t309 => (if ((rd_T61 x0 x5).f0).toList = t309.toList then ((laws_markText.f k (wrap64 (x1 + 1))).bind fun t311 => (if ((rd_T61 x0 x5).f1).toList = t311.toList then ((laws_markText.f k (wrap64 ((wrap64 (x1 + 1)) + 1))).bind fun t313 => (if ((rd_T61 x0 x5).f2).toList = t313.toList then (if ((rd_T61 x0 x5).f3) = (IntKind.u64.wrap (wrap64 ((wrap64 ((wrap64 (x1 + 1)) + 1)) + 1))) then ((laws_markText.f k (wrap64 ((wrap64 ((wrap64 ((wrap64 (x1 + 1)) + 1)) + 1)) + 1))).bind fun t316 => (if ((rd_T61 x0 x5).f4).toList = t316.toList then (laws_heldCellS.l0 k x0 (wrap64 ((wrap64 ((wrap64 ((wrap64 ((wrap64 (x1 + 1)) + 1)) + 1)) + 1)) + 1)) (wrap64 (x5 + 1))) else (some (-1)))) else (some (-1))) else (some (-1)))) else (some (-1)))) else (some (-1)))) else (none)) else (some x1)
def laws_heldCellS.f (k : Nat) (l0 : List (S61)) (a1 : Int) : Option (Int) := laws_heldCellS.l0 k l0 a1 0
def laws_heldCellS.T4 : Bool × List (List Nat × List Nat) := (true, [([], []), ([], []), ([0, 1], [0, 1]), ([2], [2]), ([3], [3]), ([], []), ([5], [5]), ([4, 6], [4, 6])])
def laws_heldCellS.B4 : List Nat := [0, 0, 3, 7, 15, 0, 32, 127]
theorem laws_heldCellS.tab4 : rtab .any (opsOf Try.f18 4) = laws_heldCellS.T4 := by kernel_rfl
theorem laws_heldCellS.bits4 : waitsOk laws_heldCellS.T4.2 laws_heldCellS.B4 = true := by kernel_rfl
def laws_heldCellS.T7 : Bool × List (List Nat × List Nat) := (true, [([], []), ([], []), ([0, 1], [0, 1]), ([2], [2]), ([3], [3]), ([], []), ([5], [5]), ([4, 6], [4, 6])])
def laws_heldCellS.B7 : List Nat := [0, 0, 3, 7, 15, 0, 32, 127]
theorem laws_heldCellS.tab7 : rtab .any (opsOf Try.f18 7) = laws_heldCellS.T7 := by kernel_rfl
theorem laws_heldCellS.bits7 : waitsOk laws_heldCellS.T7.2 laws_heldCellS.B7 = true := by kernel_rfl
def laws_heldCellS.T10 : Bool × List (List Nat × List Nat) := (true, [([], []), ([], []), ([0, 1], [0, 1]), ([2], [2]), ([3], [3]), ([], []), ([5], [5]), ([4, 6], [4, 6])])
def laws_heldCellS.B10 : List Nat := [0, 0, 3, 7, 15, 0, 32, 127]
theorem laws_heldCellS.tab10 : rtab .any (opsOf Try.f18 10) = laws_heldCellS.T10 := by kernel_rfl
theorem laws_heldCellS.bits10 : waitsOk laws_heldCellS.T10.2 laws_heldCellS.B10 = true := by kernel_rfl
def laws_heldCellS.T16 : Bool × List (List Nat × List Nat) := (true, [([], []), ([], []), ([0, 1], [0, 1]), ([2], [2]), ([3], [3]), ([], []), ([5], [5]), ([4, 6], [4, 6])])
def laws_heldCellS.B16 : List Nat := [0, 0, 3, 7, 15, 0, 32, 127]
theorem laws_heldCellS.tab16 : rtab .any (opsOf Try.f18 16) = laws_heldCellS.T16 := by kernel_rfl
theorem laws_heldCellS.bits16 : waitsOk laws_heldCellS.T16.2 laws_heldCellS.B16 = true := by kernel_rfl
set_option maxHeartbeats 8000000 in
set_option maxRecDepth 100000 in
theorem laws_heldCellS.calls (k : Nat) (A0 : Option Addr) (c0 : Nat) (l0 : List (S61)) (a1 : Int) (r : Int) (w : World) (hr0 : Kd.C k61 w A0 l0.length l0) (hc0 : l0.length ≤ c0) (h : laws_heldCellS.f k l0 a1 = some r) :
  Calls Try.prog 18 #[.slice A0 l0.length c0, .int .i64 a1] w fun e w' => e = .returned (.int .i64 r) ∧ Below w.heap.size w w' := by
 have HR0 := Aside0.mk hr0
 have HC0 := Aside0.mk hc0
 clear hr0 hc0
 have HB := Aside0.mk (Below.refl w.heap.size w)
 have H : (laws_heldCellS.l0 k l0 a1 0) = some r := h
 clear h
 have H' := Aside0.mk H
 clear H
 go_enter Try.func18, Try.ntmps18
 go_wp2
 go_loopg [1, 5] k (fun kq v1 v5 w' => ∃ (x1_1 : Int) (x5_1 : Int), v1 = .int .i64 x1_1 ∧ v5 = .int .i64 x5_1 ∧ Aside0 (laws_heldCellS.l0 kq l0 x1_1 x5_1 = some r) ∧ Aside0 (kq ≤ k) ∧ Aside0 (Below w.heap.size w w'))
 case atStart => exact ⟨(a1), (0), (by first | rfl | (simp; done) | (simp [*]; done)), (by first | rfl | (simp; done) | (simp [*]; done)), H', ⟨Nat.le_refl _⟩, ⟨bw⟩⟩
 case round =>
  clear H'
  try clear c1
  try clear p2
  obtain ⟨x1_1, x5_1, rfl, rfl, HA, HK1, HB⟩ := hrel
  cases gk with
  | zero => exact absurd HA.out (by simp [laws_heldCellS.l0])
  | succ k1 =>
   have H := HA.out
   clear HA
   simp only [laws_heldCellS.l0] at H
   by_cases c3 : x5_1 < (l0.length : Int)
   ·rw [if_pos c3] at H
    have c3b0 : decide (x5_1 < (l0.length : Int)) = true := decide_eq_true c3
    clear c3
    by_cases c4 : 0 ≤ x5_1
    ·rw [if_pos c4] at H
     have c4b0 : decide (0 ≤ x5_1) = true := decide_eq_true c4
     clear c4
     replace H := Option.bind_eq_some_iff.mp H
     obtain ⟨t309, A50, H⟩ := H
     replace H : (if ((rd_T61 l0 x5_1).f0).toList = t309.toList then ((laws_markText.f k1 (wrap64 (x1_1 + 1))).bind fun t311 => (if ((rd_T61 l0 x5_1).f1).toList = t311.toList then ((laws_markText.f k1 (wrap64 ((wrap64 (x1_1 + 1)) + 1))).bind fun t313 => (if ((rd_T61 l0 x5_1).f2).toList = t313.toList then (if ((rd_T61 l0 x5_1).f3) = (IntKind.u64.wrap (wrap64 ((wrap64 ((wrap64 (x1_1 + 1)) + 1)) + 1))) then ((laws_markText.f k1 (wrap64 ((wrap64 ((wrap64 ((wrap64 (x1_1 + 1)) + 1)) + 1)) + 1))).bind fun t316 => (if ((rd_T61 l0 x5_1).f4).toList = t316.toList then (laws_heldCellS.l0 k1 l0 (wrap64 ((wrap64 ((wrap64 ((wrap64 ((wrap64 (x1_1 + 1)) + 1)) + 1)) + 1)) + 1)) (wrap64 (x5_1 + 1))) else (some (-1)))) else (some (-1))) else (some (-1)))) else (some (-1)))) else (some (-1))) = some r := H
     have A5 := Aside0.mk A50
     clear A50
     by_cases c6 : ((rd_T61 l0 x5_1).f0).toList = t309.toList
     ·rw [if_pos c6] at H
      have c6b0 : (((rd_T61 l0 x5_1).f0).toList == t309.toList) = true := beq_iff_eq.mpr c6
      have c6b1 : (((rd_T61 l0 x5_1).f0).toList != t309.toList) = false := bne_eq_false_iff_eq.mpr c6
      clear c6
      replace H := Option.bind_eq_some_iff.mp H
      obtain ⟨t311, A70, H⟩ := H
      replace H : (if ((rd_T61 l0 x5_1).f1).toList = t311.toList then ((laws_markText.f k1 (wrap64 ((wrap64 (x1_1 + 1)) + 1))).bind fun t313 => (if ((rd_T61 l0 x5_1).f2).toList = t313.toList then (if ((rd_T61 l0 x5_1).f3) = (IntKind.u64.wrap (wrap64 ((wrap64 ((wrap64 (x1_1 + 1)) + 1)) + 1))) then ((laws_markText.f k1 (wrap64 ((wrap64 ((wrap64 ((wrap64 (x1_1 + 1)) + 1)) + 1)) + 1))).bind fun t316 => (if ((rd_T61 l0 x5_1).f4).toList = t316.toList then (laws_heldCellS.l0 k1 l0 (wrap64 ((wrap64 ((wrap64 ((wrap64 ((wrap64 (x1_1 + 1)) + 1)) + 1)) + 1)) + 1)) (wrap64 (x5_1 + 1))) else (some (-1)))) else (some (-1))) else (some (-1)))) else (some (-1))) = some r := H
      have A7 := Aside0.mk A70
      clear A70
      by_cases c8 : ((rd_T61 l0 x5_1).f1).toList = t311.toList
      ·rw [if_pos c8] at H
       have c8b0 : (((rd_T61 l0 x5_1).f1).toList == t311.toList) = true := beq_iff_eq.mpr c8
       have c8b1 : (((rd_T61 l0 x5_1).f1).toList != t311.toList) = false := bne_eq_false_iff_eq.mpr c8
       clear c8
       replace H := Option.bind_eq_some_iff.mp H
       obtain ⟨t313, A90, H⟩ := H
       replace H : (if ((rd_T61 l0 x5_1).f2).toList = t313.toList then (if ((rd_T61 l0 x5_1).f3) = (IntKind.u64.wrap (wrap64 ((wrap64 ((wrap64 (x1_1 + 1)) + 1)) + 1))) then ((laws_markText.f k1 (wrap64 ((wrap64 ((wrap64 ((wrap64 (x1_1 + 1)) + 1)) + 1)) + 1))).bind fun t316 => (if ((rd_T61 l0 x5_1).f4).toList = t316.toList then (laws_heldCellS.l0 k1 l0 (wrap64 ((wrap64 ((wrap64 ((wrap64 ((wrap64 (x1_1 + 1)) + 1)) + 1)) + 1)) + 1)) (wrap64 (x5_1 + 1))) else (some (-1)))) else (some (-1))) else (some (-1))) = some r := H
       have A9 := Aside0.mk A90
       clear A90
       by_cases c10 : ((rd_T61 l0 x5_1).f2).toList = t313.toList
       ·rw [if_pos c10] at H
        have c10b0 : (((rd_T61 l0 x5_1).f2).toList == t313.toList) = true := beq_iff_eq.mpr c10
        have c10b1 : (((rd_T61 l0 x5_1).f2).toList != t313.toList) = false := bne_eq_false_iff_eq.mpr c10
        clear c10
        by_cases c11 : ((rd_T61 l0 x5_1).f3) = (IntKind.u64.wrap (wrap64 ((wrap64 ((wrap64 (x1_1 + 1)) + 1)) + 1)))
        ·rw [if_pos c11] at H
         have c11b0 : (((rd_T61 l0 x5_1).f3) == (IntKind.u64.wrap (wrap64 ((wrap64 ((wrap64 (x1_1 + 1)) + 1)) + 1)))) = true := beq_iff_eq.mpr c11
         have c11b1 : (((rd_T61 l0 x5_1).f3) != (IntKind.u64.wrap (wrap64 ((wrap64 ((wrap64 (x1_1 + 1)) + 1)) + 1)))) = false := bne_eq_false_iff_eq.mpr c11
         clear c11
         replace H := Option.bind_eq_some_iff.mp H
         obtain ⟨t316, A120, H⟩ := H
         replace H : (if ((rd_T61 l0 x5_1).f4).toList = t316.toList then (laws_heldCellS.l0 k1 l0 (wrap64 ((wrap64 ((wrap64 ((wrap64 ((wrap64 (x1_1 + 1)) + 1)) + 1)) + 1)) + 1)) (wrap64 (x5_1 + 1))) else (some (-1))) = some r := H
         have A12 := Aside0.mk A120
         clear A120
         by_cases c13 : ((rd_T61 l0 x5_1).f4).toList = t316.toList
         ·rw [if_pos c13] at H
          have c13b0 : (((rd_T61 l0 x5_1).f4).toList == t316.toList) = true := beq_iff_eq.mpr c13
          have c13b1 : (((rd_T61 l0 x5_1).f4).toList != t316.toList) = false := bne_eq_false_iff_eq.mpr c13
          clear c13
          have H' := Aside0.mk H
          clear H
          try go_wp2
          have n0_ := Aside0.mk (below_drew1 HB.out)
          clear HB
          have HB := n0_
          clear n0_
          have p308 : 0 ≤ (x5_1 : Int) := of_decide_eq_true (by first | (with_reducible assumption) | assumption)
          have q308 : x5_1 < (l0.length : Int) := of_decide_eq_true (by first | (with_reducible assumption) | assumption)
          obtain ⟨ad308, e308, hx308_0, hx308_1, hx308_2, hx308_3, hx308_4⟩ := at_T61 HR0.out x5_1 p308 q308
          have hw308_4 := hx308_4
          have hw308_3 := hx308_3
          have hw308_2 := hx308_2
          have hw308_1 := hx308_1
          have hw308_0 := hx308_0
          cases e308
          replace hx308_0 := (HB.out.cell (World.block_lt_of_cell? w _ hx308_0)).trans hx308_0
          replace hx308_1 := (HB.out.cell (World.block_lt_of_cell? w _ hx308_1)).trans hx308_1
          replace hx308_2 := (HB.out.cell (World.block_lt_of_cell? w _ hx308_2)).trans hx308_2
          replace hx308_3 := (HB.out.cell (World.block_lt_of_cell? w _ hx308_3)).trans hx308_3
          replace hx308_4 := (HB.out.cell (World.block_lt_of_cell? w _ hx308_4)).trans hx308_4
          replace p308 := eq_true p308
          replace q308 := eq_true q308
          refine start_ (n := 8) (S := fun w' => w'.cell? (ad308.add ((x5_1).toNat * 5)) = some (.string ((rd_T61 l0 x5_1).f0)) ∧ w'.cell? ⟨(ad308.add ((x5_1).toNat * 5)).block, (ad308.add ((x5_1).toNat * 5)).off + 1, none⟩ = some (.string ((rd_T61 l0 x5_1).f1)) ∧ w'.cell? ⟨(ad308.add ((x5_1).toNat * 5)).block, (ad308.add ((x5_1).toNat * 5)).off + 2, none⟩ = some (.string ((rd_T61 l0 x5_1).f2)) ∧ w'.cell? ⟨(ad308.add ((x5_1).toNat * 5)).block, (ad308.add ((x5_1).toNat * 5)).off + 3, none⟩ = some (.int .u64 ((rd_T61 l0 x5_1).f3)) ∧ w'.cell? ⟨(ad308.add ((x5_1).toNat * 5)).block, (ad308.add ((x5_1).toNat * 5)).off + 4, none⟩ = some (.string ((rd_T61 l0 x5_1).f4))) (ds := []) #[false, false, false, false, false, false, false, false] (by kernel_rfl) rfl rfl ⟨((HB.out.cell (World.block_lt_of_cell? w _ hw308_0)).trans hw308_0), ((HB.out.cell (World.block_lt_of_cell? w _ hw308_1)).trans hw308_1), ((HB.out.cell (World.block_lt_of_cell? w _ hw308_2)).trans hw308_2), ((HB.out.cell (World.block_lt_of_cell? w _ hw308_3)).trans hw308_3), ((HB.out.cell (World.block_lt_of_cell? w _ hw308_4)).trans hw308_4)⟩ (fun hHeld => ?_); refine with_tabW laws_heldCellS.tab4 laws_heldCellS.bits4 (fun HT_ HW_ => ?_)
          generalize wr.drew = w14 at HB hx308_0 hx308_1 hx308_2 hx308_3 hx308_4 hHeld ⊢
          refine pure_ (i := 0) (N := some 12) (v := ?_) (a' := ?_) #[true, false, false, false, false, false, false, false] rfl rfl (any_of HT_.out (by kernel_rfl)) (fun _ _ _ h => h) (Or.inl ⟨by rfl, ?_⟩) ?_ ?_
          rotate_left
          ·intro w'
           go_simp
           with_reducible rfl
          rotate_left
          ·simp only [Act.put, List.setIfInBounds_toArray, List.set_cons_zero, List.set_cons_succ, i64_w, i32_w]
           rfl
          refine pure_ (i := 1) (N := some 13) (v := ?_) (a' := ?_) #[true, true, false, false, false, false, false, false] rfl rfl (any_of HT_.out (by kernel_rfl)) (fun _ _ _ h => h) (Or.inl ⟨by rfl, ?_⟩) ?_ ?_
          rotate_left
          ·intro w'
           go_simp
           with_reducible rfl
          rotate_left
          ·simp only [Act.put, List.setIfInBounds_toArray, List.set_cons_zero, List.set_cons_succ, i64_w, i32_w]
           rfl
          refine pure_ (i := 2) (N := some 14) (v := ?_) (a' := ?_) #[true, true, true, false, false, false, false, false] rfl rfl (any_of HT_.out (by kernel_rfl)) (fun _ _ _ h => h) (Or.inl ⟨by rfl, ?_⟩) ?_ ?_
          rotate_left
          ·intro w'
           go_simp
           with_reducible rfl
          rotate_left
          ·simp only [Act.put, List.setIfInBounds_toArray, List.set_cons_zero, List.set_cons_succ, i64_w, i32_w]
           rfl
          refine pure_ (i := 3) (N := some 15) (v := ?_) (a' := ?_) #[true, true, true, true, false, false, false, false] rfl rfl (any_of HT_.out (by kernel_rfl)) (fun _ _ _ h => h) (Or.inl ⟨by rfl, ?_⟩) ?_ ?_
          rotate_left
          ·intro w'
           go_simp
           with_reducible rfl
          rotate_left
          ·simp only [Act.put, List.setIfInBounds_toArray, List.set_cons_zero, List.set_cons_succ, i64_w, i32_w]
           rfl
          refine pure_ (i := 5) (N := some 17) (v := ?_) (a' := ?_) #[true, true, true, true, false, true, false, false] rfl rfl (any_of HT_.out (by kernel_rfl)) (fun _ _ _ h => h) (Or.inl ⟨by rfl, ?_⟩) ?_ ?_
          rotate_left
          ·intro w'
           go_simp
           with_reducible rfl
          rotate_left
          ·simp only [Act.put, List.setIfInBounds_toArray, List.set_cons_zero, List.set_cons_succ, i64_w, i32_w]
           rfl
          refine take_ (i := 4) (N := some 16) (v := ?_) (a' := ?_) #[true, true, true, true, true, true, false, false] rfl rfl (take_ofW HT_.out HW_.out (by kernel_rfl)) (fun _ _ _ h => h) (Or.inl ⟨by rfl, ?_⟩) hHeld ?_ ?_
          rotate_left
          ·rintro w' ⟨s0, s1, s2, s3, s4⟩
           go_simp
           with_reducible rfl
          rotate_left
          ·simp only [Act.put, List.setIfInBounds_toArray, List.set_cons_zero, List.set_cons_succ, i64_w, i32_w]
           rfl
          refine one_ (i := 6) (N := some 18) #[true, true, true, true, true, true, true, false] rfl rfl (one_of HT_.out (by kernel_rfl)) (by decide) (fun K hK => ?_)
          refine goes_ Try.func30 (by kernel_rfl) rfl #[.int .i64 x1_1] (by rfl) rfl rfl (by (try simp only [List.map_toArray, List.map_cons, List.map_nil]); first | done | rfl | (simp only [List.length_drop, List.length_take]; rfl)) ?_
          with_reducible refine (laws_markText.calls k1 x1_1 t309 _ A5.out).mono ?_
          rintro e w15 ⟨rfl, hb⟩
          refine ⟨_, rfl, ?_⟩
          have n0_ := Aside0.mk (below_step bw hb)
          clear HB
          have HB := n0_
          clear n0_
          (try clear hb)
          (try clear hb2)
          (try clear hk)
          (try clear hi)
          refine hK.out _ _ ⟨((HB.out.cell (World.block_lt_of_cell? w _ hw308_0)).trans hw308_0), ((HB.out.cell (World.block_lt_of_cell? w _ hw308_1)).trans hw308_1), ((HB.out.cell (World.block_lt_of_cell? w _ hw308_2)).trans hw308_2), ((HB.out.cell (World.block_lt_of_cell? w _ hw308_3)).trans hw308_3), ((HB.out.cell (World.block_lt_of_cell? w _ hw308_4)).trans hw308_4)⟩ (fun hHeld => ?_)
          clear hK K
          refine norm_ (a' := ?_) ?_ ?_
          rotate_left
          ·show Act.put _ (some 18) _ = _
           simp only [Act.put, List.setIfInBounds_toArray, List.set_cons_zero, List.set_cons_succ, i64_w, i32_w]
           rfl
          refine pure_ (i := 7) (N := some 19) (v := ?_) (a' := ?_) #[true, true, true, true, true, true, true, true] rfl rfl (any_of HT_.out (by kernel_rfl)) (fun _ _ _ h => h) (Or.inl ⟨by rfl, ?_⟩) ?_ ?_
          rotate_left
          ·intro w'
           go_simp
           with_reducible rfl
          rotate_left
          ·simp only [Act.put, List.setIfInBounds_toArray, List.set_cons_zero, List.set_cons_succ, i64_w, i32_w]
           rfl
          refine done_ (done_of HT_.out (by kernel_rfl)) ?_
          try go_wp2
          have n0_ := Aside0.mk (below_drew1 HB.out)
          clear HB
          have HB := n0_
          clear n0_
          have p310 : 0 ≤ (x5_1 : Int) := of_decide_eq_true (by first | (with_reducible assumption) | assumption)
          have q310 : x5_1 < (l0.length : Int) := of_decide_eq_true (by first | (with_reducible assumption) | assumption)
          obtain ⟨ad310, e310, hx310_0, hx310_1, hx310_2, hx310_3, hx310_4⟩ := at_T61 HR0.out x5_1 p310 q310
          have hw310_4 := hx310_4
          have hw310_3 := hx310_3
          have hw310_2 := hx310_2
          have hw310_1 := hx310_1
          have hw310_0 := hx310_0
          obtain rfl : ad308 = ad310 := (by injection e310)
          replace hx310_0 := (HB.out.cell (World.block_lt_of_cell? w _ hx310_0)).trans hx310_0
          replace hx310_1 := (HB.out.cell (World.block_lt_of_cell? w _ hx310_1)).trans hx310_1
          replace hx310_2 := (HB.out.cell (World.block_lt_of_cell? w _ hx310_2)).trans hx310_2
          replace hx310_3 := (HB.out.cell (World.block_lt_of_cell? w _ hx310_3)).trans hx310_3
          replace hx310_4 := (HB.out.cell (World.block_lt_of_cell? w _ hx310_4)).trans hx310_4
          replace p310 := eq_true p310
          replace q310 := eq_true q310
          refine start_ (n := 8) (S := fun w' => w'.cell? (ad308.add ((x5_1).toNat * 5)) = some (.string ((rd_T61 l0 x5_1).f0)) ∧ w'.cell? ⟨(ad308.add ((x5_1).toNat * 5)).block, (ad308.add ((x5_1).toNat * 5)).off + 1, none⟩ = some (.string ((rd_T61 l0 x5_1).f1)) ∧ w'.cell? ⟨(ad308.add ((x5_1).toNat * 5)).block, (ad308.add ((x5_1).toNat * 5)).off + 2, none⟩ = some (.string ((rd_T61 l0 x5_1).f2)) ∧ w'.cell? ⟨(ad308.add ((x5_1).toNat * 5)).block, (ad308.add ((x5_1).toNat * 5)).off + 3, none⟩ = some (.int .u64 ((rd_T61 l0 x5_1).f3)) ∧ w'.cell? ⟨(ad308.add ((x5_1).toNat * 5)).block, (ad308.add ((x5_1).toNat * 5)).off + 4, none⟩ = some (.string ((rd_T61 l0 x5_1).f4))) (ds := []) #[false, false, false, false, false, false, false, false] (by kernel_rfl) rfl rfl ⟨((HB.out.cell (World.block_lt_of_cell? w _ hw310_0)).trans hw310_0), ((HB.out.cell (World.block_lt_of_cell? w _ hw310_1)).trans hw310_1), ((HB.out.cell (World.block_lt_of_cell? w _ hw310_2)).trans hw310_2), ((HB.out.cell (World.block_lt_of_cell? w _ hw310_3)).trans hw310_3), ((HB.out.cell (World.block_lt_of_cell? w _ hw310_4)).trans hw310_4)⟩ (fun hHeld => ?_); refine with_tabW laws_heldCellS.tab7 laws_heldCellS.bits7 (fun HT_ HW_ => ?_)
          generalize w15.drew = w16 at HB hx310_0 hx310_1 hx310_2 hx310_3 hx310_4 hHeld ⊢
          refine pure_ (i := 0) (N := some 22) (v := ?_) (a' := ?_) #[true, false, false, false, false, false, false, false] rfl rfl (any_of HT_.out (by kernel_rfl)) (fun _ _ _ h => h) (Or.inl ⟨by rfl, ?_⟩) ?_ ?_
          rotate_left
          ·intro w'
           go_simp
           with_reducible rfl
          rotate_left
          ·simp only [Act.put, List.setIfInBounds_toArray, List.set_cons_zero, List.set_cons_succ, i64_w, i32_w]
           rfl
          refine pure_ (i := 1) (N := some 23) (v := ?_) (a' := ?_) #[true, true, false, false, false, false, false, false] rfl rfl (any_of HT_.out (by kernel_rfl)) (fun _ _ _ h => h) (Or.inl ⟨by rfl, ?_⟩) ?_ ?_
          rotate_left
          ·intro w'
           go_simp
           with_reducible rfl
          rotate_left
          ·simp only [Act.put, List.setIfInBounds_toArray, List.set_cons_zero, List.set_cons_succ, i64_w, i32_w]
           rfl
          refine pure_ (i := 2) (N := some 24) (v := ?_) (a' := ?_) #[true, true, true, false, false, false, false, false] rfl rfl (any_of HT_.out (by kernel_rfl)) (fun _ _ _ h => h) (Or.inl ⟨by rfl, ?_⟩) ?_ ?_
          rotate_left
          ·intro w'
           go_simp
           with_reducible rfl
          rotate_left
          ·simp only [Act.put, List.setIfInBounds_toArray, List.set_cons_zero, List.set_cons_succ, i64_w, i32_w]
           rfl
          refine pure_ (i := 3) (N := some 25) (v := ?_) (a' := ?_) #[true, true, true, true, false, false, false, false] rfl rfl (any_of HT_.out (by kernel_rfl)) (fun _ _ _ h => h) (Or.inl ⟨by rfl, ?_⟩) ?_ ?_
          rotate_left
          ·intro w'
           go_simp
           with_reducible rfl
          rotate_left
          ·simp only [Act.put, List.setIfInBounds_toArray, List.set_cons_zero, List.set_cons_succ, i64_w, i32_w]
           rfl
          refine pure_ (i := 5) (N := some 27) (v := ?_) (a' := ?_) #[true, true, true, true, false, true, false, false] rfl rfl (any_of HT_.out (by kernel_rfl)) (fun _ _ _ h => h) (Or.inl ⟨by rfl, ?_⟩) ?_ ?_
          rotate_left
          ·intro w'
           go_simp
           with_reducible rfl
          rotate_left
          ·simp only [Act.put, List.setIfInBounds_toArray, List.set_cons_zero, List.set_cons_succ, i64_w, i32_w]
           rfl
          refine take_ (i := 4) (N := some 26) (v := ?_) (a' := ?_) #[true, true, true, true, true, true, false, false] rfl rfl (take_ofW HT_.out HW_.out (by kernel_rfl)) (fun _ _ _ h => h) (Or.inl ⟨by rfl, ?_⟩) hHeld ?_ ?_
          rotate_left
          ·rintro w' ⟨s0, s1, s2, s3, s4⟩
           go_simp
           with_reducible rfl
          rotate_left
          ·simp only [Act.put, List.setIfInBounds_toArray, List.set_cons_zero, List.set_cons_succ, i64_w, i32_w]
           rfl
          refine one_ (i := 6) (N := some 28) #[true, true, true, true, true, true, true, false] rfl rfl (one_of HT_.out (by kernel_rfl)) (by decide) (fun K hK => ?_)
          refine goes_ Try.func30 (by kernel_rfl) rfl #[.int .i64 (wrap64 (x1_1 + 1))] (by rfl) rfl rfl (by (try simp only [List.map_toArray, List.map_cons, List.map_nil]); first | done | rfl | (simp only [List.length_drop, List.length_take]; rfl)) ?_
          with_reducible refine (laws_markText.calls k1 (wrap64 (x1_1 + 1)) t311 _ A7.out).mono ?_
          rintro e w17 ⟨rfl, hb⟩
          refine ⟨_, rfl, ?_⟩
          have n0_ := Aside0.mk (below_step bw hb)
          clear HB
          have HB := n0_
          clear n0_
          (try clear hb)
          (try clear hb2)
          (try clear hk)
          (try clear hi)
          refine hK.out _ _ ⟨((HB.out.cell (World.block_lt_of_cell? w _ hw310_0)).trans hw310_0), ((HB.out.cell (World.block_lt_of_cell? w _ hw310_1)).trans hw310_1), ((HB.out.cell (World.block_lt_of_cell? w _ hw310_2)).trans hw310_2), ((HB.out.cell (World.block_lt_of_cell? w _ hw310_3)).trans hw310_3), ((HB.out.cell (World.block_lt_of_cell? w _ hw310_4)).trans hw310_4)⟩ (fun hHeld => ?_)
          clear hK K
          refine norm_ (a' := ?_) ?_ ?_
          rotate_left
          ·show Act.put _ (some 28) _ = _
           simp only [Act.put, List.setIfInBounds_toArray, List.set_cons_zero, List.set_cons_succ, i64_w, i32_w]
           rfl
          refine pure_ (i := 7) (N := some 29) (v := ?_) (a' := ?_) #[true, true, true, true, true, true, true, true] rfl rfl (any_of HT_.out (by kernel_rfl)) (fun _ _ _ h => h) (Or.inl ⟨by rfl, ?_⟩) ?_ ?_
          rotate_left
          ·intro w'
           go_simp
           with_reducible rfl
          rotate_left
          ·simp only [Act.put, List.setIfInBounds_toArray, List.set_cons_zero, List.set_cons_succ, i64_w, i32_w]
           rfl
          refine done_ (done_of HT_.out (by kernel_rfl)) ?_
          try go_wp2
          have n0_ := Aside0.mk (below_drew1 HB.out)
          clear HB
          have HB := n0_
          clear n0_
          have p312 : 0 ≤ (x5_1 : Int) := of_decide_eq_true (by first | (with_reducible assumption) | assumption)
          have q312 : x5_1 < (l0.length : Int) := of_decide_eq_true (by first | (with_reducible assumption) | assumption)
          obtain ⟨ad312, e312, hx312_0, hx312_1, hx312_2, hx312_3, hx312_4⟩ := at_T61 HR0.out x5_1 p312 q312
          have hw312_4 := hx312_4
          have hw312_3 := hx312_3
          have hw312_2 := hx312_2
          have hw312_1 := hx312_1
          have hw312_0 := hx312_0
          obtain rfl : ad308 = ad312 := (by injection e312)
          replace hx312_0 := (HB.out.cell (World.block_lt_of_cell? w _ hx312_0)).trans hx312_0
          replace hx312_1 := (HB.out.cell (World.block_lt_of_cell? w _ hx312_1)).trans hx312_1
          replace hx312_2 := (HB.out.cell (World.block_lt_of_cell? w _ hx312_2)).trans hx312_2
          replace hx312_3 := (HB.out.cell (World.block_lt_of_cell? w _ hx312_3)).trans hx312_3
          replace hx312_4 := (HB.out.cell (World.block_lt_of_cell? w _ hx312_4)).trans hx312_4
          replace p312 := eq_true p312
          replace q312 := eq_true q312
          refine start_ (n := 8) (S := fun w' => w'.cell? (ad308.add ((x5_1).toNat * 5)) = some (.string ((rd_T61 l0 x5_1).f0)) ∧ w'.cell? ⟨(ad308.add ((x5_1).toNat * 5)).block, (ad308.add ((x5_1).toNat * 5)).off + 1, none⟩ = some (.string ((rd_T61 l0 x5_1).f1)) ∧ w'.cell? ⟨(ad308.add ((x5_1).toNat * 5)).block, (ad308.add ((x5_1).toNat * 5)).off + 2, none⟩ = some (.string ((rd_T61 l0 x5_1).f2)) ∧ w'.cell? ⟨(ad308.add ((x5_1).toNat * 5)).block, (ad308.add ((x5_1).toNat * 5)).off + 3, none⟩ = some (.int .u64 ((rd_T61 l0 x5_1).f3)) ∧ w'.cell? ⟨(ad308.add ((x5_1).toNat * 5)).block, (ad308.add ((x5_1).toNat * 5)).off + 4, none⟩ = some (.string ((rd_T61 l0 x5_1).f4))) (ds := []) #[false, false, false, false, false, false, false, false] (by kernel_rfl) rfl rfl ⟨((HB.out.cell (World.block_lt_of_cell? w _ hw312_0)).trans hw312_0), ((HB.out.cell (World.block_lt_of_cell? w _ hw312_1)).trans hw312_1), ((HB.out.cell (World.block_lt_of_cell? w _ hw312_2)).trans hw312_2), ((HB.out.cell (World.block_lt_of_cell? w _ hw312_3)).trans hw312_3), ((HB.out.cell (World.block_lt_of_cell? w _ hw312_4)).trans hw312_4)⟩ (fun hHeld => ?_); refine with_tabW laws_heldCellS.tab10 laws_heldCellS.bits10 (fun HT_ HW_ => ?_)
          generalize w17.drew = w18 at HB hx312_0 hx312_1 hx312_2 hx312_3 hx312_4 hHeld ⊢
          refine pure_ (i := 0) (N := some 32) (v := ?_) (a' := ?_) #[true, false, false, false, false, false, false, false] rfl rfl (any_of HT_.out (by kernel_rfl)) (fun _ _ _ h => h) (Or.inl ⟨by rfl, ?_⟩) ?_ ?_
          rotate_left
          ·intro w'
           go_simp
           with_reducible rfl
          rotate_left
          ·simp only [Act.put, List.setIfInBounds_toArray, List.set_cons_zero, List.set_cons_succ, i64_w, i32_w]
           rfl
          refine pure_ (i := 1) (N := some 33) (v := ?_) (a' := ?_) #[true, true, false, false, false, false, false, false] rfl rfl (any_of HT_.out (by kernel_rfl)) (fun _ _ _ h => h) (Or.inl ⟨by rfl, ?_⟩) ?_ ?_
          rotate_left
          ·intro w'
           go_simp
           with_reducible rfl
          rotate_left
          ·simp only [Act.put, List.setIfInBounds_toArray, List.set_cons_zero, List.set_cons_succ, i64_w, i32_w]
           rfl
          refine pure_ (i := 2) (N := some 34) (v := ?_) (a' := ?_) #[true, true, true, false, false, false, false, false] rfl rfl (any_of HT_.out (by kernel_rfl)) (fun _ _ _ h => h) (Or.inl ⟨by rfl, ?_⟩) ?_ ?_
          rotate_left
          ·intro w'
           go_simp
           with_reducible rfl
          rotate_left
          ·simp only [Act.put, List.setIfInBounds_toArray, List.set_cons_zero, List.set_cons_succ, i64_w, i32_w]
           rfl
          refine pure_ (i := 3) (N := some 35) (v := ?_) (a' := ?_) #[true, true, true, true, false, false, false, false] rfl rfl (any_of HT_.out (by kernel_rfl)) (fun _ _ _ h => h) (Or.inl ⟨by rfl, ?_⟩) ?_ ?_
          rotate_left
          ·intro w'
           go_simp
           with_reducible rfl
          rotate_left
          ·simp only [Act.put, List.setIfInBounds_toArray, List.set_cons_zero, List.set_cons_succ, i64_w, i32_w]
           rfl
          refine pure_ (i := 5) (N := some 37) (v := ?_) (a' := ?_) #[true, true, true, true, false, true, false, false] rfl rfl (any_of HT_.out (by kernel_rfl)) (fun _ _ _ h => h) (Or.inl ⟨by rfl, ?_⟩) ?_ ?_
          rotate_left
          ·intro w'
           go_simp
           with_reducible rfl
          rotate_left
          ·simp only [Act.put, List.setIfInBounds_toArray, List.set_cons_zero, List.set_cons_succ, i64_w, i32_w]
           rfl
          refine take_ (i := 4) (N := some 36) (v := ?_) (a' := ?_) #[true, true, true, true, true, true, false, false] rfl rfl (take_ofW HT_.out HW_.out (by kernel_rfl)) (fun _ _ _ h => h) (Or.inl ⟨by rfl, ?_⟩) hHeld ?_ ?_
          rotate_left
          ·rintro w' ⟨s0, s1, s2, s3, s4⟩
           go_simp
           with_reducible rfl
          rotate_left
          ·simp only [Act.put, List.setIfInBounds_toArray, List.set_cons_zero, List.set_cons_succ, i64_w, i32_w]
           rfl
          refine one_ (i := 6) (N := some 38) #[true, true, true, true, true, true, true, false] rfl rfl (one_of HT_.out (by kernel_rfl)) (by decide) (fun K hK => ?_)
          refine goes_ Try.func30 (by kernel_rfl) rfl #[.int .i64 (wrap64 ((wrap64 (x1_1 + 1)) + 1))] (by rfl) rfl rfl (by (try simp only [List.map_toArray, List.map_cons, List.map_nil]); first | done | rfl | (simp only [List.length_drop, List.length_take]; rfl)) ?_
          with_reducible refine (laws_markText.calls k1 (wrap64 ((wrap64 (x1_1 + 1)) + 1)) t313 _ A9.out).mono ?_
          rintro e w19 ⟨rfl, hb⟩
          refine ⟨_, rfl, ?_⟩
          have n0_ := Aside0.mk (below_step bw hb)
          clear HB
          have HB := n0_
          clear n0_
          (try clear hb)
          (try clear hb2)
          (try clear hk)
          (try clear hi)
          refine hK.out _ _ ⟨((HB.out.cell (World.block_lt_of_cell? w _ hw312_0)).trans hw312_0), ((HB.out.cell (World.block_lt_of_cell? w _ hw312_1)).trans hw312_1), ((HB.out.cell (World.block_lt_of_cell? w _ hw312_2)).trans hw312_2), ((HB.out.cell (World.block_lt_of_cell? w _ hw312_3)).trans hw312_3), ((HB.out.cell (World.block_lt_of_cell? w _ hw312_4)).trans hw312_4)⟩ (fun hHeld => ?_)
          clear hK K
          refine norm_ (a' := ?_) ?_ ?_
          rotate_left
          ·show Act.put _ (some 38) _ = _
           simp only [Act.put, List.setIfInBounds_toArray, List.set_cons_zero, List.set_cons_succ, i64_w, i32_w]
           rfl
          refine pure_ (i := 7) (N := some 39) (v := ?_) (a' := ?_) #[true, true, true, true, true, true, true, true] rfl rfl (any_of HT_.out (by kernel_rfl)) (fun _ _ _ h => h) (Or.inl ⟨by rfl, ?_⟩) ?_ ?_
          rotate_left
          ·intro w'
           go_simp
           with_reducible rfl
          rotate_left
          ·simp only [Act.put, List.setIfInBounds_toArray, List.set_cons_zero, List.set_cons_succ, i64_w, i32_w]
           rfl
          refine done_ (done_of HT_.out (by kernel_rfl)) ?_
          have p314 : 0 ≤ (x5_1 : Int) := of_decide_eq_true (by first | (with_reducible assumption) | assumption)
          have q314 : x5_1 < (l0.length : Int) := of_decide_eq_true (by first | (with_reducible assumption) | assumption)
          obtain ⟨ad314, e314, hx314_0, hx314_1, hx314_2, hx314_3, hx314_4⟩ := at_T61 HR0.out x5_1 p314 q314
          obtain rfl : ad308 = ad314 := (by injection e314)
          replace hx314_0 := (HB.out.cell (World.block_lt_of_cell? w _ hx314_0)).trans hx314_0
          replace hx314_1 := (HB.out.cell (World.block_lt_of_cell? w _ hx314_1)).trans hx314_1
          replace hx314_2 := (HB.out.cell (World.block_lt_of_cell? w _ hx314_2)).trans hx314_2
          replace hx314_3 := (HB.out.cell (World.block_lt_of_cell? w _ hx314_3)).trans hx314_3
          replace hx314_4 := (HB.out.cell (World.block_lt_of_cell? w _ hx314_4)).trans hx314_4
          replace p314 := eq_true p314
          replace q314 := eq_true q314
          try go_wp2
          have n0_ := Aside0.mk (below_drew1 HB.out)
          clear HB
          have HB := n0_
          clear n0_
          have p315 : 0 ≤ (x5_1 : Int) := of_decide_eq_true (by first | (with_reducible assumption) | assumption)
          have q315 : x5_1 < (l0.length : Int) := of_decide_eq_true (by first | (with_reducible assumption) | assumption)
          obtain ⟨ad315, e315, hx315_0, hx315_1, hx315_2, hx315_3, hx315_4⟩ := at_T61 HR0.out x5_1 p315 q315
          have hw315_4 := hx315_4
          have hw315_3 := hx315_3
          have hw315_2 := hx315_2
          have hw315_1 := hx315_1
          have hw315_0 := hx315_0
          obtain rfl : ad308 = ad315 := (by injection e315)
          replace hx315_0 := (HB.out.cell (World.block_lt_of_cell? w _ hx315_0)).trans hx315_0
          replace hx315_1 := (HB.out.cell (World.block_lt_of_cell? w _ hx315_1)).trans hx315_1
          replace hx315_2 := (HB.out.cell (World.block_lt_of_cell? w _ hx315_2)).trans hx315_2
          replace hx315_3 := (HB.out.cell (World.block_lt_of_cell? w _ hx315_3)).trans hx315_3
          replace hx315_4 := (HB.out.cell (World.block_lt_of_cell? w _ hx315_4)).trans hx315_4
          replace p315 := eq_true p315
          replace q315 := eq_true q315
          refine start_ (n := 8) (S := fun w' => w'.cell? (ad308.add ((x5_1).toNat * 5)) = some (.string ((rd_T61 l0 x5_1).f0)) ∧ w'.cell? ⟨(ad308.add ((x5_1).toNat * 5)).block, (ad308.add ((x5_1).toNat * 5)).off + 1, none⟩ = some (.string ((rd_T61 l0 x5_1).f1)) ∧ w'.cell? ⟨(ad308.add ((x5_1).toNat * 5)).block, (ad308.add ((x5_1).toNat * 5)).off + 2, none⟩ = some (.string ((rd_T61 l0 x5_1).f2)) ∧ w'.cell? ⟨(ad308.add ((x5_1).toNat * 5)).block, (ad308.add ((x5_1).toNat * 5)).off + 3, none⟩ = some (.int .u64 ((rd_T61 l0 x5_1).f3)) ∧ w'.cell? ⟨(ad308.add ((x5_1).toNat * 5)).block, (ad308.add ((x5_1).toNat * 5)).off + 4, none⟩ = some (.string ((rd_T61 l0 x5_1).f4))) (ds := []) #[false, false, false, false, false, false, false, false] (by kernel_rfl) rfl rfl ⟨((HB.out.cell (World.block_lt_of_cell? w _ hw315_0)).trans hw315_0), ((HB.out.cell (World.block_lt_of_cell? w _ hw315_1)).trans hw315_1), ((HB.out.cell (World.block_lt_of_cell? w _ hw315_2)).trans hw315_2), ((HB.out.cell (World.block_lt_of_cell? w _ hw315_3)).trans hw315_3), ((HB.out.cell (World.block_lt_of_cell? w _ hw315_4)).trans hw315_4)⟩ (fun hHeld => ?_); refine with_tabW laws_heldCellS.tab16 laws_heldCellS.bits16 (fun HT_ HW_ => ?_)
          generalize w19.drew = w20 at HB hx315_0 hx315_1 hx315_2 hx315_3 hx315_4 hHeld ⊢
          refine pure_ (i := 0) (N := some 52) (v := ?_) (a' := ?_) #[true, false, false, false, false, false, false, false] rfl rfl (any_of HT_.out (by kernel_rfl)) (fun _ _ _ h => h) (Or.inl ⟨by rfl, ?_⟩) ?_ ?_
          rotate_left
          ·intro w'
           go_simp
           with_reducible rfl
          rotate_left
          ·simp only [Act.put, List.setIfInBounds_toArray, List.set_cons_zero, List.set_cons_succ, i64_w, i32_w]
           rfl
          refine pure_ (i := 1) (N := some 53) (v := ?_) (a' := ?_) #[true, true, false, false, false, false, false, false] rfl rfl (any_of HT_.out (by kernel_rfl)) (fun _ _ _ h => h) (Or.inl ⟨by rfl, ?_⟩) ?_ ?_
          rotate_left
          ·intro w'
           go_simp
           with_reducible rfl
          rotate_left
          ·simp only [Act.put, List.setIfInBounds_toArray, List.set_cons_zero, List.set_cons_succ, i64_w, i32_w]
           rfl
          refine pure_ (i := 2) (N := some 54) (v := ?_) (a' := ?_) #[true, true, true, false, false, false, false, false] rfl rfl (any_of HT_.out (by kernel_rfl)) (fun _ _ _ h => h) (Or.inl ⟨by rfl, ?_⟩) ?_ ?_
          rotate_left
          ·intro w'
           go_simp
           with_reducible rfl
          rotate_left
          ·simp only [Act.put, List.setIfInBounds_toArray, List.set_cons_zero, List.set_cons_succ, i64_w, i32_w]
           rfl
          refine pure_ (i := 3) (N := some 55) (v := ?_) (a' := ?_) #[true, true, true, true, false, false, false, false] rfl rfl (any_of HT_.out (by kernel_rfl)) (fun _ _ _ h => h) (Or.inl ⟨by rfl, ?_⟩) ?_ ?_
          rotate_left
          ·intro w'
           go_simp
           with_reducible rfl
          rotate_left
          ·simp only [Act.put, List.setIfInBounds_toArray, List.set_cons_zero, List.set_cons_succ, i64_w, i32_w]
           rfl
          refine pure_ (i := 5) (N := some 57) (v := ?_) (a' := ?_) #[true, true, true, true, false, true, false, false] rfl rfl (any_of HT_.out (by kernel_rfl)) (fun _ _ _ h => h) (Or.inl ⟨by rfl, ?_⟩) ?_ ?_
          rotate_left
          ·intro w'
           go_simp
           with_reducible rfl
          rotate_left
          ·simp only [Act.put, List.setIfInBounds_toArray, List.set_cons_zero, List.set_cons_succ, i64_w, i32_w]
           rfl
          refine take_ (i := 4) (N := some 56) (v := ?_) (a' := ?_) #[true, true, true, true, true, true, false, false] rfl rfl (take_ofW HT_.out HW_.out (by kernel_rfl)) (fun _ _ _ h => h) (Or.inl ⟨by rfl, ?_⟩) hHeld ?_ ?_
          rotate_left
          ·rintro w' ⟨s0, s1, s2, s3, s4⟩
           go_simp
           with_reducible rfl
          rotate_left
          ·simp only [Act.put, List.setIfInBounds_toArray, List.set_cons_zero, List.set_cons_succ, i64_w, i32_w]
           rfl
          refine one_ (i := 6) (N := some 58) #[true, true, true, true, true, true, true, false] rfl rfl (one_of HT_.out (by kernel_rfl)) (by decide) (fun K hK => ?_)
          refine goes_ Try.func30 (by kernel_rfl) rfl #[.int .i64 (wrap64 ((wrap64 ((wrap64 ((wrap64 (x1_1 + 1)) + 1)) + 1)) + 1))] (by rfl) rfl rfl (by (try simp only [List.map_toArray, List.map_cons, List.map_nil]); first | done | rfl | (simp only [List.length_drop, List.length_take]; rfl)) ?_
          with_reducible refine (laws_markText.calls k1 (wrap64 ((wrap64 ((wrap64 ((wrap64 (x1_1 + 1)) + 1)) + 1)) + 1)) t316 _ A12.out).mono ?_
          rintro e w21 ⟨rfl, hb⟩
          refine ⟨_, rfl, ?_⟩
          have n0_ := Aside0.mk (below_step bw hb)
          clear HB
          have HB := n0_
          clear n0_
          (try clear hb)
          (try clear hb2)
          (try clear hk)
          (try clear hi)
          refine hK.out _ _ ⟨((HB.out.cell (World.block_lt_of_cell? w _ hw315_0)).trans hw315_0), ((HB.out.cell (World.block_lt_of_cell? w _ hw315_1)).trans hw315_1), ((HB.out.cell (World.block_lt_of_cell? w _ hw315_2)).trans hw315_2), ((HB.out.cell (World.block_lt_of_cell? w _ hw315_3)).trans hw315_3), ((HB.out.cell (World.block_lt_of_cell? w _ hw315_4)).trans hw315_4)⟩ (fun hHeld => ?_)
          clear hK K
          refine norm_ (a' := ?_) ?_ ?_
          rotate_left
          ·show Act.put _ (some 58) _ = _
           simp only [Act.put, List.setIfInBounds_toArray, List.set_cons_zero, List.set_cons_succ, i64_w, i32_w]
           rfl
          refine pure_ (i := 7) (N := some 59) (v := ?_) (a' := ?_) #[true, true, true, true, true, true, true, true] rfl rfl (any_of HT_.out (by kernel_rfl)) (fun _ _ _ h => h) (Or.inl ⟨by rfl, ?_⟩) ?_ ?_
          rotate_left
          ·intro w'
           go_simp
           with_reducible rfl
          rotate_left
          ·simp only [Act.put, List.setIfInBounds_toArray, List.set_cons_zero, List.set_cons_succ, i64_w, i32_w]
           rfl
          refine done_ (done_of HT_.out (by kernel_rfl)) ?_
          try go_wp2
          go_roundg k1
          case measure => have := HK1.out; omega
          case rel => exact ⟨(wrap64 ((wrap64 ((wrap64 ((wrap64 ((wrap64 (x1_1 + 1)) + 1)) + 1)) + 1)) + 1)), (wrap64 (x5_1 + 1)), (by first | rfl | (simp; done) | (simp [*]; done)), (by first | rfl | (simp; done) | (simp [*]; done)), H', ⟨by have := HK1.out; omega⟩, ⟨bw⟩⟩
         ·rw [if_neg c13] at H
          have c13b0 : (((rd_T61 l0 x5_1).f4).toList == t316.toList) = false := beq_eq_false_iff_ne.mpr c13
          have c13b1 : (((rd_T61 l0 x5_1).f4).toList != t316.toList) = true := bne_iff_ne.mpr c13
          obtain rfl := Option.some.inj H
          try go_wp2
          have n0_ := Aside0.mk (below_drew1 HB.out)
          clear HB
          have HB := n0_
          clear n0_
          have p308 : 0 ≤ (x5_1 : Int) := of_decide_eq_true (by first | (with_reducible assumption) | assumption)
          have q308 : x5_1 < (l0.length : Int) := of_decide_eq_true (by first | (with_reducible assumption) | assumption)
          obtain ⟨ad308, e308, hx308_0, hx308_1, hx308_2, hx308_3, hx308_4⟩ := at_T61 HR0.out x5_1 p308 q308
          have hw308_4 := hx308_4
          have hw308_3 := hx308_3
          have hw308_2 := hx308_2
          have hw308_1 := hx308_1
          have hw308_0 := hx308_0
          cases e308
          replace hx308_0 := (HB.out.cell (World.block_lt_of_cell? w _ hx308_0)).trans hx308_0
          replace hx308_1 := (HB.out.cell (World.block_lt_of_cell? w _ hx308_1)).trans hx308_1
          replace hx308_2 := (HB.out.cell (World.block_lt_of_cell? w _ hx308_2)).trans hx308_2
          replace hx308_3 := (HB.out.cell (World.block_lt_of_cell? w _ hx308_3)).trans hx308_3
          replace hx308_4 := (HB.out.cell (World.block_lt_of_cell? w _ hx308_4)).trans hx308_4
          replace p308 := eq_true p308
          replace q308 := eq_true q308
          refine start_ (n := 8) (S := fun w' => w'.cell? (ad308.add ((x5_1).toNat * 5)) = some (.string ((rd_T61 l0 x5_1).f0)) ∧ w'.cell? ⟨(ad308.add ((x5_1).toNat * 5)).block, (ad308.add ((x5_1).toNat * 5)).off + 1, none⟩ = some (.string ((rd_T61 l0 x5_1).f1)) ∧ w'.cell? ⟨(ad308.add ((x5_1).toNat * 5)).block, (ad308.add ((x5_1).toNat * 5)).off + 2, none⟩ = some (.string ((rd_T61 l0 x5_1).f2)) ∧ w'.cell? ⟨(ad308.add ((x5_1).toNat * 5)).block, (ad308.add ((x5_1).toNat * 5)).off + 3, none⟩ = some (.int .u64 ((rd_T61 l0 x5_1).f3)) ∧ w'.cell? ⟨(ad308.add ((x5_1).toNat * 5)).block, (ad308.add ((x5_1).toNat * 5)).off + 4, none⟩ = some (.string ((rd_T61 l0 x5_1).f4))) (ds := []) #[false, false, false, false, false, false, false, false] (by kernel_rfl) rfl rfl ⟨((HB.out.cell (World.block_lt_of_cell? w _ hw308_0)).trans hw308_0), ((HB.out.cell (World.block_lt_of_cell? w _ hw308_1)).trans hw308_1), ((HB.out.cell (World.block_lt_of_cell? w _ hw308_2)).trans hw308_2), ((HB.out.cell (World.block_lt_of_cell? w _ hw308_3)).trans hw308_3), ((HB.out.cell (World.block_lt_of_cell? w _ hw308_4)).trans hw308_4)⟩ (fun hHeld => ?_); refine with_tabW laws_heldCellS.tab4 laws_heldCellS.bits4 (fun HT_ HW_ => ?_)
          generalize wr.drew = w22 at HB hx308_0 hx308_1 hx308_2 hx308_3 hx308_4 hHeld ⊢
          refine pure_ (i := 0) (N := some 12) (v := ?_) (a' := ?_) #[true, false, false, false, false, false, false, false] rfl rfl (any_of HT_.out (by kernel_rfl)) (fun _ _ _ h => h) (Or.inl ⟨by rfl, ?_⟩) ?_ ?_
          rotate_left
          ·intro w'
           go_simp
           with_reducible rfl
          rotate_left
          ·simp only [Act.put, List.setIfInBounds_toArray, List.set_cons_zero, List.set_cons_succ, i64_w, i32_w]
           rfl
          refine pure_ (i := 1) (N := some 13) (v := ?_) (a' := ?_) #[true, true, false, false, false, false, false, false] rfl rfl (any_of HT_.out (by kernel_rfl)) (fun _ _ _ h => h) (Or.inl ⟨by rfl, ?_⟩) ?_ ?_
          rotate_left
          ·intro w'
           go_simp
           with_reducible rfl
          rotate_left
          ·simp only [Act.put, List.setIfInBounds_toArray, List.set_cons_zero, List.set_cons_succ, i64_w, i32_w]
           rfl
          refine pure_ (i := 2) (N := some 14) (v := ?_) (a' := ?_) #[true, true, true, false, false, false, false, false] rfl rfl (any_of HT_.out (by kernel_rfl)) (fun _ _ _ h => h) (Or.inl ⟨by rfl, ?_⟩) ?_ ?_
          rotate_left
          ·intro w'
           go_simp
           with_reducible rfl
          rotate_left
          ·simp only [Act.put, List.setIfInBounds_toArray, List.set_cons_zero, List.set_cons_succ, i64_w, i32_w]
           rfl
          refine pure_ (i := 3) (N := some 15) (v := ?_) (a' := ?_) #[true, true, true, true, false, false, false, false] rfl rfl (any_of HT_.out (by kernel_rfl)) (fun _ _ _ h => h) (Or.inl ⟨by rfl, ?_⟩) ?_ ?_
          rotate_left
          ·intro w'
           go_simp
           with_reducible rfl
          rotate_left
          ·simp only [Act.put, List.setIfInBounds_toArray, List.set_cons_zero, List.set_cons_succ, i64_w, i32_w]
           rfl
          refine pure_ (i := 5) (N := some 17) (v := ?_) (a' := ?_) #[true, true, true, true, false, true, false, false] rfl rfl (any_of HT_.out (by kernel_rfl)) (fun _ _ _ h => h) (Or.inl ⟨by rfl, ?_⟩) ?_ ?_
          rotate_left
          ·intro w'
           go_simp
           with_reducible rfl
          rotate_left
          ·simp only [Act.put, List.setIfInBounds_toArray, List.set_cons_zero, List.set_cons_succ, i64_w, i32_w]
           rfl
          refine take_ (i := 4) (N := some 16) (v := ?_) (a' := ?_) #[true, true, true, true, true, true, false, false] rfl rfl (take_ofW HT_.out HW_.out (by kernel_rfl)) (fun _ _ _ h => h) (Or.inl ⟨by rfl, ?_⟩) hHeld ?_ ?_
          rotate_left
          ·rintro w' ⟨s0, s1, s2, s3, s4⟩
           go_simp
           with_reducible rfl
          rotate_left
          ·simp only [Act.put, List.setIfInBounds_toArray, List.set_cons_zero, List.set_cons_succ, i64_w, i32_w]
           rfl
          refine one_ (i := 6) (N := some 18) #[true, true, true, true, true, true, true, false] rfl rfl (one_of HT_.out (by kernel_rfl)) (by decide) (fun K hK => ?_)
          refine goes_ Try.func30 (by kernel_rfl) rfl #[.int .i64 x1_1] (by rfl) rfl rfl (by (try simp only [List.map_toArray, List.map_cons, List.map_nil]); first | done | rfl | (simp only [List.length_drop, List.length_take]; rfl)) ?_
          with_reducible refine (laws_markText.calls k1 x1_1 t309 _ A5.out).mono ?_
          rintro e w23 ⟨rfl, hb⟩
          refine ⟨_, rfl, ?_⟩
          have n0_ := Aside0.mk (below_step bw hb)
          clear HB
          have HB := n0_
          clear n0_
          (try clear hb)
          (try clear hb2)
          (try clear hk)
          (try clear hi)
          refine hK.out _ _ ⟨((HB.out.cell (World.block_lt_of_cell? w _ hw308_0)).trans hw308_0), ((HB.out.cell (World.block_lt_of_cell? w _ hw308_1)).trans hw308_1), ((HB.out.cell (World.block_lt_of_cell? w _ hw308_2)).trans hw308_2), ((HB.out.cell (World.block_lt_of_cell? w _ hw308_3)).trans hw308_3), ((HB.out.cell (World.block_lt_of_cell? w _ hw308_4)).trans hw308_4)⟩ (fun hHeld => ?_)
          clear hK K
          refine norm_ (a' := ?_) ?_ ?_
          rotate_left
          ·show Act.put _ (some 18) _ = _
           simp only [Act.put, List.setIfInBounds_toArray, List.set_cons_zero, List.set_cons_succ, i64_w, i32_w]
           rfl
          refine pure_ (i := 7) (N := some 19) (v := ?_) (a' := ?_) #[true, true, true, true, true, true, true, true] rfl rfl (any_of HT_.out (by kernel_rfl)) (fun _ _ _ h => h) (Or.inl ⟨by rfl, ?_⟩) ?_ ?_
          rotate_left
          ·intro w'
           go_simp
           with_reducible rfl
          rotate_left
          ·simp only [Act.put, List.setIfInBounds_toArray, List.set_cons_zero, List.set_cons_succ, i64_w, i32_w]
           rfl
          refine done_ (done_of HT_.out (by kernel_rfl)) ?_
          try go_wp2
          have n0_ := Aside0.mk (below_drew1 HB.out)
          clear HB
          have HB := n0_
          clear n0_
          have p310 : 0 ≤ (x5_1 : Int) := of_decide_eq_true (by first | (with_reducible assumption) | assumption)
          have q310 : x5_1 < (l0.length : Int) := of_decide_eq_true (by first | (with_reducible assumption) | assumption)
          obtain ⟨ad310, e310, hx310_0, hx310_1, hx310_2, hx310_3, hx310_4⟩ := at_T61 HR0.out x5_1 p310 q310
          have hw310_4 := hx310_4
          have hw310_3 := hx310_3
          have hw310_2 := hx310_2
          have hw310_1 := hx310_1
          have hw310_0 := hx310_0
          obtain rfl : ad308 = ad310 := (by injection e310)
          replace hx310_0 := (HB.out.cell (World.block_lt_of_cell? w _ hx310_0)).trans hx310_0
          replace hx310_1 := (HB.out.cell (World.block_lt_of_cell? w _ hx310_1)).trans hx310_1
          replace hx310_2 := (HB.out.cell (World.block_lt_of_cell? w _ hx310_2)).trans hx310_2
          replace hx310_3 := (HB.out.cell (World.block_lt_of_cell? w _ hx310_3)).trans hx310_3
          replace hx310_4 := (HB.out.cell (World.block_lt_of_cell? w _ hx310_4)).trans hx310_4
          replace p310 := eq_true p310
          replace q310 := eq_true q310
          refine start_ (n := 8) (S := fun w' => w'.cell? (ad308.add ((x5_1).toNat * 5)) = some (.string ((rd_T61 l0 x5_1).f0)) ∧ w'.cell? ⟨(ad308.add ((x5_1).toNat * 5)).block, (ad308.add ((x5_1).toNat * 5)).off + 1, none⟩ = some (.string ((rd_T61 l0 x5_1).f1)) ∧ w'.cell? ⟨(ad308.add ((x5_1).toNat * 5)).block, (ad308.add ((x5_1).toNat * 5)).off + 2, none⟩ = some (.string ((rd_T61 l0 x5_1).f2)) ∧ w'.cell? ⟨(ad308.add ((x5_1).toNat * 5)).block, (ad308.add ((x5_1).toNat * 5)).off + 3, none⟩ = some (.int .u64 ((rd_T61 l0 x5_1).f3)) ∧ w'.cell? ⟨(ad308.add ((x5_1).toNat * 5)).block, (ad308.add ((x5_1).toNat * 5)).off + 4, none⟩ = some (.string ((rd_T61 l0 x5_1).f4))) (ds := []) #[false, false, false, false, false, false, false, false] (by kernel_rfl) rfl rfl ⟨((HB.out.cell (World.block_lt_of_cell? w _ hw310_0)).trans hw310_0), ((HB.out.cell (World.block_lt_of_cell? w _ hw310_1)).trans hw310_1), ((HB.out.cell (World.block_lt_of_cell? w _ hw310_2)).trans hw310_2), ((HB.out.cell (World.block_lt_of_cell? w _ hw310_3)).trans hw310_3), ((HB.out.cell (World.block_lt_of_cell? w _ hw310_4)).trans hw310_4)⟩ (fun hHeld => ?_); refine with_tabW laws_heldCellS.tab7 laws_heldCellS.bits7 (fun HT_ HW_ => ?_)
          generalize w23.drew = w24 at HB hx310_0 hx310_1 hx310_2 hx310_3 hx310_4 hHeld ⊢
          refine pure_ (i := 0) (N := some 22) (v := ?_) (a' := ?_) #[true, false, false, false, false, false, false, false] rfl rfl (any_of HT_.out (by kernel_rfl)) (fun _ _ _ h => h) (Or.inl ⟨by rfl, ?_⟩) ?_ ?_
          rotate_left
          ·intro w'
           go_simp
           with_reducible rfl
          rotate_left
          ·simp only [Act.put, List.setIfInBounds_toArray, List.set_cons_zero, List.set_cons_succ, i64_w, i32_w]
           rfl
          refine pure_ (i := 1) (N := some 23) (v := ?_) (a' := ?_) #[true, true, false, false, false, false, false, false] rfl rfl (any_of HT_.out (by kernel_rfl)) (fun _ _ _ h => h) (Or.inl ⟨by rfl, ?_⟩) ?_ ?_
          rotate_left
          ·intro w'
           go_simp
           with_reducible rfl
          rotate_left
          ·simp only [Act.put, List.setIfInBounds_toArray, List.set_cons_zero, List.set_cons_succ, i64_w, i32_w]
           rfl
          refine pure_ (i := 2) (N := some 24) (v := ?_) (a' := ?_) #[true, true, true, false, false, false, false, false] rfl rfl (any_of HT_.out (by kernel_rfl)) (fun _ _ _ h => h) (Or.inl ⟨by rfl, ?_⟩) ?_ ?_
          rotate_left
          ·intro w'
           go_simp
           with_reducible rfl
          rotate_left
          ·simp only [Act.put, List.setIfInBounds_toArray, List.set_cons_zero, List.set_cons_succ, i64_w, i32_w]
           rfl
          refine pure_ (i := 3) (N := some 25) (v := ?_) (a' := ?_) #[true, true, true, true, false, false, false, false] rfl rfl (any_of HT_.out (by kernel_rfl)) (fun _ _ _ h => h) (Or.inl ⟨by rfl, ?_⟩) ?_ ?_
          rotate_left
          ·intro w'
           go_simp
           with_reducible rfl
          rotate_left
          ·simp only [Act.put, List.setIfInBounds_toArray, List.set_cons_zero, List.set_cons_succ, i64_w, i32_w]
           rfl
          refine pure_ (i := 5) (N := some 27) (v := ?_) (a' := ?_) #[true, true, true, true, false, true, false, false] rfl rfl (any_of HT_.out (by kernel_rfl)) (fun _ _ _ h => h) (Or.inl ⟨by rfl, ?_⟩) ?_ ?_
          rotate_left
          ·intro w'
           go_simp
           with_reducible rfl
          rotate_left
          ·simp only [Act.put, List.setIfInBounds_toArray, List.set_cons_zero, List.set_cons_succ, i64_w, i32_w]
           rfl
          refine take_ (i := 4) (N := some 26) (v := ?_) (a' := ?_) #[true, true, true, true, true, true, false, false] rfl rfl (take_ofW HT_.out HW_.out (by kernel_rfl)) (fun _ _ _ h => h) (Or.inl ⟨by rfl, ?_⟩) hHeld ?_ ?_
          rotate_left
          ·rintro w' ⟨s0, s1, s2, s3, s4⟩
           go_simp
           with_reducible rfl
          rotate_left
          ·simp only [Act.put, List.setIfInBounds_toArray, List.set_cons_zero, List.set_cons_succ, i64_w, i32_w]
           rfl
          refine one_ (i := 6) (N := some 28) #[true, true, true, true, true, true, true, false] rfl rfl (one_of HT_.out (by kernel_rfl)) (by decide) (fun K hK => ?_)
          refine goes_ Try.func30 (by kernel_rfl) rfl #[.int .i64 (wrap64 (x1_1 + 1))] (by rfl) rfl rfl (by (try simp only [List.map_toArray, List.map_cons, List.map_nil]); first | done | rfl | (simp only [List.length_drop, List.length_take]; rfl)) ?_
          with_reducible refine (laws_markText.calls k1 (wrap64 (x1_1 + 1)) t311 _ A7.out).mono ?_
          rintro e w25 ⟨rfl, hb⟩
          refine ⟨_, rfl, ?_⟩
          have n0_ := Aside0.mk (below_step bw hb)
          clear HB
          have HB := n0_
          clear n0_
          (try clear hb)
          (try clear hb2)
          (try clear hk)
          (try clear hi)
          refine hK.out _ _ ⟨((HB.out.cell (World.block_lt_of_cell? w _ hw310_0)).trans hw310_0), ((HB.out.cell (World.block_lt_of_cell? w _ hw310_1)).trans hw310_1), ((HB.out.cell (World.block_lt_of_cell? w _ hw310_2)).trans hw310_2), ((HB.out.cell (World.block_lt_of_cell? w _ hw310_3)).trans hw310_3), ((HB.out.cell (World.block_lt_of_cell? w _ hw310_4)).trans hw310_4)⟩ (fun hHeld => ?_)
          clear hK K
          refine norm_ (a' := ?_) ?_ ?_
          rotate_left
          ·show Act.put _ (some 28) _ = _
           simp only [Act.put, List.setIfInBounds_toArray, List.set_cons_zero, List.set_cons_succ, i64_w, i32_w]
           rfl
          refine pure_ (i := 7) (N := some 29) (v := ?_) (a' := ?_) #[true, true, true, true, true, true, true, true] rfl rfl (any_of HT_.out (by kernel_rfl)) (fun _ _ _ h => h) (Or.inl ⟨by rfl, ?_⟩) ?_ ?_
          rotate_left
          ·intro w'
           go_simp
           with_reducible rfl
          rotate_left
          ·simp only [Act.put, List.setIfInBounds_toArray, List.set_cons_zero, List.set_cons_succ, i64_w, i32_w]
           rfl
          refine done_ (done_of HT_.out (by kernel_rfl)) ?_
          try go_wp2
          have n0_ := Aside0.mk (below_drew1 HB.out)
          clear HB
          have HB := n0_
          clear n0_
          have p312 : 0 ≤ (x5_1 : Int) := of_decide_eq_true (by first | (with_reducible assumption) | assumption)
          have q312 : x5_1 < (l0.length : Int) := of_decide_eq_true (by first | (with_reducible assumption) | assumption)
          obtain ⟨ad312, e312, hx312_0, hx312_1, hx312_2, hx312_3, hx312_4⟩ := at_T61 HR0.out x5_1 p312 q312
          have hw312_4 := hx312_4
          have hw312_3 := hx312_3
          have hw312_2 := hx312_2
          have hw312_1 := hx312_1
          have hw312_0 := hx312_0
          obtain rfl : ad308 = ad312 := (by injection e312)
          replace hx312_0 := (HB.out.cell (World.block_lt_of_cell? w _ hx312_0)).trans hx312_0
          replace hx312_1 := (HB.out.cell (World.block_lt_of_cell? w _ hx312_1)).trans hx312_1
          replace hx312_2 := (HB.out.cell (World.block_lt_of_cell? w _ hx312_2)).trans hx312_2
          replace hx312_3 := (HB.out.cell (World.block_lt_of_cell? w _ hx312_3)).trans hx312_3
          replace hx312_4 := (HB.out.cell (World.block_lt_of_cell? w _ hx312_4)).trans hx312_4
          replace p312 := eq_true p312
          replace q312 := eq_true q312
          refine start_ (n := 8) (S := fun w' => w'.cell? (ad308.add ((x5_1).toNat * 5)) = some (.string ((rd_T61 l0 x5_1).f0)) ∧ w'.cell? ⟨(ad308.add ((x5_1).toNat * 5)).block, (ad308.add ((x5_1).toNat * 5)).off + 1, none⟩ = some (.string ((rd_T61 l0 x5_1).f1)) ∧ w'.cell? ⟨(ad308.add ((x5_1).toNat * 5)).block, (ad308.add ((x5_1).toNat * 5)).off + 2, none⟩ = some (.string ((rd_T61 l0 x5_1).f2)) ∧ w'.cell? ⟨(ad308.add ((x5_1).toNat * 5)).block, (ad308.add ((x5_1).toNat * 5)).off + 3, none⟩ = some (.int .u64 ((rd_T61 l0 x5_1).f3)) ∧ w'.cell? ⟨(ad308.add ((x5_1).toNat * 5)).block, (ad308.add ((x5_1).toNat * 5)).off + 4, none⟩ = some (.string ((rd_T61 l0 x5_1).f4))) (ds := []) #[false, false, false, false, false, false, false, false] (by kernel_rfl) rfl rfl ⟨((HB.out.cell (World.block_lt_of_cell? w _ hw312_0)).trans hw312_0), ((HB.out.cell (World.block_lt_of_cell? w _ hw312_1)).trans hw312_1), ((HB.out.cell (World.block_lt_of_cell? w _ hw312_2)).trans hw312_2), ((HB.out.cell (World.block_lt_of_cell? w _ hw312_3)).trans hw312_3), ((HB.out.cell (World.block_lt_of_cell? w _ hw312_4)).trans hw312_4)⟩ (fun hHeld => ?_); refine with_tabW laws_heldCellS.tab10 laws_heldCellS.bits10 (fun HT_ HW_ => ?_)
          generalize w25.drew = w26 at HB hx312_0 hx312_1 hx312_2 hx312_3 hx312_4 hHeld ⊢
          refine pure_ (i := 0) (N := some 32) (v := ?_) (a' := ?_) #[true, false, false, false, false, false, false, false] rfl rfl (any_of HT_.out (by kernel_rfl)) (fun _ _ _ h => h) (Or.inl ⟨by rfl, ?_⟩) ?_ ?_
          rotate_left
          ·intro w'
           go_simp
           with_reducible rfl
          rotate_left
          ·simp only [Act.put, List.setIfInBounds_toArray, List.set_cons_zero, List.set_cons_succ, i64_w, i32_w]
           rfl
          refine pure_ (i := 1) (N := some 33) (v := ?_) (a' := ?_) #[true, true, false, false, false, false, false, false] rfl rfl (any_of HT_.out (by kernel_rfl)) (fun _ _ _ h => h) (Or.inl ⟨by rfl, ?_⟩) ?_ ?_
          rotate_left
          ·intro w'
           go_simp
           with_reducible rfl
          rotate_left
          ·simp only [Act.put, List.setIfInBounds_toArray, List.set_cons_zero, List.set_cons_succ, i64_w, i32_w]
           rfl
          refine pure_ (i := 2) (N := some 34) (v := ?_) (a' := ?_) #[true, true, true, false, false, false, false, false] rfl rfl (any_of HT_.out (by kernel_rfl)) (fun _ _ _ h => h) (Or.inl ⟨by rfl, ?_⟩) ?_ ?_
          rotate_left
          ·intro w'
           go_simp
           with_reducible rfl
          rotate_left
          ·simp only [Act.put, List.setIfInBounds_toArray, List.set_cons_zero, List.set_cons_succ, i64_w, i32_w]
           rfl
          refine pure_ (i := 3) (N := some 35) (v := ?_) (a' := ?_) #[true, true, true, true, false, false, false, false] rfl rfl (any_of HT_.out (by kernel_rfl)) (fun _ _ _ h => h) (Or.inl ⟨by rfl, ?_⟩) ?_ ?_
          rotate_left
          ·intro w'
           go_simp
           with_reducible rfl
          rotate_left
          ·simp only [Act.put, List.setIfInBounds_toArray, List.set_cons_zero, List.set_cons_succ, i64_w, i32_w]
           rfl
          refine pure_ (i := 5) (N := some 37) (v := ?_) (a' := ?_) #[true, true, true, true, false, true, false, false] rfl rfl (any_of HT_.out (by kernel_rfl)) (fun _ _ _ h => h) (Or.inl ⟨by rfl, ?_⟩) ?_ ?_
          rotate_left
          ·intro w'
           go_simp
           with_reducible rfl
          rotate_left
          ·simp only [Act.put, List.setIfInBounds_toArray, List.set_cons_zero, List.set_cons_succ, i64_w, i32_w]
           rfl
          refine take_ (i := 4) (N := some 36) (v := ?_) (a' := ?_) #[true, true, true, true, true, true, false, false] rfl rfl (take_ofW HT_.out HW_.out (by kernel_rfl)) (fun _ _ _ h => h) (Or.inl ⟨by rfl, ?_⟩) hHeld ?_ ?_
          rotate_left
          ·rintro w' ⟨s0, s1, s2, s3, s4⟩
           go_simp
           with_reducible rfl
          rotate_left
          ·simp only [Act.put, List.setIfInBounds_toArray, List.set_cons_zero, List.set_cons_succ, i64_w, i32_w]
           rfl
          refine one_ (i := 6) (N := some 38) #[true, true, true, true, true, true, true, false] rfl rfl (one_of HT_.out (by kernel_rfl)) (by decide) (fun K hK => ?_)
          refine goes_ Try.func30 (by kernel_rfl) rfl #[.int .i64 (wrap64 ((wrap64 (x1_1 + 1)) + 1))] (by rfl) rfl rfl (by (try simp only [List.map_toArray, List.map_cons, List.map_nil]); first | done | rfl | (simp only [List.length_drop, List.length_take]; rfl)) ?_
          with_reducible refine (laws_markText.calls k1 (wrap64 ((wrap64 (x1_1 + 1)) + 1)) t313 _ A9.out).mono ?_
          rintro e w27 ⟨rfl, hb⟩
          refine ⟨_, rfl, ?_⟩
          have n0_ := Aside0.mk (below_step bw hb)
          clear HB
          have HB := n0_
          clear n0_
          (try clear hb)
          (try clear hb2)
          (try clear hk)
          (try clear hi)
          refine hK.out _ _ ⟨((HB.out.cell (World.block_lt_of_cell? w _ hw312_0)).trans hw312_0), ((HB.out.cell (World.block_lt_of_cell? w _ hw312_1)).trans hw312_1), ((HB.out.cell (World.block_lt_of_cell? w _ hw312_2)).trans hw312_2), ((HB.out.cell (World.block_lt_of_cell? w _ hw312_3)).trans hw312_3), ((HB.out.cell (World.block_lt_of_cell? w _ hw312_4)).trans hw312_4)⟩ (fun hHeld => ?_)
          clear hK K
          refine norm_ (a' := ?_) ?_ ?_
          rotate_left
          ·show Act.put _ (some 38) _ = _
           simp only [Act.put, List.setIfInBounds_toArray, List.set_cons_zero, List.set_cons_succ, i64_w, i32_w]
           rfl
          refine pure_ (i := 7) (N := some 39) (v := ?_) (a' := ?_) #[true, true, true, true, true, true, true, true] rfl rfl (any_of HT_.out (by kernel_rfl)) (fun _ _ _ h => h) (Or.inl ⟨by rfl, ?_⟩) ?_ ?_
          rotate_left
          ·intro w'
           go_simp
           with_reducible rfl
          rotate_left
          ·simp only [Act.put, List.setIfInBounds_toArray, List.set_cons_zero, List.set_cons_succ, i64_w, i32_w]
           rfl
          refine done_ (done_of HT_.out (by kernel_rfl)) ?_
          have p314 : 0 ≤ (x5_1 : Int) := of_decide_eq_true (by first | (with_reducible assumption) | assumption)
          have q314 : x5_1 < (l0.length : Int) := of_decide_eq_true (by first | (with_reducible assumption) | assumption)
          obtain ⟨ad314, e314, hx314_0, hx314_1, hx314_2, hx314_3, hx314_4⟩ := at_T61 HR0.out x5_1 p314 q314
          obtain rfl : ad308 = ad314 := (by injection e314)
          replace hx314_0 := (HB.out.cell (World.block_lt_of_cell? w _ hx314_0)).trans hx314_0
          replace hx314_1 := (HB.out.cell (World.block_lt_of_cell? w _ hx314_1)).trans hx314_1
          replace hx314_2 := (HB.out.cell (World.block_lt_of_cell? w _ hx314_2)).trans hx314_2
          replace hx314_3 := (HB.out.cell (World.block_lt_of_cell? w _ hx314_3)).trans hx314_3
          replace hx314_4 := (HB.out.cell (World.block_lt_of_cell? w _ hx314_4)).trans hx314_4
          replace p314 := eq_true p314
          replace q314 := eq_true q314
          try go_wp2
          have n0_ := Aside0.mk (below_drew1 HB.out)
          clear HB
          have HB := n0_
          clear n0_
          have p315 : 0 ≤ (x5_1 : Int) := of_decide_eq_true (by first | (with_reducible assumption) | assumption)
          have q315 : x5_1 < (l0.length : Int) := of_decide_eq_true (by first | (with_reducible assumption) | assumption)
          obtain ⟨ad315, e315, hx315_0, hx315_1, hx315_2, hx315_3, hx315_4⟩ := at_T61 HR0.out x5_1 p315 q315
          have hw315_4 := hx315_4
          have hw315_3 := hx315_3
          have hw315_2 := hx315_2
          have hw315_1 := hx315_1
          have hw315_0 := hx315_0
          obtain rfl : ad308 = ad315 := (by injection e315)
          replace hx315_0 := (HB.out.cell (World.block_lt_of_cell? w _ hx315_0)).trans hx315_0
          replace hx315_1 := (HB.out.cell (World.block_lt_of_cell? w _ hx315_1)).trans hx315_1
          replace hx315_2 := (HB.out.cell (World.block_lt_of_cell? w _ hx315_2)).trans hx315_2
          replace hx315_3 := (HB.out.cell (World.block_lt_of_cell? w _ hx315_3)).trans hx315_3
          replace hx315_4 := (HB.out.cell (World.block_lt_of_cell? w _ hx315_4)).trans hx315_4
          replace p315 := eq_true p315
          replace q315 := eq_true q315
          refine start_ (n := 8) (S := fun w' => w'.cell? (ad308.add ((x5_1).toNat * 5)) = some (.string ((rd_T61 l0 x5_1).f0)) ∧ w'.cell? ⟨(ad308.add ((x5_1).toNat * 5)).block, (ad308.add ((x5_1).toNat * 5)).off + 1, none⟩ = some (.string ((rd_T61 l0 x5_1).f1)) ∧ w'.cell? ⟨(ad308.add ((x5_1).toNat * 5)).block, (ad308.add ((x5_1).toNat * 5)).off + 2, none⟩ = some (.string ((rd_T61 l0 x5_1).f2)) ∧ w'.cell? ⟨(ad308.add ((x5_1).toNat * 5)).block, (ad308.add ((x5_1).toNat * 5)).off + 3, none⟩ = some (.int .u64 ((rd_T61 l0 x5_1).f3)) ∧ w'.cell? ⟨(ad308.add ((x5_1).toNat * 5)).block, (ad308.add ((x5_1).toNat * 5)).off + 4, none⟩ = some (.string ((rd_T61 l0 x5_1).f4))) (ds := []) #[false, false, false, false, false, false, false, false] (by kernel_rfl) rfl rfl ⟨((HB.out.cell (World.block_lt_of_cell? w _ hw315_0)).trans hw315_0), ((HB.out.cell (World.block_lt_of_cell? w _ hw315_1)).trans hw315_1), ((HB.out.cell (World.block_lt_of_cell? w _ hw315_2)).trans hw315_2), ((HB.out.cell (World.block_lt_of_cell? w _ hw315_3)).trans hw315_3), ((HB.out.cell (World.block_lt_of_cell? w _ hw315_4)).trans hw315_4)⟩ (fun hHeld => ?_); refine with_tabW laws_heldCellS.tab16 laws_heldCellS.bits16 (fun HT_ HW_ => ?_)
          generalize w27.drew = w28 at HB hx315_0 hx315_1 hx315_2 hx315_3 hx315_4 hHeld ⊢
          refine pure_ (i := 0) (N := some 52) (v := ?_) (a' := ?_) #[true, false, false, false, false, false, false, false] rfl rfl (any_of HT_.out (by kernel_rfl)) (fun _ _ _ h => h) (Or.inl ⟨by rfl, ?_⟩) ?_ ?_
          rotate_left
          ·intro w'
           go_simp
           with_reducible rfl
          rotate_left
          ·simp only [Act.put, List.setIfInBounds_toArray, List.set_cons_zero, List.set_cons_succ, i64_w, i32_w]
           rfl
          refine pure_ (i := 1) (N := some 53) (v := ?_) (a' := ?_) #[true, true, false, false, false, false, false, false] rfl rfl (any_of HT_.out (by kernel_rfl)) (fun _ _ _ h => h) (Or.inl ⟨by rfl, ?_⟩) ?_ ?_
          rotate_left
          ·intro w'
           go_simp
           with_reducible rfl
          rotate_left
          ·simp only [Act.put, List.setIfInBounds_toArray, List.set_cons_zero, List.set_cons_succ, i64_w, i32_w]
           rfl
          refine pure_ (i := 2) (N := some 54) (v := ?_) (a' := ?_) #[true, true, true, false, false, false, false, false] rfl rfl (any_of HT_.out (by kernel_rfl)) (fun _ _ _ h => h) (Or.inl ⟨by rfl, ?_⟩) ?_ ?_
          rotate_left
          ·intro w'
           go_simp
           with_reducible rfl
          rotate_left
          ·simp only [Act.put, List.setIfInBounds_toArray, List.set_cons_zero, List.set_cons_succ, i64_w, i32_w]
           rfl
          refine pure_ (i := 3) (N := some 55) (v := ?_) (a' := ?_) #[true, true, true, true, false, false, false, false] rfl rfl (any_of HT_.out (by kernel_rfl)) (fun _ _ _ h => h) (Or.inl ⟨by rfl, ?_⟩) ?_ ?_
          rotate_left
          ·intro w'
           go_simp
           with_reducible rfl
          rotate_left
          ·simp only [Act.put, List.setIfInBounds_toArray, List.set_cons_zero, List.set_cons_succ, i64_w, i32_w]
           rfl
          refine pure_ (i := 5) (N := some 57) (v := ?_) (a' := ?_) #[true, true, true, true, false, true, false, false] rfl rfl (any_of HT_.out (by kernel_rfl)) (fun _ _ _ h => h) (Or.inl ⟨by rfl, ?_⟩) ?_ ?_
          rotate_left
          ·intro w'
           go_simp
           with_reducible rfl
          rotate_left
          ·simp only [Act.put, List.setIfInBounds_toArray, List.set_cons_zero, List.set_cons_succ, i64_w, i32_w]
           rfl
          refine take_ (i := 4) (N := some 56) (v := ?_) (a' := ?_) #[true, true, true, true, true, true, false, false] rfl rfl (take_ofW HT_.out HW_.out (by kernel_rfl)) (fun _ _ _ h => h) (Or.inl ⟨by rfl, ?_⟩) hHeld ?_ ?_
          rotate_left
          ·rintro w' ⟨s0, s1, s2, s3, s4⟩
           go_simp
           with_reducible rfl
          rotate_left
          ·simp only [Act.put, List.setIfInBounds_toArray, List.set_cons_zero, List.set_cons_succ, i64_w, i32_w]
           rfl
          refine one_ (i := 6) (N := some 58) #[true, true, true, true, true, true, true, false] rfl rfl (one_of HT_.out (by kernel_rfl)) (by decide) (fun K hK => ?_)
          refine goes_ Try.func30 (by kernel_rfl) rfl #[.int .i64 (wrap64 ((wrap64 ((wrap64 ((wrap64 (x1_1 + 1)) + 1)) + 1)) + 1))] (by rfl) rfl rfl (by (try simp only [List.map_toArray, List.map_cons, List.map_nil]); first | done | rfl | (simp only [List.length_drop, List.length_take]; rfl)) ?_
          with_reducible refine (laws_markText.calls k1 (wrap64 ((wrap64 ((wrap64 ((wrap64 (x1_1 + 1)) + 1)) + 1)) + 1)) t316 _ A12.out).mono ?_
          rintro e w29 ⟨rfl, hb⟩
          refine ⟨_, rfl, ?_⟩
          have n0_ := Aside0.mk (below_step bw hb)
          clear HB
          have HB := n0_
          clear n0_
          (try clear hb)
          (try clear hb2)
          (try clear hk)
          (try clear hi)
          refine hK.out _ _ ⟨((HB.out.cell (World.block_lt_of_cell? w _ hw315_0)).trans hw315_0), ((HB.out.cell (World.block_lt_of_cell? w _ hw315_1)).trans hw315_1), ((HB.out.cell (World.block_lt_of_cell? w _ hw315_2)).trans hw315_2), ((HB.out.cell (World.block_lt_of_cell? w _ hw315_3)).trans hw315_3), ((HB.out.cell (World.block_lt_of_cell? w _ hw315_4)).trans hw315_4)⟩ (fun hHeld => ?_)
          clear hK K
          refine norm_ (a' := ?_) ?_ ?_
          rotate_left
          ·show Act.put _ (some 58) _ = _
           simp only [Act.put, List.setIfInBounds_toArray, List.set_cons_zero, List.set_cons_succ, i64_w, i32_w]
           rfl
          refine pure_ (i := 7) (N := some 59) (v := ?_) (a' := ?_) #[true, true, true, true, true, true, true, true] rfl rfl (any_of HT_.out (by kernel_rfl)) (fun _ _ _ h => h) (Or.inl ⟨by rfl, ?_⟩) ?_ ?_
          rotate_left
          ·intro w'
           go_simp
           with_reducible rfl
          rotate_left
          ·simp only [Act.put, List.setIfInBounds_toArray, List.set_cons_zero, List.set_cons_succ, i64_w, i32_w]
           rfl
          refine done_ (done_of HT_.out (by kernel_rfl)) ?_
          try go_wp2
          go_ret
          exact ⟨by first | rfl | (simp [errW_none, errW_some] <;> rfl) | (simp [*, errW_none, errW_some] <;> rfl), bw⟩
        ·rw [if_neg c11] at H
         have c11b0 : (((rd_T61 l0 x5_1).f3) == (IntKind.u64.wrap (wrap64 ((wrap64 ((wrap64 (x1_1 + 1)) + 1)) + 1)))) = false := beq_eq_false_iff_ne.mpr c11
         have c11b1 : (((rd_T61 l0 x5_1).f3) != (IntKind.u64.wrap (wrap64 ((wrap64 ((wrap64 (x1_1 + 1)) + 1)) + 1)))) = true := bne_iff_ne.mpr c11
         obtain rfl := Option.some.inj H
         try go_wp2
         have n0_ := Aside0.mk (below_drew1 HB.out)
         clear HB
         have HB := n0_
         clear n0_
         have p308 : 0 ≤ (x5_1 : Int) := of_decide_eq_true (by first | (with_reducible assumption) | assumption)
         have q308 : x5_1 < (l0.length : Int) := of_decide_eq_true (by first | (with_reducible assumption) | assumption)
         obtain ⟨ad308, e308, hx308_0, hx308_1, hx308_2, hx308_3, hx308_4⟩ := at_T61 HR0.out x5_1 p308 q308
         have hw308_4 := hx308_4
         have hw308_3 := hx308_3
         have hw308_2 := hx308_2
         have hw308_1 := hx308_1
         have hw308_0 := hx308_0
         cases e308
         replace hx308_0 := (HB.out.cell (World.block_lt_of_cell? w _ hx308_0)).trans hx308_0
         replace hx308_1 := (HB.out.cell (World.block_lt_of_cell? w _ hx308_1)).trans hx308_1
         replace hx308_2 := (HB.out.cell (World.block_lt_of_cell? w _ hx308_2)).trans hx308_2
         replace hx308_3 := (HB.out.cell (World.block_lt_of_cell? w _ hx308_3)).trans hx308_3
         replace hx308_4 := (HB.out.cell (World.block_lt_of_cell? w _ hx308_4)).trans hx308_4
         replace p308 := eq_true p308
         replace q308 := eq_true q308
         refine start_ (n := 8) (S := fun w' => w'.cell? (ad308.add ((x5_1).toNat * 5)) = some (.string ((rd_T61 l0 x5_1).f0)) ∧ w'.cell? ⟨(ad308.add ((x5_1).toNat * 5)).block, (ad308.add ((x5_1).toNat * 5)).off + 1, none⟩ = some (.string ((rd_T61 l0 x5_1).f1)) ∧ w'.cell? ⟨(ad308.add ((x5_1).toNat * 5)).block, (ad308.add ((x5_1).toNat * 5)).off + 2, none⟩ = some (.string ((rd_T61 l0 x5_1).f2)) ∧ w'.cell? ⟨(ad308.add ((x5_1).toNat * 5)).block, (ad308.add ((x5_1).toNat * 5)).off + 3, none⟩ = some (.int .u64 ((rd_T61 l0 x5_1).f3)) ∧ w'.cell? ⟨(ad308.add ((x5_1).toNat * 5)).block, (ad308.add ((x5_1).toNat * 5)).off + 4, none⟩ = some (.string ((rd_T61 l0 x5_1).f4))) (ds := []) #[false, false, false, false, false, false, false, false] (by kernel_rfl) rfl rfl ⟨((HB.out.cell (World.block_lt_of_cell? w _ hw308_0)).trans hw308_0), ((HB.out.cell (World.block_lt_of_cell? w _ hw308_1)).trans hw308_1), ((HB.out.cell (World.block_lt_of_cell? w _ hw308_2)).trans hw308_2), ((HB.out.cell (World.block_lt_of_cell? w _ hw308_3)).trans hw308_3), ((HB.out.cell (World.block_lt_of_cell? w _ hw308_4)).trans hw308_4)⟩ (fun hHeld => ?_); refine with_tabW laws_heldCellS.tab4 laws_heldCellS.bits4 (fun HT_ HW_ => ?_)
         generalize wr.drew = w30 at HB hx308_0 hx308_1 hx308_2 hx308_3 hx308_4 hHeld ⊢
         refine pure_ (i := 0) (N := some 12) (v := ?_) (a' := ?_) #[true, false, false, false, false, false, false, false] rfl rfl (any_of HT_.out (by kernel_rfl)) (fun _ _ _ h => h) (Or.inl ⟨by rfl, ?_⟩) ?_ ?_
         rotate_left
         ·intro w'
          go_simp
          with_reducible rfl
         rotate_left
         ·simp only [Act.put, List.setIfInBounds_toArray, List.set_cons_zero, List.set_cons_succ, i64_w, i32_w]
          rfl
         refine pure_ (i := 1) (N := some 13) (v := ?_) (a' := ?_) #[true, true, false, false, false, false, false, false] rfl rfl (any_of HT_.out (by kernel_rfl)) (fun _ _ _ h => h) (Or.inl ⟨by rfl, ?_⟩) ?_ ?_
         rotate_left
         ·intro w'
          go_simp
          with_reducible rfl
         rotate_left
         ·simp only [Act.put, List.setIfInBounds_toArray, List.set_cons_zero, List.set_cons_succ, i64_w, i32_w]
          rfl
         refine pure_ (i := 2) (N := some 14) (v := ?_) (a' := ?_) #[true, true, true, false, false, false, false, false] rfl rfl (any_of HT_.out (by kernel_rfl)) (fun _ _ _ h => h) (Or.inl ⟨by rfl, ?_⟩) ?_ ?_
         rotate_left
         ·intro w'
          go_simp
          with_reducible rfl
         rotate_left
         ·simp only [Act.put, List.setIfInBounds_toArray, List.set_cons_zero, List.set_cons_succ, i64_w, i32_w]
          rfl
         refine pure_ (i := 3) (N := some 15) (v := ?_) (a' := ?_) #[true, true, true, true, false, false, false, false] rfl rfl (any_of HT_.out (by kernel_rfl)) (fun _ _ _ h => h) (Or.inl ⟨by rfl, ?_⟩) ?_ ?_
         rotate_left
         ·intro w'
          go_simp
          with_reducible rfl
         rotate_left
         ·simp only [Act.put, List.setIfInBounds_toArray, List.set_cons_zero, List.set_cons_succ, i64_w, i32_w]
          rfl
         refine pure_ (i := 5) (N := some 17) (v := ?_) (a' := ?_) #[true, true, true, true, false, true, false, false] rfl rfl (any_of HT_.out (by kernel_rfl)) (fun _ _ _ h => h) (Or.inl ⟨by rfl, ?_⟩) ?_ ?_
         rotate_left
         ·intro w'
          go_simp
          with_reducible rfl
         rotate_left
         ·simp only [Act.put, List.setIfInBounds_toArray, List.set_cons_zero, List.set_cons_succ, i64_w, i32_w]
          rfl
         refine take_ (i := 4) (N := some 16) (v := ?_) (a' := ?_) #[true, true, true, true, true, true, false, false] rfl rfl (take_ofW HT_.out HW_.out (by kernel_rfl)) (fun _ _ _ h => h) (Or.inl ⟨by rfl, ?_⟩) hHeld ?_ ?_
         rotate_left
         ·rintro w' ⟨s0, s1, s2, s3, s4⟩
          go_simp
          with_reducible rfl
         rotate_left
         ·simp only [Act.put, List.setIfInBounds_toArray, List.set_cons_zero, List.set_cons_succ, i64_w, i32_w]
          rfl
         refine one_ (i := 6) (N := some 18) #[true, true, true, true, true, true, true, false] rfl rfl (one_of HT_.out (by kernel_rfl)) (by decide) (fun K hK => ?_)
         refine goes_ Try.func30 (by kernel_rfl) rfl #[.int .i64 x1_1] (by rfl) rfl rfl (by (try simp only [List.map_toArray, List.map_cons, List.map_nil]); first | done | rfl | (simp only [List.length_drop, List.length_take]; rfl)) ?_
         with_reducible refine (laws_markText.calls k1 x1_1 t309 _ A5.out).mono ?_
         rintro e w31 ⟨rfl, hb⟩
         refine ⟨_, rfl, ?_⟩
         have n0_ := Aside0.mk (below_step bw hb)
         clear HB
         have HB := n0_
         clear n0_
         (try clear hb)
         (try clear hb2)
         (try clear hk)
         (try clear hi)
         refine hK.out _ _ ⟨((HB.out.cell (World.block_lt_of_cell? w _ hw308_0)).trans hw308_0), ((HB.out.cell (World.block_lt_of_cell? w _ hw308_1)).trans hw308_1), ((HB.out.cell (World.block_lt_of_cell? w _ hw308_2)).trans hw308_2), ((HB.out.cell (World.block_lt_of_cell? w _ hw308_3)).trans hw308_3), ((HB.out.cell (World.block_lt_of_cell? w _ hw308_4)).trans hw308_4)⟩ (fun hHeld => ?_)
         clear hK K
         refine norm_ (a' := ?_) ?_ ?_
         rotate_left
         ·show Act.put _ (some 18) _ = _
          simp only [Act.put, List.setIfInBounds_toArray, List.set_cons_zero, List.set_cons_succ, i64_w, i32_w]
          rfl
         refine pure_ (i := 7) (N := some 19) (v := ?_) (a' := ?_) #[true, true, true, true, true, true, true, true] rfl rfl (any_of HT_.out (by kernel_rfl)) (fun _ _ _ h => h) (Or.inl ⟨by rfl, ?_⟩) ?_ ?_
         rotate_left
         ·intro w'
          go_simp
          with_reducible rfl
         rotate_left
         ·simp only [Act.put, List.setIfInBounds_toArray, List.set_cons_zero, List.set_cons_succ, i64_w, i32_w]
          rfl
         refine done_ (done_of HT_.out (by kernel_rfl)) ?_
         try go_wp2
         have n0_ := Aside0.mk (below_drew1 HB.out)
         clear HB
         have HB := n0_
         clear n0_
         have p310 : 0 ≤ (x5_1 : Int) := of_decide_eq_true (by first | (with_reducible assumption) | assumption)
         have q310 : x5_1 < (l0.length : Int) := of_decide_eq_true (by first | (with_reducible assumption) | assumption)
         obtain ⟨ad310, e310, hx310_0, hx310_1, hx310_2, hx310_3, hx310_4⟩ := at_T61 HR0.out x5_1 p310 q310
         have hw310_4 := hx310_4
         have hw310_3 := hx310_3
         have hw310_2 := hx310_2
         have hw310_1 := hx310_1
         have hw310_0 := hx310_0
         obtain rfl : ad308 = ad310 := (by injection e310)
         replace hx310_0 := (HB.out.cell (World.block_lt_of_cell? w _ hx310_0)).trans hx310_0
         replace hx310_1 := (HB.out.cell (World.block_lt_of_cell? w _ hx310_1)).trans hx310_1
         replace hx310_2 := (HB.out.cell (World.block_lt_of_cell? w _ hx310_2)).trans hx310_2
         replace hx310_3 := (HB.out.cell (World.block_lt_of_cell? w _ hx310_3)).trans hx310_3
         replace hx310_4 := (HB.out.cell (World.block_lt_of_cell? w _ hx310_4)).trans hx310_4
         replace p310 := eq_true p310
         replace q310 := eq_true q310
         refine start_ (n := 8) (S := fun w' => w'.cell? (ad308.add ((x5_1).toNat * 5)) = some (.string ((rd_T61 l0 x5_1).f0)) ∧ w'.cell? ⟨(ad308.add ((x5_1).toNat * 5)).block, (ad308.add ((x5_1).toNat * 5)).off + 1, none⟩ = some (.string ((rd_T61 l0 x5_1).f1)) ∧ w'.cell? ⟨(ad308.add ((x5_1).toNat * 5)).block, (ad308.add ((x5_1).toNat * 5)).off + 2, none⟩ = some (.string ((rd_T61 l0 x5_1).f2)) ∧ w'.cell? ⟨(ad308.add ((x5_1).toNat * 5)).block, (ad308.add ((x5_1).toNat * 5)).off + 3, none⟩ = some (.int .u64 ((rd_T61 l0 x5_1).f3)) ∧ w'.cell? ⟨(ad308.add ((x5_1).toNat * 5)).block, (ad308.add ((x5_1).toNat * 5)).off + 4, none⟩ = some (.string ((rd_T61 l0 x5_1).f4))) (ds := []) #[false, false, false, false, false, false, false, false] (by kernel_rfl) rfl rfl ⟨((HB.out.cell (World.block_lt_of_cell? w _ hw310_0)).trans hw310_0), ((HB.out.cell (World.block_lt_of_cell? w _ hw310_1)).trans hw310_1), ((HB.out.cell (World.block_lt_of_cell? w _ hw310_2)).trans hw310_2), ((HB.out.cell (World.block_lt_of_cell? w _ hw310_3)).trans hw310_3), ((HB.out.cell (World.block_lt_of_cell? w _ hw310_4)).trans hw310_4)⟩ (fun hHeld => ?_); refine with_tabW laws_heldCellS.tab7 laws_heldCellS.bits7 (fun HT_ HW_ => ?_)
         generalize w31.drew = w32 at HB hx310_0 hx310_1 hx310_2 hx310_3 hx310_4 hHeld ⊢
         refine pure_ (i := 0) (N := some 22) (v := ?_) (a' := ?_) #[true, false, false, false, false, false, false, false] rfl rfl (any_of HT_.out (by kernel_rfl)) (fun _ _ _ h => h) (Or.inl ⟨by rfl, ?_⟩) ?_ ?_
         rotate_left
         ·intro w'
          go_simp
          with_reducible rfl
         rotate_left
         ·simp only [Act.put, List.setIfInBounds_toArray, List.set_cons_zero, List.set_cons_succ, i64_w, i32_w]
          rfl
         refine pure_ (i := 1) (N := some 23) (v := ?_) (a' := ?_) #[true, true, false, false, false, false, false, false] rfl rfl (any_of HT_.out (by kernel_rfl)) (fun _ _ _ h => h) (Or.inl ⟨by rfl, ?_⟩) ?_ ?_
         rotate_left
         ·intro w'
          go_simp
          with_reducible rfl
         rotate_left
         ·simp only [Act.put, List.setIfInBounds_toArray, List.set_cons_zero, List.set_cons_succ, i64_w, i32_w]
          rfl
         refine pure_ (i := 2) (N := some 24) (v := ?_) (a' := ?_) #[true, true, true, false, false, false, false, false] rfl rfl (any_of HT_.out (by kernel_rfl)) (fun _ _ _ h => h) (Or.inl ⟨by rfl, ?_⟩) ?_ ?_
         rotate_left
         ·intro w'
          go_simp
          with_reducible rfl
         rotate_left
         ·simp only [Act.put, List.setIfInBounds_toArray, List.set_cons_zero, List.set_cons_succ, i64_w, i32_w]
          rfl
         refine pure_ (i := 3) (N := some 25) (v := ?_) (a' := ?_) #[true, true, true, true, false, false, false, false] rfl rfl (any_of HT_.out (by kernel_rfl)) (fun _ _ _ h => h) (Or.inl ⟨by rfl, ?_⟩) ?_ ?_
         rotate_left
         ·intro w'
          go_simp
          with_reducible rfl
         rotate_left
         ·simp only [Act.put, List.setIfInBounds_toArray, List.set_cons_zero, List.set_cons_succ, i64_w, i32_w]
          rfl
         refine pure_ (i := 5) (N := some 27) (v := ?_) (a' := ?_) #[true, true, true, true, false, true, false, false] rfl rfl (any_of HT_.out (by kernel_rfl)) (fun _ _ _ h => h) (Or.inl ⟨by rfl, ?_⟩) ?_ ?_
         rotate_left
         ·intro w'
          go_simp
          with_reducible rfl
         rotate_left
         ·simp only [Act.put, List.setIfInBounds_toArray, List.set_cons_zero, List.set_cons_succ, i64_w, i32_w]
          rfl
         refine take_ (i := 4) (N := some 26) (v := ?_) (a' := ?_) #[true, true, true, true, true, true, false, false] rfl rfl (take_ofW HT_.out HW_.out (by kernel_rfl)) (fun _ _ _ h => h) (Or.inl ⟨by rfl, ?_⟩) hHeld ?_ ?_
         rotate_left
         ·rintro w' ⟨s0, s1, s2, s3, s4⟩
          go_simp
          with_reducible rfl
         rotate_left
         ·simp only [Act.put, List.setIfInBounds_toArray, List.set_cons_zero, List.set_cons_succ, i64_w, i32_w]
          rfl
         refine one_ (i := 6) (N := some 28) #[true, true, true, true, true, true, true, false] rfl rfl (one_of HT_.out (by kernel_rfl)) (by decide) (fun K hK => ?_)
         refine goes_ Try.func30 (by kernel_rfl) rfl #[.int .i64 (wrap64 (x1_1 + 1))] (by rfl) rfl rfl (by (try simp only [List.map_toArray, List.map_cons, List.map_nil]); first | done | rfl | (simp only [List.length_drop, List.length_take]; rfl)) ?_
         with_reducible refine (laws_markText.calls k1 (wrap64 (x1_1 + 1)) t311 _ A7.out).mono ?_
         rintro e w33 ⟨rfl, hb⟩
         refine ⟨_, rfl, ?_⟩
         have n0_ := Aside0.mk (below_step bw hb)
         clear HB
         have HB := n0_
         clear n0_
         (try clear hb)
         (try clear hb2)
         (try clear hk)
         (try clear hi)
         refine hK.out _ _ ⟨((HB.out.cell (World.block_lt_of_cell? w _ hw310_0)).trans hw310_0), ((HB.out.cell (World.block_lt_of_cell? w _ hw310_1)).trans hw310_1), ((HB.out.cell (World.block_lt_of_cell? w _ hw310_2)).trans hw310_2), ((HB.out.cell (World.block_lt_of_cell? w _ hw310_3)).trans hw310_3), ((HB.out.cell (World.block_lt_of_cell? w _ hw310_4)).trans hw310_4)⟩ (fun hHeld => ?_)
         clear hK K
         refine norm_ (a' := ?_) ?_ ?_
         rotate_left
         ·show Act.put _ (some 28) _ = _
          simp only [Act.put, List.setIfInBounds_toArray, List.set_cons_zero, List.set_cons_succ, i64_w, i32_w]
          rfl
         refine pure_ (i := 7) (N := some 29) (v := ?_) (a' := ?_) #[true, true, true, true, true, true, true, true] rfl rfl (any_of HT_.out (by kernel_rfl)) (fun _ _ _ h => h) (Or.inl ⟨by rfl, ?_⟩) ?_ ?_
         rotate_left
         ·intro w'
          go_simp
          with_reducible rfl
         rotate_left
         ·simp only [Act.put, List.setIfInBounds_toArray, List.set_cons_zero, List.set_cons_succ, i64_w, i32_w]
          rfl
         refine done_ (done_of HT_.out (by kernel_rfl)) ?_
         try go_wp2
         have n0_ := Aside0.mk (below_drew1 HB.out)
         clear HB
         have HB := n0_
         clear n0_
         have p312 : 0 ≤ (x5_1 : Int) := of_decide_eq_true (by first | (with_reducible assumption) | assumption)
         have q312 : x5_1 < (l0.length : Int) := of_decide_eq_true (by first | (with_reducible assumption) | assumption)
         obtain ⟨ad312, e312, hx312_0, hx312_1, hx312_2, hx312_3, hx312_4⟩ := at_T61 HR0.out x5_1 p312 q312
         have hw312_4 := hx312_4
         have hw312_3 := hx312_3
         have hw312_2 := hx312_2
         have hw312_1 := hx312_1
         have hw312_0 := hx312_0
         obtain rfl : ad308 = ad312 := (by injection e312)
         replace hx312_0 := (HB.out.cell (World.block_lt_of_cell? w _ hx312_0)).trans hx312_0
         replace hx312_1 := (HB.out.cell (World.block_lt_of_cell? w _ hx312_1)).trans hx312_1
         replace hx312_2 := (HB.out.cell (World.block_lt_of_cell? w _ hx312_2)).trans hx312_2
         replace hx312_3 := (HB.out.cell (World.block_lt_of_cell? w _ hx312_3)).trans hx312_3
         replace hx312_4 := (HB.out.cell (World.block_lt_of_cell? w _ hx312_4)).trans hx312_4
         replace p312 := eq_true p312
         replace q312 := eq_true q312
         refine start_ (n := 8) (S := fun w' => w'.cell? (ad308.add ((x5_1).toNat * 5)) = some (.string ((rd_T61 l0 x5_1).f0)) ∧ w'.cell? ⟨(ad308.add ((x5_1).toNat * 5)).block, (ad308.add ((x5_1).toNat * 5)).off + 1, none⟩ = some (.string ((rd_T61 l0 x5_1).f1)) ∧ w'.cell? ⟨(ad308.add ((x5_1).toNat * 5)).block, (ad308.add ((x5_1).toNat * 5)).off + 2, none⟩ = some (.string ((rd_T61 l0 x5_1).f2)) ∧ w'.cell? ⟨(ad308.add ((x5_1).toNat * 5)).block, (ad308.add ((x5_1).toNat * 5)).off + 3, none⟩ = some (.int .u64 ((rd_T61 l0 x5_1).f3)) ∧ w'.cell? ⟨(ad308.add ((x5_1).toNat * 5)).block, (ad308.add ((x5_1).toNat * 5)).off + 4, none⟩ = some (.string ((rd_T61 l0 x5_1).f4))) (ds := []) #[false, false, false, false, false, false, false, false] (by kernel_rfl) rfl rfl ⟨((HB.out.cell (World.block_lt_of_cell? w _ hw312_0)).trans hw312_0), ((HB.out.cell (World.block_lt_of_cell? w _ hw312_1)).trans hw312_1), ((HB.out.cell (World.block_lt_of_cell? w _ hw312_2)).trans hw312_2), ((HB.out.cell (World.block_lt_of_cell? w _ hw312_3)).trans hw312_3), ((HB.out.cell (World.block_lt_of_cell? w _ hw312_4)).trans hw312_4)⟩ (fun hHeld => ?_); refine with_tabW laws_heldCellS.tab10 laws_heldCellS.bits10 (fun HT_ HW_ => ?_)
         generalize w33.drew = w34 at HB hx312_0 hx312_1 hx312_2 hx312_3 hx312_4 hHeld ⊢
         refine pure_ (i := 0) (N := some 32) (v := ?_) (a' := ?_) #[true, false, false, false, false, false, false, false] rfl rfl (any_of HT_.out (by kernel_rfl)) (fun _ _ _ h => h) (Or.inl ⟨by rfl, ?_⟩) ?_ ?_
         rotate_left
         ·intro w'
          go_simp
          with_reducible rfl
         rotate_left
         ·simp only [Act.put, List.setIfInBounds_toArray, List.set_cons_zero, List.set_cons_succ, i64_w, i32_w]
          rfl
         refine pure_ (i := 1) (N := some 33) (v := ?_) (a' := ?_) #[true, true, false, false, false, false, false, false] rfl rfl (any_of HT_.out (by kernel_rfl)) (fun _ _ _ h => h) (Or.inl ⟨by rfl, ?_⟩) ?_ ?_
         rotate_left
         ·intro w'
          go_simp
          with_reducible rfl
         rotate_left
         ·simp only [Act.put, List.setIfInBounds_toArray, List.set_cons_zero, List.set_cons_succ, i64_w, i32_w]
          rfl
         refine pure_ (i := 2) (N := some 34) (v := ?_) (a' := ?_) #[true, true, true, false, false, false, false, false] rfl rfl (any_of HT_.out (by kernel_rfl)) (fun _ _ _ h => h) (Or.inl ⟨by rfl, ?_⟩) ?_ ?_
         rotate_left
         ·intro w'
          go_simp
          with_reducible rfl
         rotate_left
         ·simp only [Act.put, List.setIfInBounds_toArray, List.set_cons_zero, List.set_cons_succ, i64_w, i32_w]
          rfl
         refine pure_ (i := 3) (N := some 35) (v := ?_) (a' := ?_) #[true, true, true, true, false, false, false, false] rfl rfl (any_of HT_.out (by kernel_rfl)) (fun _ _ _ h => h) (Or.inl ⟨by rfl, ?_⟩) ?_ ?_
         rotate_left
         ·intro w'
          go_simp
          with_reducible rfl
         rotate_left
         ·simp only [Act.put, List.setIfInBounds_toArray, List.set_cons_zero, List.set_cons_succ, i64_w, i32_w]
          rfl
         refine pure_ (i := 5) (N := some 37) (v := ?_) (a' := ?_) #[true, true, true, true, false, true, false, false] rfl rfl (any_of HT_.out (by kernel_rfl)) (fun _ _ _ h => h) (Or.inl ⟨by rfl, ?_⟩) ?_ ?_
         rotate_left
         ·intro w'
          go_simp
          with_reducible rfl
         rotate_left
         ·simp only [Act.put, List.setIfInBounds_toArray, List.set_cons_zero, List.set_cons_succ, i64_w, i32_w]
          rfl
         refine take_ (i := 4) (N := some 36) (v := ?_) (a' := ?_) #[true, true, true, true, true, true, false, false] rfl rfl (take_ofW HT_.out HW_.out (by kernel_rfl)) (fun _ _ _ h => h) (Or.inl ⟨by rfl, ?_⟩) hHeld ?_ ?_
         rotate_left
         ·rintro w' ⟨s0, s1, s2, s3, s4⟩
          go_simp
          with_reducible rfl
         rotate_left
         ·simp only [Act.put, List.setIfInBounds_toArray, List.set_cons_zero, List.set_cons_succ, i64_w, i32_w]
          rfl
         refine one_ (i := 6) (N := some 38) #[true, true, true, true, true, true, true, false] rfl rfl (one_of HT_.out (by kernel_rfl)) (by decide) (fun K hK => ?_)
         refine goes_ Try.func30 (by kernel_rfl) rfl #[.int .i64 (wrap64 ((wrap64 (x1_1 + 1)) + 1))] (by rfl) rfl rfl (by (try simp only [List.map_toArray, List.map_cons, List.map_nil]); first | done | rfl | (simp only [List.length_drop, List.length_take]; rfl)) ?_
         with_reducible refine (laws_markText.calls k1 (wrap64 ((wrap64 (x1_1 + 1)) + 1)) t313 _ A9.out).mono ?_
         rintro e w35 ⟨rfl, hb⟩
         refine ⟨_, rfl, ?_⟩
         have n0_ := Aside0.mk (below_step bw hb)
         clear HB
         have HB := n0_
         clear n0_
         (try clear hb)
         (try clear hb2)
         (try clear hk)
         (try clear hi)
         refine hK.out _ _ ⟨((HB.out.cell (World.block_lt_of_cell? w _ hw312_0)).trans hw312_0), ((HB.out.cell (World.block_lt_of_cell? w _ hw312_1)).trans hw312_1), ((HB.out.cell (World.block_lt_of_cell? w _ hw312_2)).trans hw312_2), ((HB.out.cell (World.block_lt_of_cell? w _ hw312_3)).trans hw312_3), ((HB.out.cell (World.block_lt_of_cell? w _ hw312_4)).trans hw312_4)⟩ (fun hHeld => ?_)
         clear hK K
         refine norm_ (a' := ?_) ?_ ?_
         rotate_left
         ·show Act.put _ (some 38) _ = _
          simp only [Act.put, List.setIfInBounds_toArray, List.set_cons_zero, List.set_cons_succ, i64_w, i32_w]
          rfl
         refine pure_ (i := 7) (N := some 39) (v := ?_) (a' := ?_) #[true, true, true, true, true, true, true, true] rfl rfl (any_of HT_.out (by kernel_rfl)) (fun _ _ _ h => h) (Or.inl ⟨by rfl, ?_⟩) ?_ ?_
         rotate_left
         ·intro w'
          go_simp
          with_reducible rfl
         rotate_left
         ·simp only [Act.put, List.setIfInBounds_toArray, List.set_cons_zero, List.set_cons_succ, i64_w, i32_w]
          rfl
         refine done_ (done_of HT_.out (by kernel_rfl)) ?_
         have p314 : 0 ≤ (x5_1 : Int) := of_decide_eq_true (by first | (with_reducible assumption) | assumption)
         have q314 : x5_1 < (l0.length : Int) := of_decide_eq_true (by first | (with_reducible assumption) | assumption)
         obtain ⟨ad314, e314, hx314_0, hx314_1, hx314_2, hx314_3, hx314_4⟩ := at_T61 HR0.out x5_1 p314 q314
         obtain rfl : ad308 = ad314 := (by injection e314)
         replace hx314_0 := (HB.out.cell (World.block_lt_of_cell? w _ hx314_0)).trans hx314_0
         replace hx314_1 := (HB.out.cell (World.block_lt_of_cell? w _ hx314_1)).trans hx314_1
         replace hx314_2 := (HB.out.cell (World.block_lt_of_cell? w _ hx314_2)).trans hx314_2
         replace hx314_3 := (HB.out.cell (World.block_lt_of_cell? w _ hx314_3)).trans hx314_3
         replace hx314_4 := (HB.out.cell (World.block_lt_of_cell? w _ hx314_4)).trans hx314_4
         replace p314 := eq_true p314
         replace q314 := eq_true q314
         try go_wp2
         go_ret
         exact ⟨by first | rfl | (simp [errW_none, errW_some] <;> rfl) | (simp [*, errW_none, errW_some] <;> rfl), bw⟩
       ·rw [if_neg c10] at H
        have c10b0 : (((rd_T61 l0 x5_1).f2).toList == t313.toList) = false := beq_eq_false_iff_ne.mpr c10
        have c10b1 : (((rd_T61 l0 x5_1).f2).toList != t313.toList) = true := bne_iff_ne.mpr c10
        obtain rfl := Option.some.inj H
        try go_wp2
        have n0_ := Aside0.mk (below_drew1 HB.out)
        clear HB
        have HB := n0_
        clear n0_
        have p308 : 0 ≤ (x5_1 : Int) := of_decide_eq_true (by first | (with_reducible assumption) | assumption)
        have q308 : x5_1 < (l0.length : Int) := of_decide_eq_true (by first | (with_reducible assumption) | assumption)
        obtain ⟨ad308, e308, hx308_0, hx308_1, hx308_2, hx308_3, hx308_4⟩ := at_T61 HR0.out x5_1 p308 q308
        have hw308_4 := hx308_4
        have hw308_3 := hx308_3
        have hw308_2 := hx308_2
        have hw308_1 := hx308_1
        have hw308_0 := hx308_0
        cases e308
        replace hx308_0 := (HB.out.cell (World.block_lt_of_cell? w _ hx308_0)).trans hx308_0
        replace hx308_1 := (HB.out.cell (World.block_lt_of_cell? w _ hx308_1)).trans hx308_1
        replace hx308_2 := (HB.out.cell (World.block_lt_of_cell? w _ hx308_2)).trans hx308_2
        replace hx308_3 := (HB.out.cell (World.block_lt_of_cell? w _ hx308_3)).trans hx308_3
        replace hx308_4 := (HB.out.cell (World.block_lt_of_cell? w _ hx308_4)).trans hx308_4
        replace p308 := eq_true p308
        replace q308 := eq_true q308
        refine start_ (n := 8) (S := fun w' => w'.cell? (ad308.add ((x5_1).toNat * 5)) = some (.string ((rd_T61 l0 x5_1).f0)) ∧ w'.cell? ⟨(ad308.add ((x5_1).toNat * 5)).block, (ad308.add ((x5_1).toNat * 5)).off + 1, none⟩ = some (.string ((rd_T61 l0 x5_1).f1)) ∧ w'.cell? ⟨(ad308.add ((x5_1).toNat * 5)).block, (ad308.add ((x5_1).toNat * 5)).off + 2, none⟩ = some (.string ((rd_T61 l0 x5_1).f2)) ∧ w'.cell? ⟨(ad308.add ((x5_1).toNat * 5)).block, (ad308.add ((x5_1).toNat * 5)).off + 3, none⟩ = some (.int .u64 ((rd_T61 l0 x5_1).f3)) ∧ w'.cell? ⟨(ad308.add ((x5_1).toNat * 5)).block, (ad308.add ((x5_1).toNat * 5)).off + 4, none⟩ = some (.string ((rd_T61 l0 x5_1).f4))) (ds := []) #[false, false, false, false, false, false, false, false] (by kernel_rfl) rfl rfl ⟨((HB.out.cell (World.block_lt_of_cell? w _ hw308_0)).trans hw308_0), ((HB.out.cell (World.block_lt_of_cell? w _ hw308_1)).trans hw308_1), ((HB.out.cell (World.block_lt_of_cell? w _ hw308_2)).trans hw308_2), ((HB.out.cell (World.block_lt_of_cell? w _ hw308_3)).trans hw308_3), ((HB.out.cell (World.block_lt_of_cell? w _ hw308_4)).trans hw308_4)⟩ (fun hHeld => ?_); refine with_tabW laws_heldCellS.tab4 laws_heldCellS.bits4 (fun HT_ HW_ => ?_)
        generalize wr.drew = w36 at HB hx308_0 hx308_1 hx308_2 hx308_3 hx308_4 hHeld ⊢
        refine pure_ (i := 0) (N := some 12) (v := ?_) (a' := ?_) #[true, false, false, false, false, false, false, false] rfl rfl (any_of HT_.out (by kernel_rfl)) (fun _ _ _ h => h) (Or.inl ⟨by rfl, ?_⟩) ?_ ?_
        rotate_left
        ·intro w'
         go_simp
         with_reducible rfl
        rotate_left
        ·simp only [Act.put, List.setIfInBounds_toArray, List.set_cons_zero, List.set_cons_succ, i64_w, i32_w]
         rfl
        refine pure_ (i := 1) (N := some 13) (v := ?_) (a' := ?_) #[true, true, false, false, false, false, false, false] rfl rfl (any_of HT_.out (by kernel_rfl)) (fun _ _ _ h => h) (Or.inl ⟨by rfl, ?_⟩) ?_ ?_
        rotate_left
        ·intro w'
         go_simp
         with_reducible rfl
        rotate_left
        ·simp only [Act.put, List.setIfInBounds_toArray, List.set_cons_zero, List.set_cons_succ, i64_w, i32_w]
         rfl
        refine pure_ (i := 2) (N := some 14) (v := ?_) (a' := ?_) #[true, true, true, false, false, false, false, false] rfl rfl (any_of HT_.out (by kernel_rfl)) (fun _ _ _ h => h) (Or.inl ⟨by rfl, ?_⟩) ?_ ?_
        rotate_left
        ·intro w'
         go_simp
         with_reducible rfl
        rotate_left
        ·simp only [Act.put, List.setIfInBounds_toArray, List.set_cons_zero, List.set_cons_succ, i64_w, i32_w]
         rfl
        refine pure_ (i := 3) (N := some 15) (v := ?_) (a' := ?_) #[true, true, true, true, false, false, false, false] rfl rfl (any_of HT_.out (by kernel_rfl)) (fun _ _ _ h => h) (Or.inl ⟨by rfl, ?_⟩) ?_ ?_
        rotate_left
        ·intro w'
         go_simp
         with_reducible rfl
        rotate_left
        ·simp only [Act.put, List.setIfInBounds_toArray, List.set_cons_zero, List.set_cons_succ, i64_w, i32_w]
         rfl
        refine pure_ (i := 5) (N := some 17) (v := ?_) (a' := ?_) #[true, true, true, true, false, true, false, false] rfl rfl (any_of HT_.out (by kernel_rfl)) (fun _ _ _ h => h) (Or.inl ⟨by rfl, ?_⟩) ?_ ?_
        rotate_left
        ·intro w'
         go_simp
         with_reducible rfl
        rotate_left
        ·simp only [Act.put, List.setIfInBounds_toArray, List.set_cons_zero, List.set_cons_succ, i64_w, i32_w]
         rfl
        refine take_ (i := 4) (N := some 16) (v := ?_) (a' := ?_) #[true, true, true, true, true, true, false, false] rfl rfl (take_ofW HT_.out HW_.out (by kernel_rfl)) (fun _ _ _ h => h) (Or.inl ⟨by rfl, ?_⟩) hHeld ?_ ?_
        rotate_left
        ·rintro w' ⟨s0, s1, s2, s3, s4⟩
         go_simp
         with_reducible rfl
        rotate_left
        ·simp only [Act.put, List.setIfInBounds_toArray, List.set_cons_zero, List.set_cons_succ, i64_w, i32_w]
         rfl
        refine one_ (i := 6) (N := some 18) #[true, true, true, true, true, true, true, false] rfl rfl (one_of HT_.out (by kernel_rfl)) (by decide) (fun K hK => ?_)
        refine goes_ Try.func30 (by kernel_rfl) rfl #[.int .i64 x1_1] (by rfl) rfl rfl (by (try simp only [List.map_toArray, List.map_cons, List.map_nil]); first | done | rfl | (simp only [List.length_drop, List.length_take]; rfl)) ?_
        with_reducible refine (laws_markText.calls k1 x1_1 t309 _ A5.out).mono ?_
        rintro e w37 ⟨rfl, hb⟩
        refine ⟨_, rfl, ?_⟩
        have n0_ := Aside0.mk (below_step bw hb)
        clear HB
        have HB := n0_
        clear n0_
        (try clear hb)
        (try clear hb2)
        (try clear hk)
        (try clear hi)
        refine hK.out _ _ ⟨((HB.out.cell (World.block_lt_of_cell? w _ hw308_0)).trans hw308_0), ((HB.out.cell (World.block_lt_of_cell? w _ hw308_1)).trans hw308_1), ((HB.out.cell (World.block_lt_of_cell? w _ hw308_2)).trans hw308_2), ((HB.out.cell (World.block_lt_of_cell? w _ hw308_3)).trans hw308_3), ((HB.out.cell (World.block_lt_of_cell? w _ hw308_4)).trans hw308_4)⟩ (fun hHeld => ?_)
        clear hK K
        refine norm_ (a' := ?_) ?_ ?_
        rotate_left
        ·show Act.put _ (some 18) _ = _
         simp only [Act.put, List.setIfInBounds_toArray, List.set_cons_zero, List.set_cons_succ, i64_w, i32_w]
         rfl
        refine pure_ (i := 7) (N := some 19) (v := ?_) (a' := ?_) #[true, true, true, true, true, true, true, true] rfl rfl (any_of HT_.out (by kernel_rfl)) (fun _ _ _ h => h) (Or.inl ⟨by rfl, ?_⟩) ?_ ?_
        rotate_left
        ·intro w'
         go_simp
         with_reducible rfl
        rotate_left
        ·simp only [Act.put, List.setIfInBounds_toArray, List.set_cons_zero, List.set_cons_succ, i64_w, i32_w]
         rfl
        refine done_ (done_of HT_.out (by kernel_rfl)) ?_
        try go_wp2
        have n0_ := Aside0.mk (below_drew1 HB.out)
        clear HB
        have HB := n0_
        clear n0_
        have p310 : 0 ≤ (x5_1 : Int) := of_decide_eq_true (by first | (with_reducible assumption) | assumption)
        have q310 : x5_1 < (l0.length : Int) := of_decide_eq_true (by first | (with_reducible assumption) | assumption)
        obtain ⟨ad310, e310, hx310_0, hx310_1, hx310_2, hx310_3, hx310_4⟩ := at_T61 HR0.out x5_1 p310 q310
        have hw310_4 := hx310_4
        have hw310_3 := hx310_3
        have hw310_2 := hx310_2
        have hw310_1 := hx310_1
        have hw310_0 := hx310_0
        obtain rfl : ad308 = ad310 := (by injection e310)
        replace hx310_0 := (HB.out.cell (World.block_lt_of_cell? w _ hx310_0)).trans hx310_0
        replace hx310_1 := (HB.out.cell (World.block_lt_of_cell? w _ hx310_1)).trans hx310_1
        replace hx310_2 := (HB.out.cell (World.block_lt_of_cell? w _ hx310_2)).trans hx310_2
        replace hx310_3 := (HB.out.cell (World.block_lt_of_cell? w _ hx310_3)).trans hx310_3
        replace hx310_4 := (HB.out.cell (World.block_lt_of_cell? w _ hx310_4)).trans hx310_4
        replace p310 := eq_true p310
        replace q310 := eq_true q310
        refine start_ (n := 8) (S := fun w' => w'.cell? (ad308.add ((x5_1).toNat * 5)) = some (.string ((rd_T61 l0 x5_1).f0)) ∧ w'.cell? ⟨(ad308.add ((x5_1).toNat * 5)).block, (ad308.add ((x5_1).toNat * 5)).off + 1, none⟩ = some (.string ((rd_T61 l0 x5_1).f1)) ∧ w'.cell? ⟨(ad308.add ((x5_1).toNat * 5)).block, (ad308.add ((x5_1).toNat * 5)).off + 2, none⟩ = some (.string ((rd_T61 l0 x5_1).f2)) ∧ w'.cell? ⟨(ad308.add ((x5_1).toNat * 5)).block, (ad308.add ((x5_1).toNat * 5)).off + 3, none⟩ = some (.int .u64 ((rd_T61 l0 x5_1).f3)) ∧ w'.cell? ⟨(ad308.add ((x5_1).toNat * 5)).block, (ad308.add ((x5_1).toNat * 5)).off + 4, none⟩ = some (.string ((rd_T61 l0 x5_1).f4))) (ds := []) #[false, false, false, false, false, false, false, false] (by kernel_rfl) rfl rfl ⟨((HB.out.cell (World.block_lt_of_cell? w _ hw310_0)).trans hw310_0), ((HB.out.cell (World.block_lt_of_cell? w _ hw310_1)).trans hw310_1), ((HB.out.cell (World.block_lt_of_cell? w _ hw310_2)).trans hw310_2), ((HB.out.cell (World.block_lt_of_cell? w _ hw310_3)).trans hw310_3), ((HB.out.cell (World.block_lt_of_cell? w _ hw310_4)).trans hw310_4)⟩ (fun hHeld => ?_); refine with_tabW laws_heldCellS.tab7 laws_heldCellS.bits7 (fun HT_ HW_ => ?_)
        generalize w37.drew = w38 at HB hx310_0 hx310_1 hx310_2 hx310_3 hx310_4 hHeld ⊢
        refine pure_ (i := 0) (N := some 22) (v := ?_) (a' := ?_) #[true, false, false, false, false, false, false, false] rfl rfl (any_of HT_.out (by kernel_rfl)) (fun _ _ _ h => h) (Or.inl ⟨by rfl, ?_⟩) ?_ ?_
        rotate_left
        ·intro w'
         go_simp
         with_reducible rfl
        rotate_left
        ·simp only [Act.put, List.setIfInBounds_toArray, List.set_cons_zero, List.set_cons_succ, i64_w, i32_w]
         rfl
        refine pure_ (i := 1) (N := some 23) (v := ?_) (a' := ?_) #[true, true, false, false, false, false, false, false] rfl rfl (any_of HT_.out (by kernel_rfl)) (fun _ _ _ h => h) (Or.inl ⟨by rfl, ?_⟩) ?_ ?_
        rotate_left
        ·intro w'
         go_simp
         with_reducible rfl
        rotate_left
        ·simp only [Act.put, List.setIfInBounds_toArray, List.set_cons_zero, List.set_cons_succ, i64_w, i32_w]
         rfl
        refine pure_ (i := 2) (N := some 24) (v := ?_) (a' := ?_) #[true, true, true, false, false, false, false, false] rfl rfl (any_of HT_.out (by kernel_rfl)) (fun _ _ _ h => h) (Or.inl ⟨by rfl, ?_⟩) ?_ ?_
        rotate_left
        ·intro w'
         go_simp
         with_reducible rfl
        rotate_left
        ·simp only [Act.put, List.setIfInBounds_toArray, List.set_cons_zero, List.set_cons_succ, i64_w, i32_w]
         rfl
        refine pure_ (i := 3) (N := some 25) (v := ?_) (a' := ?_) #[true, true, true, true, false, false, false, false] rfl rfl (any_of HT_.out (by kernel_rfl)) (fun _ _ _ h => h) (Or.inl ⟨by rfl, ?_⟩) ?_ ?_
        rotate_left
        ·intro w'
         go_simp
         with_reducible rfl
        rotate_left
        ·simp only [Act.put, List.setIfInBounds_toArray, List.set_cons_zero, List.set_cons_succ, i64_w, i32_w]
         rfl
        refine pure_ (i := 5) (N := some 27) (v := ?_) (a' := ?_) #[true, true, true, true, false, true, false, false] rfl rfl (any_of HT_.out (by kernel_rfl)) (fun _ _ _ h => h) (Or.inl ⟨by rfl, ?_⟩) ?_ ?_
        rotate_left
        ·intro w'
         go_simp
         with_reducible rfl
        rotate_left
        ·simp only [Act.put, List.setIfInBounds_toArray, List.set_cons_zero, List.set_cons_succ, i64_w, i32_w]
         rfl
        refine take_ (i := 4) (N := some 26) (v := ?_) (a' := ?_) #[true, true, true, true, true, true, false, false] rfl rfl (take_ofW HT_.out HW_.out (by kernel_rfl)) (fun _ _ _ h => h) (Or.inl ⟨by rfl, ?_⟩) hHeld ?_ ?_
        rotate_left
        ·rintro w' ⟨s0, s1, s2, s3, s4⟩
         go_simp
         with_reducible rfl
        rotate_left
        ·simp only [Act.put, List.setIfInBounds_toArray, List.set_cons_zero, List.set_cons_succ, i64_w, i32_w]
         rfl
        refine one_ (i := 6) (N := some 28) #[true, true, true, true, true, true, true, false] rfl rfl (one_of HT_.out (by kernel_rfl)) (by decide) (fun K hK => ?_)
        refine goes_ Try.func30 (by kernel_rfl) rfl #[.int .i64 (wrap64 (x1_1 + 1))] (by rfl) rfl rfl (by (try simp only [List.map_toArray, List.map_cons, List.map_nil]); first | done | rfl | (simp only [List.length_drop, List.length_take]; rfl)) ?_
        with_reducible refine (laws_markText.calls k1 (wrap64 (x1_1 + 1)) t311 _ A7.out).mono ?_
        rintro e w39 ⟨rfl, hb⟩
        refine ⟨_, rfl, ?_⟩
        have n0_ := Aside0.mk (below_step bw hb)
        clear HB
        have HB := n0_
        clear n0_
        (try clear hb)
        (try clear hb2)
        (try clear hk)
        (try clear hi)
        refine hK.out _ _ ⟨((HB.out.cell (World.block_lt_of_cell? w _ hw310_0)).trans hw310_0), ((HB.out.cell (World.block_lt_of_cell? w _ hw310_1)).trans hw310_1), ((HB.out.cell (World.block_lt_of_cell? w _ hw310_2)).trans hw310_2), ((HB.out.cell (World.block_lt_of_cell? w _ hw310_3)).trans hw310_3), ((HB.out.cell (World.block_lt_of_cell? w _ hw310_4)).trans hw310_4)⟩ (fun hHeld => ?_)
        clear hK K
        refine norm_ (a' := ?_) ?_ ?_
        rotate_left
        ·show Act.put _ (some 28) _ = _
         simp only [Act.put, List.setIfInBounds_toArray, List.set_cons_zero, List.set_cons_succ, i64_w, i32_w]
         rfl
        refine pure_ (i := 7) (N := some 29) (v := ?_) (a' := ?_) #[true, true, true, true, true, true, true, true] rfl rfl (any_of HT_.out (by kernel_rfl)) (fun _ _ _ h => h) (Or.inl ⟨by rfl, ?_⟩) ?_ ?_
        rotate_left
        ·intro w'
         go_simp
         with_reducible rfl
        rotate_left
        ·simp only [Act.put, List.setIfInBounds_toArray, List.set_cons_zero, List.set_cons_succ, i64_w, i32_w]
         rfl
        refine done_ (done_of HT_.out (by kernel_rfl)) ?_
        try go_wp2
        have n0_ := Aside0.mk (below_drew1 HB.out)
        clear HB
        have HB := n0_
        clear n0_
        have p312 : 0 ≤ (x5_1 : Int) := of_decide_eq_true (by first | (with_reducible assumption) | assumption)
        have q312 : x5_1 < (l0.length : Int) := of_decide_eq_true (by first | (with_reducible assumption) | assumption)
        obtain ⟨ad312, e312, hx312_0, hx312_1, hx312_2, hx312_3, hx312_4⟩ := at_T61 HR0.out x5_1 p312 q312
        have hw312_4 := hx312_4
        have hw312_3 := hx312_3
        have hw312_2 := hx312_2
        have hw312_1 := hx312_1
        have hw312_0 := hx312_0
        obtain rfl : ad308 = ad312 := (by injection e312)
        replace hx312_0 := (HB.out.cell (World.block_lt_of_cell? w _ hx312_0)).trans hx312_0
        replace hx312_1 := (HB.out.cell (World.block_lt_of_cell? w _ hx312_1)).trans hx312_1
        replace hx312_2 := (HB.out.cell (World.block_lt_of_cell? w _ hx312_2)).trans hx312_2
        replace hx312_3 := (HB.out.cell (World.block_lt_of_cell? w _ hx312_3)).trans hx312_3
        replace hx312_4 := (HB.out.cell (World.block_lt_of_cell? w _ hx312_4)).trans hx312_4
        replace p312 := eq_true p312
        replace q312 := eq_true q312
        refine start_ (n := 8) (S := fun w' => w'.cell? (ad308.add ((x5_1).toNat * 5)) = some (.string ((rd_T61 l0 x5_1).f0)) ∧ w'.cell? ⟨(ad308.add ((x5_1).toNat * 5)).block, (ad308.add ((x5_1).toNat * 5)).off + 1, none⟩ = some (.string ((rd_T61 l0 x5_1).f1)) ∧ w'.cell? ⟨(ad308.add ((x5_1).toNat * 5)).block, (ad308.add ((x5_1).toNat * 5)).off + 2, none⟩ = some (.string ((rd_T61 l0 x5_1).f2)) ∧ w'.cell? ⟨(ad308.add ((x5_1).toNat * 5)).block, (ad308.add ((x5_1).toNat * 5)).off + 3, none⟩ = some (.int .u64 ((rd_T61 l0 x5_1).f3)) ∧ w'.cell? ⟨(ad308.add ((x5_1).toNat * 5)).block, (ad308.add ((x5_1).toNat * 5)).off + 4, none⟩ = some (.string ((rd_T61 l0 x5_1).f4))) (ds := []) #[false, false, false, false, false, false, false, false] (by kernel_rfl) rfl rfl ⟨((HB.out.cell (World.block_lt_of_cell? w _ hw312_0)).trans hw312_0), ((HB.out.cell (World.block_lt_of_cell? w _ hw312_1)).trans hw312_1), ((HB.out.cell (World.block_lt_of_cell? w _ hw312_2)).trans hw312_2), ((HB.out.cell (World.block_lt_of_cell? w _ hw312_3)).trans hw312_3), ((HB.out.cell (World.block_lt_of_cell? w _ hw312_4)).trans hw312_4)⟩ (fun hHeld => ?_); refine with_tabW laws_heldCellS.tab10 laws_heldCellS.bits10 (fun HT_ HW_ => ?_)
        generalize w39.drew = w40 at HB hx312_0 hx312_1 hx312_2 hx312_3 hx312_4 hHeld ⊢
        refine pure_ (i := 0) (N := some 32) (v := ?_) (a' := ?_) #[true, false, false, false, false, false, false, false] rfl rfl (any_of HT_.out (by kernel_rfl)) (fun _ _ _ h => h) (Or.inl ⟨by rfl, ?_⟩) ?_ ?_
        rotate_left
        ·intro w'
         go_simp
         with_reducible rfl
        rotate_left
        ·simp only [Act.put, List.setIfInBounds_toArray, List.set_cons_zero, List.set_cons_succ, i64_w, i32_w]
         rfl
        refine pure_ (i := 1) (N := some 33) (v := ?_) (a' := ?_) #[true, true, false, false, false, false, false, false] rfl rfl (any_of HT_.out (by kernel_rfl)) (fun _ _ _ h => h) (Or.inl ⟨by rfl, ?_⟩) ?_ ?_
        rotate_left
        ·intro w'
         go_simp
         with_reducible rfl
        rotate_left
        ·simp only [Act.put, List.setIfInBounds_toArray, List.set_cons_zero, List.set_cons_succ, i64_w, i32_w]
         rfl
        refine pure_ (i := 2) (N := some 34) (v := ?_) (a' := ?_) #[true, true, true, false, false, false, false, false] rfl rfl (any_of HT_.out (by kernel_rfl)) (fun _ _ _ h => h) (Or.inl ⟨by rfl, ?_⟩) ?_ ?_
        rotate_left
        ·intro w'
         go_simp
         with_reducible rfl
        rotate_left
        ·simp only [Act.put, List.setIfInBounds_toArray, List.set_cons_zero, List.set_cons_succ, i64_w, i32_w]
         rfl
        refine pure_ (i := 3) (N := some 35) (v := ?_) (a' := ?_) #[true, true, true, true, false, false, false, false] rfl rfl (any_of HT_.out (by kernel_rfl)) (fun _ _ _ h => h) (Or.inl ⟨by rfl, ?_⟩) ?_ ?_
        rotate_left
        ·intro w'
         go_simp
         with_reducible rfl
        rotate_left
        ·simp only [Act.put, List.setIfInBounds_toArray, List.set_cons_zero, List.set_cons_succ, i64_w, i32_w]
         rfl
        refine pure_ (i := 5) (N := some 37) (v := ?_) (a' := ?_) #[true, true, true, true, false, true, false, false] rfl rfl (any_of HT_.out (by kernel_rfl)) (fun _ _ _ h => h) (Or.inl ⟨by rfl, ?_⟩) ?_ ?_
        rotate_left
        ·intro w'
         go_simp
         with_reducible rfl
        rotate_left
        ·simp only [Act.put, List.setIfInBounds_toArray, List.set_cons_zero, List.set_cons_succ, i64_w, i32_w]
         rfl
        refine take_ (i := 4) (N := some 36) (v := ?_) (a' := ?_) #[true, true, true, true, true, true, false, false] rfl rfl (take_ofW HT_.out HW_.out (by kernel_rfl)) (fun _ _ _ h => h) (Or.inl ⟨by rfl, ?_⟩) hHeld ?_ ?_
        rotate_left
        ·rintro w' ⟨s0, s1, s2, s3, s4⟩
         go_simp
         with_reducible rfl
        rotate_left
        ·simp only [Act.put, List.setIfInBounds_toArray, List.set_cons_zero, List.set_cons_succ, i64_w, i32_w]
         rfl
        refine one_ (i := 6) (N := some 38) #[true, true, true, true, true, true, true, false] rfl rfl (one_of HT_.out (by kernel_rfl)) (by decide) (fun K hK => ?_)
        refine goes_ Try.func30 (by kernel_rfl) rfl #[.int .i64 (wrap64 ((wrap64 (x1_1 + 1)) + 1))] (by rfl) rfl rfl (by (try simp only [List.map_toArray, List.map_cons, List.map_nil]); first | done | rfl | (simp only [List.length_drop, List.length_take]; rfl)) ?_
        with_reducible refine (laws_markText.calls k1 (wrap64 ((wrap64 (x1_1 + 1)) + 1)) t313 _ A9.out).mono ?_
        rintro e w41 ⟨rfl, hb⟩
        refine ⟨_, rfl, ?_⟩
        have n0_ := Aside0.mk (below_step bw hb)
        clear HB
        have HB := n0_
        clear n0_
        (try clear hb)
        (try clear hb2)
        (try clear hk)
        (try clear hi)
        refine hK.out _ _ ⟨((HB.out.cell (World.block_lt_of_cell? w _ hw312_0)).trans hw312_0), ((HB.out.cell (World.block_lt_of_cell? w _ hw312_1)).trans hw312_1), ((HB.out.cell (World.block_lt_of_cell? w _ hw312_2)).trans hw312_2), ((HB.out.cell (World.block_lt_of_cell? w _ hw312_3)).trans hw312_3), ((HB.out.cell (World.block_lt_of_cell? w _ hw312_4)).trans hw312_4)⟩ (fun hHeld => ?_)
        clear hK K
        refine norm_ (a' := ?_) ?_ ?_
        rotate_left
        ·show Act.put _ (some 38) _ = _
         simp only [Act.put, List.setIfInBounds_toArray, List.set_cons_zero, List.set_cons_succ, i64_w, i32_w]
         rfl
        refine pure_ (i := 7) (N := some 39) (v := ?_) (a' := ?_) #[true, true, true, true, true, true, true, true] rfl rfl (any_of HT_.out (by kernel_rfl)) (fun _ _ _ h => h) (Or.inl ⟨by rfl, ?_⟩) ?_ ?_
        rotate_left
        ·intro w'
         go_simp
         with_reducible rfl
        rotate_left
        ·simp only [Act.put, List.setIfInBounds_toArray, List.set_cons_zero, List.set_cons_succ, i64_w, i32_w]
         rfl
        refine done_ (done_of HT_.out (by kernel_rfl)) ?_
        try go_wp2
        go_ret
        exact ⟨by first | rfl | (simp [errW_none, errW_some] <;> rfl) | (simp [*, errW_none, errW_some] <;> rfl), bw⟩
      ·rw [if_neg c8] at H
       have c8b0 : (((rd_T61 l0 x5_1).f1).toList == t311.toList) = false := beq_eq_false_iff_ne.mpr c8
       have c8b1 : (((rd_T61 l0 x5_1).f1).toList != t311.toList) = true := bne_iff_ne.mpr c8
       obtain rfl := Option.some.inj H
       try go_wp2
       have n0_ := Aside0.mk (below_drew1 HB.out)
       clear HB
       have HB := n0_
       clear n0_
       have p308 : 0 ≤ (x5_1 : Int) := of_decide_eq_true (by first | (with_reducible assumption) | assumption)
       have q308 : x5_1 < (l0.length : Int) := of_decide_eq_true (by first | (with_reducible assumption) | assumption)
       obtain ⟨ad308, e308, hx308_0, hx308_1, hx308_2, hx308_3, hx308_4⟩ := at_T61 HR0.out x5_1 p308 q308
       have hw308_4 := hx308_4
       have hw308_3 := hx308_3
       have hw308_2 := hx308_2
       have hw308_1 := hx308_1
       have hw308_0 := hx308_0
       cases e308
       replace hx308_0 := (HB.out.cell (World.block_lt_of_cell? w _ hx308_0)).trans hx308_0
       replace hx308_1 := (HB.out.cell (World.block_lt_of_cell? w _ hx308_1)).trans hx308_1
       replace hx308_2 := (HB.out.cell (World.block_lt_of_cell? w _ hx308_2)).trans hx308_2
       replace hx308_3 := (HB.out.cell (World.block_lt_of_cell? w _ hx308_3)).trans hx308_3
       replace hx308_4 := (HB.out.cell (World.block_lt_of_cell? w _ hx308_4)).trans hx308_4
       replace p308 := eq_true p308
       replace q308 := eq_true q308
       refine start_ (n := 8) (S := fun w' => w'.cell? (ad308.add ((x5_1).toNat * 5)) = some (.string ((rd_T61 l0 x5_1).f0)) ∧ w'.cell? ⟨(ad308.add ((x5_1).toNat * 5)).block, (ad308.add ((x5_1).toNat * 5)).off + 1, none⟩ = some (.string ((rd_T61 l0 x5_1).f1)) ∧ w'.cell? ⟨(ad308.add ((x5_1).toNat * 5)).block, (ad308.add ((x5_1).toNat * 5)).off + 2, none⟩ = some (.string ((rd_T61 l0 x5_1).f2)) ∧ w'.cell? ⟨(ad308.add ((x5_1).toNat * 5)).block, (ad308.add ((x5_1).toNat * 5)).off + 3, none⟩ = some (.int .u64 ((rd_T61 l0 x5_1).f3)) ∧ w'.cell? ⟨(ad308.add ((x5_1).toNat * 5)).block, (ad308.add ((x5_1).toNat * 5)).off + 4, none⟩ = some (.string ((rd_T61 l0 x5_1).f4))) (ds := []) #[false, false, false, false, false, false, false, false] (by kernel_rfl) rfl rfl ⟨((HB.out.cell (World.block_lt_of_cell? w _ hw308_0)).trans hw308_0), ((HB.out.cell (World.block_lt_of_cell? w _ hw308_1)).trans hw308_1), ((HB.out.cell (World.block_lt_of_cell? w _ hw308_2)).trans hw308_2), ((HB.out.cell (World.block_lt_of_cell? w _ hw308_3)).trans hw308_3), ((HB.out.cell (World.block_lt_of_cell? w _ hw308_4)).trans hw308_4)⟩ (fun hHeld => ?_); refine with_tabW laws_heldCellS.tab4 laws_heldCellS.bits4 (fun HT_ HW_ => ?_)
       generalize wr.drew = w42 at HB hx308_0 hx308_1 hx308_2 hx308_3 hx308_4 hHeld ⊢
       refine pure_ (i := 0) (N := some 12) (v := ?_) (a' := ?_) #[true, false, false, false, false, false, false, false] rfl rfl (any_of HT_.out (by kernel_rfl)) (fun _ _ _ h => h) (Or.inl ⟨by rfl, ?_⟩) ?_ ?_
       rotate_left
       ·intro w'
        go_simp
        with_reducible rfl
       rotate_left
       ·simp only [Act.put, List.setIfInBounds_toArray, List.set_cons_zero, List.set_cons_succ, i64_w, i32_w]
        rfl
       refine pure_ (i := 1) (N := some 13) (v := ?_) (a' := ?_) #[true, true, false, false, false, false, false, false] rfl rfl (any_of HT_.out (by kernel_rfl)) (fun _ _ _ h => h) (Or.inl ⟨by rfl, ?_⟩) ?_ ?_
       rotate_left
       ·intro w'
        go_simp
        with_reducible rfl
       rotate_left
       ·simp only [Act.put, List.setIfInBounds_toArray, List.set_cons_zero, List.set_cons_succ, i64_w, i32_w]
        rfl
       refine pure_ (i := 2) (N := some 14) (v := ?_) (a' := ?_) #[true, true, true, false, false, false, false, false] rfl rfl (any_of HT_.out (by kernel_rfl)) (fun _ _ _ h => h) (Or.inl ⟨by rfl, ?_⟩) ?_ ?_
       rotate_left
       ·intro w'
        go_simp
        with_reducible rfl
       rotate_left
       ·simp only [Act.put, List.setIfInBounds_toArray, List.set_cons_zero, List.set_cons_succ, i64_w, i32_w]
        rfl
       refine pure_ (i := 3) (N := some 15) (v := ?_) (a' := ?_) #[true, true, true, true, false, false, false, false] rfl rfl (any_of HT_.out (by kernel_rfl)) (fun _ _ _ h => h) (Or.inl ⟨by rfl, ?_⟩) ?_ ?_
       rotate_left
       ·intro w'
        go_simp
        with_reducible rfl
       rotate_left
       ·simp only [Act.put, List.setIfInBounds_toArray, List.set_cons_zero, List.set_cons_succ, i64_w, i32_w]
        rfl
       refine pure_ (i := 5) (N := some 17) (v := ?_) (a' := ?_) #[true, true, true, true, false, true, false, false] rfl rfl (any_of HT_.out (by kernel_rfl)) (fun _ _ _ h => h) (Or.inl ⟨by rfl, ?_⟩) ?_ ?_
       rotate_left
       ·intro w'
        go_simp
        with_reducible rfl
       rotate_left
       ·simp only [Act.put, List.setIfInBounds_toArray, List.set_cons_zero, List.set_cons_succ, i64_w, i32_w]
        rfl
       refine take_ (i := 4) (N := some 16) (v := ?_) (a' := ?_) #[true, true, true, true, true, true, false, false] rfl rfl (take_ofW HT_.out HW_.out (by kernel_rfl)) (fun _ _ _ h => h) (Or.inl ⟨by rfl, ?_⟩) hHeld ?_ ?_
       rotate_left
       ·rintro w' ⟨s0, s1, s2, s3, s4⟩
        go_simp
        with_reducible rfl
       rotate_left
       ·simp only [Act.put, List.setIfInBounds_toArray, List.set_cons_zero, List.set_cons_succ, i64_w, i32_w]
        rfl
       refine one_ (i := 6) (N := some 18) #[true, true, true, true, true, true, true, false] rfl rfl (one_of HT_.out (by kernel_rfl)) (by decide) (fun K hK => ?_)
       refine goes_ Try.func30 (by kernel_rfl) rfl #[.int .i64 x1_1] (by rfl) rfl rfl (by (try simp only [List.map_toArray, List.map_cons, List.map_nil]); first | done | rfl | (simp only [List.length_drop, List.length_take]; rfl)) ?_
       with_reducible refine (laws_markText.calls k1 x1_1 t309 _ A5.out).mono ?_
       rintro e w43 ⟨rfl, hb⟩
       refine ⟨_, rfl, ?_⟩
       have n0_ := Aside0.mk (below_step bw hb)
       clear HB
       have HB := n0_
       clear n0_
       (try clear hb)
       (try clear hb2)
       (try clear hk)
       (try clear hi)
       refine hK.out _ _ ⟨((HB.out.cell (World.block_lt_of_cell? w _ hw308_0)).trans hw308_0), ((HB.out.cell (World.block_lt_of_cell? w _ hw308_1)).trans hw308_1), ((HB.out.cell (World.block_lt_of_cell? w _ hw308_2)).trans hw308_2), ((HB.out.cell (World.block_lt_of_cell? w _ hw308_3)).trans hw308_3), ((HB.out.cell (World.block_lt_of_cell? w _ hw308_4)).trans hw308_4)⟩ (fun hHeld => ?_)
       clear hK K
       refine norm_ (a' := ?_) ?_ ?_
       rotate_left
       ·show Act.put _ (some 18) _ = _
        simp only [Act.put, List.setIfInBounds_toArray, List.set_cons_zero, List.set_cons_succ, i64_w, i32_w]
        rfl
       refine pure_ (i := 7) (N := some 19) (v := ?_) (a' := ?_) #[true, true, true, true, true, true, true, true] rfl rfl (any_of HT_.out (by kernel_rfl)) (fun _ _ _ h => h) (Or.inl ⟨by rfl, ?_⟩) ?_ ?_
       rotate_left
       ·intro w'
        go_simp
        with_reducible rfl
       rotate_left
       ·simp only [Act.put, List.setIfInBounds_toArray, List.set_cons_zero, List.set_cons_succ, i64_w, i32_w]
        rfl
       refine done_ (done_of HT_.out (by kernel_rfl)) ?_
       try go_wp2
       have n0_ := Aside0.mk (below_drew1 HB.out)
       clear HB
       have HB := n0_
       clear n0_
       have p310 : 0 ≤ (x5_1 : Int) := of_decide_eq_true (by first | (with_reducible assumption) | assumption)
       have q310 : x5_1 < (l0.length : Int) := of_decide_eq_true (by first | (with_reducible assumption) | assumption)
       obtain ⟨ad310, e310, hx310_0, hx310_1, hx310_2, hx310_3, hx310_4⟩ := at_T61 HR0.out x5_1 p310 q310
       have hw310_4 := hx310_4
       have hw310_3 := hx310_3
       have hw310_2 := hx310_2
       have hw310_1 := hx310_1
       have hw310_0 := hx310_0
       obtain rfl : ad308 = ad310 := (by injection e310)
       replace hx310_0 := (HB.out.cell (World.block_lt_of_cell? w _ hx310_0)).trans hx310_0
       replace hx310_1 := (HB.out.cell (World.block_lt_of_cell? w _ hx310_1)).trans hx310_1
       replace hx310_2 := (HB.out.cell (World.block_lt_of_cell? w _ hx310_2)).trans hx310_2
       replace hx310_3 := (HB.out.cell (World.block_lt_of_cell? w _ hx310_3)).trans hx310_3
       replace hx310_4 := (HB.out.cell (World.block_lt_of_cell? w _ hx310_4)).trans hx310_4
       replace p310 := eq_true p310
       replace q310 := eq_true q310
       refine start_ (n := 8) (S := fun w' => w'.cell? (ad308.add ((x5_1).toNat * 5)) = some (.string ((rd_T61 l0 x5_1).f0)) ∧ w'.cell? ⟨(ad308.add ((x5_1).toNat * 5)).block, (ad308.add ((x5_1).toNat * 5)).off + 1, none⟩ = some (.string ((rd_T61 l0 x5_1).f1)) ∧ w'.cell? ⟨(ad308.add ((x5_1).toNat * 5)).block, (ad308.add ((x5_1).toNat * 5)).off + 2, none⟩ = some (.string ((rd_T61 l0 x5_1).f2)) ∧ w'.cell? ⟨(ad308.add ((x5_1).toNat * 5)).block, (ad308.add ((x5_1).toNat * 5)).off + 3, none⟩ = some (.int .u64 ((rd_T61 l0 x5_1).f3)) ∧ w'.cell? ⟨(ad308.add ((x5_1).toNat * 5)).block, (ad308.add ((x5_1).toNat * 5)).off + 4, none⟩ = some (.string ((rd_T61 l0 x5_1).f4))) (ds := []) #[false, false, false, false, false, false, false, false] (by kernel_rfl) rfl rfl ⟨((HB.out.cell (World.block_lt_of_cell? w _ hw310_0)).trans hw310_0), ((HB.out.cell (World.block_lt_of_cell? w _ hw310_1)).trans hw310_1), ((HB.out.cell (World.block_lt_of_cell? w _ hw310_2)).trans hw310_2), ((HB.out.cell (World.block_lt_of_cell? w _ hw310_3)).trans hw310_3), ((HB.out.cell (World.block_lt_of_cell? w _ hw310_4)).trans hw310_4)⟩ (fun hHeld => ?_); refine with_tabW laws_heldCellS.tab7 laws_heldCellS.bits7 (fun HT_ HW_ => ?_)
       generalize w43.drew = w44 at HB hx310_0 hx310_1 hx310_2 hx310_3 hx310_4 hHeld ⊢
       refine pure_ (i := 0) (N := some 22) (v := ?_) (a' := ?_) #[true, false, false, false, false, false, false, false] rfl rfl (any_of HT_.out (by kernel_rfl)) (fun _ _ _ h => h) (Or.inl ⟨by rfl, ?_⟩) ?_ ?_
       rotate_left
       ·intro w'
        go_simp
        with_reducible rfl
       rotate_left
       ·simp only [Act.put, List.setIfInBounds_toArray, List.set_cons_zero, List.set_cons_succ, i64_w, i32_w]
        rfl
       refine pure_ (i := 1) (N := some 23) (v := ?_) (a' := ?_) #[true, true, false, false, false, false, false, false] rfl rfl (any_of HT_.out (by kernel_rfl)) (fun _ _ _ h => h) (Or.inl ⟨by rfl, ?_⟩) ?_ ?_
       rotate_left
       ·intro w'
        go_simp
        with_reducible rfl
       rotate_left
       ·simp only [Act.put, List.setIfInBounds_toArray, List.set_cons_zero, List.set_cons_succ, i64_w, i32_w]
        rfl
       refine pure_ (i := 2) (N := some 24) (v := ?_) (a' := ?_) #[true, true, true, false, false, false, false, false] rfl rfl (any_of HT_.out (by kernel_rfl)) (fun _ _ _ h => h) (Or.inl ⟨by rfl, ?_⟩) ?_ ?_
       rotate_left
       ·intro w'
        go_simp
        with_reducible rfl
       rotate_left
       ·simp only [Act.put, List.setIfInBounds_toArray, List.set_cons_zero, List.set_cons_succ, i64_w, i32_w]
        rfl
       refine pure_ (i := 3) (N := some 25) (v := ?_) (a' := ?_) #[true, true, true, true, false, false, false, false] rfl rfl (any_of HT_.out (by kernel_rfl)) (fun _ _ _ h => h) (Or.inl ⟨by rfl, ?_⟩) ?_ ?_
       rotate_left
       ·intro w'
        go_simp
        with_reducible rfl
       rotate_left
       ·simp only [Act.put, List.setIfInBounds_toArray, List.set_cons_zero, List.set_cons_succ, i64_w, i32_w]
        rfl
       refine pure_ (i := 5) (N := some 27) (v := ?_) (a' := ?_) #[true, true, true, true, false, true, false, false] rfl rfl (any_of HT_.out (by kernel_rfl)) (fun _ _ _ h => h) (Or.inl ⟨by rfl, ?_⟩) ?_ ?_
       rotate_left
       ·intro w'
        go_simp
        with_reducible rfl
       rotate_left
       ·simp only [Act.put, List.setIfInBounds_toArray, List.set_cons_zero, List.set_cons_succ, i64_w, i32_w]
        rfl
       refine take_ (i := 4) (N := some 26) (v := ?_) (a' := ?_) #[true, true, true, true, true, true, false, false] rfl rfl (take_ofW HT_.out HW_.out (by kernel_rfl)) (fun _ _ _ h => h) (Or.inl ⟨by rfl, ?_⟩) hHeld ?_ ?_
       rotate_left
       ·rintro w' ⟨s0, s1, s2, s3, s4⟩
        go_simp
        with_reducible rfl
       rotate_left
       ·simp only [Act.put, List.setIfInBounds_toArray, List.set_cons_zero, List.set_cons_succ, i64_w, i32_w]
        rfl
       refine one_ (i := 6) (N := some 28) #[true, true, true, true, true, true, true, false] rfl rfl (one_of HT_.out (by kernel_rfl)) (by decide) (fun K hK => ?_)
       refine goes_ Try.func30 (by kernel_rfl) rfl #[.int .i64 (wrap64 (x1_1 + 1))] (by rfl) rfl rfl (by (try simp only [List.map_toArray, List.map_cons, List.map_nil]); first | done | rfl | (simp only [List.length_drop, List.length_take]; rfl)) ?_
       with_reducible refine (laws_markText.calls k1 (wrap64 (x1_1 + 1)) t311 _ A7.out).mono ?_
       rintro e w45 ⟨rfl, hb⟩
       refine ⟨_, rfl, ?_⟩
       have n0_ := Aside0.mk (below_step bw hb)
       clear HB
       have HB := n0_
       clear n0_
       (try clear hb)
       (try clear hb2)
       (try clear hk)
       (try clear hi)
       refine hK.out _ _ ⟨((HB.out.cell (World.block_lt_of_cell? w _ hw310_0)).trans hw310_0), ((HB.out.cell (World.block_lt_of_cell? w _ hw310_1)).trans hw310_1), ((HB.out.cell (World.block_lt_of_cell? w _ hw310_2)).trans hw310_2), ((HB.out.cell (World.block_lt_of_cell? w _ hw310_3)).trans hw310_3), ((HB.out.cell (World.block_lt_of_cell? w _ hw310_4)).trans hw310_4)⟩ (fun hHeld => ?_)
       clear hK K
       refine norm_ (a' := ?_) ?_ ?_
       rotate_left
       ·show Act.put _ (some 28) _ = _
        simp only [Act.put, List.setIfInBounds_toArray, List.set_cons_zero, List.set_cons_succ, i64_w, i32_w]
        rfl
       refine pure_ (i := 7) (N := some 29) (v := ?_) (a' := ?_) #[true, true, true, true, true, true, true, true] rfl rfl (any_of HT_.out (by kernel_rfl)) (fun _ _ _ h => h) (Or.inl ⟨by rfl, ?_⟩) ?_ ?_
       rotate_left
       ·intro w'
        go_simp
        with_reducible rfl
       rotate_left
       ·simp only [Act.put, List.setIfInBounds_toArray, List.set_cons_zero, List.set_cons_succ, i64_w, i32_w]
        rfl
       refine done_ (done_of HT_.out (by kernel_rfl)) ?_
       try go_wp2
       go_ret
       exact ⟨by first | rfl | (simp [errW_none, errW_some] <;> rfl) | (simp [*, errW_none, errW_some] <;> rfl), bw⟩
     ·rw [if_neg c6] at H
      have c6b0 : (((rd_T61 l0 x5_1).f0).toList == t309.toList) = false := beq_eq_false_iff_ne.mpr c6
      have c6b1 : (((rd_T61 l0 x5_1).f0).toList != t309.toList) = true := bne_iff_ne.mpr c6
      obtain rfl := Option.some.inj H
      try go_wp2
      have n0_ := Aside0.mk (below_drew1 HB.out)
      clear HB
      have HB := n0_
      clear n0_
      have p308 : 0 ≤ (x5_1 : Int) := of_decide_eq_true (by first | (with_reducible assumption) | assumption)
      have q308 : x5_1 < (l0.length : Int) := of_decide_eq_true (by first | (with_reducible assumption) | assumption)
      obtain ⟨ad308, e308, hx308_0, hx308_1, hx308_2, hx308_3, hx308_4⟩ := at_T61 HR0.out x5_1 p308 q308
      have hw308_4 := hx308_4
      have hw308_3 := hx308_3
      have hw308_2 := hx308_2
      have hw308_1 := hx308_1
      have hw308_0 := hx308_0
      cases e308
      replace hx308_0 := (HB.out.cell (World.block_lt_of_cell? w _ hx308_0)).trans hx308_0
      replace hx308_1 := (HB.out.cell (World.block_lt_of_cell? w _ hx308_1)).trans hx308_1
      replace hx308_2 := (HB.out.cell (World.block_lt_of_cell? w _ hx308_2)).trans hx308_2
      replace hx308_3 := (HB.out.cell (World.block_lt_of_cell? w _ hx308_3)).trans hx308_3
      replace hx308_4 := (HB.out.cell (World.block_lt_of_cell? w _ hx308_4)).trans hx308_4
      replace p308 := eq_true p308
      replace q308 := eq_true q308
      refine start_ (n := 8) (S := fun w' => w'.cell? (ad308.add ((x5_1).toNat * 5)) = some (.string ((rd_T61 l0 x5_1).f0)) ∧ w'.cell? ⟨(ad308.add ((x5_1).toNat * 5)).block, (ad308.add ((x5_1).toNat * 5)).off + 1, none⟩ = some (.string ((rd_T61 l0 x5_1).f1)) ∧ w'.cell? ⟨(ad308.add ((x5_1).toNat * 5)).block, (ad308.add ((x5_1).toNat * 5)).off + 2, none⟩ = some (.string ((rd_T61 l0 x5_1).f2)) ∧ w'.cell? ⟨(ad308.add ((x5_1).toNat * 5)).block, (ad308.add ((x5_1).toNat * 5)).off + 3, none⟩ = some (.int .u64 ((rd_T61 l0 x5_1).f3)) ∧ w'.cell? ⟨(ad308.add ((x5_1).toNat * 5)).block, (ad308.add ((x5_1).toNat * 5)).off + 4, none⟩ = some (.string ((rd_T61 l0 x5_1).f4))) (ds := []) #[false, false, false, false, false, false, false, false] (by kernel_rfl) rfl rfl ⟨((HB.out.cell (World.block_lt_of_cell? w _ hw308_0)).trans hw308_0), ((HB.out.cell (World.block_lt_of_cell? w _ hw308_1)).trans hw308_1), ((HB.out.cell (World.block_lt_of_cell? w _ hw308_2)).trans hw308_2), ((HB.out.cell (World.block_lt_of_cell? w _ hw308_3)).trans hw308_3), ((HB.out.cell (World.block_lt_of_cell? w _ hw308_4)).trans hw308_4)⟩ (fun hHeld => ?_); refine with_tabW laws_heldCellS.tab4 laws_heldCellS.bits4 (fun HT_ HW_ => ?_)
      generalize wr.drew = w46 at HB hx308_0 hx308_1 hx308_2 hx308_3 hx308_4 hHeld ⊢
      refine pure_ (i := 0) (N := some 12) (v := ?_) (a' := ?_) #[true, false, false, false, false, false, false, false] rfl rfl (any_of HT_.out (by kernel_rfl)) (fun _ _ _ h => h) (Or.inl ⟨by rfl, ?_⟩) ?_ ?_
      rotate_left
      ·intro w'
       go_simp
       with_reducible rfl
      rotate_left
      ·simp only [Act.put, List.setIfInBounds_toArray, List.set_cons_zero, List.set_cons_succ, i64_w, i32_w]
       rfl
      refine pure_ (i := 1) (N := some 13) (v := ?_) (a' := ?_) #[true, true, false, false, false, false, false, false] rfl rfl (any_of HT_.out (by kernel_rfl)) (fun _ _ _ h => h) (Or.inl ⟨by rfl, ?_⟩) ?_ ?_
      rotate_left
      ·intro w'
       go_simp
       with_reducible rfl
      rotate_left
      ·simp only [Act.put, List.setIfInBounds_toArray, List.set_cons_zero, List.set_cons_succ, i64_w, i32_w]
       rfl
      refine pure_ (i := 2) (N := some 14) (v := ?_) (a' := ?_) #[true, true, true, false, false, false, false, false] rfl rfl (any_of HT_.out (by kernel_rfl)) (fun _ _ _ h => h) (Or.inl ⟨by rfl, ?_⟩) ?_ ?_
      rotate_left
      ·intro w'
       go_simp
       with_reducible rfl
      rotate_left
      ·simp only [Act.put, List.setIfInBounds_toArray, List.set_cons_zero, List.set_cons_succ, i64_w, i32_w]
       rfl
      refine pure_ (i := 3) (N := some 15) (v := ?_) (a' := ?_) #[true, true, true, true, false, false, false, false] rfl rfl (any_of HT_.out (by kernel_rfl)) (fun _ _ _ h => h) (Or.inl ⟨by rfl, ?_⟩) ?_ ?_
      rotate_left
      ·intro w'
       go_simp
       with_reducible rfl
      rotate_left
      ·simp only [Act.put, List.setIfInBounds_toArray, List.set_cons_zero, List.set_cons_succ, i64_w, i32_w]
       rfl
      refine pure_ (i := 5) (N := some 17) (v := ?_) (a' := ?_) #[true, true, true, true, false, true, false, false] rfl rfl (any_of HT_.out (by kernel_rfl)) (fun _ _ _ h => h) (Or.inl ⟨by rfl, ?_⟩) ?_ ?_
      rotate_left
      ·intro w'
       go_simp
       with_reducible rfl
      rotate_left
      ·simp only [Act.put, List.setIfInBounds_toArray, List.set_cons_zero, List.set_cons_succ, i64_w, i32_w]
       rfl
      refine take_ (i := 4) (N := some 16) (v := ?_) (a' := ?_) #[true, true, true, true, true, true, false, false] rfl rfl (take_ofW HT_.out HW_.out (by kernel_rfl)) (fun _ _ _ h => h) (Or.inl ⟨by rfl, ?_⟩) hHeld ?_ ?_
      rotate_left
      ·rintro w' ⟨s0, s1, s2, s3, s4⟩
       go_simp
       with_reducible rfl
      rotate_left
      ·simp only [Act.put, List.setIfInBounds_toArray, List.set_cons_zero, List.set_cons_succ, i64_w, i32_w]
       rfl
      refine one_ (i := 6) (N := some 18) #[true, true, true, true, true, true, true, false] rfl rfl (one_of HT_.out (by kernel_rfl)) (by decide) (fun K hK => ?_)
      refine goes_ Try.func30 (by kernel_rfl) rfl #[.int .i64 x1_1] (by rfl) rfl rfl (by (try simp only [List.map_toArray, List.map_cons, List.map_nil]); first | done | rfl | (simp only [List.length_drop, List.length_take]; rfl)) ?_
      with_reducible refine (laws_markText.calls k1 x1_1 t309 _ A5.out).mono ?_
      rintro e w47 ⟨rfl, hb⟩
      refine ⟨_, rfl, ?_⟩
      have n0_ := Aside0.mk (below_step bw hb)
      clear HB
      have HB := n0_
      clear n0_
      (try clear hb)
      (try clear hb2)
      (try clear hk)
      (try clear hi)
      refine hK.out _ _ ⟨((HB.out.cell (World.block_lt_of_cell? w _ hw308_0)).trans hw308_0), ((HB.out.cell (World.block_lt_of_cell? w _ hw308_1)).trans hw308_1), ((HB.out.cell (World.block_lt_of_cell? w _ hw308_2)).trans hw308_2), ((HB.out.cell (World.block_lt_of_cell? w _ hw308_3)).trans hw308_3), ((HB.out.cell (World.block_lt_of_cell? w _ hw308_4)).trans hw308_4)⟩ (fun hHeld => ?_)
      clear hK K
      refine norm_ (a' := ?_) ?_ ?_
      rotate_left
      ·show Act.put _ (some 18) _ = _
       simp only [Act.put, List.setIfInBounds_toArray, List.set_cons_zero, List.set_cons_succ, i64_w, i32_w]
       rfl
      refine pure_ (i := 7) (N := some 19) (v := ?_) (a' := ?_) #[true, true, true, true, true, true, true, true] rfl rfl (any_of HT_.out (by kernel_rfl)) (fun _ _ _ h => h) (Or.inl ⟨by rfl, ?_⟩) ?_ ?_
      rotate_left
      ·intro w'
       go_simp
       with_reducible rfl
      rotate_left
      ·simp only [Act.put, List.setIfInBounds_toArray, List.set_cons_zero, List.set_cons_succ, i64_w, i32_w]
       rfl
      refine done_ (done_of HT_.out (by kernel_rfl)) ?_
      try go_wp2
      go_ret
      exact ⟨by first | rfl | (simp [errW_none, errW_some] <;> rfl) | (simp [*, errW_none, errW_some] <;> rfl), bw⟩
    ·rw [if_neg c4] at H
     exact absurd H (by simp)
   ·rw [if_neg c3] at H
    have c3b0 : decide (x5_1 < (l0.length : Int)) = false := decide_eq_false c3
    clear c3
    obtain rfl := Option.some.inj H
    go_wp2
    go_ret
    exact ⟨by first | rfl | (simp [errW_none, errW_some] <;> rfl) | (simp [*, errW_none, errW_some] <;> rfl), bw⟩

end Go.Proofs.Ytmaildoddeimbaa.Q

namespace Go.Proofs.Ytmaildoddeimbaa.Q
open Go.RowKit Go.Proofs.YtmaildoddeimbaaW.PrintWords Go.Proofs.YtmaildoddeimbaaW.PrintLast Go.Proofs.YtmaildoddeimbaaW.PrintMore
set_option linter.unusedVariables false
set_option linter.unusedSimpArgs false

/-! ### laws_FnExactReplay: function 4 -/
def laws_FnExactReplay.j0 : Nat → List (S41) → List (S61) → List (S61) → Bool → Option (Bool)
 | 0, _, _, _, _ => none
 | k + 1, x0, x4, x6, x42 => if x42 = true then (some false) else ((laws_markCellS.f k x6 1).bind fun bt338 => ((laws_heldCellS.f k bt338.2 1).bind fun t340 => (if t340 < 0 then (some false) else (if t340 = bt338.1 then ((laws_toEntryS.f k x0).bind fun t341 => ((impl_Replay.f k t341).bind fun t344 => ((laws_eqCellS.f k t344 x4).bind fun t347 => (if t347 = true then (some true) else (some false))))) else (some false)))))
def laws_FnExactReplay.f (k : Nat) (l0 : List (S41)) : Option (Bool) := (laws_szEntryS.f k l0 1048576).bind fun t317 => (if t317 < 0 then (some true) else ((laws_toEntryS.f k l0).bind fun t318 => ((spec_Replay.f k t318).bind fun t321 => ((laws_toEntryS.f k l0).bind fun t324 => ((impl_Replay.f k t324).bind fun t327 => ((laws_eqCellS.f k t327 t321).bind fun t330 => (if t330 = true then ((laws_toEntryS.f k l0).bind fun t331 => ((laws_eqEntryS.f k t324 t331).bind fun t334 => (if t334 = true then ((laws_markEntryS.f k t324 1).bind fun bt335 => (if bt335.1 < 0 then (laws_FnExactReplay.j0 k l0 t321 t327 true) else ((laws_eqCellS.f k t327 t321).bind fun t337 => (laws_FnExactReplay.j0 k l0 t321 t327 (!t337))))) else (some false)))) else (some false))))))))
set_option maxHeartbeats 8000000 in
set_option maxRecDepth 100000 in
theorem laws_FnExactReplay.calls (k : Nat) (A0 : Option Addr) (c0 : Nat) (l0 : List (S41)) (r : Bool) (w : World) (hr0 : Kd.C k41 w A0 l0.length l0) (hc0 : l0.length ≤ c0) (h : laws_FnExactReplay.f k l0 = some r) :
  Calls Try.prog 4 #[.slice A0 l0.length c0] w fun e w' => e = .returned (.bool r) ∧ Below w.heap.size w w' := by
 have HR0 := Aside0.mk hr0
 have HC0 := Aside0.mk hc0
 clear hr0 hc0
 have HB := Aside0.mk (Below.refl w.heap.size w)
 have H : ((laws_szEntryS.f k l0 1048576).bind fun t317 => (if t317 < 0 then (some true) else ((laws_toEntryS.f k l0).bind fun t318 => ((spec_Replay.f k t318).bind fun t321 => ((laws_toEntryS.f k l0).bind fun t324 => ((impl_Replay.f k t324).bind fun t327 => ((laws_eqCellS.f k t327 t321).bind fun t330 => (if t330 = true then ((laws_toEntryS.f k l0).bind fun t331 => ((laws_eqEntryS.f k t324 t331).bind fun t334 => (if t334 = true then ((laws_markEntryS.f k t324 1).bind fun bt335 => (if bt335.1 < 0 then (laws_FnExactReplay.j0 k l0 t321 t327 true) else ((laws_eqCellS.f k t327 t321).bind fun t337 => (laws_FnExactReplay.j0 k l0 t321 t327 (!t337))))) else (some false)))) else (some false))))))))) = some r := h
 clear h
 replace H := Option.bind_eq_some_iff.mp H
 obtain ⟨t317, A20, H⟩ := H
 replace H : (if t317 < 0 then (some true) else ((laws_toEntryS.f k l0).bind fun t318 => ((spec_Replay.f k t318).bind fun t321 => ((laws_toEntryS.f k l0).bind fun t324 => ((impl_Replay.f k t324).bind fun t327 => ((laws_eqCellS.f k t327 t321).bind fun t330 => (if t330 = true then ((laws_toEntryS.f k l0).bind fun t331 => ((laws_eqEntryS.f k t324 t331).bind fun t334 => (if t334 = true then ((laws_markEntryS.f k t324 1).bind fun bt335 => (if bt335.1 < 0 then (laws_FnExactReplay.j0 k l0 t321 t327 true) else ((laws_eqCellS.f k t327 t321).bind fun t337 => (laws_FnExactReplay.j0 k l0 t321 t327 (!t337))))) else (some false)))) else (some false)))))))) = some r := H
 have A2 := Aside0.mk A20
 clear A20
 by_cases c3 : t317 < 0
 ·rw [if_pos c3] at H
  have c3b0 : decide (t317 < 0) = true := decide_eq_true c3
  clear c3
  obtain rfl := Option.some.inj H
  go_enter Try.func4, Try.ntmps4
  go_wp2_with (first | ((with_reducible refine at_fn (f := 5) rfl ?_); refine goesL_ (some 13) rfl rfl Try.func5 (by kernel_rfl) rfl #[.slice A0 l0.length c0, .int .i64 1048576] rfl (by (try simp only [List.map_toArray, List.map_cons, List.map_nil]); first | done | rfl | (simp only [List.length_drop, List.length_take]; rfl)) ?_; (with_reducible refine (laws_szEntryS.calls k _ _ l0 1048576 t317 _ ?side1 ?side2 A2.out).mono ?_); (case side1 => repeat (first | exact HR0.out | (with_reducible refine Kd.C_alloc ?_ _) | (with_reducible refine Kd.C_drewN ?_ _) | (with_reducible refine Kd.C_drew ?_))); (case side2 => exact HC0.out); rintro e w4 ⟨rfl, hb⟩; refine ⟨_, rfl, ?_⟩; have n0_ := Aside0.mk (below_step bw hb); clear HB; have HB := n0_; clear n0_; (try clear hb); (try clear hb2); (try clear hk); (try clear hi)))
  go_ret
  exact ⟨by first | rfl | (simp [errW_none, errW_some] <;> rfl) | (simp [*, errW_none, errW_some] <;> rfl), bw⟩
 ·rw [if_neg c3] at H
  have c3b0 : decide (t317 < 0) = false := decide_eq_false c3
  clear c3
  replace H := Option.bind_eq_some_iff.mp H
  obtain ⟨t318, A50, H⟩ := H
  replace H : ((spec_Replay.f k t318).bind fun t321 => ((laws_toEntryS.f k l0).bind fun t324 => ((impl_Replay.f k t324).bind fun t327 => ((laws_eqCellS.f k t327 t321).bind fun t330 => (if t330 = true then ((laws_toEntryS.f k l0).bind fun t331 => ((laws_eqEntryS.f k t324 t331).bind fun t334 => (if t334 = true then ((laws_markEntryS.f k t324 1).bind fun bt335 => (if bt335.1 < 0 then (laws_FnExactReplay.j0 k l0 t321 t327 true) else ((laws_eqCellS.f k t327 t321).bind fun t337 => (laws_FnExactReplay.j0 k l0 t321 t327 (!t337))))) else (some false)))) else (some false)))))) = some r := H
  have A5 := Aside0.mk A50
  clear A50
  replace H := Option.bind_eq_some_iff.mp H
  obtain ⟨t321, A60, H⟩ := H
  replace H : ((laws_toEntryS.f k l0).bind fun t324 => ((impl_Replay.f k t324).bind fun t327 => ((laws_eqCellS.f k t327 t321).bind fun t330 => (if t330 = true then ((laws_toEntryS.f k l0).bind fun t331 => ((laws_eqEntryS.f k t324 t331).bind fun t334 => (if t334 = true then ((laws_markEntryS.f k t324 1).bind fun bt335 => (if bt335.1 < 0 then (laws_FnExactReplay.j0 k l0 t321 t327 true) else ((laws_eqCellS.f k t327 t321).bind fun t337 => (laws_FnExactReplay.j0 k l0 t321 t327 (!t337))))) else (some false)))) else (some false))))) = some r := H
  have A6 := Aside0.mk A60
  clear A60
  replace H := Option.bind_eq_some_iff.mp H
  obtain ⟨t324, A70, H⟩ := H
  replace H : ((impl_Replay.f k t324).bind fun t327 => ((laws_eqCellS.f k t327 t321).bind fun t330 => (if t330 = true then ((laws_toEntryS.f k l0).bind fun t331 => ((laws_eqEntryS.f k t324 t331).bind fun t334 => (if t334 = true then ((laws_markEntryS.f k t324 1).bind fun bt335 => (if bt335.1 < 0 then (laws_FnExactReplay.j0 k l0 t321 t327 true) else ((laws_eqCellS.f k t327 t321).bind fun t337 => (laws_FnExactReplay.j0 k l0 t321 t327 (!t337))))) else (some false)))) else (some false)))) = some r := H
  have A7 := Aside0.mk A70
  clear A70
  replace H := Option.bind_eq_some_iff.mp H
  obtain ⟨t327, A80, H⟩ := H
  replace H : ((laws_eqCellS.f k t327 t321).bind fun t330 => (if t330 = true then ((laws_toEntryS.f k l0).bind fun t331 => ((laws_eqEntryS.f k t324 t331).bind fun t334 => (if t334 = true then ((laws_markEntryS.f k t324 1).bind fun bt335 => (if bt335.1 < 0 then (laws_FnExactReplay.j0 k l0 t321 t327 true) else ((laws_eqCellS.f k t327 t321).bind fun t337 => (laws_FnExactReplay.j0 k l0 t321 t327 (!t337))))) else (some false)))) else (some false))) = some r := H
  have A8 := Aside0.mk A80
  clear A80
  replace H := Option.bind_eq_some_iff.mp H
  obtain ⟨t330, A90, H⟩ := H
  replace H : (if t330 = true then ((laws_toEntryS.f k l0).bind fun t331 => ((laws_eqEntryS.f k t324 t331).bind fun t334 => (if t334 = true then ((laws_markEntryS.f k t324 1).bind fun bt335 => (if bt335.1 < 0 then (laws_FnExactReplay.j0 k l0 t321 t327 true) else ((laws_eqCellS.f k t327 t321).bind fun t337 => (laws_FnExactReplay.j0 k l0 t321 t327 (!t337))))) else (some false)))) else (some false)) = some r := H
  have A9 := Aside0.mk A90
  clear A90
  by_cases c10 : t330 = true
  ·subst c10
   have H1 : ((laws_toEntryS.f k l0).bind fun t331 => ((laws_eqEntryS.f k t324 t331).bind fun t334 => (if t334 = true then ((laws_markEntryS.f k t324 1).bind fun bt335 => (if bt335.1 < 0 then (laws_FnExactReplay.j0 k l0 t321 t327 true) else ((laws_eqCellS.f k t327 t321).bind fun t337 => (laws_FnExactReplay.j0 k l0 t321 t327 (!t337))))) else (some false)))) = some r := by rw [if_pos rfl] at H; exact H
   clear H
   have H := H1
   clear H1
   replace H := Option.bind_eq_some_iff.mp H
   obtain ⟨t331, A110, H⟩ := H
   replace H : ((laws_eqEntryS.f k t324 t331).bind fun t334 => (if t334 = true then ((laws_markEntryS.f k t324 1).bind fun bt335 => (if bt335.1 < 0 then (laws_FnExactReplay.j0 k l0 t321 t327 true) else ((laws_eqCellS.f k t327 t321).bind fun t337 => (laws_FnExactReplay.j0 k l0 t321 t327 (!t337))))) else (some false))) = some r := H
   have A11 := Aside0.mk A110
   clear A110
   replace H := Option.bind_eq_some_iff.mp H
   obtain ⟨t334, A120, H⟩ := H
   replace H : (if t334 = true then ((laws_markEntryS.f k t324 1).bind fun bt335 => (if bt335.1 < 0 then (laws_FnExactReplay.j0 k l0 t321 t327 true) else ((laws_eqCellS.f k t327 t321).bind fun t337 => (laws_FnExactReplay.j0 k l0 t321 t327 (!t337))))) else (some false)) = some r := H
   have A12 := Aside0.mk A120
   clear A120
   by_cases c13 : t334 = true
   ·subst c13
    have H1 : ((laws_markEntryS.f k t324 1).bind fun bt335 => (if bt335.1 < 0 then (laws_FnExactReplay.j0 k l0 t321 t327 true) else ((laws_eqCellS.f k t327 t321).bind fun t337 => (laws_FnExactReplay.j0 k l0 t321 t327 (!t337))))) = some r := by rw [if_pos rfl] at H; exact H
    clear H
    have H := H1
    clear H1
    replace H := Option.bind_eq_some_iff.mp H
    obtain ⟨⟨t335, t336⟩, A140, H⟩ := H
    replace H : (if t335 < 0 then (laws_FnExactReplay.j0 k l0 t321 t327 true) else ((laws_eqCellS.f k t327 t321).bind fun t337 => (laws_FnExactReplay.j0 k l0 t321 t327 (!t337)))) = some r := H
    have A14 := Aside0.mk A140
    clear A140
    have HC15 := Aside0.mk H
    clear H
    go_enter Try.func4, Try.ntmps4
    go_upto_region 14 with (first | ((with_reducible refine at_fn (f := 5) rfl ?_); refine goesL_ (some 13) rfl rfl Try.func5 (by kernel_rfl) rfl #[.slice A0 l0.length c0, .int .i64 1048576] rfl (by (try simp only [List.map_toArray, List.map_cons, List.map_nil]); first | done | rfl | (simp only [List.length_drop, List.length_take]; rfl)) ?_; (with_reducible refine (laws_szEntryS.calls k _ _ l0 1048576 t317 _ ?side1 ?side2 A2.out).mono ?_); (case side1 => repeat (first | exact HR0.out | (with_reducible refine Kd.C_alloc ?_ _) | (with_reducible refine Kd.C_drewN ?_ _) | (with_reducible refine Kd.C_drew ?_))); (case side2 => exact HC0.out); rintro e w16 ⟨rfl, hb⟩; refine ⟨_, rfl, ?_⟩; have n0_ := Aside0.mk (below_step bw hb); clear HB; have HB := n0_; clear n0_; (try clear hb); (try clear hb2); (try clear hk); (try clear hi)) | ((with_reducible refine at_fn (f := 7) rfl ?_); refine goesL_ (some 17) rfl rfl Try.func7 (by kernel_rfl) rfl #[.slice A0 l0.length c0] rfl (by (try simp only [List.map_toArray, List.map_cons, List.map_nil]); first | done | rfl | (simp only [List.length_drop, List.length_take]; rfl)) ?_; (with_reducible refine (laws_toEntryS.calls k _ _ l0 t318 _ ?side1 ?side2 A5.out).mono ?_); (case side1 => repeat (first | exact (Kd.C_below HR0.out HB.out) | (with_reducible refine Kd.C_alloc ?_ _) | (with_reducible refine Kd.C_drewN ?_ _) | (with_reducible refine Kd.C_drew ?_))); (case side2 => exact HC0.out); rintro e w17 ⟨v319, rfl, ho0, hb⟩; refine ⟨_, rfl, ?_⟩; have n0_ := Aside0.mk (Kd.R_lower ho0 (below_size bw)); have n1_ := Aside0.mk (below_step bw hb); clear HB; have HO320 := n0_; have HB := n1_; clear n0_ n1_; (try clear hb); (try clear hb2); (try clear hk); (try clear hi); (try clear ho0); obtain ⟨Ao18, co18, eo18⟩ := Kd.R_slice HO320.out; subst eo18) | ((with_reducible refine at_fn (f := 14) rfl ?_); refine goesL_ (some 18) rfl rfl Try.func14 (by kernel_rfl) rfl #[.slice Ao18 t318.length co18] rfl (by (try simp only [List.map_toArray, List.map_cons, List.map_nil]); first | done | rfl | (simp only [List.length_drop, List.length_take]; rfl)) ?_; (with_reducible refine (spec_Replay.calls k _ _ t318 t321 _ ?side1 ?side2 A6.out).mono ?_); (case side1 => repeat (first | exact (Kd.R_reads' HO320.out).2.2 | (with_reducible refine Kd.C_alloc ?_ _) | (with_reducible refine Kd.C_drewN ?_ _) | (with_reducible refine Kd.C_drew ?_))); (case side2 => exact (Kd.R_reads' HO320.out).2.1); rintro e w19 ⟨v322, rfl, ho0, hb⟩; refine ⟨_, rfl, ?_⟩; have n0_ := Aside0.mk (Kd.R_below (lf HO320) hb); have n1_ := Aside0.mk (Kd.R_lower ho0 (below_size bw)); have n2_ := Aside0.mk (below_step bw hb); clear HO320; clear HB; have HO320 := n0_; have HO323 := n1_; have HB := n2_; clear n0_ n1_ n2_; (try clear hb); (try clear hb2); (try clear hk); (try clear hi); (try clear ho0)) | ((with_reducible refine at_fn (f := 7) rfl ?_); refine goesL_ (some 20) rfl rfl Try.func7 (by kernel_rfl) rfl #[.slice A0 l0.length c0] rfl (by (try simp only [List.map_toArray, List.map_cons, List.map_nil]); first | done | rfl | (simp only [List.length_drop, List.length_take]; rfl)) ?_; (with_reducible refine (laws_toEntryS.calls k _ _ l0 t324 _ ?side1 ?side2 A7.out).mono ?_); (case side1 => repeat (first | exact (Kd.C_below HR0.out HB.out) | (with_reducible refine Kd.C_alloc ?_ _) | (with_reducible refine Kd.C_drewN ?_ _) | (with_reducible refine Kd.C_drew ?_))); (case side2 => exact HC0.out); rintro e w20 ⟨v325, rfl, ho0, hb⟩; refine ⟨_, rfl, ?_⟩; have n0_ := Aside0.mk (Kd.R_elder' (lf HO320) (Kd.R_base ho0) hb); have n1_ := Aside0.mk (Kd.R_below (lf HO323) hb); have n2_ := Aside0.mk (Kd.R_lower (Kd.R_new' ho0 (Kd.R_lt (lf HO320))) (below_size bw)); have n3_ := Aside0.mk (below_step bw hb); clear HO320; clear HO323; clear HB; have HO320 := n0_; have HO323 := n1_; have HO326 := n2_; have HB := n3_; clear n0_ n1_ n2_ n3_; (try clear hb); (try clear hb2); (try clear hk); (try clear hi); (try clear ho0); obtain ⟨Ao21, co21, eo21⟩ := Kd.R_slice HO326.out; subst eo21) | ((with_reducible refine at_fn (f := 15) rfl ?_); refine goesL_ (some 22) rfl rfl Try.func15 (by kernel_rfl) rfl #[.slice Ao21 t324.length co21] rfl (by (try simp only [List.map_toArray, List.map_cons, List.map_nil]); first | done | rfl | (simp only [List.length_drop, List.length_take]; rfl)) ?_; (with_reducible refine (impl_Replay.calls k _ _ t324 t327 _ ?side1 ?side2 A8.out).mono ?_); (case side1 => repeat (first | exact (Kd.R_reads' HO326.out).2.2 | (with_reducible refine Kd.C_alloc ?_ _) | (with_reducible refine Kd.C_drewN ?_ _) | (with_reducible refine Kd.C_drew ?_))); (case side2 => exact (Kd.R_reads' HO326.out).2.1); rintro e w22 ⟨v328, rfl, ho0, hb⟩; refine ⟨_, rfl, ?_⟩; have n0_ := Aside0.mk (Kd.R_below (lf HO320) hb); have n1_ := Aside0.mk (Kd.R_elder' (lf HO323) (Kd.R_base ho0) hb); have n2_ := Aside0.mk (Kd.R_below (lf HO326) hb); have n3_ := Aside0.mk (Kd.R_lower (Kd.R_new' ho0 (Kd.R_lt (lf HO323))) (below_size bw)); have n4_ := Aside0.mk (below_step bw hb); clear HO320; clear HO323; clear HO326; clear HB; have HO320 := n0_; have HO323 := n1_; have HO326 := n2_; have HO329 := n3_; have HB := n4_; clear n0_ n1_ n2_ n3_ n4_; (try clear hb); (try clear hb2); (try clear hk); (try clear hi); (try clear ho0); obtain ⟨Ao23, co23, eo23⟩ := Kd.R_slice HO329.out; subst eo23; obtain ⟨Ao24, co24, eo24⟩ := Kd.R_slice HO323.out; subst eo24) | ((with_reducible refine at_fn (f := 16) rfl ?_); refine goesL_ (some 25) rfl rfl Try.func16 (by kernel_rfl) rfl #[.slice Ao23 t327.length co23, .slice Ao24 t321.length co24] rfl (by (try simp only [List.map_toArray, List.map_cons, List.map_nil]); first | done | rfl | (simp only [List.length_drop, List.length_take]; rfl)) ?_; (with_reducible refine (laws_eqCellS.calls k _ _ t327 _ _ t321 true _ ?side1 ?side2 ?side3 ?side4 A9.out).mono ?_); (case side1 => repeat (first | exact (Kd.R_reads' HO329.out).2.2 | (with_reducible refine Kd.C_alloc ?_ _) | (with_reducible refine Kd.C_drewN ?_ _) | (with_reducible refine Kd.C_drew ?_))); (case side2 => exact (Kd.R_reads' HO329.out).2.1); (case side3 => repeat (first | exact (Kd.R_reads' HO323.out).2.2 | (with_reducible refine Kd.C_alloc ?_ _) | (with_reducible refine Kd.C_drewN ?_ _) | (with_reducible refine Kd.C_drew ?_))); (case side4 => exact (Kd.R_reads' HO323.out).2.1); rintro e w25 ⟨rfl, hb⟩; refine ⟨_, rfl, ?_⟩; have n0_ := Aside0.mk (Kd.R_below (lf HO320) hb); have n1_ := Aside0.mk (Kd.R_below (lf HO323) hb); have n2_ := Aside0.mk (Kd.R_below (lf HO326) hb); have n3_ := Aside0.mk (Kd.R_below (lf HO329) hb); have n4_ := Aside0.mk (below_step bw hb); clear HO320; clear HO323; clear HO326; clear HO329; clear HB; have HO320 := n0_; have HO323 := n1_; have HO326 := n2_; have HO329 := n3_; have HB := n4_; clear n0_ n1_ n2_ n3_ n4_; (try clear hb); (try clear hb2); (try clear hk); (try clear hi)) | ((with_reducible refine at_fn (f := 7) rfl ?_); refine goesL_ (some 29) rfl rfl Try.func7 (by kernel_rfl) rfl #[.slice A0 l0.length c0] rfl (by (try simp only [List.map_toArray, List.map_cons, List.map_nil]); first | done | rfl | (simp only [List.length_drop, List.length_take]; rfl)) ?_; (with_reducible refine (laws_toEntryS.calls k _ _ l0 t331 _ ?side1 ?side2 A11.out).mono ?_); (case side1 => repeat (first | exact (Kd.C_below HR0.out HB.out) | (with_reducible refine Kd.C_alloc ?_ _) | (with_reducible refine Kd.C_drewN ?_ _) | (with_reducible refine Kd.C_drew ?_))); (case side2 => exact HC0.out); rintro e w26 ⟨v332, rfl, ho0, hb⟩; refine ⟨_, rfl, ?_⟩; have n0_ := Aside0.mk (Kd.R_elder' (lf HO320) (Kd.R_base ho0) hb); have n1_ := Aside0.mk (Kd.R_below (lf HO323) hb); have n2_ := Aside0.mk (Kd.R_elder' (lf HO326) (Kd.R_base ho0) hb); have n3_ := Aside0.mk (Kd.R_below (lf HO329) hb); have n4_ := Aside0.mk (Kd.R_lower (Kd.R_new' (Kd.R_new' ho0 (Kd.R_lt (lf HO320))) (Kd.R_lt (lf HO326))) (below_size bw)); have n5_ := Aside0.mk (below_step bw hb); clear HO320; clear HO323; clear HO326; clear HO329; clear HB; have HO320 := n0_; have HO323 := n1_; have HO326 := n2_; have HO329 := n3_; have HO333 := n4_; have HB := n5_; clear n0_ n1_ n2_ n3_ n4_ n5_; (try clear hb); (try clear hb2); (try clear hk); (try clear hi); (try clear ho0); obtain ⟨Ao27, co27, eo27⟩ := Kd.R_slice HO333.out; subst eo27) | ((with_reducible refine at_fn (f := 10) rfl ?_); refine goesL_ (some 30) rfl rfl Try.func10 (by kernel_rfl) rfl #[.slice Ao21 t324.length co21, .slice Ao27 t331.length co27] rfl (by (try simp only [List.map_toArray, List.map_cons, List.map_nil]); first | done | rfl | (simp only [List.length_drop, List.length_take]; rfl)) ?_; (with_reducible refine (laws_eqEntryS.calls k _ _ t324 _ _ t331 true _ ?side1 ?side2 ?side3 ?side4 A12.out).mono ?_); (case side1 => repeat (first | exact (Kd.R_reads' HO326.out).2.2 | (with_reducible refine Kd.C_alloc ?_ _) | (with_reducible refine Kd.C_drewN ?_ _) | (with_reducible refine Kd.C_drew ?_))); (case side2 => exact (Kd.R_reads' HO326.out).2.1); (case side3 => repeat (first | exact (Kd.R_reads' HO333.out).2.2 | (with_reducible refine Kd.C_alloc ?_ _) | (with_reducible refine Kd.C_drewN ?_ _) | (with_reducible refine Kd.C_drew ?_))); (case side4 => exact (Kd.R_reads' HO333.out).2.1); rintro e w28 ⟨rfl, hb⟩; refine ⟨_, rfl, ?_⟩; have n0_ := Aside0.mk (Kd.R_below (lf HO320) hb); have n1_ := Aside0.mk (Kd.R_below (lf HO323) hb); have n2_ := Aside0.mk (Kd.R_below (lf HO326) hb); have n3_ := Aside0.mk (Kd.R_below (lf HO329) hb); have n4_ := Aside0.mk (Kd.R_below (lf HO333) hb); have n5_ := Aside0.mk (below_step bw hb); clear HO320; clear HO323; clear HO326; clear HO329; clear HO333; clear HB; have HO320 := n0_; have HO323 := n1_; have HO326 := n2_; have HO329 := n3_; have HO333 := n4_; have HB := n5_; clear n0_ n1_ n2_ n3_ n4_ n5_; (try clear hb); (try clear hb2); (try clear hk); (try clear hi)) | ((with_reducible refine at_fn (f := 11) rfl ?_); refine goesL_ (some 34) rfl rfl Try.func11 (by kernel_rfl) rfl #[.slice Ao21 t324.length co21, .int .i64 1] rfl (by (try simp only [List.map_toArray, List.map_cons, List.map_nil]); first | done | rfl | (simp only [List.length_drop, List.length_take]; rfl)) ?_; (with_reducible refine (laws_markEntryS.calls k (fun k_ => some k_ = (.slice Ao21 t324.length co21 : Value).ownBlock) (.slice Ao21 t324.length co21) t324 1 t335 t336 w _ ?side1 ?side2 A14.out).mono ?_); (case side1 => repeat (first | (with_reducible first | exact HB.out | apply below_alloc | apply pw_below_drewN | apply below_drew1) | exact HB.out)); (case side2 => exact Kd.R_tight rfl HO326.out); rintro e w29 ⟨rfl, hy0, hb, hkp⟩; refine ⟨_, rfl, ?_⟩; have n0_ := Aside0.mk (Kd.R_mono (ok' := fun k_ => some k_ ≠ (.slice Ao21 t324.length co21 : Value).ownBlock ∧ some k_ ≠ (.slice Ao27 t331.length co27 : Value).ownBlock) (Kd.R_keptB (HO320.out) hkp (fun k_ hk_ hs_ => (hk_.1.2) hs_)) (fun k_ hk_ => ⟨hk_.1.1.2, hk_.1.2⟩)); have n1_ := Aside0.mk (Kd.R_mono (ok' := fun k_ => some k_ ≠ (.slice Ao23 t327.length co23 : Value).ownBlock) (Kd.R_keptB ((Kd.R_apart' HO323.out (Kd.R_typed HO326.out) (by decide))) hkp (fun k_ hk_ hs_ => (hk_.2) hs_)) (fun k_ hk_ => hk_.1.1.2)); have n2_ := Aside0.mk (Kd.R_reok rfl hy0 (fun k_ e_ => HO326.out.1 k_ e_)); have n3_ := Aside0.mk (Kd.R_mono (ok' := fun k_ => some k_ ≠ (.slice Ao24 t321.length co24 : Value).ownBlock) (Kd.R_keptB ((Kd.R_apart' HO329.out (Kd.R_typed HO326.out) (by decide))) hkp (fun k_ hk_ hs_ => (hk_.2) hs_)) (fun k_ hk_ => hk_.1.1.2)); have n4_ := Aside0.mk (Kd.R_mono (ok' := fun k_ => some k_ ≠ (.slice Ao18 t318.length co18 : Value).ownBlock ∧ some k_ ≠ (.slice Ao21 t324.length co21 : Value).ownBlock) (Kd.R_keptB (HO333.out) hkp (fun k_ hk_ hs_ => (hk_.2) hs_)) (fun k_ hk_ => ⟨hk_.1.1.2, hk_.1.2⟩)); have n5_ := Aside0.mk (hb); clear HO320; clear HO323; clear HO326; clear HO329; clear HO333; clear HB; have HO320 := n0_; have HO323 := n1_; have HO326 := n2_; have HO329 := n3_; have HO333 := n4_; have HB := n5_; clear n0_ n1_ n2_ n3_ n4_ n5_; (try clear hb); (try clear hkp); (try clear hy0)))
    (try simp only [Act.put, List.setIfInBounds_toArray, List.set_cons_zero, List.set_cons_succ])
    go_cut [42] (fun v42 wc => ∃ (kq : Nat) (x42_14 : Bool), v42 = .bool x42_14 ∧ Aside0 (laws_FnExactReplay.j0 kq l0 t321 t327 x42_14 = some r) ∧ Aside0 (kq ≤ k) ∧ Aside0 (Kd.R k61 61 wc w.heap.size (fun k_ => some k_ ≠ ((.slice Ao23 t327.length co23) : Value).ownBlock) (.slice Ao24 t321.length co24) t321) ∧ Aside0 (Kd.R k61 61 wc w.heap.size (fun k_ => some k_ ≠ ((.slice Ao24 t321.length co24) : Value).ownBlock) (.slice Ao23 t327.length co23) t327) ∧ Aside0 (Below w.heap.size w wc))
    case first =>
     have H := HC15.out
     clear HC15
     by_cases c30 : t335 < 0
     ·rw [if_pos c30] at H
      have c30b0 : decide (t335 < 0) = true := decide_eq_true c30
      clear c30
      (first | rw [c30b0] | (simp only [i64_w, i32_w]; rw [c30b0]) | skip)
      have H' := Aside0.mk H
      clear H
      go_wp2
      go_meet
      case rel => exact ⟨_, (true), (by first | rfl | (simp; done) | (simp [*]; done)), H', ⟨by first | omega | exact Nat.le_refl _⟩, ⟨lf HO323⟩, ⟨lf HO329⟩, ⟨bw⟩⟩
     ·rw [if_neg c30] at H
      have c30b0 : decide (t335 < 0) = false := decide_eq_false c30
      clear c30
      (first | rw [c30b0] | (simp only [i64_w, i32_w]; rw [c30b0]) | skip)
      replace H := Option.bind_eq_some_iff.mp H
      obtain ⟨t337, A310, H⟩ := H
      replace H : (laws_FnExactReplay.j0 k l0 t321 t327 (!t337)) = some r := H
      have A31 := Aside0.mk A310
      clear A310
      have H' := Aside0.mk H
      clear H
      go_wp2_with (first | (go_at_call 16; (with_reducible refine (laws_eqCellS.calls k _ _ t327 _ _ t321 t337 _ ?side1 ?side2 ?side3 ?side4 A31.out).mono ?_); (case side1 => repeat (first | exact (Kd.R_reads' HO329.out).2.2 | (with_reducible refine Kd.C_alloc ?_ _) | (with_reducible refine Kd.C_drewN ?_ _) | (with_reducible refine Kd.C_drew ?_))); (case side2 => exact (Kd.R_reads' HO329.out).2.1); (case side3 => repeat (first | exact (Kd.R_reads' HO323.out).2.2 | (with_reducible refine Kd.C_alloc ?_ _) | (with_reducible refine Kd.C_drewN ?_ _) | (with_reducible refine Kd.C_drew ?_))); (case side4 => exact (Kd.R_reads' HO323.out).2.1); rintro e w32 ⟨rfl, hb⟩; have n0_ := Aside0.mk (Kd.R_below (lf HO320) hb); have n1_ := Aside0.mk (Kd.R_below (lf HO323) hb); have n2_ := Aside0.mk (Kd.R_below (lf HO326) hb); have n3_ := Aside0.mk (Kd.R_below (lf HO329) hb); have n4_ := Aside0.mk (Kd.R_below (lf HO333) hb); have n5_ := Aside0.mk (below_step bw hb); clear HO320; clear HO323; clear HO326; clear HO329; clear HO333; clear HB; have HO320 := n0_; have HO323 := n1_; have HO326 := n2_; have HO329 := n3_; have HO333 := n4_; have HB := n5_; clear n0_ n1_ n2_ n3_ n4_ n5_; (try clear hb); (try clear hb2); (try clear hk); (try clear hi)))
      go_meet
      case rel => exact ⟨_, (!t337), (by first | rfl | (simp; done) | (simp [*]; done)), H', ⟨by first | omega | exact Nat.le_refl _⟩, ⟨lf HO323⟩, ⟨lf HO329⟩, ⟨bw⟩⟩
    case rest =>
     clear HC15
     try clear c1
     try clear p2
     try clear c3
     try clear c3b0
     try clear c4
     try clear c5
     try clear c7
     try clear c10
     try clear c11
     try clear c13
     try clear c14
     try clear c15
     try clear c16
     try clear c30
     try clear c30b0
     obtain ⟨kq, x42_14, rfl, HA, HJ14, HO_4, HO_6, HB⟩ := hcut
     cases kq with
     | zero => exact absurd HA.out (by simp [laws_FnExactReplay.j0])
     | succ kj14 =>
      have H := HA.out
      clear HA
      simp only [laws_FnExactReplay.j0] at H
      by_cases c33 : x42_14 = true
      ·subst c33
       have H1 : (some false) = some r := by rw [if_pos rfl] at H; exact H
       clear H
       have H := H1
       clear H1
       obtain rfl := Option.some.inj H
       go_wp2
       go_ret
       exact ⟨by first | rfl | (simp [errW_none, errW_some] <;> rfl) | (simp [*, errW_none, errW_some] <;> rfl), bw⟩
      ·replace c33 := Bool.eq_false_iff.mpr c33
       subst c33
       have H1 : ((laws_markCellS.f kj14 t327 1).bind fun bt338 => ((laws_heldCellS.f kj14 bt338.2 1).bind fun t340 => (if t340 < 0 then (some false) else (if t340 = bt338.1 then ((laws_toEntryS.f kj14 l0).bind fun t341 => ((impl_Replay.f kj14 t341).bind fun t344 => ((laws_eqCellS.f kj14 t344 t321).bind fun t347 => (if t347 = true then (some true) else (some false))))) else (some false))))) = some r := by rw [if_neg (show ¬ (false = true) by decide)] at H; exact H
       clear H
       have H := H1
       clear H1
       replace H := Option.bind_eq_some_iff.mp H
       obtain ⟨⟨t338, t339⟩, A340, H⟩ := H
       replace H : ((laws_heldCellS.f kj14 t339 1).bind fun t340 => (if t340 < 0 then (some false) else (if t340 = t338 then ((laws_toEntryS.f kj14 l0).bind fun t341 => ((impl_Replay.f kj14 t341).bind fun t344 => ((laws_eqCellS.f kj14 t344 t321).bind fun t347 => (if t347 = true then (some true) else (some false))))) else (some false)))) = some r := H
       have A34 := Aside0.mk A340
       clear A340
       replace H := Option.bind_eq_some_iff.mp H
       obtain ⟨t340, A350, H⟩ := H
       replace H : (if t340 < 0 then (some false) else (if t340 = t338 then ((laws_toEntryS.f kj14 l0).bind fun t341 => ((impl_Replay.f kj14 t341).bind fun t344 => ((laws_eqCellS.f kj14 t344 t321).bind fun t347 => (if t347 = true then (some true) else (some false))))) else (some false))) = some r := H
       have A35 := Aside0.mk A350
       clear A350
       by_cases c36 : t340 < 0
       ·rw [if_pos c36] at H
        have c36b0 : decide (t340 < 0) = true := decide_eq_true c36
        clear c36
        obtain rfl := Option.some.inj H
        go_wp2_with (first | ((with_reducible refine at_fn (f := 17) rfl ?_); refine goesL_ (some 45) rfl rfl Try.func17 (by kernel_rfl) rfl #[.slice Ao23 t327.length co23, .int .i64 1] rfl (by (try simp only [List.map_toArray, List.map_cons, List.map_nil]); first | done | rfl | (simp only [List.length_drop, List.length_take]; rfl)) ?_; (with_reducible refine (laws_markCellS.calls kj14 (fun k_ => some k_ = (.slice Ao23 t327.length co23 : Value).ownBlock) (.slice Ao23 t327.length co23) t327 1 t338 t339 w _ ?side1 ?side2 A34.out).mono ?_); (case side1 => repeat (first | (with_reducible first | exact HB.out | apply below_alloc | apply pw_below_drewN | apply below_drew1) | exact HB.out)); (case side2 => exact Kd.R_tight rfl HO_6.out); rintro e w37 ⟨rfl, hy0, hb, hkp⟩; refine ⟨_, rfl, ?_⟩; have n0_ := Aside0.mk (Kd.R_mono (ok' := fun k_ => some k_ ≠ (.slice Ao23 t327.length co23 : Value).ownBlock) (Kd.R_keptB (HO_4.out) hkp (fun k_ hk_ hs_ => (hk_) hs_)) (fun k_ hk_ => hk_.1)); have n1_ := Aside0.mk (Kd.R_reok rfl hy0 (fun k_ e_ => HO_6.out.1 k_ e_)); have n2_ := Aside0.mk (hb); clear HO_4; clear HO_6; clear HB; have HO_4 := n0_; have HO_6 := n1_; have HB := n2_; clear n0_ n1_ n2_; (try clear hb); (try clear hkp); (try clear hy0)) | ((with_reducible refine at_fn (f := 18) rfl ?_); refine goesL_ (some 48) rfl rfl Try.func18 (by kernel_rfl) rfl #[.slice Ao23 t339.length co23, .int .i64 1] rfl (by (try simp only [List.map_toArray, List.map_cons, List.map_nil]); first | done | (rw [show t339.length = t327.length from (Kd.R_reads' HO_6.out).1.symm] <;> rfl) | rfl | (simp only [List.length_drop, List.length_take]; rfl)) ?_; (with_reducible refine (laws_heldCellS.calls kj14 _ _ t339 1 t340 _ ?side1 ?side2 A35.out).mono ?_); (case side1 => repeat (first | exact (Kd.R_reads' HO_6.out).2.2 | (with_reducible refine Kd.C_alloc ?_ _) | (with_reducible refine Kd.C_drewN ?_ _) | (with_reducible refine Kd.C_drew ?_))); (case side2 => rw [show t339.length = t327.length from (Kd.R_reads' HO_6.out).1.symm]; exact (Kd.R_reads' HO_6.out).2.1); rintro e w38 ⟨rfl, hb⟩; refine ⟨_, rfl, ?_⟩; have n0_ := Aside0.mk (Kd.R_below (lf HO_4) hb); have n1_ := Aside0.mk (Kd.R_below (lf HO_6) hb); have n2_ := Aside0.mk (below_step bw hb); clear HO_4; clear HO_6; clear HB; have HO_4 := n0_; have HO_6 := n1_; have HB := n2_; clear n0_ n1_ n2_; (try clear hb); (try clear hb2); (try clear hk); (try clear hi)))
        go_ret
        exact ⟨by first | rfl | (simp [errW_none, errW_some] <;> rfl) | (simp [*, errW_none, errW_some] <;> rfl), bw⟩
       ·rw [if_neg c36] at H
        have c36b0 : decide (t340 < 0) = false := decide_eq_false c36
        clear c36
        by_cases c39 : t340 = t338
        ·rw [if_pos c39] at H
         have c39b0 : (t340 == t338) = true := beq_iff_eq.mpr c39
         have c39b1 : (t340 != t338) = false := bne_eq_false_iff_eq.mpr c39
         clear c39
         replace H := Option.bind_eq_some_iff.mp H
         obtain ⟨t341, A400, H⟩ := H
         replace H : ((impl_Replay.f kj14 t341).bind fun t344 => ((laws_eqCellS.f kj14 t344 t321).bind fun t347 => (if t347 = true then (some true) else (some false)))) = some r := H
         have A40 := Aside0.mk A400
         clear A400
         replace H := Option.bind_eq_some_iff.mp H
         obtain ⟨t344, A410, H⟩ := H
         replace H : ((laws_eqCellS.f kj14 t344 t321).bind fun t347 => (if t347 = true then (some true) else (some false))) = some r := H
         have A41 := Aside0.mk A410
         clear A410
         replace H := Option.bind_eq_some_iff.mp H
         obtain ⟨t347, A420, H⟩ := H
         replace H : (if t347 = true then (some true) else (some false)) = some r := H
         have A42 := Aside0.mk A420
         clear A420
         by_cases c43 : t347 = true
         ·subst c43
          have H1 : (some true) = some r := by rw [if_pos rfl] at H; exact H
          clear H
          have H := H1
          clear H1
          obtain rfl := Option.some.inj H
          go_wp2_with (first | ((with_reducible refine at_fn (f := 17) rfl ?_); refine goesL_ (some 45) rfl rfl Try.func17 (by kernel_rfl) rfl #[.slice Ao23 t327.length co23, .int .i64 1] rfl (by (try simp only [List.map_toArray, List.map_cons, List.map_nil]); first | done | rfl | (simp only [List.length_drop, List.length_take]; rfl)) ?_; (with_reducible refine (laws_markCellS.calls kj14 (fun k_ => some k_ = (.slice Ao23 t327.length co23 : Value).ownBlock) (.slice Ao23 t327.length co23) t327 1 t338 t339 w _ ?side1 ?side2 A34.out).mono ?_); (case side1 => repeat (first | (with_reducible first | exact HB.out | apply below_alloc | apply pw_below_drewN | apply below_drew1) | exact HB.out)); (case side2 => exact Kd.R_tight rfl HO_6.out); rintro e w44 ⟨rfl, hy0, hb, hkp⟩; refine ⟨_, rfl, ?_⟩; have n0_ := Aside0.mk (Kd.R_mono (ok' := fun k_ => some k_ ≠ (.slice Ao23 t327.length co23 : Value).ownBlock) (Kd.R_keptB (HO_4.out) hkp (fun k_ hk_ hs_ => (hk_) hs_)) (fun k_ hk_ => hk_.1)); have n1_ := Aside0.mk (Kd.R_reok rfl hy0 (fun k_ e_ => HO_6.out.1 k_ e_)); have n2_ := Aside0.mk (hb); clear HO_4; clear HO_6; clear HB; have HO_4 := n0_; have HO_6 := n1_; have HB := n2_; clear n0_ n1_ n2_; (try clear hb); (try clear hkp); (try clear hy0)) | ((with_reducible refine at_fn (f := 18) rfl ?_); refine goesL_ (some 48) rfl rfl Try.func18 (by kernel_rfl) rfl #[.slice Ao23 t339.length co23, .int .i64 1] rfl (by (try simp only [List.map_toArray, List.map_cons, List.map_nil]); first | done | (rw [show t339.length = t327.length from (Kd.R_reads' HO_6.out).1.symm] <;> rfl) | rfl | (simp only [List.length_drop, List.length_take]; rfl)) ?_; (with_reducible refine (laws_heldCellS.calls kj14 _ _ t339 1 t340 _ ?side1 ?side2 A35.out).mono ?_); (case side1 => repeat (first | exact (Kd.R_reads' HO_6.out).2.2 | (with_reducible refine Kd.C_alloc ?_ _) | (with_reducible refine Kd.C_drewN ?_ _) | (with_reducible refine Kd.C_drew ?_))); (case side2 => rw [show t339.length = t327.length from (Kd.R_reads' HO_6.out).1.symm]; exact (Kd.R_reads' HO_6.out).2.1); rintro e w45 ⟨rfl, hb⟩; refine ⟨_, rfl, ?_⟩; have n0_ := Aside0.mk (Kd.R_below (lf HO_4) hb); have n1_ := Aside0.mk (Kd.R_below (lf HO_6) hb); have n2_ := Aside0.mk (below_step bw hb); clear HO_4; clear HO_6; clear HB; have HO_4 := n0_; have HO_6 := n1_; have HB := n2_; clear n0_ n1_ n2_; (try clear hb); (try clear hb2); (try clear hk); (try clear hi)) | ((with_reducible refine at_fn (f := 7) rfl ?_); refine goesL_ (some 55) rfl rfl Try.func7 (by kernel_rfl) rfl #[.slice A0 l0.length c0] rfl (by (try simp only [List.map_toArray, List.map_cons, List.map_nil]); first | done | rfl | (simp only [List.length_drop, List.length_take]; rfl)) ?_; (with_reducible refine (laws_toEntryS.calls kj14 _ _ l0 t341 _ ?side1 ?side2 A40.out).mono ?_); (case side1 => repeat (first | exact (Kd.C_below HR0.out HB.out) | (with_reducible refine Kd.C_alloc ?_ _) | (with_reducible refine Kd.C_drewN ?_ _) | (with_reducible refine Kd.C_drew ?_))); (case side2 => exact HC0.out); rintro e w46 ⟨v342, rfl, ho0, hb⟩; refine ⟨_, rfl, ?_⟩; have n0_ := Aside0.mk (Kd.R_below (lf HO_4) hb); have n1_ := Aside0.mk (Kd.R_below (lf HO_6) hb); have n2_ := Aside0.mk (Kd.R_lower ho0 (below_size bw)); have n3_ := Aside0.mk (below_step bw hb); clear HO_4; clear HO_6; clear HB; have HO_4 := n0_; have HO_6 := n1_; have HO343 := n2_; have HB := n3_; clear n0_ n1_ n2_ n3_; (try clear hb); (try clear hb2); (try clear hk); (try clear hi); (try clear ho0); obtain ⟨Ao47, co47, eo47⟩ := Kd.R_slice HO343.out; subst eo47) | ((with_reducible refine at_fn (f := 15) rfl ?_); refine goesL_ (some 56) rfl rfl Try.func15 (by kernel_rfl) rfl #[.slice Ao47 t341.length co47] rfl (by (try simp only [List.map_toArray, List.map_cons, List.map_nil]); first | done | rfl | (simp only [List.length_drop, List.length_take]; rfl)) ?_; (with_reducible refine (impl_Replay.calls kj14 _ _ t341 t344 _ ?side1 ?side2 A41.out).mono ?_); (case side1 => repeat (first | exact (Kd.R_reads' HO343.out).2.2 | (with_reducible refine Kd.C_alloc ?_ _) | (with_reducible refine Kd.C_drewN ?_ _) | (with_reducible refine Kd.C_drew ?_))); (case side2 => exact (Kd.R_reads' HO343.out).2.1); rintro e w48 ⟨v345, rfl, ho0, hb⟩; refine ⟨_, rfl, ?_⟩; have n0_ := Aside0.mk (Kd.R_elder' (lf HO_4) (Kd.R_base ho0) hb); have n1_ := Aside0.mk (Kd.R_elder' (lf HO_6) (Kd.R_base ho0) hb); have n2_ := Aside0.mk (Kd.R_below (lf HO343) hb); have n3_ := Aside0.mk (Kd.R_lower (Kd.R_new' (Kd.R_new' ho0 (Kd.R_lt (lf HO_4))) (Kd.R_lt (lf HO_6))) (below_size bw)); have n4_ := Aside0.mk (below_step bw hb); clear HO_4; clear HO_6; clear HO343; clear HB; have HO_4 := n0_; have HO_6 := n1_; have HO343 := n2_; have HO346 := n3_; have HB := n4_; clear n0_ n1_ n2_ n3_ n4_; (try clear hb); (try clear hb2); (try clear hk); (try clear hi); (try clear ho0); obtain ⟨Ao49, co49, eo49⟩ := Kd.R_slice HO346.out; subst eo49) | ((with_reducible refine at_fn (f := 16) rfl ?_); refine goesL_ (some 59) rfl rfl Try.func16 (by kernel_rfl) rfl #[.slice Ao49 t344.length co49, .slice Ao24 t321.length co24] rfl (by (try simp only [List.map_toArray, List.map_cons, List.map_nil]); first | done | rfl | (simp only [List.length_drop, List.length_take]; rfl)) ?_; (with_reducible refine (laws_eqCellS.calls kj14 _ _ t344 _ _ t321 true _ ?side1 ?side2 ?side3 ?side4 A42.out).mono ?_); (case side1 => repeat (first | exact (Kd.R_reads' HO346.out).2.2 | (with_reducible refine Kd.C_alloc ?_ _) | (with_reducible refine Kd.C_drewN ?_ _) | (with_reducible refine Kd.C_drew ?_))); (case side2 => exact (Kd.R_reads' HO346.out).2.1); (case side3 => repeat (first | exact (Kd.R_reads' HO_4.out).2.2 | (with_reducible refine Kd.C_alloc ?_ _) | (with_reducible refine Kd.C_drewN ?_ _) | (with_reducible refine Kd.C_drew ?_))); (case side4 => exact (Kd.R_reads' HO_4.out).2.1); rintro e w50 ⟨rfl, hb⟩; refine ⟨_, rfl, ?_⟩; have n0_ := Aside0.mk (Kd.R_below (lf HO_4) hb); have n1_ := Aside0.mk (Kd.R_below (lf HO_6) hb); have n2_ := Aside0.mk (Kd.R_below (lf HO343) hb); have n3_ := Aside0.mk (Kd.R_below (lf HO346) hb); have n4_ := Aside0.mk (below_step bw hb); clear HO_4; clear HO_6; clear HO343; clear HO346; clear HB; have HO_4 := n0_; have HO_6 := n1_; have HO343 := n2_; have HO346 := n3_; have HB := n4_; clear n0_ n1_ n2_ n3_ n4_; (try clear hb); (try clear hb2); (try clear hk); (try clear hi)))
          go_ret
          exact ⟨by first | rfl | (simp [errW_none, errW_some] <;> rfl) | (simp [*, errW_none, errW_some] <;> rfl), bw⟩
         ·replace c43 := Bool.eq_false_iff.mpr c43
          subst c43
          have H1 : (some false) = some r := by rw [if_neg (show ¬ (false = true) by decide)] at H; exact H
          clear H
          have H := H1
          clear H1
          obtain rfl := Option.some.inj H
          go_wp2_with (first | ((with_reducible refine at_fn (f := 17) rfl ?_); refine goesL_ (some 45) rfl rfl Try.func17 (by kernel_rfl) rfl #[.slice Ao23 t327.length co23, .int .i64 1] rfl (by (try simp only [List.map_toArray, List.map_cons, List.map_nil]); first | done | rfl | (simp only [List.length_drop, List.length_take]; rfl)) ?_; (with_reducible refine (laws_markCellS.calls kj14 (fun k_ => some k_ = (.slice Ao23 t327.length co23 : Value).ownBlock) (.slice Ao23 t327.length co23) t327 1 t338 t339 w _ ?side1 ?side2 A34.out).mono ?_); (case side1 => repeat (first | (with_reducible first | exact HB.out | apply below_alloc | apply pw_below_drewN | apply below_drew1) | exact HB.out)); (case side2 => exact Kd.R_tight rfl HO_6.out); rintro e w51 ⟨rfl, hy0, hb, hkp⟩; refine ⟨_, rfl, ?_⟩; have n0_ := Aside0.mk (Kd.R_mono (ok' := fun k_ => some k_ ≠ (.slice Ao23 t327.length co23 : Value).ownBlock) (Kd.R_keptB (HO_4.out) hkp (fun k_ hk_ hs_ => (hk_) hs_)) (fun k_ hk_ => hk_.1)); have n1_ := Aside0.mk (Kd.R_reok rfl hy0 (fun k_ e_ => HO_6.out.1 k_ e_)); have n2_ := Aside0.mk (hb); clear HO_4; clear HO_6; clear HB; have HO_4 := n0_; have HO_6 := n1_; have HB := n2_; clear n0_ n1_ n2_; (try clear hb); (try clear hkp); (try clear hy0)) | ((with_reducible refine at_fn (f := 18) rfl ?_); refine goesL_ (some 48) rfl rfl Try.func18 (by kernel_rfl) rfl #[.slice Ao23 t339.length co23, .int .i64 1] rfl (by (try simp only [List.map_toArray, List.map_cons, List.map_nil]); first | done | (rw [show t339.length = t327.length from (Kd.R_reads' HO_6.out).1.symm] <;> rfl) | rfl | (simp only [List.length_drop, List.length_take]; rfl)) ?_; (with_reducible refine (laws_heldCellS.calls kj14 _ _ t339 1 t340 _ ?side1 ?side2 A35.out).mono ?_); (case side1 => repeat (first | exact (Kd.R_reads' HO_6.out).2.2 | (with_reducible refine Kd.C_alloc ?_ _) | (with_reducible refine Kd.C_drewN ?_ _) | (with_reducible refine Kd.C_drew ?_))); (case side2 => rw [show t339.length = t327.length from (Kd.R_reads' HO_6.out).1.symm]; exact (Kd.R_reads' HO_6.out).2.1); rintro e w52 ⟨rfl, hb⟩; refine ⟨_, rfl, ?_⟩; have n0_ := Aside0.mk (Kd.R_below (lf HO_4) hb); have n1_ := Aside0.mk (Kd.R_below (lf HO_6) hb); have n2_ := Aside0.mk (below_step bw hb); clear HO_4; clear HO_6; clear HB; have HO_4 := n0_; have HO_6 := n1_; have HB := n2_; clear n0_ n1_ n2_; (try clear hb); (try clear hb2); (try clear hk); (try clear hi)) | ((with_reducible refine at_fn (f := 7) rfl ?_); refine goesL_ (some 55) rfl rfl Try.func7 (by kernel_rfl) rfl #[.slice A0 l0.length c0] rfl (by (try simp only [List.map_toArray, List.map_cons, List.map_nil]); first | done | rfl | (simp only [List.length_drop, List.length_take]; rfl)) ?_; (with_reducible refine (laws_toEntryS.calls kj14 _ _ l0 t341 _ ?side1 ?side2 A40.out).mono ?_); (case side1 => repeat (first | exact (Kd.C_below HR0.out HB.out) | (with_reducible refine Kd.C_alloc ?_ _) | (with_reducible refine Kd.C_drewN ?_ _) | (with_reducible refine Kd.C_drew ?_))); (case side2 => exact HC0.out); rintro e w53 ⟨v342, rfl, ho0, hb⟩; refine ⟨_, rfl, ?_⟩; have n0_ := Aside0.mk (Kd.R_below (lf HO_4) hb); have n1_ := Aside0.mk (Kd.R_below (lf HO_6) hb); have n2_ := Aside0.mk (Kd.R_lower ho0 (below_size bw)); have n3_ := Aside0.mk (below_step bw hb); clear HO_4; clear HO_6; clear HB; have HO_4 := n0_; have HO_6 := n1_; have HO343 := n2_; have HB := n3_; clear n0_ n1_ n2_ n3_; (try clear hb); (try clear hb2); (try clear hk); (try clear hi); (try clear ho0); obtain ⟨Ao54, co54, eo54⟩ := Kd.R_slice HO343.out; subst eo54) | ((with_reducible refine at_fn (f := 15) rfl ?_); refine goesL_ (some 56) rfl rfl Try.func15 (by kernel_rfl) rfl #[.slice Ao54 t341.length co54] rfl (by (try simp only [List.map_toArray, List.map_cons, List.map_nil]); first | done | rfl | (simp only [List.length_drop, List.length_take]; rfl)) ?_; (with_reducible refine (impl_Replay.calls kj14 _ _ t341 t344 _ ?side1 ?side2 A41.out).mono ?_); (case side1 => repeat (first | exact (Kd.R_reads' HO343.out).2.2 | (with_reducible refine Kd.C_alloc ?_ _) | (with_reducible refine Kd.C_drewN ?_ _) | (with_reducible refine Kd.C_drew ?_))); (case side2 => exact (Kd.R_reads' HO343.out).2.1); rintro e w55 ⟨v345, rfl, ho0, hb⟩; refine ⟨_, rfl, ?_⟩; have n0_ := Aside0.mk (Kd.R_elder' (lf HO_4) (Kd.R_base ho0) hb); have n1_ := Aside0.mk (Kd.R_elder' (lf HO_6) (Kd.R_base ho0) hb); have n2_ := Aside0.mk (Kd.R_below (lf HO343) hb); have n3_ := Aside0.mk (Kd.R_lower (Kd.R_new' (Kd.R_new' ho0 (Kd.R_lt (lf HO_4))) (Kd.R_lt (lf HO_6))) (below_size bw)); have n4_ := Aside0.mk (below_step bw hb); clear HO_4; clear HO_6; clear HO343; clear HB; have HO_4 := n0_; have HO_6 := n1_; have HO343 := n2_; have HO346 := n3_; have HB := n4_; clear n0_ n1_ n2_ n3_ n4_; (try clear hb); (try clear hb2); (try clear hk); (try clear hi); (try clear ho0); obtain ⟨Ao56, co56, eo56⟩ := Kd.R_slice HO346.out; subst eo56) | ((with_reducible refine at_fn (f := 16) rfl ?_); refine goesL_ (some 59) rfl rfl Try.func16 (by kernel_rfl) rfl #[.slice Ao56 t344.length co56, .slice Ao24 t321.length co24] rfl (by (try simp only [List.map_toArray, List.map_cons, List.map_nil]); first | done | rfl | (simp only [List.length_drop, List.length_take]; rfl)) ?_; (with_reducible refine (laws_eqCellS.calls kj14 _ _ t344 _ _ t321 false _ ?side1 ?side2 ?side3 ?side4 A42.out).mono ?_); (case side1 => repeat (first | exact (Kd.R_reads' HO346.out).2.2 | (with_reducible refine Kd.C_alloc ?_ _) | (with_reducible refine Kd.C_drewN ?_ _) | (with_reducible refine Kd.C_drew ?_))); (case side2 => exact (Kd.R_reads' HO346.out).2.1); (case side3 => repeat (first | exact (Kd.R_reads' HO_4.out).2.2 | (with_reducible refine Kd.C_alloc ?_ _) | (with_reducible refine Kd.C_drewN ?_ _) | (with_reducible refine Kd.C_drew ?_))); (case side4 => exact (Kd.R_reads' HO_4.out).2.1); rintro e w57 ⟨rfl, hb⟩; refine ⟨_, rfl, ?_⟩; have n0_ := Aside0.mk (Kd.R_below (lf HO_4) hb); have n1_ := Aside0.mk (Kd.R_below (lf HO_6) hb); have n2_ := Aside0.mk (Kd.R_below (lf HO343) hb); have n3_ := Aside0.mk (Kd.R_below (lf HO346) hb); have n4_ := Aside0.mk (below_step bw hb); clear HO_4; clear HO_6; clear HO343; clear HO346; clear HB; have HO_4 := n0_; have HO_6 := n1_; have HO343 := n2_; have HO346 := n3_; have HB := n4_; clear n0_ n1_ n2_ n3_ n4_; (try clear hb); (try clear hb2); (try clear hk); (try clear hi)))
          go_ret
          exact ⟨by first | rfl | (simp [errW_none, errW_some] <;> rfl) | (simp [*, errW_none, errW_some] <;> rfl), bw⟩
        ·rw [if_neg c39] at H
         have c39b0 : (t340 == t338) = false := beq_eq_false_iff_ne.mpr c39
         have c39b1 : (t340 != t338) = true := bne_iff_ne.mpr c39
         obtain rfl := Option.some.inj H
         go_wp2_with (first | ((with_reducible refine at_fn (f := 17) rfl ?_); refine goesL_ (some 45) rfl rfl Try.func17 (by kernel_rfl) rfl #[.slice Ao23 t327.length co23, .int .i64 1] rfl (by (try simp only [List.map_toArray, List.map_cons, List.map_nil]); first | done | rfl | (simp only [List.length_drop, List.length_take]; rfl)) ?_; (with_reducible refine (laws_markCellS.calls kj14 (fun k_ => some k_ = (.slice Ao23 t327.length co23 : Value).ownBlock) (.slice Ao23 t327.length co23) t327 1 t338 t339 w _ ?side1 ?side2 A34.out).mono ?_); (case side1 => repeat (first | (with_reducible first | exact HB.out | apply below_alloc | apply pw_below_drewN | apply below_drew1) | exact HB.out)); (case side2 => exact Kd.R_tight rfl HO_6.out); rintro e w58 ⟨rfl, hy0, hb, hkp⟩; refine ⟨_, rfl, ?_⟩; have n0_ := Aside0.mk (Kd.R_mono (ok' := fun k_ => some k_ ≠ (.slice Ao23 t327.length co23 : Value).ownBlock) (Kd.R_keptB (HO_4.out) hkp (fun k_ hk_ hs_ => (hk_) hs_)) (fun k_ hk_ => hk_.1)); have n1_ := Aside0.mk (Kd.R_reok rfl hy0 (fun k_ e_ => HO_6.out.1 k_ e_)); have n2_ := Aside0.mk (hb); clear HO_4; clear HO_6; clear HB; have HO_4 := n0_; have HO_6 := n1_; have HB := n2_; clear n0_ n1_ n2_; (try clear hb); (try clear hkp); (try clear hy0)) | ((with_reducible refine at_fn (f := 18) rfl ?_); refine goesL_ (some 48) rfl rfl Try.func18 (by kernel_rfl) rfl #[.slice Ao23 t339.length co23, .int .i64 1] rfl (by (try simp only [List.map_toArray, List.map_cons, List.map_nil]); first | done | (rw [show t339.length = t327.length from (Kd.R_reads' HO_6.out).1.symm] <;> rfl) | rfl | (simp only [List.length_drop, List.length_take]; rfl)) ?_; (with_reducible refine (laws_heldCellS.calls kj14 _ _ t339 1 t340 _ ?side1 ?side2 A35.out).mono ?_); (case side1 => repeat (first | exact (Kd.R_reads' HO_6.out).2.2 | (with_reducible refine Kd.C_alloc ?_ _) | (with_reducible refine Kd.C_drewN ?_ _) | (with_reducible refine Kd.C_drew ?_))); (case side2 => rw [show t339.length = t327.length from (Kd.R_reads' HO_6.out).1.symm]; exact (Kd.R_reads' HO_6.out).2.1); rintro e w59 ⟨rfl, hb⟩; refine ⟨_, rfl, ?_⟩; have n0_ := Aside0.mk (Kd.R_below (lf HO_4) hb); have n1_ := Aside0.mk (Kd.R_below (lf HO_6) hb); have n2_ := Aside0.mk (below_step bw hb); clear HO_4; clear HO_6; clear HB; have HO_4 := n0_; have HO_6 := n1_; have HB := n2_; clear n0_ n1_ n2_; (try clear hb); (try clear hb2); (try clear hk); (try clear hi)))
         go_ret
         exact ⟨by first | rfl | (simp [errW_none, errW_some] <;> rfl) | (simp [*, errW_none, errW_some] <;> rfl), bw⟩
   ·replace c13 := Bool.eq_false_iff.mpr c13
    subst c13
    have H1 : (some false) = some r := by rw [if_neg (show ¬ (false = true) by decide)] at H; exact H
    clear H
    have H := H1
    clear H1
    obtain rfl := Option.some.inj H
    go_enter Try.func4, Try.ntmps4
    go_wp2_with (first | ((with_reducible refine at_fn (f := 5) rfl ?_); refine goesL_ (some 13) rfl rfl Try.func5 (by kernel_rfl) rfl #[.slice A0 l0.length c0, .int .i64 1048576] rfl (by (try simp only [List.map_toArray, List.map_cons, List.map_nil]); first | done | rfl | (simp only [List.length_drop, List.length_take]; rfl)) ?_; (with_reducible refine (laws_szEntryS.calls k _ _ l0 1048576 t317 _ ?side1 ?side2 A2.out).mono ?_); (case side1 => repeat (first | exact HR0.out | (with_reducible refine Kd.C_alloc ?_ _) | (with_reducible refine Kd.C_drewN ?_ _) | (with_reducible refine Kd.C_drew ?_))); (case side2 => exact HC0.out); rintro e w60 ⟨rfl, hb⟩; refine ⟨_, rfl, ?_⟩; have n0_ := Aside0.mk (below_step bw hb); clear HB; have HB := n0_; clear n0_; (try clear hb); (try clear hb2); (try clear hk); (try clear hi)) | ((with_reducible refine at_fn (f := 7) rfl ?_); refine goesL_ (some 17) rfl rfl Try.func7 (by kernel_rfl) rfl #[.slice A0 l0.length c0] rfl (by (try simp only [List.map_toArray, List.map_cons, List.map_nil]); first | done | rfl | (simp only [List.length_drop, List.length_take]; rfl)) ?_; (with_reducible refine (laws_toEntryS.calls k _ _ l0 t318 _ ?side1 ?side2 A5.out).mono ?_); (case side1 => repeat (first | exact (Kd.C_below HR0.out HB.out) | (with_reducible refine Kd.C_alloc ?_ _) | (with_reducible refine Kd.C_drewN ?_ _) | (with_reducible refine Kd.C_drew ?_))); (case side2 => exact HC0.out); rintro e w61 ⟨v319, rfl, ho0, hb⟩; refine ⟨_, rfl, ?_⟩; have n0_ := Aside0.mk (Kd.R_lower ho0 (below_size bw)); have n1_ := Aside0.mk (below_step bw hb); clear HB; have HO320 := n0_; have HB := n1_; clear n0_ n1_; (try clear hb); (try clear hb2); (try clear hk); (try clear hi); (try clear ho0); obtain ⟨Ao62, co62, eo62⟩ := Kd.R_slice HO320.out; subst eo62) | ((with_reducible refine at_fn (f := 14) rfl ?_); refine goesL_ (some 18) rfl rfl Try.func14 (by kernel_rfl) rfl #[.slice Ao62 t318.length co62] rfl (by (try simp only [List.map_toArray, List.map_cons, List.map_nil]); first | done | rfl | (simp only [List.length_drop, List.length_take]; rfl)) ?_; (with_reducible refine (spec_Replay.calls k _ _ t318 t321 _ ?side1 ?side2 A6.out).mono ?_); (case side1 => repeat (first | exact (Kd.R_reads' HO320.out).2.2 | (with_reducible refine Kd.C_alloc ?_ _) | (with_reducible refine Kd.C_drewN ?_ _) | (with_reducible refine Kd.C_drew ?_))); (case side2 => exact (Kd.R_reads' HO320.out).2.1); rintro e w63 ⟨v322, rfl, ho0, hb⟩; refine ⟨_, rfl, ?_⟩; have n0_ := Aside0.mk (Kd.R_below (lf HO320) hb); have n1_ := Aside0.mk (Kd.R_lower ho0 (below_size bw)); have n2_ := Aside0.mk (below_step bw hb); clear HO320; clear HB; have HO320 := n0_; have HO323 := n1_; have HB := n2_; clear n0_ n1_ n2_; (try clear hb); (try clear hb2); (try clear hk); (try clear hi); (try clear ho0)) | ((with_reducible refine at_fn (f := 7) rfl ?_); refine goesL_ (some 20) rfl rfl Try.func7 (by kernel_rfl) rfl #[.slice A0 l0.length c0] rfl (by (try simp only [List.map_toArray, List.map_cons, List.map_nil]); first | done | rfl | (simp only [List.length_drop, List.length_take]; rfl)) ?_; (with_reducible refine (laws_toEntryS.calls k _ _ l0 t324 _ ?side1 ?side2 A7.out).mono ?_); (case side1 => repeat (first | exact (Kd.C_below HR0.out HB.out) | (with_reducible refine Kd.C_alloc ?_ _) | (with_reducible refine Kd.C_drewN ?_ _) | (with_reducible refine Kd.C_drew ?_))); (case side2 => exact HC0.out); rintro e w64 ⟨v325, rfl, ho0, hb⟩; refine ⟨_, rfl, ?_⟩; have n0_ := Aside0.mk (Kd.R_elder' (lf HO320) (Kd.R_base ho0) hb); have n1_ := Aside0.mk (Kd.R_below (lf HO323) hb); have n2_ := Aside0.mk (Kd.R_lower (Kd.R_new' ho0 (Kd.R_lt (lf HO320))) (below_size bw)); have n3_ := Aside0.mk (below_step bw hb); clear HO320; clear HO323; clear HB; have HO320 := n0_; have HO323 := n1_; have HO326 := n2_; have HB := n3_; clear n0_ n1_ n2_ n3_; (try clear hb); (try clear hb2); (try clear hk); (try clear hi); (try clear ho0); obtain ⟨Ao65, co65, eo65⟩ := Kd.R_slice HO326.out; subst eo65) | ((with_reducible refine at_fn (f := 15) rfl ?_); refine goesL_ (some 22) rfl rfl Try.func15 (by kernel_rfl) rfl #[.slice Ao65 t324.length co65] rfl (by (try simp only [List.map_toArray, List.map_cons, List.map_nil]); first | done | rfl | (simp only [List.length_drop, List.length_take]; rfl)) ?_; (with_reducible refine (impl_Replay.calls k _ _ t324 t327 _ ?side1 ?side2 A8.out).mono ?_); (case side1 => repeat (first | exact (Kd.R_reads' HO326.out).2.2 | (with_reducible refine Kd.C_alloc ?_ _) | (with_reducible refine Kd.C_drewN ?_ _) | (with_reducible refine Kd.C_drew ?_))); (case side2 => exact (Kd.R_reads' HO326.out).2.1); rintro e w66 ⟨v328, rfl, ho0, hb⟩; refine ⟨_, rfl, ?_⟩; have n0_ := Aside0.mk (Kd.R_below (lf HO320) hb); have n1_ := Aside0.mk (Kd.R_elder' (lf HO323) (Kd.R_base ho0) hb); have n2_ := Aside0.mk (Kd.R_below (lf HO326) hb); have n3_ := Aside0.mk (Kd.R_lower (Kd.R_new' ho0 (Kd.R_lt (lf HO323))) (below_size bw)); have n4_ := Aside0.mk (below_step bw hb); clear HO320; clear HO323; clear HO326; clear HB; have HO320 := n0_; have HO323 := n1_; have HO326 := n2_; have HO329 := n3_; have HB := n4_; clear n0_ n1_ n2_ n3_ n4_; (try clear hb); (try clear hb2); (try clear hk); (try clear hi); (try clear ho0); obtain ⟨Ao67, co67, eo67⟩ := Kd.R_slice HO329.out; subst eo67; obtain ⟨Ao68, co68, eo68⟩ := Kd.R_slice HO323.out; subst eo68) | ((with_reducible refine at_fn (f := 16) rfl ?_); refine goesL_ (some 25) rfl rfl Try.func16 (by kernel_rfl) rfl #[.slice Ao67 t327.length co67, .slice Ao68 t321.length co68] rfl (by (try simp only [List.map_toArray, List.map_cons, List.map_nil]); first | done | rfl | (simp only [List.length_drop, List.length_take]; rfl)) ?_; (with_reducible refine (laws_eqCellS.calls k _ _ t327 _ _ t321 true _ ?side1 ?side2 ?side3 ?side4 A9.out).mono ?_); (case side1 => repeat (first | exact (Kd.R_reads' HO329.out).2.2 | (with_reducible refine Kd.C_alloc ?_ _) | (with_reducible refine Kd.C_drewN ?_ _) | (with_reducible refine Kd.C_drew ?_))); (case side2 => exact (Kd.R_reads' HO329.out).2.1); (case side3 => repeat (first | exact (Kd.R_reads' HO323.out).2.2 | (with_reducible refine Kd.C_alloc ?_ _) | (with_reducible refine Kd.C_drewN ?_ _) | (with_reducible refine Kd.C_drew ?_))); (case side4 => exact (Kd.R_reads' HO323.out).2.1); rintro e w69 ⟨rfl, hb⟩; refine ⟨_, rfl, ?_⟩; have n0_ := Aside0.mk (Kd.R_below (lf HO320) hb); have n1_ := Aside0.mk (Kd.R_below (lf HO323) hb); have n2_ := Aside0.mk (Kd.R_below (lf HO326) hb); have n3_ := Aside0.mk (Kd.R_below (lf HO329) hb); have n4_ := Aside0.mk (below_step bw hb); clear HO320; clear HO323; clear HO326; clear HO329; clear HB; have HO320 := n0_; have HO323 := n1_; have HO326 := n2_; have HO329 := n3_; have HB := n4_; clear n0_ n1_ n2_ n3_ n4_; (try clear hb); (try clear hb2); (try clear hk); (try clear hi)) | ((with_reducible refine at_fn (f := 7) rfl ?_); refine goesL_ (some 29) rfl rfl Try.func7 (by kernel_rfl) rfl #[.slice A0 l0.length c0] rfl (by (try simp only [List.map_toArray, List.map_cons, List.map_nil]); first | done | rfl | (simp only [List.length_drop, List.length_take]; rfl)) ?_; (with_reducible refine (laws_toEntryS.calls k _ _ l0 t331 _ ?side1 ?side2 A11.out).mono ?_); (case side1 => repeat (first | exact (Kd.C_below HR0.out HB.out) | (with_reducible refine Kd.C_alloc ?_ _) | (with_reducible refine Kd.C_drewN ?_ _) | (with_reducible refine Kd.C_drew ?_))); (case side2 => exact HC0.out); rintro e w70 ⟨v332, rfl, ho0, hb⟩; refine ⟨_, rfl, ?_⟩; have n0_ := Aside0.mk (Kd.R_elder' (lf HO320) (Kd.R_base ho0) hb); have n1_ := Aside0.mk (Kd.R_below (lf HO323) hb); have n2_ := Aside0.mk (Kd.R_elder' (lf HO326) (Kd.R_base ho0) hb); have n3_ := Aside0.mk (Kd.R_below (lf HO329) hb); have n4_ := Aside0.mk (Kd.R_lower (Kd.R_new' (Kd.R_new' ho0 (Kd.R_lt (lf HO320))) (Kd.R_lt (lf HO326))) (below_size bw)); have n5_ := Aside0.mk (below_step bw hb); clear HO320; clear HO323; clear HO326; clear HO329; clear HB; have HO320 := n0_; have HO323 := n1_; have HO326 := n2_; have HO329 := n3_; have HO333 := n4_; have HB := n5_; clear n0_ n1_ n2_ n3_ n4_ n5_; (try clear hb); (try clear hb2); (try clear hk); (try clear hi); (try clear ho0); obtain ⟨Ao71, co71, eo71⟩ := Kd.R_slice HO333.out; subst eo71) | ((with_reducible refine at_fn (f := 10) rfl ?_); refine goesL_ (some 30) rfl rfl Try.func10 (by kernel_rfl) rfl #[.slice Ao65 t324.length co65, .slice Ao71 t331.length co71] rfl (by (try simp only [List.map_toArray, List.map_cons, List.map_nil]); first | done | rfl | (simp only [List.length_drop, List.length_take]; rfl)) ?_; (with_reducible refine (laws_eqEntryS.calls k _ _ t324 _ _ t331 false _ ?side1 ?side2 ?side3 ?side4 A12.out).mono ?_); (case side1 => repeat (first | exact (Kd.R_reads' HO326.out).2.2 | (with_reducible refine Kd.C_alloc ?_ _) | (with_reducible refine Kd.C_drewN ?_ _) | (with_reducible refine Kd.C_drew ?_))); (case side2 => exact (Kd.R_reads' HO326.out).2.1); (case side3 => repeat (first | exact (Kd.R_reads' HO333.out).2.2 | (with_reducible refine Kd.C_alloc ?_ _) | (with_reducible refine Kd.C_drewN ?_ _) | (with_reducible refine Kd.C_drew ?_))); (case side4 => exact (Kd.R_reads' HO333.out).2.1); rintro e w72 ⟨rfl, hb⟩; refine ⟨_, rfl, ?_⟩; have n0_ := Aside0.mk (Kd.R_below (lf HO320) hb); have n1_ := Aside0.mk (Kd.R_below (lf HO323) hb); have n2_ := Aside0.mk (Kd.R_below (lf HO326) hb); have n3_ := Aside0.mk (Kd.R_below (lf HO329) hb); have n4_ := Aside0.mk (Kd.R_below (lf HO333) hb); have n5_ := Aside0.mk (below_step bw hb); clear HO320; clear HO323; clear HO326; clear HO329; clear HO333; clear HB; have HO320 := n0_; have HO323 := n1_; have HO326 := n2_; have HO329 := n3_; have HO333 := n4_; have HB := n5_; clear n0_ n1_ n2_ n3_ n4_ n5_; (try clear hb); (try clear hb2); (try clear hk); (try clear hi)))
    go_ret
    exact ⟨by first | rfl | (simp [errW_none, errW_some] <;> rfl) | (simp [*, errW_none, errW_some] <;> rfl), bw⟩
  ·replace c10 := Bool.eq_false_iff.mpr c10
   subst c10
   have H1 : (some false) = some r := by rw [if_neg (show ¬ (false = true) by decide)] at H; exact H
   clear H
   have H := H1
   clear H1
   obtain rfl := Option.some.inj H
   go_enter Try.func4, Try.ntmps4
   go_wp2_with (first | ((with_reducible refine at_fn (f := 5) rfl ?_); refine goesL_ (some 13) rfl rfl Try.func5 (by kernel_rfl) rfl #[.slice A0 l0.length c0, .int .i64 1048576] rfl (by (try simp only [List.map_toArray, List.map_cons, List.map_nil]); first | done | rfl | (simp only [List.length_drop, List.length_take]; rfl)) ?_; (with_reducible refine (laws_szEntryS.calls k _ _ l0 1048576 t317 _ ?side1 ?side2 A2.out).mono ?_); (case side1 => repeat (first | exact HR0.out | (with_reducible refine Kd.C_alloc ?_ _) | (with_reducible refine Kd.C_drewN ?_ _) | (with_reducible refine Kd.C_drew ?_))); (case side2 => exact HC0.out); rintro e w73 ⟨rfl, hb⟩; refine ⟨_, rfl, ?_⟩; have n0_ := Aside0.mk (below_step bw hb); clear HB; have HB := n0_; clear n0_; (try clear hb); (try clear hb2); (try clear hk); (try clear hi)) | ((with_reducible refine at_fn (f := 7) rfl ?_); refine goesL_ (some 17) rfl rfl Try.func7 (by kernel_rfl) rfl #[.slice A0 l0.length c0] rfl (by (try simp only [List.map_toArray, List.map_cons, List.map_nil]); first | done | rfl | (simp only [List.length_drop, List.length_take]; rfl)) ?_; (with_reducible refine (laws_toEntryS.calls k _ _ l0 t318 _ ?side1 ?side2 A5.out).mono ?_); (case side1 => repeat (first | exact (Kd.C_below HR0.out HB.out) | (with_reducible refine Kd.C_alloc ?_ _) | (with_reducible refine Kd.C_drewN ?_ _) | (with_reducible refine Kd.C_drew ?_))); (case side2 => exact HC0.out); rintro e w74 ⟨v319, rfl, ho0, hb⟩; refine ⟨_, rfl, ?_⟩; have n0_ := Aside0.mk (Kd.R_lower ho0 (below_size bw)); have n1_ := Aside0.mk (below_step bw hb); clear HB; have HO320 := n0_; have HB := n1_; clear n0_ n1_; (try clear hb); (try clear hb2); (try clear hk); (try clear hi); (try clear ho0); obtain ⟨Ao75, co75, eo75⟩ := Kd.R_slice HO320.out; subst eo75) | ((with_reducible refine at_fn (f := 14) rfl ?_); refine goesL_ (some 18) rfl rfl Try.func14 (by kernel_rfl) rfl #[.slice Ao75 t318.length co75] rfl (by (try simp only [List.map_toArray, List.map_cons, List.map_nil]); first | done | rfl | (simp only [List.length_drop, List.length_take]; rfl)) ?_; (with_reducible refine (spec_Replay.calls k _ _ t318 t321 _ ?side1 ?side2 A6.out).mono ?_); (case side1 => repeat (first | exact (Kd.R_reads' HO320.out).2.2 | (with_reducible refine Kd.C_alloc ?_ _) | (with_reducible refine Kd.C_drewN ?_ _) | (with_reducible refine Kd.C_drew ?_))); (case side2 => exact (Kd.R_reads' HO320.out).2.1); rintro e w76 ⟨v322, rfl, ho0, hb⟩; refine ⟨_, rfl, ?_⟩; have n0_ := Aside0.mk (Kd.R_below (lf HO320) hb); have n1_ := Aside0.mk (Kd.R_lower ho0 (below_size bw)); have n2_ := Aside0.mk (below_step bw hb); clear HO320; clear HB; have HO320 := n0_; have HO323 := n1_; have HB := n2_; clear n0_ n1_ n2_; (try clear hb); (try clear hb2); (try clear hk); (try clear hi); (try clear ho0)) | ((with_reducible refine at_fn (f := 7) rfl ?_); refine goesL_ (some 20) rfl rfl Try.func7 (by kernel_rfl) rfl #[.slice A0 l0.length c0] rfl (by (try simp only [List.map_toArray, List.map_cons, List.map_nil]); first | done | rfl | (simp only [List.length_drop, List.length_take]; rfl)) ?_; (with_reducible refine (laws_toEntryS.calls k _ _ l0 t324 _ ?side1 ?side2 A7.out).mono ?_); (case side1 => repeat (first | exact (Kd.C_below HR0.out HB.out) | (with_reducible refine Kd.C_alloc ?_ _) | (with_reducible refine Kd.C_drewN ?_ _) | (with_reducible refine Kd.C_drew ?_))); (case side2 => exact HC0.out); rintro e w77 ⟨v325, rfl, ho0, hb⟩; refine ⟨_, rfl, ?_⟩; have n0_ := Aside0.mk (Kd.R_elder' (lf HO320) (Kd.R_base ho0) hb); have n1_ := Aside0.mk (Kd.R_below (lf HO323) hb); have n2_ := Aside0.mk (Kd.R_lower (Kd.R_new' ho0 (Kd.R_lt (lf HO320))) (below_size bw)); have n3_ := Aside0.mk (below_step bw hb); clear HO320; clear HO323; clear HB; have HO320 := n0_; have HO323 := n1_; have HO326 := n2_; have HB := n3_; clear n0_ n1_ n2_ n3_; (try clear hb); (try clear hb2); (try clear hk); (try clear hi); (try clear ho0); obtain ⟨Ao78, co78, eo78⟩ := Kd.R_slice HO326.out; subst eo78) | ((with_reducible refine at_fn (f := 15) rfl ?_); refine goesL_ (some 22) rfl rfl Try.func15 (by kernel_rfl) rfl #[.slice Ao78 t324.length co78] rfl (by (try simp only [List.map_toArray, List.map_cons, List.map_nil]); first | done | rfl | (simp only [List.length_drop, List.length_take]; rfl)) ?_; (with_reducible refine (impl_Replay.calls k _ _ t324 t327 _ ?side1 ?side2 A8.out).mono ?_); (case side1 => repeat (first | exact (Kd.R_reads' HO326.out).2.2 | (with_reducible refine Kd.C_alloc ?_ _) | (with_reducible refine Kd.C_drewN ?_ _) | (with_reducible refine Kd.C_drew ?_))); (case side2 => exact (Kd.R_reads' HO326.out).2.1); rintro e w79 ⟨v328, rfl, ho0, hb⟩; refine ⟨_, rfl, ?_⟩; have n0_ := Aside0.mk (Kd.R_below (lf HO320) hb); have n1_ := Aside0.mk (Kd.R_elder' (lf HO323) (Kd.R_base ho0) hb); have n2_ := Aside0.mk (Kd.R_below (lf HO326) hb); have n3_ := Aside0.mk (Kd.R_lower (Kd.R_new' ho0 (Kd.R_lt (lf HO323))) (below_size bw)); have n4_ := Aside0.mk (below_step bw hb); clear HO320; clear HO323; clear HO326; clear HB; have HO320 := n0_; have HO323 := n1_; have HO326 := n2_; have HO329 := n3_; have HB := n4_; clear n0_ n1_ n2_ n3_ n4_; (try clear hb); (try clear hb2); (try clear hk); (try clear hi); (try clear ho0); obtain ⟨Ao80, co80, eo80⟩ := Kd.R_slice HO329.out; subst eo80; obtain ⟨Ao81, co81, eo81⟩ := Kd.R_slice HO323.out; subst eo81) | ((with_reducible refine at_fn (f := 16) rfl ?_); refine goesL_ (some 25) rfl rfl Try.func16 (by kernel_rfl) rfl #[.slice Ao80 t327.length co80, .slice Ao81 t321.length co81] rfl (by (try simp only [List.map_toArray, List.map_cons, List.map_nil]); first | done | rfl | (simp only [List.length_drop, List.length_take]; rfl)) ?_; (with_reducible refine (laws_eqCellS.calls k _ _ t327 _ _ t321 false _ ?side1 ?side2 ?side3 ?side4 A9.out).mono ?_); (case side1 => repeat (first | exact (Kd.R_reads' HO329.out).2.2 | (with_reducible refine Kd.C_alloc ?_ _) | (with_reducible refine Kd.C_drewN ?_ _) | (with_reducible refine Kd.C_drew ?_))); (case side2 => exact (Kd.R_reads' HO329.out).2.1); (case side3 => repeat (first | exact (Kd.R_reads' HO323.out).2.2 | (with_reducible refine Kd.C_alloc ?_ _) | (with_reducible refine Kd.C_drewN ?_ _) | (with_reducible refine Kd.C_drew ?_))); (case side4 => exact (Kd.R_reads' HO323.out).2.1); rintro e w82 ⟨rfl, hb⟩; refine ⟨_, rfl, ?_⟩; have n0_ := Aside0.mk (Kd.R_below (lf HO320) hb); have n1_ := Aside0.mk (Kd.R_below (lf HO323) hb); have n2_ := Aside0.mk (Kd.R_below (lf HO326) hb); have n3_ := Aside0.mk (Kd.R_below (lf HO329) hb); have n4_ := Aside0.mk (below_step bw hb); clear HO320; clear HO323; clear HO326; clear HO329; clear HB; have HO320 := n0_; have HO323 := n1_; have HO326 := n2_; have HO329 := n3_; have HB := n4_; clear n0_ n1_ n2_ n3_ n4_; (try clear hb); (try clear hb2); (try clear hk); (try clear hi)))
   go_ret
   exact ⟨by first | rfl | (simp [errW_none, errW_some] <;> rfl) | (simp [*, errW_none, errW_some] <;> rfl), bw⟩

end Go.Proofs.Ytmaildoddeimbaa.Q

namespace Go.Proofs.Ytmaildoddeimbaa.Q
open Go.RowKit Go.Proofs.YtmaildoddeimbaaW.PrintWords Go.Proofs.YtmaildoddeimbaaW.PrintLast
set_option linter.unusedVariables false

/-- The law over lists and numbers. -/
def laws_FnExactReplay.Pure : Prop := ∀ (l0 : List (S41)), (l0.length ≤ maxLen ∧ ∀ x_ ∈ l0, ok41 x_) → ∃ k, laws_FnExactReplay.f k l0 = some true
end Go.Proofs.Ytmaildoddeimbaa.Q

namespace Go.Proofs.Ytmaildoddeimbaa.Q
open Go.RowKit Go.Proofs.YtmaildoddeimbaaW.PrintWords Go.Proofs.YtmaildoddeimbaaW.PrintLast
set_option linter.unusedVariables false
set_option linter.unusedSimpArgs false
theorem rd_at {ws pre rest : List IE} {x : IE} (e : ws = pre ++ x :: rest) : rd_T43 ws (pre.length : Int) = x := by
  unfold rd_T43
  rw [Int.toNat_natCast, e, getD_cut]
theorem cut_len {ws pre rest : List IE} {x : IE} (e : ws = pre ++ x :: rest) : pre.length < ws.length := by rw [e]; exact len_cut _ _ _
theorem snoc_len (pre : List IE) (x : IE) : (pre ++ [x]).length = pre.length + 1 := by simp
theorem good_is (ws : List IE) : Ev (fun k => spec_l1GoodWrites.f k ws) (goodW ws) := by
  unfold spec_l1GoodWrites.f goodW
  by_cases h : (ws.length : Int) > 10000
  · rw [show decide (ws.length ≤ 10000) = false from decide_eq_false (by omega), Bool.false_and]
    exact Ev.if_pos h (Ev.now _)
  rw [show decide (ws.length ≤ 10000) = true from decide_eq_true (by omega), Bool.true_and]
  refine Ev.if_neg h ?_
  have key : ∀ (rest pre : List IE), ws = pre ++ rest → Ev (fun k => spec_l1GoodWrites.l0 k ws (pre.length : Int)) (rest.all vent) := by
    intro rest
    induction rest with
    | nil =>
      intro pre e
      refine Ev.round (f := fun _ => some true) (fun k => ?_) (Ev.now _)
      rw [spec_l1GoodWrites.l0, if_neg (by rw [e]; simp)]
    | cons x rest ih =>
      intro pre e
      have hl := cut_len e
      have h := ih (pre ++ [x]) (by rw [e]; simp)
      rw [snoc_len] at h
      refine Ev.round (f := fun k => if vent x = true then spec_l1GoodWrites.l0 k ws ((pre.length + 1 : Nat) : Int) else some false) (fun k => ?_) ?_
      · rw [spec_l1GoodWrites.l0, if_pos (by omega), if_pos (by omega), rd_at e, specValidEntry_is, Option.bind_some, wrap_nat _ (by omega)]
      · rw [List.all_cons]
        cases hv : vent x with
        | true => exact Ev.if_pos rfl (by simpa using h)
        | false => exact Ev.if_neg (by decide) (Ev.now _)
  exact key ws [] rfl
theorem col_same (a b : IE) : spec_l1SameColumn.f a.f0 a.f1 a.f2 a.f3 a.f4 a.f5 b.f0 b.f1 b.f2 b.f3 b.f4 b.f5 = some (decide (colE a = colE b)) := by
  rw [sameColumn_is]
  congr 1
  unfold sameCol colE
  simp only [Prod.mk.injEq]
  by_cases h1 : a.f0 = b.f0 <;> by_cases h2 : a.f1 = b.f1 <;> by_cases h3 : a.f2 = b.f2 <;> simp [h1, h2, h3, toList_inj]
theorem intoG_len (e : IE) : ∀ (l : List IE) (d : Bool), (intoG e l d).length ≤ l.length + 1
  | [], d => by unfold intoG; split <;> simp
  | x :: xs, d => by
    have := intoG_len e xs (d || decide (0 ≤ cmpE x e))
    simp only [intoG, List.length_append, List.length_cons]
    by_cases h1 : 0 ≤ cmpE x e ∧ d = false
    · obtain ⟨h1, rfl⟩ := h1
      simp only [h1, decide_true, Bool.or_true, intoG_done] at *
      have h2 := List.length_filter_le (fun x => cmpE x e != 0) xs
      simp only [and_self, if_true, List.length_cons, List.length_nil]
      split <;> simp <;> omega
    · rw [if_neg h1]
      split <;> simp <;> omega
theorem into_is (l : List IE) (e : IE) (hl : l.length ≤ 1000000) : Ev (fun k => spec_l1Into.f k l e.f0 e.f1 e.f2 e.f3 e.f4 e.f5) (intoE l e) := by
  have key : ∀ (rest pre out : List IE) (d : Bool), l = pre ++ rest → out.length ≤ 2 * pre.length → Ev (fun k => spec_l1Into.l0 k l out d (pre.length : Int) e.f0 e.f1 e.f2 e.f3 e.f4 e.f5) (out ++ intoG e rest d) := by
    intro rest
    induction rest with
    | nil =>
      intro pre out d e' ho
      have hpl : pre.length = l.length := by rw [e']; simp
      cases d with
      | true =>
        refine Ev.round (f := fun _ => some out) (fun k => ?_) (by simp only [intoG, if_true, List.append_nil]; exact Ev.now _)
        rw [spec_l1Into.l0, if_neg (by omega), if_pos rfl]
      | false =>
        refine Ev.round (f := fun _ => some (out ++ [e])) (fun k => ?_) (by simp only [intoG, Bool.false_eq_true, if_false]; exact Ev.now _)
        rw [spec_l1Into.l0, if_neg (by omega), if_neg Bool.false_ne_true, if_pos (by omega)]
    | cons x rest ih =>
      intro pre out d e' ho
      have hpl := cut_len e'
      have hw := wrap_nat pre.length (by omega)
      have hcmp : Ev (fun k => spec_CompareKeys.f k x.f0 x.f1 x.f2 x.f3 x.f4 x.f5 e.f0 e.f1 e.f2 e.f3 e.f4 e.f5) (cmpE x e) := ⟨6, fun k hk => spec_cmp_ge k hk ..⟩
      have hrd := rd_at e'
      refine Ev.round (f := fun k => (spec_CompareKeys.f k x.f0 x.f1 x.f2 x.f3 x.f4 x.f5 e.f0 e.f1 e.f2 e.f3 e.f4 e.f5).bind fun t => if t ≥ 0 then spec_l1Into.j1 k l out d (pre.length : Int) t (!d) e.f0 e.f1 e.f2 e.f3 e.f4 e.f5 else spec_l1Into.j1 k l out d (pre.length : Int) t false e.f0 e.f1 e.f2 e.f3 e.f4 e.f5) (fun k => ?_) (Ev.bind hcmp ?_)
      · rw [spec_l1Into.l0, if_pos (by omega), if_pos (by omega), hrd]
      have hj2 : ∀ (o2 : List IE) (d2 : Bool), o2.length ≤ 2 * pre.length + 1 → Ev (fun k => spec_l1Into.j2 k l o2 d2 (pre.length : Int) (cmpE x e) e.f0 e.f1 e.f2 e.f3 e.f4 e.f5) ((o2 ++ if cmpE x e ≠ 0 then [x] else []) ++ intoG e rest d2) := by
        intro o2 d2 ho2
        by_cases h0 : cmpE x e = 0
        · have := ih (pre ++ [x]) o2 d2 (by rw [e']; simp) (by rw [snoc_len]; omega)
          rw [snoc_len] at this
          rw [if_neg (by simpa using h0), List.append_nil]
          refine Ev.round (fun k => ?_) this
          rw [spec_l1Into.j2, if_pos h0, hw]
        · have := ih (pre ++ [x]) (o2 ++ [x]) d2 (by rw [e']; simp) (by rw [snoc_len, snoc_len]; omega)
          rw [snoc_len] at this
          rw [if_pos h0]
          refine Ev.round (fun k => ?_) this
          rw [spec_l1Into.j2, if_neg h0, if_pos (by omega), if_pos (by omega), if_pos (by omega), hrd, hw]
      have fin : ∀ (o2 : List IE) (d2 : Bool), (o2 ++ if cmpE x e ≠ 0 then [x] else []) ++ intoG e rest d2 = o2 ++ ((if cmpE x e ≠ 0 then [x] else []) ++ intoG e rest d2) := fun o2 d2 => List.append_assoc ..
      simp only [intoG]
      by_cases hge : 0 ≤ cmpE x e
      · refine Ev.if_pos hge ?_
        cases d with
        | true =>
          simp only [Bool.true_or]
          rw [if_neg (by simp), List.nil_append, ← fin]
          refine Ev.round (fun k => ?_) (hj2 out true (by omega))
          rw [spec_l1Into.j1, if_neg (by decide)]
        | false =>
          simp only [Bool.false_or, hge, decide_true]
          rw [if_pos (by simp), show out ++ ([e] ++ ((if cmpE x e ≠ 0 then [x] else []) ++ intoG e rest true)) = ((out ++ [e]) ++ if cmpE x e ≠ 0 then [x] else []) ++ intoG e rest true by simp]
          refine Ev.round (fun k => ?_) (hj2 (out ++ [e]) true (by rw [List.length_append]; simp; omega))
          rw [spec_l1Into.j1, if_pos (show ((!false) = true) from rfl), if_pos (by omega)]
      · refine Ev.if_neg hge ?_
        rw [if_neg (fun h => hge h.1), List.nil_append, ← fin, show decide (0 ≤ cmpE x e) = false from decide_eq_false hge, Bool.or_false]
        refine Ev.round (fun k => ?_) (hj2 out d (by omega))
        rw [spec_l1Into.j1, if_neg Bool.false_ne_true]
  have := key l [] [] false rfl (by simp)
  rw [List.nil_append] at this
  exact this
theorem bldG_len (ws : List IE) : ∀ (rest out : List IE), (bldG ws rest out).length ≤ out.length + rest.length
  | [], out => Nat.le_refl _
  | w :: rest, out => by
    show (bldG ws rest (if (if w.f4 = 2 then largB ws w else standB w rest) = true then intoE out w else out)).length ≤ _
    have h1 := bldG_len ws rest (if (if w.f4 = 2 then largB ws w else standB w rest) = true then intoE out w else out)
    have h2 : (if (if w.f4 = 2 then largB ws w else standB w rest) = true then intoE out w else out).length ≤ out.length + 1 := by
      by_cases h : (if w.f4 = 2 then largB ws w else standB w rest) = true
      · rw [if_pos h]; exact intoG_len w out false
      · rw [if_neg h]; omega
    simp only [List.length_cons]
    omega
theorem buildE_len (ws : List IE) : (buildE ws).length ≤ ws.length := by
  unfold buildE
  split
  · have h : (bldG ws ws []).length ≤ 0 + ws.length := bldG_len ws ws []
    rw [Nat.zero_add] at h
    exact h
  · simp
theorem wf_cvE {xs : List LE} (hok : ∀ x ∈ xs, ok41 x) : ((xs.map cvE).all fun x => (Lit.int .u64 x.f3).wf) = true := by
  rw [List.all_eq_true]
  intro y hy
  obtain ⟨x, hx, rfl⟩ := List.mem_map.1 hy
  exact (hok x hx).2.2.2.1
end Go.Proofs.Ytmaildoddeimbaa.Q

namespace Go.Proofs.Ytmaildoddeimbaa.Q
open Go.RowKit Go.Proofs.YtmaildoddeimbaaW.PrintWords Go.Proofs.YtmaildoddeimbaaW.PrintLast
set_option linter.unusedVariables false
set_option linter.unusedSimpArgs false
abbrev IC := S61
def cellC (e : IE) : IC := ⟨e.f0, e.f1, e.f2, e.f3, e.f5⟩
def rhit (x w : IE) : Bool := decide (colE x = colE w) && (decide (x.f3 = w.f3) || (decide (w.f4 = 2) && decide (x.f3 ≤ w.f3)))
def rplG : List IE → List IE → List IE
  | [], l => l
  | w :: rest, l => rplG rest (if w.f4 = 0 then intoE l w else l.filter fun x => !rhit x w)
theorem rplG_rise : ∀ (rest l : List IE), RisE l → RisE (rplG rest l)
  | [], l, h => h
  | w :: rest, l, h => by
    refine rplG_rise rest _ ?_
    by_cases hw : w.f4 = 0
    · rw [if_pos hw]; exact intoE_rise w l h
    · rw [if_neg hw]; exact h.sublist List.filter_sublist
theorem stand_snoc (y w : IE) (q : List IE) : standB y (q ++ [w]) = (standB y q && !hitE w y) := by
  unfold standB
  rw [List.any_append, Bool.not_or]
  simp
theorem rplG_mem : ∀ (rest pre l : List IE), (∀ y, y ∈ l ↔ y.f4 = 0 ∧ ∃ p q, pre = p ++ y :: q ∧ standB y q = true) → ∀ y, y ∈ rplG rest l ↔ y.f4 = 0 ∧ ∃ p q, pre ++ rest = p ++ y :: q ∧ standB y q = true
  | [], pre, l, h, y => by rw [List.append_nil]; exact h y
  | w :: rest, pre, l, h, y => by
    have key : ∀ z, z ∈ (if w.f4 = 0 then intoE l w else l.filter fun x => !rhit x w) ↔ z.f4 = 0 ∧ ∃ p q, pre ++ [w] = p ++ z :: q ∧ standB z q = true := by
      intro z
      have hback : (∃ p q, pre ++ [w] = p ++ z :: q ∧ standB z q = true) ↔ z = w ∨ ((∃ p q, pre = p ++ z :: q ∧ standB z q = true) ∧ hitE w z = false) ∨ (∃ p q, pre = p ++ z :: q ∧ standB z (q ++ [w]) = true) := by
        constructor
        · rintro ⟨p, q, e1, e2⟩
          rcases List.eq_nil_or_concat q with rfl | ⟨q', u, rfl⟩
          · left
            have := (List.append_inj' e1 rfl).2
            injection this with h; exact h.symm
          · right; right
            have e3 : pre ++ [w] = (p ++ z :: q') ++ [u] := by rw [e1]; simp
            obtain ⟨e4, e5⟩ := List.append_inj' e3 rfl
            injection e5 with e5
            subst e5
            exact ⟨p, q', e4, by simpa using e2⟩
        · rintro (rfl | ⟨⟨p, q, e1, e2⟩, e3⟩ | ⟨p, q, e1, e2⟩)
          · exact ⟨pre, [], rfl, rfl⟩
          · exact ⟨p, q ++ [w], by rw [e1]; simp, by rw [stand_snoc, e2, e3]; rfl⟩
          · exact ⟨p, q ++ [w], by rw [e1]; simp, e2⟩
      rw [hback]
      by_cases hw : w.f4 = 0
      · rw [if_pos hw, intoE_mem, h]
        have hc : z.f4 = 0 → (cmpE z w = 0 ↔ hitE w z = true) := fun hz => by
          rw [cmpE_zero]
          unfold hitE
          simp only [hz, hw]
          constructor
          · rintro ⟨h1, -, h3⟩; simp [h1, h3]
          · intro hh
            simp at hh
            exact ⟨hh.1.symm, by simp, hh.2.symm⟩
        constructor
        · rintro (rfl | ⟨⟨h1, h2⟩, h3⟩)
          · exact ⟨hw, .inl rfl⟩
          · refine ⟨h1, .inr (.inl ⟨h2, ?_⟩)⟩
            cases hh : hitE w z with
            | false => rfl
            | true => exact absurd ((hc h1).2 hh) h3
        · rintro ⟨h1, rfl | ⟨h2, h3⟩ | ⟨p, q, e1, e2⟩⟩
          · exact .inl rfl
          · exact .inr ⟨⟨h1, h2⟩, fun h0 => by rw [(hc h1).1 h0] at h3; cases h3⟩
          · rw [stand_snoc, Bool.and_eq_true] at e2
            refine .inr ⟨⟨h1, p, q, e1, e2.1⟩, fun h0 => ?_⟩
            rw [(hc h1).1 h0] at e2
            exact absurd e2.2 (by decide)
      · rw [if_neg hw, List.mem_filter, h]
        have hr : rhit z w = hitE w z := by
          unfold rhit hitE
          have hcc : decide (colE z = colE w) = decide (colE w = colE z) := decide_eq_decide.2 ⟨Eq.symm, Eq.symm⟩
          rw [hcc]
          by_cases hc : colE w = colE z
          · by_cases h2 : w.f4 = 2
            · by_cases h3 : z.f3 ≤ w.f3
              · simp [hc, h2, h3]
              · have : ¬ z.f3 = w.f3 := fun e => h3 (by omega)
                simp [hc, h2, h3, this]
            · by_cases h3 : w.f3 = z.f3
              · simp [hc, h2, h3]
              · have : ¬ z.f3 = w.f3 := fun e => h3 e.symm
                simp [hc, h2, h3, this]
          · simp [hc]
        rw [hr]
        constructor
        · rintro ⟨⟨h1, h2⟩, h3⟩
          exact ⟨h1, .inr (.inl ⟨h2, by simpa using h3⟩)⟩
        · rintro ⟨h1, rfl | ⟨h2, h3⟩ | ⟨p, q, e1, e2⟩⟩
          · exact absurd h1 hw
          · exact ⟨⟨h1, h2⟩, by rw [h3]; rfl⟩
          · rw [stand_snoc, Bool.and_eq_true] at e2
            exact ⟨⟨h1, p, q, e1, e2.1⟩, e2.2⟩
    have h2 := rplG_mem rest (pre ++ [w]) _ key y
    show y ∈ rplG rest (if w.f4 = 0 then intoE l w else l.filter fun x => !rhit x w) ↔ _
    rw [h2]
    have e : pre ++ [w] ++ rest = pre ++ w :: rest := by simp
    rw [e]
/-- What is replayed: the puts of the run. -/
def putsE (ws : List IE) : List IE := (buildE ws).filter fun e => decide (e.f4 = 0)
theorem rpl_is {ws : List IE} (hg : goodW ws = true) : rplG ws [] = putsE ws := by
  have hv : ∀ e ∈ ws, vent e = true := by
    unfold goodW at hg
    simp only [Bool.and_eq_true, List.all_eq_true] at hg
    exact hg.2
  unfold putsE buildE
  rw [if_pos hg]
  refine rise_uniq (rplG_rise ws [] List.Pairwise.nil) ((buildS_rise ws).sublist List.filter_sublist) fun e => ?_
  have h := rplG_mem ws [] [] (fun y => by simp) e
  rw [List.nil_append] at h
  rw [h, List.mem_filter, buildS_mem hv]
  constructor
  · rintro ⟨h1, p, q, e1, e2⟩
    exact ⟨⟨p, q, e1, by unfold chE; rw [if_neg (by rw [h1]; decide)]; exact e2⟩, decide_eq_true h1⟩
  · rintro ⟨⟨p, q, e1, e2⟩, h1⟩
    have h1' := of_decide_eq_true h1
    unfold chE at e2
    rw [if_neg (by rw [h1']; decide)] at e2
    exact ⟨h1', p, q, e1, e2⟩
/-- What both answer. -/
def replayC (ws : List IE) : List IC := (putsE ws).map cellC
theorem implR_is {ws : List IE} (hl : ws.length ≤ 1048576) (hi : Ev (fun k => impl_BuildRun.f k ws) (buildE ws)) : Ev (fun k => impl_Replay.f k ws) (replayC ws) := by
  unfold impl_Replay.f
  refine Ev.bind hi ?_
  have hbl := buildE_len ws
  have key : ∀ (rest pre : List IE) (out : List IC), buildE ws = pre ++ rest → out.length ≤ pre.length → Ev (fun k => impl_Replay.l0 k out (buildE ws) ((buildE ws).length : Int) (pre.length : Int)) (out ++ (rest.filter fun e => decide (e.f4 = 0)).map cellC) := by
    intro rest
    induction rest with
    | nil =>
      intro pre out e ho
      refine Ev.round (f := fun _ => some out) (fun k => ?_) (by simpa using Ev.now out)
      rw [impl_Replay.l0, if_neg (by rw [e]; simp)]
    | cons x rest ih =>
      intro pre out e ho
      have hpl := cut_len e
      have hw := wrap_nat pre.length (by omega)
      have hrd := rd_at e
      by_cases h0 : x.f4 = 0
      · have h := ih (pre ++ [x]) (out ++ [cellC x]) (by rw [e]; simp) (by rw [List.length_append, snoc_len]; simp; omega)
        rw [snoc_len] at h
        refine Ev.round (fun k => ?_) (by simpa [h0] using h)
        rw [impl_Replay.l0, if_pos (by omega), if_pos (by omega), if_pos (by omega), hrd, if_pos h0]
        show (if out.length < 1954687338268 then impl_Replay.l0 k (out ++ [cellC x]) (buildE ws) ((buildE ws).length : Int) (wrap64 ((pre.length : Int) + 1)) else none) = _
        rw [if_pos (by omega), hw]
        simp
      · have h := ih (pre ++ [x]) out (by rw [e]; simp) (by rw [snoc_len]; omega)
        rw [snoc_len] at h
        refine Ev.round (fun k => ?_) (by simpa [h0] using h)
        rw [impl_Replay.l0, if_pos (by omega), if_pos (by omega), if_pos (by omega), hrd, if_neg h0, hw]
        simp
  have := key (buildE ws) [] [] rfl (Nat.le_refl _)
  rw [List.nil_append] at this
  exact this
theorem specR_is (ws : List IE) : Ev (fun k => spec_Replay.f k ws) (replayC ws) := by
  refine Ev.bind_some rfl (Ev.bind (good_is ws) ?_)
  cases hg : goodW ws with
  | false =>
    refine Ev.if_neg (by decide) ?_
    have : replayC ws = [] := by unfold replayC putsE buildE; rw [hg]; rfl
    rw [this]
    exact Ev.now _
  | true =>
  refine Ev.if_pos rfl ?_
  have hl : ws.length ≤ 10000 := by
    unfold goodW at hg
    simp only [Bool.and_eq_true, decide_eq_true_eq] at hg
    exact hg.1
  have tail : ∀ (l : List IE), l.length ≤ 10000 → Ev (fun k => spec_Replay.l2 k [] l 0) (l.map cellC) := by
    intro l hll
    have key : ∀ (rest pre : List IE) (out : List IC), l = pre ++ rest → out.length = pre.length → Ev (fun k => spec_Replay.l2 k out l (pre.length : Int)) (out ++ rest.map cellC) := by
      intro rest
      induction rest with
      | nil =>
        intro pre out e ho
        refine Ev.round (f := fun _ => some out) (fun k => ?_) (by simpa using Ev.now out)
        rw [spec_Replay.l2, if_neg (by rw [e]; simp)]
      | cons x rest ih =>
        intro pre out e ho
        have hpl := cut_len e
        have hw := wrap_nat pre.length (by omega)
        have hrd := rd_at e
        have h := ih (pre ++ [x]) (out ++ [cellC x]) (by rw [e]; simp) (by rw [List.length_append, snoc_len]; simp; omega)
        rw [snoc_len] at h
        refine Ev.round (fun k => ?_) (by simpa using h)
        rw [spec_Replay.l2, if_pos (by omega), if_pos (by omega), hrd]
        show (if out.length < 1954687338268 then spec_Replay.l2 k (out ++ [cellC x]) l (wrap64 ((pre.length : Int) + 1)) else none) = _
        rw [if_pos (by omega), hw]
        simp
    have := key l [] [] rfl rfl
    rw [List.nil_append] at this
    exact this
  have key : ∀ (rest pre l : List IE), ws = pre ++ rest → l.length ≤ pre.length → Ev (fun k => spec_Replay.l0 k ws [] l (pre.length : Int)) ((rplG rest l).map cellC) := by
    intro rest
    induction rest with
    | nil =>
      intro pre l e ho
      have hpl : pre.length = ws.length := by rw [e]; simp
      refine Ev.round (fun k => ?_) (tail l (by omega))
      rw [spec_Replay.l0, if_neg (by omega)]
    | cons x rest ih =>
      intro pre l e ho
      have hpl := cut_len e
      have hw := wrap_nat pre.length (by omega)
      have hrd := rd_at e
      have hnext : ∀ o2 : List IE, o2.length ≤ pre.length + 1 → Ev (fun k => spec_Replay.l0 k ws [] o2 ((pre.length + 1 : Nat) : Int)) ((rplG rest o2).map cellC) := fun o2 h2 => by
        have := ih (pre ++ [x]) o2 (by rw [e]; simp) (by rw [snoc_len]; exact h2)
        rwa [snoc_len] at this
      show Ev _ ((rplG rest (if x.f4 = 0 then intoE l x else l.filter fun y => !rhit y x)).map cellC)
      by_cases h0 : x.f4 = 0
      · rw [if_pos h0]
        refine Ev.round (f := fun k => (spec_l1Into.f k l x.f0 x.f1 x.f2 x.f3 x.f4 x.f5).bind fun t => spec_Replay.l0 k ws [] t ((pre.length + 1 : Nat) : Int)) (fun k => ?_) (Ev.bind (into_is l x (by omega)) (hnext _ (by have := intoG_len x l false; unfold intoE; omega)))
        rw [spec_Replay.l0, if_pos (by omega), if_pos (by omega), hrd, if_pos h0, hw]
      · rw [if_neg h0]
        have hin : ∀ (rest2 pre2 out : List IE), l = pre2 ++ rest2 → out.length ≤ pre2.length → Ev (fun k => spec_Replay.l1 k ws [] l (pre.length : Int) out (pre2.length : Int) x.f0 x.f1 x.f2 x.f3 x.f4 x.f5) ((rplG rest (out ++ rest2.filter fun y => !rhit y x)).map cellC) := by
          intro rest2
          induction rest2 with
          | nil =>
            intro pre2 out e2 ho2
            have hp2 : pre2.length = l.length := by rw [e2]; simp
            refine Ev.round (fun k => ?_) (by simpa using hnext out (by omega))
            rw [spec_Replay.l1, if_neg (by omega), hw]
            simp
          | cons y rest2 ih2 =>
            intro pre2 out e2 ho2
            have hpl2 := cut_len e2
            have hw2 := wrap_nat pre2.length (by omega)
            have hrd2 := rd_at e2
            have hj : ∀ c : Bool, Ev (fun k => spec_Replay.j2 k ws [] l (pre.length : Int) out (pre2.length : Int) c x.f0 x.f1 x.f2 x.f3 x.f4 x.f5) ((rplG rest (out ++ ((if c = true then [] else [y]) ++ rest2.filter fun y => !rhit y x))).map cellC) := fun c => by
              cases c with
              | true =>
                have h := ih2 (pre2 ++ [y]) out (by rw [e2]; simp) (by rw [snoc_len]; omega)
                rw [snoc_len] at h
                rw [if_pos rfl, List.nil_append]
                refine Ev.round (fun k => ?_) h
                rw [spec_Replay.j2, if_pos rfl, hw2]
              | false =>
                have h := ih2 (pre2 ++ [y]) (out ++ [y]) (by rw [e2]; simp) (by rw [snoc_len, snoc_len]; omega)
                rw [snoc_len, List.append_assoc] at h
                rw [if_neg (by decide)]
                refine Ev.round (fun k => ?_) h
                rw [spec_Replay.j2, if_neg Bool.false_ne_true, if_pos (by omega), if_pos (by omega), if_pos (by omega), hrd2, hw2]
            have hf : (y :: rest2).filter (fun y => !rhit y x) = (if rhit y x = true then [] else [y]) ++ rest2.filter fun y => !rhit y x := by
              cases hh : rhit y x <;> simp [List.filter_cons, hh]
            rw [hf]
            refine Ev.round (f := fun k => if decide (colE y = colE x) = true then (if y.f3 = x.f3 then spec_Replay.j2 k ws [] l (pre.length : Int) out (pre2.length : Int) true x.f0 x.f1 x.f2 x.f3 x.f4 x.f5 else (if x.f4 = 2 then spec_Replay.j2 k ws [] l (pre.length : Int) out (pre2.length : Int) (decide (y.f3 ≤ x.f3)) x.f0 x.f1 x.f2 x.f3 x.f4 x.f5 else spec_Replay.j2 k ws [] l (pre.length : Int) out (pre2.length : Int) false x.f0 x.f1 x.f2 x.f3 x.f4 x.f5)) else spec_Replay.j2 k ws [] l (pre.length : Int) out (pre2.length : Int) false x.f0 x.f1 x.f2 x.f3 x.f4 x.f5) (fun k => ?_) ?_
            · rw [spec_Replay.l1, if_pos (by omega), if_pos (by omega), hrd2, col_same, Option.bind_some]
            by_cases hc : colE y = colE x
            · refine Ev.if_pos (decide_eq_true hc) ?_
              by_cases h3 : y.f3 = x.f3
              · have hh : rhit y x = true := by unfold rhit; simp [hc, h3]
                rw [hh]
                exact Ev.if_pos h3 (hj true)
              · refine Ev.if_neg h3 ?_
                by_cases h2 : x.f4 = 2
                · have hh : rhit y x = decide (y.f3 ≤ x.f3) := by unfold rhit; simp [hc, h3, h2]
                  rw [hh]
                  exact Ev.if_pos h2 (hj _)
                · have hh : rhit y x = false := by unfold rhit; simp [hc, h3, h2]
                  rw [hh]
                  exact Ev.if_neg h2 (hj false)
            · have hh : rhit y x = false := by unfold rhit; simp [hc]
              rw [hh]
              exact Ev.if_neg (by simpa using hc) (hj false)
        have h := hin l [] [] rfl (Nat.le_refl _)
        rw [List.nil_append] at h
        refine Ev.round (fun k => ?_) h
        rw [spec_Replay.l0, if_pos (by omega), if_pos (by omega), hrd, if_neg h0]
        rfl
  have h := key ws [] [] rfl (Nat.le_refl _)
  rw [rpl_is hg] at h
  exact h
end Go.Proofs.Ytmaildoddeimbaa.Q

namespace Go.Proofs.Ytmaildoddeimbaa.Q
open Go.RowKit Go.Proofs.YtmaildoddeimbaaW.PrintWords Go.Proofs.YtmaildoddeimbaaW.PrintLast
set_option linter.unusedVariables false
set_option linter.unusedSimpArgs false
theorem mkOne (x : Int) : (strOfNums [x]).size = 1 := by first | rfl | simp [strOfNums]
theorem mkText_loop : ∀ (f : Nat) (x : Int) (s : ByteArray), 0 ≤ x → x ≤ 9223372036854775807 → x < 10 ^ f → s.size + f < 1000 → ∃ t, Ev (fun k => laws_markText.l0 k x s) t
  | 0, x, s, h0, hm, h1, hs => by
    have h2 : x = 0 := by simp at h1; omega
    subst h2
    exact ⟨_, Ev.shift 1 fun k => by simp only [laws_markText.l0]; rw [if_neg (by omega), if_pos (by omega)]⟩
  | f + 1, x, s, h0, hm, h1, hs => by
    by_cases h2 : x > 0
    · have hx : wrap64 (Int.tdiv x 10) = x / 10 := by
        rw [Int.tdiv_eq_ediv_of_nonneg h0]
        exact wrap_id _ (by omega) (by omega)
      obtain ⟨t, ht⟩ := mkText_loop f (x / 10) (strOfNums [(wrap64 (48 + (Int.tmod x 10))) % 256] ++ s) (by omega) (by omega) (by rw [Int.pow_succ] at h1; omega) (by rw [ByteArray.size_append, mkOne]; omega)
      refine ⟨t, Ev.round (fun k => ?_) ht⟩
      simp only [laws_markText.l0]; rw [if_pos h2]; simp only [Option.bind_some]; rw [if_pos (by rw [mkOne]; omega), hx]
    · exact ⟨_, Ev.shift 1 fun k => by simp only [laws_markText.l0]; rw [if_neg h2, if_pos (by omega)]⟩
theorem mkText_ev (x : Int) (h0 : 0 ≤ x) (h1 : x ≤ 9223372036854775807) : ∃ t, Ev (fun k => laws_markText.f k x) t := by
  unfold laws_markText.f
  by_cases h : x ≤ 0
  · exact ⟨_, Ev.if_pos h (Ev.now _)⟩
  · obtain ⟨t, ht⟩ := mkText_loop 19 x ⟨#[]⟩ h0 h1 (by omega) (by decide)
    exact ⟨t, Ev.if_neg h ht⟩
noncomputable def mkT (x : Int) : ByteArray := if h : 0 ≤ x ∧ x ≤ 9223372036854775807 then Classical.choose (mkText_ev x h.1 h.2) else ⟨#[]⟩
theorem mkT_ev (x : Int) (h0 : 0 ≤ x) (h1 : x ≤ 9223372036854775807) : Ev (fun k => laws_markText.f k x) (mkT x) := by
  unfold mkT
  rw [dif_pos ⟨h0, h1⟩]
  exact Classical.choose_spec (mkText_ev x h0 h1)
end Go.Proofs.Ytmaildoddeimbaa.Q

namespace Go.Proofs.Ytmaildoddeimbaa.Q
open Go.RowKit Go.Proofs.YtmaildoddeimbaaW.PrintWords Go.Proofs.YtmaildoddeimbaaW.PrintLast
set_option linter.unusedVariables false
set_option linter.unusedSimpArgs false
noncomputable def mEnt (x : Int) : S43 := ⟨mkT x, mkT (x + 1), mkT (x + 1 + 1), IntKind.u64.wrap (x + 1 + 1 + 1), x + 1 + 1 + 1 + 1, mkT (x + 1 + 1 + 1 + 1 + 1)⟩
noncomputable def mEnts : Nat → Int → List S43
  | 0, _ => []
  | d + 1, x => mEnt x :: mEnts d (x + 1 + 1 + 1 + 1 + 1 + 1)
theorem wraps (x : Int) (h0 : 0 ≤ x) (h1 : x + 6 ≤ 9000000000000000000) : wrap64 (x + 1) = x + 1 ∧ wrap64 (x + 1 + 1) = x + 1 + 1 ∧ wrap64 (x + 1 + 1 + 1) = x + 1 + 1 + 1 ∧ wrap64 (x + 1 + 1 + 1 + 1) = x + 1 + 1 + 1 + 1 ∧ wrap64 (x + 1 + 1 + 1 + 1 + 1) = x + 1 + 1 + 1 + 1 + 1 ∧ wrap64 (x + 1 + 1 + 1 + 1 + 1 + 1) = x + 1 + 1 + 1 + 1 + 1 + 1 :=
  ⟨wrap_id _ (by omega) (by omega), wrap_id _ (by omega) (by omega), wrap_id _ (by omega) (by omega), wrap_id _ (by omega) (by omega), wrap_id _ (by omega) (by omega), wrap_id _ (by omega) (by omega)⟩
theorem markE_loop : ∀ (rest pre : List S43) (x : Int), 0 ≤ x → x + 6 * rest.length ≤ 9000000000000000000 → pre.length + rest.length < 1000000000 → Ev (fun k => laws_markEntryS.l0 k (pre ++ rest) x (pre.length : Int)) (x + 6 * rest.length, pre ++ mEnts rest.length x)
  | [], pre, x, h0, h1, h2 => Ev.shift 1 fun k => by
    simp only [laws_markEntryS.l0]; rw [if_neg (by simp)]; simp [mEnts]
  | y :: rest, pre, x, h0, h1, h2 => by
    have hl : ((y :: rest).length : Int) = (rest.length : Int) + 1 := by simp
    have hl2 : (y :: rest).length = rest.length + 1 := by simp
    rw [hl] at h1
    rw [hl2] at h2
    have ih := markE_loop rest (pre ++ [mEnt x]) (x + 1 + 1 + 1 + 1 + 1 + 1) (by omega) (by omega) (by rw [List.length_append, List.length_singleton]; omega)
    rw [List.append_assoc, List.append_assoc, List.singleton_append, List.singleton_append, List.length_append, List.length_singleton] at ih
    have hs : ∀ b c : S43, (pre ++ b :: rest).set pre.length c = pre ++ c :: rest := fun b c => by rw [List.set_append_right _ _ (Nat.le_refl _), Nat.sub_self, List.set_cons_zero]
    have hr : ∀ b : S43, rd_T43 (pre ++ b :: rest) (pre.length : Int) = b := fun b => by unfold rd_T43; rw [Int.toNat_natCast]; simp
    have hx : x + 6 ≤ 9000000000000000000 := by omega
    have hp0 : (0 : Int) ≤ (pre.length : Int) := by omega
    obtain ⟨K0, k0⟩ := mkT_ev x (by omega) (by omega)
    obtain ⟨K1, k1⟩ := mkT_ev (x + 1) (by omega) (by omega)
    obtain ⟨K2, k2⟩ := mkT_ev (x + 1 + 1) (by omega) (by omega)
    obtain ⟨K5, k5⟩ := mkT_ev (x + 1 + 1 + 1 + 1 + 1) (by omega) (by omega)
    obtain ⟨K6, k6⟩ := ih
    refine ⟨K0 + K1 + K2 + K5 + K6 + 1, fun k hk => ?_⟩
    obtain ⟨k, rfl⟩ : ∃ m, k = m + 1 := ⟨k - 1, by omega⟩
    have j0 := k0 k (by omega)
    have j1 := k1 k (by omega)
    have j2 := k2 k (by omega)
    have j5 := k5 k (by omega)
    have j6 := k6 k (by omega)
    have e1 : x + 6 * ((y :: rest).length : Int) = x + 1 + 1 + 1 + 1 + 1 + 1 + 6 * (rest.length : Int) := by rw [hl]; omega
    have hlt : (pre.length : Int) < ((pre ++ y :: rest).length : Int) := by simp; omega
    have wj : wrap64 ((pre.length : Int) + 1) = ((pre.length + 1 : Nat) : Int) := wrap_nat _ (by omega)
    obtain ⟨w1, w2, w3, w4, w5, w6⟩ := wraps x h0 hx
    have e2 : pre ++ mEnts (y :: rest).length x = pre ++ mEnt x :: mEnts rest.length (x + 1 + 1 + 1 + 1 + 1 + 1) := rfl
    rw [e1, e2, ← j6]
    simp only [laws_markEntryS.l0]
    rw [if_pos hlt]
    simp only [w1, w2, w3, w4, w5, w6, j0, j1, j2, j5, Option.bind_some, hp0, if_true, Int.toNat_natCast, hs, hr, wj, mEnt]
theorem markE_is (xs : List S43) (x : Int) (h0 : 0 ≤ x) (h1 : x + 6 * xs.length ≤ 9000000000000000000) (hl : xs.length < 1000000000) : Ev (fun k => laws_markEntryS.f k xs x) (x + 6 * (xs.length : Int), mEnts xs.length x) :=
  markE_loop xs [] x h0 h1 (by simpa using hl)
/-! runs -/
end Go.Proofs.Ytmaildoddeimbaa.Q

namespace Go.Proofs.Ytmaildoddeimbaa.Q
open Go.RowKit Go.Proofs.YtmaildoddeimbaaW.PrintWords Go.Proofs.YtmaildoddeimbaaW.PrintLast
set_option linter.unusedVariables false
set_option linter.unusedSimpArgs false
noncomputable def mCel (x : Int) : S61 := ⟨mkT x, mkT (x + 1), mkT (x + 1 + 1), IntKind.u64.wrap (x + 1 + 1 + 1), mkT (x + 1 + 1 + 1 + 1)⟩
noncomputable def mCels : Nat → Int → List S61
  | 0, _ => []
  | d + 1, x => mCel x :: mCels d (x + 1 + 1 + 1 + 1 + 1)
theorem wraps5 (x : Int) (h0 : 0 ≤ x) (h1 : x + 5 ≤ 9000000000000000000) : wrap64 (x + 1) = x + 1 ∧ wrap64 (x + 1 + 1) = x + 1 + 1 ∧ wrap64 (x + 1 + 1 + 1) = x + 1 + 1 + 1 ∧ wrap64 (x + 1 + 1 + 1 + 1) = x + 1 + 1 + 1 + 1 ∧ wrap64 (x + 1 + 1 + 1 + 1 + 1) = x + 1 + 1 + 1 + 1 + 1 :=
  ⟨wrap_id _ (by omega) (by omega), wrap_id _ (by omega) (by omega), wrap_id _ (by omega) (by omega), wrap_id _ (by omega) (by omega), wrap_id _ (by omega) (by omega)⟩
theorem markC_loop : ∀ (rest pre : List S61) (x : Int), 0 ≤ x → x + 5 * rest.length ≤ 9000000000000000000 → pre.length + rest.length < 1000000000 → Ev (fun k => laws_markCellS.l0 k (pre ++ rest) x (pre.length : Int)) (x + 5 * rest.length, pre ++ mCels rest.length x)
  | [], pre, x, h0, h1, h2 => Ev.shift 1 fun k => by
    simp only [laws_markCellS.l0]; rw [if_neg (by simp)]; simp [mCels]
  | y :: rest, pre, x, h0, h1, h2 => by
    have hl : ((y :: rest).length : Int) = (rest.length : Int) + 1 := by simp
    have hl2 : (y :: rest).length = rest.length + 1 := by simp
    rw [hl] at h1
    rw [hl2] at h2
    have ih := markC_loop rest (pre ++ [mCel x]) (x + 1 + 1 + 1 + 1 + 1) (by omega) (by omega) (by rw [List.length_append, List.length_singleton]; omega)
    rw [List.append_assoc, List.append_assoc, List.singleton_append, List.singleton_append, List.length_append, List.length_singleton] at ih
    have hs : ∀ b c : S61, (pre ++ b :: rest).set pre.length c = pre ++ c :: rest := fun b c => by rw [List.set_append_right _ _ (Nat.le_refl _), Nat.sub_self, List.set_cons_zero]
    have hr : ∀ b : S61, rd_T61 (pre ++ b :: rest) (pre.length : Int) = b := fun b => by unfold rd_T61; rw [Int.toNat_natCast]; simp
    have hx : x + 5 ≤ 9000000000000000000 := by omega
    have hp0 : (0 : Int) ≤ (pre.length : Int) := by omega
    obtain ⟨K0, k0⟩ := mkT_ev x (by omega) (by omega)
    obtain ⟨K1, k1⟩ := mkT_ev (x + 1) (by omega) (by omega)
    obtain ⟨K2, k2⟩ := mkT_ev (x + 1 + 1) (by omega) (by omega)
    obtain ⟨K5, k5⟩ := mkT_ev (x + 1 + 1 + 1 + 1) (by omega) (by omega)
    obtain ⟨K6, k6⟩ := ih
    refine ⟨K0 + K1 + K2 + K5 + K6 + 1, fun k hk => ?_⟩
    obtain ⟨k, rfl⟩ : ∃ m, k = m + 1 := ⟨k - 1, by omega⟩
    have j0 := k0 k (by omega)
    have j1 := k1 k (by omega)
    have j2 := k2 k (by omega)
    have j5 := k5 k (by omega)
    have j6 := k6 k (by omega)
    have e1 : x + 5 * ((y :: rest).length : Int) = x + 1 + 1 + 1 + 1 + 1 + 5 * (rest.length : Int) := by rw [hl]; omega
    have hlt : (pre.length : Int) < ((pre ++ y :: rest).length : Int) := by simp; omega
    have wj : wrap64 ((pre.length : Int) + 1) = ((pre.length + 1 : Nat) : Int) := wrap_nat _ (by omega)
    obtain ⟨w1, w2, w3, w4, w5⟩ := wraps5 x h0 hx
    have e2 : pre ++ mCels (y :: rest).length x = pre ++ mCel x :: mCels rest.length (x + 1 + 1 + 1 + 1 + 1) := rfl
    rw [e1, e2, ← j6]
    simp only [laws_markCellS.l0]
    rw [if_pos hlt]
    simp only [w1, w2, w3, w4, w5, j0, j1, j2, j5, Option.bind_some, hp0, if_true, Int.toNat_natCast, hs, hr, wj, mCel]
theorem markC_is (xs : List S61) (x : Int) (h0 : 0 ≤ x) (h1 : x + 5 * xs.length ≤ 9000000000000000000) (hl : xs.length < 1000000000) : Ev (fun k => laws_markCellS.f k xs x) (x + 5 * (xs.length : Int), mCels xs.length x) :=
  markC_loop xs [] x h0 h1 (by simpa using hl)
theorem heldC_loop (xs : List S61) : ∀ (d : Nat) (y : Int) (pre : List S61), xs = pre ++ mCels d y → 0 ≤ y → y + 5 * d ≤ 9000000000000000000 → pre.length + d < 1000000000 → Ev (fun k => laws_heldCellS.l0 k xs y (pre.length : Int)) (y + 5 * d)
  | 0, y, pre, e, h0, h1, h2 => Ev.shift 1 fun k => by
    simp only [laws_heldCellS.l0]
    rw [if_neg (by rw [e]; simp [mCels])]
    simp
  | d + 1, y, pre, e, h0, h1, h2 => by
    have hl : ((d + 1 : Nat) : Int) = (d : Int) + 1 := by simp
    rw [hl] at h1
    have ih := heldC_loop xs d (y + 1 + 1 + 1 + 1 + 1) (pre ++ [mCel y]) (by rw [e]; simp [mCels]) (by omega) (by omega) (by rw [List.length_append, List.length_singleton]; omega)
    rw [List.length_append, List.length_singleton] at ih
    have hr : rd_T61 xs (pre.length : Int) = mCel y := by unfold rd_T61; rw [Int.toNat_natCast, e]; simp [mCels]
    have hx : y + 5 ≤ 9000000000000000000 := by omega
    obtain ⟨K0, k0⟩ := mkT_ev y (by omega) (by omega)
    obtain ⟨K1, k1⟩ := mkT_ev (y + 1) (by omega) (by omega)
    obtain ⟨K2, k2⟩ := mkT_ev (y + 1 + 1) (by omega) (by omega)
    obtain ⟨K5, k5⟩ := mkT_ev (y + 1 + 1 + 1 + 1) (by omega) (by omega)
    obtain ⟨K6, k6⟩ := ih
    refine ⟨K0 + K1 + K2 + K5 + K6 + 1, fun k hk => ?_⟩
    obtain ⟨k, rfl⟩ : ∃ m, k = m + 1 := ⟨k - 1, by omega⟩
    have j0 := k0 k (by omega)
    have j1 := k1 k (by omega)
    have j2 := k2 k (by omega)
    have j5 := k5 k (by omega)
    have j6 := k6 k (by omega)
    have e1 : y + 5 * ((d + 1 : Nat) : Int) = y + 1 + 1 + 1 + 1 + 1 + 5 * (d : Int) := by rw [hl]; omega
    have hlt : (pre.length : Int) < (xs.length : Int) := by rw [e]; simp [mCels]; omega
    have hp0 : (0 : Int) ≤ (pre.length : Int) := by omega
    have wj : wrap64 ((pre.length : Int) + 1) = ((pre.length + 1 : Nat) : Int) := wrap_nat _ (by omega)
    obtain ⟨w1, w2, w3, w4, w5⟩ := wraps5 y h0 hx
    rw [e1, ← j6]
    simp only [laws_heldCellS.l0]
    rw [if_pos hlt]
    simp only [w1, w2, w3, w4, w5, j0, j1, j2, j5, Option.bind_some, hp0, if_true, hr, wj, mCel]
theorem heldC_is (d : Nat) (x : Int) (h0 : 0 ≤ x) (h1 : x + 5 * d ≤ 9000000000000000000) (hd : d < 1000000000) : Ev (fun k => laws_heldCellS.f k (mCels d x) x) (x + 5 * d) :=
  heldC_loop (mCels d x) d x [] rfl h0 h1 (by simpa using hd)
theorem eqCell_refl (x : S61) : laws_eqCell.f x.f0 x.f1 x.f2 x.f3 x.f4 x.f0 x.f1 x.f2 x.f3 x.f4 = some true := by simp [laws_eqCell.f]
theorem eqCellS_refl (xs : List S61) (hb : xs.length < 4611686018427387904) : Ev (fun k => laws_eqCellS.f k xs xs) true := by
  unfold laws_eqCellS.f
  refine Ev.if_pos rfl ?_
  have key : ∀ (rest pre : List S61), xs = pre ++ rest → Ev (fun k => laws_eqCellS.l0 k xs xs (pre.length : Int)) true := by
    intro rest
    induction rest with
    | nil =>
      intro pre e
      refine Ev.round (f := fun _ => some true) (fun k => ?_) (Ev.now _)
      rw [laws_eqCellS.l0, if_neg (by rw [e]; simp)]
    | cons x rest ih =>
      intro pre e
      have hlt : pre.length < xs.length := by rw [e]; exact len_cut _ _ _
      have h := ih (pre ++ [x]) (by rw [e]; simp)
      rw [List.length_append, List.length_singleton] at h
      refine Ev.round (fun k => ?_) h
      rw [laws_eqCellS.l0, if_pos (by omega), if_pos (by omega), if_pos (by omega), eqCell_refl, Option.bind_some, if_pos rfl, wrap_nat _ (by omega)]
  exact key xs [] rfl
end Go.Proofs.Ytmaildoddeimbaa.Q

namespace Go.Proofs.Ytmaildoddeimbaa.Pr
open Q Go.Proofs.YtmaildoddeimbaaW.PrintWords
theorem FnExactReplay : laws_FnExactReplay.Pure := by
  intro xs ⟨hl, hok⟩
  apply Ev.rounds
  unfold laws_FnExactReplay.f
  obtain ⟨t, ht, h1⟩ := szEntryS_is xs 1048576 hl hok (by omega) (by omega)
  refine Ev.bind ht ?_
  rcases h1 with h1 | ⟨h1, h2⟩
  · exact Ev.if_pos h1 (Ev.now _)
  refine Ev.if_neg (by omega) ?_
  have he := toEntryS_is xs (by omega)
  have hts := wf_cvE hok
  obtain ⟨ws, hws⟩ : ∃ ws, xs.map cvE = ws := ⟨_, rfl⟩
  have hwl : ws.length ≤ 1048576 := by rw [← hws, List.length_map]; omega
  rw [hws] at he hts
  have hi0 : Ev (fun k => impl_BuildRun.f k ws) (buildE ws) := ⟨0, fun k _ => by show impl_BuildRun.f k ws = _; unfold impl_BuildRun.f; rw [if_pos hts]⟩
  have hi := implR_is hwl hi0
  have hs := specR_is ws
  have hbl : (replayC ws).length ≤ 1048576 := by
    unfold replayC putsE
    rw [List.length_map]
    exact Nat.le_trans (List.length_filter_le _ _) (Nat.le_trans (buildE_len ws) hwl)
  obtain ⟨R, hR⟩ : ∃ R, replayC ws = R := ⟨_, rfl⟩
  rw [hR] at hi hs hbl
  have hq : Ev (fun k => laws_eqCellS.f k R R) true := eqCellS_refl R (by omega)
  refine Ev.bind he (Ev.bind hs (Ev.bind he (Ev.bind hi (Ev.bind hq (Ev.if_pos rfl (Ev.bind he (Ev.bind (eqEntryS_refl ws (by omega)) (Ev.if_pos rfl ?_))))))))
  refine Ev.bind (markE_is ws 1 (by omega) (by omega) (by omega)) (Ev.if_neg (by show ¬ (1 + 6 * (ws.length : Int)) < 0; omega) (Ev.bind hq ?_))
  refine Ev.round (f := fun k => (laws_markCellS.f k R 1).bind fun bt => (laws_heldCellS.f k bt.2 1).bind fun t => if t < 0 then some false else (if t = bt.1 then ((laws_toEntryS.f k xs).bind fun t1 => (impl_Replay.f k t1).bind fun t2 => (laws_eqCellS.f k t2 R).bind fun t3 => if t3 = true then some true else some false) else some false)) (fun k => by rw [laws_FnExactReplay.j0, if_neg (by decide)]) ?_
  exact Ev.bind (markC_is R 1 (by omega) (by omega) (by omega)) (Ev.bind (heldC_is R.length 1 (by omega) (by omega) (by omega)) (Ev.if_neg (by omega) (Ev.if_pos rfl (Ev.bind he (Ev.bind hi (Ev.bind hq (Ev.if_pos rfl (Ev.now _))))))))
end Go.Proofs.Ytmaildoddeimbaa.Pr

namespace Go.Proofs.Ytmaildoddeimbaa.fnExactReplay
open Go.ChangeShapes Go.WideShapes Go.ChangeAt Go.RowKit Go.Proofs.YtmaildoddeimbaaW.PrintWords Go.Proofs.Ytmaildoddeimbaa.RowK Go.Proofs.Ytmaildoddeimbaa.Q
open Go.ChangeMaps (open_string shut_string)
set_option linter.unusedVariables false
theorem own : ownKnob Try.prog.godebug = none := by kernel_rfl
theorem laidOut : laidOutB Try.prog = true := by kernel_rfl
set_option maxRecDepth 100000 in
theorem lifted (os : Os) (started : os.Started) (H : Type) (enc : TypeId × Value → H) :
    ReturnsInHanded {} Try.checked os 4 .any (Rows.fnExactReplaySpec.pre6 enc Try.prog Try.f4 Rows.fnExactReplayRow.domain false) (Rows.fnExactReplaySpec.post enc Try.prog Try.f4 false true false false) := by
  refine returnsInHanded_of_change_sized (C := Try.checked) own started (by kernel_rfl) Try.func4
    (ChangeSpec.witness6 (enc := enc) (C := Try.checked) false ⟨#[], #[.slice none 0 0], []⟩ 8 (by kernel_rfl) (by kernel_rfl) (by kernel_rfl) (by kernel_rfl)) ?_
  intro W base args ds gs before hval0 hW hcnd hsz0 _
  have hval : ∀ (j : Nat) t v, Try.f4.params[j]? = some t → args[j]? = some v → Value.okWide Try.prog W .any base t v := hval0
  have hW' := hW
  obtain ⟨p, q, hA0, hV, rfl, hfz, hnd⟩ := hW
  have hA : DataW.TrodAll enc Try.prog W 0 (fun _ => true) true Try.f4.params.toList args.toList ds p := hA0
  rw [Try.params4] at hA hval
  obtain ⟨v0, vs0, d0, ds0, p0, q0, hargs, rfl, rfl, h0, r0⟩ := trodAll_cons hA
  obtain ⟨rfl, rfl, rfl⟩ := trodAll_nil r0
  obtain rfl : args = #[v0] := by cases args; simp_all
  obtain ⟨rfl, rfl⟩ := trodVars_none hV
  obtain ⟨av0, len0, cap0, rfl⟩ := okWide_slice Try.underlying22 (hval 0 22 v0 rfl rfl)
  have k0 := h0
  have lt0 : ∀ x ∈ p0, x.block < W.heap.size := by obtain ⟨m, hm⟩ := k0; exact DataW.trod_lt m _ _ _ hm
  obtain ⟨l0, hK0, ok0_⟩ := Opens.arg (opens_imp (opens_slice Try.underlying22 (by kernel_rfl) opens41) (fun _ h => h)) h0
  obtain ⟨A0, c0, hcs0, hc0, hr0⟩ := hK0
  obtain ⟨rfl, rfl, rfl⟩ : av0 = A0 ∧ len0 = l0.length ∧ cap0 = c0 := by simpa [Value.cells] using hcs0
  obtain ⟨k_, hp_⟩ := Pr.FnExactReplay l0 ok0_
  clear hA0 hval0 hsz0
  have hc_ := Q.laws_FnExactReplay.calls k_ _ _ l0 true W hr0 hc0 hp_
  refine hc_.mono fun e W' ⟨he, bel0⟩ => ?_
  subst he
  have bel : Below W.heap.size W W' := bel0
  exact ⟨_, rfl, _, _, _, [], _, [], hW', trodAll_mk1 (shut_bool Try.underlying4 _), (trodAll_cons_mk (Below.trod laidOut (by kernel_rfl) (of_decide_eq_true (by kernel_rfl)) k0 bel lt0) trodAll_mk0), rfl, bel.frame _, fun h => by cases h⟩
theorem over : Rows.fnExactReplayRow.holds Try.pinned (OpenSpec.ofChange Rows.fnExactReplaySpec) :=
  OpenClaim.holds_of_wide 4 Try.f4 rfl rfl rfl rfl rfl rfl rfl ⟨rfl, rfl, rfl, rfl, rfl⟩ rfl rfl rfl rfl rfl (by kernel_rfl) Try.func4 (by kernel_rfl)
    (of_decide_eq_true (by kernel_rfl)) (by unfold Func.isWrapper; first | (rw [if_pos (by decide +kernel)]; kernel_rfl) | (rw [if_neg (by decide +kernel)]; exact ⟨rfl, rfl⟩))
    (fun os started H enc _ => lifted os started H enc)
end Go.Proofs.Ytmaildoddeimbaa.fnExactReplay
namespace Go.Proofs.Ytmaildoddeimbaa
theorem fnExactReplay_holds : Rows.FnExactReplaySaid := fnExactReplay.over
#print axioms fnExactReplay_holds
end Go.Proofs.Ytmaildoddeimbaa
