/- FnExactMergeStore: the row of the law: its arguments opened, its walk, its statement over lists (PrFnExactMergeStore). No condition. -/
import Derived.Test.YtjlggfdmfchncaaCFnExactMergeStore2
import Derived.Deep.RegionHeld3
import Derived.Deep.DeepCutAuto
import Derived.Deep.QuietTactic
import Derived.BigQuiet
import Derived.StillTailTactics

namespace Go.Proofs.Ytjlggfdmfchncaa.Q
open Go.RowKit Go.Proofs.YtjlggfdmfchncaaW.PrintWords Go.Proofs.YtjlggfdmfchncaaW.PrintLast Go.Proofs.YtjlggfdmfchncaaW.PrintMore
set_option linter.unusedVariables false
set_option linter.unusedSimpArgs false

/-! ### spec_ValidRun: function 52 -/
mutual
def spec_ValidRun.l0 : Nat → Int → List (S65) → Option (Bool)
 | 0, _, _ => none
 | k + 1, x3, x127000 => if x3 < (x127000.length : Int) then (if 0 ≤ x3 then ((spec_ValidEntry.f ((rd_T65 x127000 x3).f0) ((rd_T65 x127000 x3).f1) ((rd_T65 x127000 x3).f2) ((rd_T65 x127000 x3).f3) ((rd_T65 x127000 x3).f4) ((rd_T65 x127000 x3).f5)).bind fun t129 => (if t129 = true then (if x3 > 0 then (if 0 ≤ (wrap64 (x3 - 1)) then (if (wrap64 (x3 - 1)) < (x127000.length : Int) then ((spec_CompareKeys.f k ((rd_T65 x127000 (wrap64 (x3 - 1))).f0) ((rd_T65 x127000 (wrap64 (x3 - 1))).f1) ((rd_T65 x127000 (wrap64 (x3 - 1))).f2) ((rd_T65 x127000 (wrap64 (x3 - 1))).f3) ((rd_T65 x127000 (wrap64 (x3 - 1))).f4) ((rd_T65 x127000 (wrap64 (x3 - 1))).f5) ((rd_T65 x127000 x3).f0) ((rd_T65 x127000 x3).f1) ((rd_T65 x127000 x3).f2) ((rd_T65 x127000 x3).f3) ((rd_T65 x127000 x3).f4) ((rd_T65 x127000 x3).f5)).bind fun t132 => (if t132 = (-1) then (if ((rd_T65 x127000 (wrap64 (x3 - 1))).f4) = 2 then (if ((rd_T65 x127000 x3).f4) = 2 then ((spec_l1SameColumn.f ((rd_T65 x127000 (wrap64 (x3 - 1))).f0) ((rd_T65 x127000 (wrap64 (x3 - 1))).f1) ((rd_T65 x127000 (wrap64 (x3 - 1))).f2) ((rd_T65 x127000 (wrap64 (x3 - 1))).f3) ((rd_T65 x127000 (wrap64 (x3 - 1))).f4) ((rd_T65 x127000 (wrap64 (x3 - 1))).f5) ((rd_T65 x127000 x3).f0) ((rd_T65 x127000 x3).f1) ((rd_T65 x127000 x3).f2) ((rd_T65 x127000 x3).f3) ((rd_T65 x127000 x3).f4) ((rd_T65 x127000 x3).f5)).bind fun t133 => (spec_ValidRun.j1 k x3 t133 x127000)) else (spec_ValidRun.j1 k x3 false x127000)) else (spec_ValidRun.j1 k x3 false x127000)) else (spec_ValidRun.j1 k x3 true x127000))) else (none)) else (none)) else (spec_ValidRun.l0 k (wrap64 (x3 + 1)) x127000)) else (some false))) else (none)) else (some true)
def spec_ValidRun.j1 : Nat → Int → Bool → List (S65) → Option (Bool)
 | 0, _, _, _ => none
 | k + 1, x3, x51, x127000 => if x51 = true then (some false) else (spec_ValidRun.l0 k (wrap64 (x3 + 1)) x127000)
end
def spec_ValidRun.f (k : Nat) (l0_0 : List (S65)) : Option (Bool) := if (l0_0.length : Int) > 10000 then (some false) else (spec_ValidRun.l0 k 0 l0_0)
set_option maxHeartbeats 8000000 in
set_option maxRecDepth 100000 in
theorem spec_ValidRun.calls (k : Nat) (A0_0 : Option Addr) (c0_0 : Nat) (l0_0 : List (S65)) (r : Bool) (w : World) (hr0_0 : Kd.C k65 w A0_0 l0_0.length l0_0) (hc0_0 : l0_0.length ≤ c0_0) (h : spec_ValidRun.f k l0_0 = some r) :
  Calls Try.prog 52 #[.agg #[.slice A0_0 l0_0.length c0_0]] w fun e w' => e = .returned (.bool r) ∧ Below w.heap.size w w' := by
 have hu60 := Try.underlying60
 have hu65 := Try.underlying65
 have HR0_0 := Aside0.mk hr0_0
 have HC0_0 := Aside0.mk hc0_0
 clear hr0_0 hc0_0
 have HB := Aside0.mk (Below.refl w.heap.size w)
 have H : (if (l0_0.length : Int) > 10000 then (some false) else (spec_ValidRun.l0 k 0 l0_0)) = some r := h
 clear h
 by_cases c2 : (l0_0.length : Int) > 10000
 ·rw [if_pos c2] at H
  have c2b0 : decide (10000 < (l0_0.length : Int)) = true := decide_eq_true c2
  have c2b1 : decide (10000 < l0_0.length) = true := decide_eq_true (by omega)
  clear c2
  obtain rfl := Option.some.inj H
  go_enter Try.func52, Try.ntmps52
  go_wp2_with (first | ((with_reducible refine gate_dst (N := 1) rfl ?_); refine box_event ?hg (N := 1) ?hd (cs := #[.slice A0_0 l0_0.length c0_0]) (t := 60) ?hr ?_; (case hd => rfl); (case hg => rfl); (case hr => first | (go_simp; done) | (go_simp; rfl)); intro gb126 hg w3 hbox hb; have n0_ := Aside0.mk (below_step bw hb); have n1_ := Aside0.mk (hbox); have n2_ := Aside0.mk ((by rw [hg]; exact (below_size bw) : w.heap.size ≤ gb126)); have n3_ := Aside0.mk ((by rw [hg]; exact (below_size bw) : w.heap.size ≤ gb126)); clear HB; have HB := n0_; have BK126 := n1_; have GW126 := n2_; have GE126 := n3_; clear n0_ n1_ n2_ n3_; clear hb hbox hg; have hcz4_0 : w3.cell? ⟨gb126, 0, none⟩ = some (.slice A0_0 l0_0.length c0_0) := (blk_cell BK126.out 0).trans rfl; have hfz4_0 := blk_frozen BK126.out 0))
  go_ret
  exact ⟨by first | rfl | (simp [errW_none, errW_some] <;> rfl) | (simp [*, errW_none, errW_some] <;> rfl), bw⟩
 ·rw [if_neg c2] at H
  have c2b0 : decide (10000 < (l0_0.length : Int)) = false := decide_eq_false c2
  have c2b1 : decide (10000 < l0_0.length) = false := decide_eq_false (by omega)
  clear c2
  have H' := Aside0.mk H
  clear H
  go_enter Try.func52, Try.ntmps52
  go_wp2_with (first | ((with_reducible refine gate_dst (N := 1) rfl ?_); refine box_event ?hg (N := 1) ?hd (cs := #[.slice A0_0 l0_0.length c0_0]) (t := 60) ?hr ?_; (case hd => rfl); (case hg => rfl); (case hr => first | (go_simp; done) | (go_simp; rfl)); intro gb126 hg w5 hbox hb; have n0_ := Aside0.mk (below_step bw hb); have n1_ := Aside0.mk (hbox); have n2_ := Aside0.mk ((by rw [hg]; exact (below_size bw) : w.heap.size ≤ gb126)); have n3_ := Aside0.mk ((by rw [hg]; exact (below_size bw) : w.heap.size ≤ gb126)); clear HB; have HB := n0_; have BK126 := n1_; have GW126 := n2_; have GE126 := n3_; clear n0_ n1_ n2_ n3_; clear hb hbox hg; have hcz6_0 : w5.cell? ⟨gb126, 0, none⟩ = some (.slice A0_0 l0_0.length c0_0) := (blk_cell BK126.out 0).trans rfl; have hfz6_0 := blk_frozen BK126.out 0))
  go_loopg [3] k (fun kq v3 w' => ∃ (x3_1 : Int), v3 = .int .i64 x3_1 ∧ Aside0 (spec_ValidRun.l0 kq x3_1 l0_0 = some r) ∧ Aside0 (kq ≤ k) ∧ Aside0 (w'.heap[gb126]? = some (.cells #[(.slice A0_0 l0_0.length c0_0)] 60 (0, 0))) ∧ Aside0 (Below w.heap.size w w'))
  case atStart => exact ⟨(0), (by first | rfl | (simp; done) | (simp [*]; done)), H', ⟨Nat.le_refl _⟩, ⟨lb BK126⟩, ⟨bw⟩⟩
  case round =>
   clear H'
   try clear c2
   try clear c2b0
   try clear c2b1
   try clear p2
   try clear c5
   try clear hcz4_0
   try clear hcz6_0
   try clear hfz4_0
   try clear hfz6_0
   obtain ⟨x3_1, rfl, HA, HK1, BK126, HB⟩ := hrel
   cases gk with
   | zero => exact absurd HA.out (by simp [spec_ValidRun.l0])
   | succ k1 =>
    have H := HA.out
    clear HA
    simp only [spec_ValidRun.l0] at H
    by_cases c7 : x3_1 < (l0_0.length : Int)
    ·rw [if_pos c7] at H
     have c7b0 : decide (x3_1 < (l0_0.length : Int)) = true := decide_eq_true c7
     clear c7
     by_cases c8 : 0 ≤ x3_1
     ·rw [if_pos c8] at H
      have c8b0 : decide (0 ≤ x3_1) = true := decide_eq_true c8
      clear c8
      replace H := Option.bind_eq_some_iff.mp H
      obtain ⟨t129, A90, H⟩ := H
      replace H : (if t129 = true then (if x3_1 > 0 then (if 0 ≤ (wrap64 (x3_1 - 1)) then (if (wrap64 (x3_1 - 1)) < (l0_0.length : Int) then ((spec_CompareKeys.f k1 ((rd_T65 l0_0 (wrap64 (x3_1 - 1))).f0) ((rd_T65 l0_0 (wrap64 (x3_1 - 1))).f1) ((rd_T65 l0_0 (wrap64 (x3_1 - 1))).f2) ((rd_T65 l0_0 (wrap64 (x3_1 - 1))).f3) ((rd_T65 l0_0 (wrap64 (x3_1 - 1))).f4) ((rd_T65 l0_0 (wrap64 (x3_1 - 1))).f5) ((rd_T65 l0_0 x3_1).f0) ((rd_T65 l0_0 x3_1).f1) ((rd_T65 l0_0 x3_1).f2) ((rd_T65 l0_0 x3_1).f3) ((rd_T65 l0_0 x3_1).f4) ((rd_T65 l0_0 x3_1).f5)).bind fun t132 => (if t132 = (-1) then (if ((rd_T65 l0_0 (wrap64 (x3_1 - 1))).f4) = 2 then (if ((rd_T65 l0_0 x3_1).f4) = 2 then ((spec_l1SameColumn.f ((rd_T65 l0_0 (wrap64 (x3_1 - 1))).f0) ((rd_T65 l0_0 (wrap64 (x3_1 - 1))).f1) ((rd_T65 l0_0 (wrap64 (x3_1 - 1))).f2) ((rd_T65 l0_0 (wrap64 (x3_1 - 1))).f3) ((rd_T65 l0_0 (wrap64 (x3_1 - 1))).f4) ((rd_T65 l0_0 (wrap64 (x3_1 - 1))).f5) ((rd_T65 l0_0 x3_1).f0) ((rd_T65 l0_0 x3_1).f1) ((rd_T65 l0_0 x3_1).f2) ((rd_T65 l0_0 x3_1).f3) ((rd_T65 l0_0 x3_1).f4) ((rd_T65 l0_0 x3_1).f5)).bind fun t133 => (spec_ValidRun.j1 k1 x3_1 t133 l0_0)) else (spec_ValidRun.j1 k1 x3_1 false l0_0)) else (spec_ValidRun.j1 k1 x3_1 false l0_0)) else (spec_ValidRun.j1 k1 x3_1 true l0_0))) else (none)) else (none)) else (spec_ValidRun.l0 k1 (wrap64 (x3_1 + 1)) l0_0)) else (some false)) = some r := H
      have A9 := Aside0.mk A90
      clear A90
      by_cases c10 : t129 = true
      ·subst c10
       have H1 : (if x3_1 > 0 then (if 0 ≤ (wrap64 (x3_1 - 1)) then (if (wrap64 (x3_1 - 1)) < (l0_0.length : Int) then ((spec_CompareKeys.f k1 ((rd_T65 l0_0 (wrap64 (x3_1 - 1))).f0) ((rd_T65 l0_0 (wrap64 (x3_1 - 1))).f1) ((rd_T65 l0_0 (wrap64 (x3_1 - 1))).f2) ((rd_T65 l0_0 (wrap64 (x3_1 - 1))).f3) ((rd_T65 l0_0 (wrap64 (x3_1 - 1))).f4) ((rd_T65 l0_0 (wrap64 (x3_1 - 1))).f5) ((rd_T65 l0_0 x3_1).f0) ((rd_T65 l0_0 x3_1).f1) ((rd_T65 l0_0 x3_1).f2) ((rd_T65 l0_0 x3_1).f3) ((rd_T65 l0_0 x3_1).f4) ((rd_T65 l0_0 x3_1).f5)).bind fun t132 => (if t132 = (-1) then (if ((rd_T65 l0_0 (wrap64 (x3_1 - 1))).f4) = 2 then (if ((rd_T65 l0_0 x3_1).f4) = 2 then ((spec_l1SameColumn.f ((rd_T65 l0_0 (wrap64 (x3_1 - 1))).f0) ((rd_T65 l0_0 (wrap64 (x3_1 - 1))).f1) ((rd_T65 l0_0 (wrap64 (x3_1 - 1))).f2) ((rd_T65 l0_0 (wrap64 (x3_1 - 1))).f3) ((rd_T65 l0_0 (wrap64 (x3_1 - 1))).f4) ((rd_T65 l0_0 (wrap64 (x3_1 - 1))).f5) ((rd_T65 l0_0 x3_1).f0) ((rd_T65 l0_0 x3_1).f1) ((rd_T65 l0_0 x3_1).f2) ((rd_T65 l0_0 x3_1).f3) ((rd_T65 l0_0 x3_1).f4) ((rd_T65 l0_0 x3_1).f5)).bind fun t133 => (spec_ValidRun.j1 k1 x3_1 t133 l0_0)) else (spec_ValidRun.j1 k1 x3_1 false l0_0)) else (spec_ValidRun.j1 k1 x3_1 false l0_0)) else (spec_ValidRun.j1 k1 x3_1 true l0_0))) else (none)) else (none)) else (spec_ValidRun.l0 k1 (wrap64 (x3_1 + 1)) l0_0)) = some r := by rw [if_pos rfl] at H; exact H
       clear H
       have H := H1
       clear H1
       by_cases c11 : x3_1 > 0
       ·rw [if_pos c11] at H
        have c11b0 : decide (0 < x3_1) = true := decide_eq_true c11
        clear c11
        obtain ⟨ji12, hji12⟩ : ∃ j_ : Int, (wrap64 (x3_1 - 1)) = j_ := ⟨_, rfl⟩
        replace H : (if 0 ≤ (ji12) then (if (ji12) < (l0_0.length : Int) then ((spec_CompareKeys.f k1 ((rd_T65 l0_0 (ji12)).f0) ((rd_T65 l0_0 (ji12)).f1) ((rd_T65 l0_0 (ji12)).f2) ((rd_T65 l0_0 (ji12)).f3) ((rd_T65 l0_0 (ji12)).f4) ((rd_T65 l0_0 (ji12)).f5) ((rd_T65 l0_0 x3_1).f0) ((rd_T65 l0_0 x3_1).f1) ((rd_T65 l0_0 x3_1).f2) ((rd_T65 l0_0 x3_1).f3) ((rd_T65 l0_0 x3_1).f4) ((rd_T65 l0_0 x3_1).f5)).bind fun t132 => (if t132 = (-1) then (if ((rd_T65 l0_0 (ji12)).f4) = 2 then (if ((rd_T65 l0_0 x3_1).f4) = 2 then ((spec_l1SameColumn.f ((rd_T65 l0_0 (ji12)).f0) ((rd_T65 l0_0 (ji12)).f1) ((rd_T65 l0_0 (ji12)).f2) ((rd_T65 l0_0 (ji12)).f3) ((rd_T65 l0_0 (ji12)).f4) ((rd_T65 l0_0 (ji12)).f5) ((rd_T65 l0_0 x3_1).f0) ((rd_T65 l0_0 x3_1).f1) ((rd_T65 l0_0 x3_1).f2) ((rd_T65 l0_0 x3_1).f3) ((rd_T65 l0_0 x3_1).f4) ((rd_T65 l0_0 x3_1).f5)).bind fun t133 => (spec_ValidRun.j1 k1 x3_1 t133 l0_0)) else (spec_ValidRun.j1 k1 x3_1 false l0_0)) else (spec_ValidRun.j1 k1 x3_1 false l0_0)) else (spec_ValidRun.j1 k1 x3_1 true l0_0))) else (none)) else (none)) = some r := by first | (rw [hji12] at H; exact H) | (simp only [hji12] at H ⊢; exact H)
        (try rw [hji12] at A9)
        have hji12w : (IntKind.i64.wrap (x3_1 - 1)) = ji12 := (i64_w _).trans hji12
        by_cases c13 : 0 ≤ (ji12)
        ·rw [if_pos c13] at H
         have c13b0 : decide (0 ≤ (ji12)) = true := decide_eq_true c13
         clear c13
         by_cases c14 : (ji12) < (l0_0.length : Int)
         ·rw [if_pos c14] at H
          have c14b0 : decide ((ji12) < (l0_0.length : Int)) = true := decide_eq_true c14
          clear c14
          have HC15 := Aside0.mk H
          clear H
          have hcz16_0 : wr.cell? ⟨gb126, 0, none⟩ = some (.slice A0_0 l0_0.length c0_0) := (blk_cell BK126.out 0).trans rfl
          have hfz16_0 := blk_frozen BK126.out 0
          have p127 : 0 ≤ (x3_1 : Int) := of_decide_eq_true (by first | (with_reducible assumption) | assumption)
          have q127 : x3_1 < (l0_0.length : Int) := of_decide_eq_true (by first | (with_reducible assumption) | assumption)
          obtain ⟨ad127, e127, hx127_0, hx127_1, hx127_2, hx127_3, hx127_4, hx127_5⟩ := at_T65 HR0_0.out x3_1 p127 q127
          cases e127
          replace hx127_0 := (HB.out.cell (World.block_lt_of_cell? w _ hx127_0)).trans hx127_0
          replace hx127_1 := (HB.out.cell (World.block_lt_of_cell? w _ hx127_1)).trans hx127_1
          replace hx127_2 := (HB.out.cell (World.block_lt_of_cell? w _ hx127_2)).trans hx127_2
          replace hx127_3 := (HB.out.cell (World.block_lt_of_cell? w _ hx127_3)).trans hx127_3
          replace hx127_4 := (HB.out.cell (World.block_lt_of_cell? w _ hx127_4)).trans hx127_4
          replace hx127_5 := (HB.out.cell (World.block_lt_of_cell? w _ hx127_5)).trans hx127_5
          replace p127 := eq_true p127
          replace q127 := eq_true q127
          go_upto_region 11 with (first | ((with_reducible refine gate_dst (N := 4) rfl ?_); refine box_event ?hg (N := 4) ?hd (cs := #[.string (⟨#[]⟩ : ByteArray), .string (⟨#[]⟩ : ByteArray), .string (⟨#[]⟩ : ByteArray), .int .u64 0, .int .i64 0, .string (⟨#[]⟩ : ByteArray)]) (t := 65) ?hr ?_; (case hd => rfl); (case hg => rfl); (case hr => first | (go_simp; done) | (go_simp; rfl)); intro gb128 hg w17 hbox hb; have n0_ := Aside0.mk (blk_below (g := gb126) (o := .cells #[.slice (some ad127) l0_0.length c0_0] 60 (0, 0)) (lb BK126) hb); have n1_ := Aside0.mk (below_step bw hb); have n2_ := Aside0.mk (hbox); have n3_ := Aside0.mk ((by rw [hg]; exact (below_size bw) : w.heap.size ≤ gb128)); have n4_ := Aside0.mk ((by rw [hg]; exact (below_size bw) : w.heap.size ≤ gb128)); have n5_ := Aside0.mk ((by rw [hg]; exact Nat.ne_of_lt (blk_lt (g := gb126) (o := .cells #[.slice (some ad127) l0_0.length c0_0] 60 (0, 0)) (lb BK126)) : gb126 ≠ gb128)); have n6_ := Aside0.mk ((by rw [hg]; exact Nat.ne_of_gt (blk_lt (g := gb126) (o := .cells #[.slice (some ad127) l0_0.length c0_0] 60 (0, 0)) (lb BK126)) : gb128 ≠ gb126)); clear BK126; clear HB; have BK126 := n0_; have HB := n1_; have BK128 := n2_; have GW128 := n3_; have GE128 := n4_; have NB126_128 := n5_; have NB128_126 := n6_; clear n0_ n1_ n2_ n3_ n4_ n5_ n6_; clear hb hbox hg; have hnb18 := NB128_126.out; have hnc18 := NB126_128.out; have hcz19_0 : w17.cell? ⟨gb128, 0, none⟩ = some (.string (⟨#[]⟩ : ByteArray)) := (blk_cell BK128.out 0).trans rfl; have hcz19_1 : w17.cell? ⟨gb128, 1, none⟩ = some (.string (⟨#[]⟩ : ByteArray)) := (blk_cell BK128.out 1).trans rfl; have hcz19_2 : w17.cell? ⟨gb128, 2, none⟩ = some (.string (⟨#[]⟩ : ByteArray)) := (blk_cell BK128.out 2).trans rfl; have hcz19_3 : w17.cell? ⟨gb128, 3, none⟩ = some (.int .u64 0) := (blk_cell BK128.out 3).trans rfl; have hcz19_4 : w17.cell? ⟨gb128, 4, none⟩ = some (.int .i64 0) := (blk_cell BK128.out 4).trans rfl; have hcz19_5 : w17.cell? ⟨gb128, 5, none⟩ = some (.string (⟨#[]⟩ : ByteArray)) := (blk_cell BK128.out 5).trans rfl; have hfz19_0 := blk_frozen BK128.out 0; have hfz19_1 := blk_frozen BK128.out 1; have hfz19_2 := blk_frozen BK128.out 2; have hfz19_3 := blk_frozen BK128.out 3; have hfz19_4 := blk_frozen BK128.out 4; have hfz19_5 := blk_frozen BK128.out 5) | ((with_reducible refine at_fn (f := 62) rfl ?_); refine goesL_ (some 23) rfl rfl Try.func62 (by kernel_rfl) rfl #[.agg #[.string ((rd_T65 l0_0 x3_1).f0), .string ((rd_T65 l0_0 x3_1).f1), .string ((rd_T65 l0_0 x3_1).f2), .int .u64 ((rd_T65 l0_0 x3_1).f3), .int .i64 ((rd_T65 l0_0 x3_1).f4), .string ((rd_T65 l0_0 x3_1).f5)]] rfl (by (try simp only [List.map_toArray, List.map_cons, List.map_nil]); first | done | rfl | (simp only [List.length_drop, List.length_take]; rfl)) ?_; (with_reducible refine (spec_ValidEntry.calls ((rd_T65 l0_0 x3_1).f0) ((rd_T65 l0_0 x3_1).f1) ((rd_T65 l0_0 x3_1).f2) ((rd_T65 l0_0 x3_1).f3) ((rd_T65 l0_0 x3_1).f4) ((rd_T65 l0_0 x3_1).f5) true _ A9.out).mono ?_); rintro e w20 ⟨rfl, hb⟩; refine ⟨_, rfl, ?_⟩; have n0_ := Aside0.mk (blk_below (g := gb126) (o := .cells #[.slice (some ad127) l0_0.length c0_0] 60 (0, 0)) (by (with_reducible repeat (first | refine blk_drewN ?_ _ | refine blk_drew ?_ | refine blk_alloc ?_ _)); refine blk_far ?_ NB126_128.out _; (with_reducible repeat (first | refine blk_drewN ?_ _ | refine blk_drew ?_ | refine blk_alloc ?_ _)); refine blk_far ?_ NB126_128.out _; (with_reducible repeat (first | refine blk_drewN ?_ _ | refine blk_drew ?_ | refine blk_alloc ?_ _)); refine blk_far ?_ NB126_128.out _; (with_reducible repeat (first | refine blk_drewN ?_ _ | refine blk_drew ?_ | refine blk_alloc ?_ _)); refine blk_far ?_ NB126_128.out _; (with_reducible repeat (first | refine blk_drewN ?_ _ | refine blk_drew ?_ | refine blk_alloc ?_ _)); refine blk_far ?_ NB126_128.out _; (with_reducible repeat (first | refine blk_drewN ?_ _ | refine blk_drew ?_ | refine blk_alloc ?_ _)); refine blk_far ?_ NB126_128.out _; (with_reducible repeat (first | refine blk_drewN ?_ _ | refine blk_drew ?_ | refine blk_alloc ?_ _)); exact BK126.out) hb); have n1_ := Aside0.mk (blk_below (g := gb128) (o := .cells #[.string ((rd_T65 l0_0 x3_1).f0), .string ((rd_T65 l0_0 x3_1).f1), .string ((rd_T65 l0_0 x3_1).f2), .int .u64 ((rd_T65 l0_0 x3_1).f3), .int .i64 ((rd_T65 l0_0 x3_1).f4), .string ((rd_T65 l0_0 x3_1).f5)] 65 (0, 0)) (by (with_reducible repeat (first | refine blk_drewN ?_ _ | refine blk_drew ?_ | refine blk_alloc ?_ _)); refine blk_put (cs := #[.string ((rd_T65 l0_0 x3_1).f0), .string ((rd_T65 l0_0 x3_1).f1), .string ((rd_T65 l0_0 x3_1).f2), .int .u64 ((rd_T65 l0_0 x3_1).f3), .int .i64 ((rd_T65 l0_0 x3_1).f4), .string (⟨#[]⟩ : ByteArray)]) ?_ 5 _ rfl; (with_reducible repeat (first | refine blk_drewN ?_ _ | refine blk_drew ?_ | refine blk_alloc ?_ _)); refine blk_put (cs := #[.string ((rd_T65 l0_0 x3_1).f0), .string ((rd_T65 l0_0 x3_1).f1), .string ((rd_T65 l0_0 x3_1).f2), .int .u64 ((rd_T65 l0_0 x3_1).f3), .int .i64 0, .string (⟨#[]⟩ : ByteArray)]) ?_ 4 _ rfl; (with_reducible repeat (first | refine blk_drewN ?_ _ | refine blk_drew ?_ | refine blk_alloc ?_ _)); refine blk_put (cs := #[.string ((rd_T65 l0_0 x3_1).f0), .string ((rd_T65 l0_0 x3_1).f1), .string ((rd_T65 l0_0 x3_1).f2), .int .u64 0, .int .i64 0, .string (⟨#[]⟩ : ByteArray)]) ?_ 3 _ rfl; (with_reducible repeat (first | refine blk_drewN ?_ _ | refine blk_drew ?_ | refine blk_alloc ?_ _)); refine blk_put (cs := #[.string ((rd_T65 l0_0 x3_1).f0), .string ((rd_T65 l0_0 x3_1).f1), .string (⟨#[]⟩ : ByteArray), .int .u64 0, .int .i64 0, .string (⟨#[]⟩ : ByteArray)]) ?_ 2 _ rfl; (with_reducible repeat (first | refine blk_drewN ?_ _ | refine blk_drew ?_ | refine blk_alloc ?_ _)); refine blk_put (cs := #[.string ((rd_T65 l0_0 x3_1).f0), .string (⟨#[]⟩ : ByteArray), .string (⟨#[]⟩ : ByteArray), .int .u64 0, .int .i64 0, .string (⟨#[]⟩ : ByteArray)]) ?_ 1 _ rfl; (with_reducible repeat (first | refine blk_drewN ?_ _ | refine blk_drew ?_ | refine blk_alloc ?_ _)); refine blk_put (cs := #[.string (⟨#[]⟩ : ByteArray), .string (⟨#[]⟩ : ByteArray), .string (⟨#[]⟩ : ByteArray), .int .u64 0, .int .i64 0, .string (⟨#[]⟩ : ByteArray)]) ?_ 0 _ rfl; (with_reducible repeat (first | refine blk_drewN ?_ _ | refine blk_drew ?_ | refine blk_alloc ?_ _)); exact BK128.out) hb); have n2_ := Aside0.mk (below_step bw hb); clear BK126; clear BK128; clear HB; have BK126 := n0_; have BK128 := n1_; have HB := n2_; clear n0_ n1_ n2_; (try clear hb); (try clear hb2); (try clear hk); (try clear hi); have hcz21_0 : w20.cell? ⟨gb126, 0, none⟩ = some (.slice (some ad127) l0_0.length c0_0) := (blk_cell BK126.out 0).trans rfl; have hfz21_0 := blk_frozen BK126.out 0; have p130 : 0 ≤ ((ji12) : Int) := of_decide_eq_true (by first | (with_reducible assumption) | assumption); have q130 : (ji12) < (l0_0.length : Int) := of_decide_eq_true (by first | (with_reducible assumption) | assumption); obtain ⟨ad130, e130, hx130_0, hx130_1, hx130_2, hx130_3, hx130_4, hx130_5⟩ := at_T65 HR0_0.out (ji12) p130 q130; obtain rfl : ad127 = ad130 := (by injection e130); replace hx130_0 := (HB.out.cell (World.block_lt_of_cell? w _ hx130_0)).trans hx130_0; replace hx130_1 := (HB.out.cell (World.block_lt_of_cell? w _ hx130_1)).trans hx130_1; replace hx130_2 := (HB.out.cell (World.block_lt_of_cell? w _ hx130_2)).trans hx130_2; replace hx130_3 := (HB.out.cell (World.block_lt_of_cell? w _ hx130_3)).trans hx130_3; replace hx130_4 := (HB.out.cell (World.block_lt_of_cell? w _ hx130_4)).trans hx130_4; replace hx130_5 := (HB.out.cell (World.block_lt_of_cell? w _ hx130_5)).trans hx130_5; replace p130 := eq_true p130; replace q130 := eq_true q130) | ((with_reducible refine gate_dst (N := 5) rfl ?_); refine box_event ?hg (N := 5) ?hd (cs := #[.string (⟨#[]⟩ : ByteArray), .string (⟨#[]⟩ : ByteArray), .string (⟨#[]⟩ : ByteArray), .int .u64 0, .int .i64 0, .string (⟨#[]⟩ : ByteArray)]) (t := 65) ?hr ?_; (case hd => rfl); (case hg => rfl); (case hr => first | (go_simp; done) | (go_simp; rfl)); intro gb131 hg w22 hbox hb; have n0_ := Aside0.mk (blk_below (g := gb126) (o := .cells #[.slice (some ad127) l0_0.length c0_0] 60 (0, 0)) (lb BK126) hb); have n1_ := Aside0.mk (blk_below (g := gb128) (o := .cells #[.string ((rd_T65 l0_0 x3_1).f0), .string ((rd_T65 l0_0 x3_1).f1), .string ((rd_T65 l0_0 x3_1).f2), .int .u64 ((rd_T65 l0_0 x3_1).f3), .int .i64 ((rd_T65 l0_0 x3_1).f4), .string ((rd_T65 l0_0 x3_1).f5)] 65 (0, 0)) (lb BK128) hb); have n2_ := Aside0.mk (below_step bw hb); have n3_ := Aside0.mk (hbox); have n4_ := Aside0.mk ((by rw [hg]; exact (below_size bw) : w.heap.size ≤ gb131)); have n5_ := Aside0.mk ((by rw [hg]; exact (below_size bw) : w.heap.size ≤ gb131)); have n6_ := Aside0.mk ((by rw [hg]; exact Nat.ne_of_lt (blk_lt (g := gb126) (o := .cells #[.slice (some ad127) l0_0.length c0_0] 60 (0, 0)) (lb BK126)) : gb126 ≠ gb131)); have n7_ := Aside0.mk ((by rw [hg]; exact Nat.ne_of_gt (blk_lt (g := gb126) (o := .cells #[.slice (some ad127) l0_0.length c0_0] 60 (0, 0)) (lb BK126)) : gb131 ≠ gb126)); have n8_ := Aside0.mk ((by rw [hg]; exact Nat.ne_of_lt (blk_lt (g := gb128) (o := .cells #[.string ((rd_T65 l0_0 x3_1).f0), .string ((rd_T65 l0_0 x3_1).f1), .string ((rd_T65 l0_0 x3_1).f2), .int .u64 ((rd_T65 l0_0 x3_1).f3), .int .i64 ((rd_T65 l0_0 x3_1).f4), .string ((rd_T65 l0_0 x3_1).f5)] 65 (0, 0)) (lb BK128)) : gb128 ≠ gb131)); have n9_ := Aside0.mk ((by rw [hg]; exact Nat.ne_of_gt (blk_lt (g := gb128) (o := .cells #[.string ((rd_T65 l0_0 x3_1).f0), .string ((rd_T65 l0_0 x3_1).f1), .string ((rd_T65 l0_0 x3_1).f2), .int .u64 ((rd_T65 l0_0 x3_1).f3), .int .i64 ((rd_T65 l0_0 x3_1).f4), .string ((rd_T65 l0_0 x3_1).f5)] 65 (0, 0)) (lb BK128)) : gb131 ≠ gb128)); clear BK126; clear BK128; clear HB; have BK126 := n0_; have BK128 := n1_; have HB := n2_; have BK131 := n3_; have GW131 := n4_; have GE131 := n5_; have NB126_131 := n6_; have NB131_126 := n7_; have NB128_131 := n8_; have NB131_128 := n9_; clear n0_ n1_ n2_ n3_ n4_ n5_ n6_ n7_ n8_ n9_; clear hb hbox hg; have hnb23 := NB131_126.out; have hnc23 := NB126_131.out; have hnb24 := NB131_128.out; have hnc24 := NB128_131.out; have hcz25_0 : w22.cell? ⟨gb131, 0, none⟩ = some (.string (⟨#[]⟩ : ByteArray)) := (blk_cell BK131.out 0).trans rfl; have hcz25_1 : w22.cell? ⟨gb131, 1, none⟩ = some (.string (⟨#[]⟩ : ByteArray)) := (blk_cell BK131.out 1).trans rfl; have hcz25_2 : w22.cell? ⟨gb131, 2, none⟩ = some (.string (⟨#[]⟩ : ByteArray)) := (blk_cell BK131.out 2).trans rfl; have hcz25_3 : w22.cell? ⟨gb131, 3, none⟩ = some (.int .u64 0) := (blk_cell BK131.out 3).trans rfl; have hcz25_4 : w22.cell? ⟨gb131, 4, none⟩ = some (.int .i64 0) := (blk_cell BK131.out 4).trans rfl; have hcz25_5 : w22.cell? ⟨gb131, 5, none⟩ = some (.string (⟨#[]⟩ : ByteArray)) := (blk_cell BK131.out 5).trans rfl; have hfz25_0 := blk_frozen BK131.out 0; have hfz25_1 := blk_frozen BK131.out 1; have hfz25_2 := blk_frozen BK131.out 2; have hfz25_3 := blk_frozen BK131.out 3; have hfz25_4 := blk_frozen BK131.out 4; have hfz25_5 := blk_frozen BK131.out 5))
          (try simp only [Act.put, List.setIfInBounds_toArray, List.set_cons_zero, List.set_cons_succ])
          go_cut [51] (fun v51 wc => ∃ (kq : Nat) (x51_14 : Bool), v51 = .bool x51_14 ∧ Aside0 (spec_ValidRun.j1 kq x3_1 x51_14 l0_0 = some r) ∧ Aside0 (kq ≤ k1) ∧ Aside0 (wc.heap[gb126]? = some (.cells #[(.slice (some ad127) l0_0.length c0_0)] 60 (0, 0))) ∧ Aside0 (wc.heap[gb128]? = some (.cells #[.string ((rd_T65 l0_0 x3_1).f0), .string ((rd_T65 l0_0 x3_1).f1), .string ((rd_T65 l0_0 x3_1).f2), .int .u64 ((rd_T65 l0_0 x3_1).f3), .int .i64 ((rd_T65 l0_0 x3_1).f4), .string ((rd_T65 l0_0 x3_1).f5)] 65 (0, 0))) ∧ Aside0 (wc.heap[gb131]? = some (.cells #[.string ((rd_T65 l0_0 (ji12)).f0), .string ((rd_T65 l0_0 (ji12)).f1), .string ((rd_T65 l0_0 (ji12)).f2), .int .u64 ((rd_T65 l0_0 (ji12)).f3), .int .i64 ((rd_T65 l0_0 (ji12)).f4), .string ((rd_T65 l0_0 (ji12)).f5)] 65 (0, 0))) ∧ Aside0 (Below w.heap.size w wc))
          case first =>
           have H := HC15.out
           clear HC15
           replace H := Option.bind_eq_some_iff.mp H
           obtain ⟨t132, A260, H⟩ := H
           replace H : (if t132 = (-1) then (if ((rd_T65 l0_0 (ji12)).f4) = 2 then (if ((rd_T65 l0_0 x3_1).f4) = 2 then ((spec_l1SameColumn.f ((rd_T65 l0_0 (ji12)).f0) ((rd_T65 l0_0 (ji12)).f1) ((rd_T65 l0_0 (ji12)).f2) ((rd_T65 l0_0 (ji12)).f3) ((rd_T65 l0_0 (ji12)).f4) ((rd_T65 l0_0 (ji12)).f5) ((rd_T65 l0_0 x3_1).f0) ((rd_T65 l0_0 x3_1).f1) ((rd_T65 l0_0 x3_1).f2) ((rd_T65 l0_0 x3_1).f3) ((rd_T65 l0_0 x3_1).f4) ((rd_T65 l0_0 x3_1).f5)).bind fun t133 => (spec_ValidRun.j1 k1 x3_1 t133 l0_0)) else (spec_ValidRun.j1 k1 x3_1 false l0_0)) else (spec_ValidRun.j1 k1 x3_1 false l0_0)) else (spec_ValidRun.j1 k1 x3_1 true l0_0)) = some r := H
           have A26 := Aside0.mk A260
           clear A260
           by_cases c27 : t132 = (-1)
           ·rw [if_pos c27] at H
            have c27b0 : (t132 == (-1)) = true := beq_iff_eq.mpr c27
            have c27b1 : (t132 != (-1)) = false := bne_eq_false_iff_eq.mpr c27
            clear c27
            (first | rw [c27b0] | (simp only [i64_w, i32_w]; rw [c27b0]) | skip)
            by_cases c28 : ((rd_T65 l0_0 (ji12)).f4) = 2
            ·rw [if_pos c28] at H
             have c28b0 : (((rd_T65 l0_0 (ji12)).f4) == 2) = true := beq_iff_eq.mpr c28
             have c28b1 : (((rd_T65 l0_0 (ji12)).f4) != 2) = false := bne_eq_false_iff_eq.mpr c28
             clear c28
             by_cases c29 : ((rd_T65 l0_0 x3_1).f4) = 2
             ·rw [if_pos c29] at H
              have c29b0 : (((rd_T65 l0_0 x3_1).f4) == 2) = true := beq_iff_eq.mpr c29
              have c29b1 : (((rd_T65 l0_0 x3_1).f4) != 2) = false := bne_eq_false_iff_eq.mpr c29
              clear c29
              replace H := Option.bind_eq_some_iff.mp H
              obtain ⟨t133, A300, H⟩ := H
              replace H : (spec_ValidRun.j1 k1 x3_1 t133 l0_0) = some r := H
              have A30 := Aside0.mk A300
              clear A300
              have H' := Aside0.mk H
              clear H
              have hnb31 := NB131_126.out
              have hnc31 := NB126_131.out
              have hnb32 := NB131_128.out
              have hnc32 := NB128_131.out
              have hcz33_0 : w22.cell? ⟨gb131, 0, none⟩ = some (.string (⟨#[]⟩ : ByteArray)) := (blk_cell BK131.out 0).trans rfl
              have hcz33_1 : w22.cell? ⟨gb131, 1, none⟩ = some (.string (⟨#[]⟩ : ByteArray)) := (blk_cell BK131.out 1).trans rfl
              have hcz33_2 : w22.cell? ⟨gb131, 2, none⟩ = some (.string (⟨#[]⟩ : ByteArray)) := (blk_cell BK131.out 2).trans rfl
              have hcz33_3 : w22.cell? ⟨gb131, 3, none⟩ = some (.int .u64 0) := (blk_cell BK131.out 3).trans rfl
              have hcz33_4 : w22.cell? ⟨gb131, 4, none⟩ = some (.int .i64 0) := (blk_cell BK131.out 4).trans rfl
              have hcz33_5 : w22.cell? ⟨gb131, 5, none⟩ = some (.string (⟨#[]⟩ : ByteArray)) := (blk_cell BK131.out 5).trans rfl
              have hfz33_0 := blk_frozen BK131.out 0
              have hfz33_1 := blk_frozen BK131.out 1
              have hfz33_2 := blk_frozen BK131.out 2
              have hfz33_3 := blk_frozen BK131.out 3
              have hfz33_4 := blk_frozen BK131.out 4
              have hfz33_5 := blk_frozen BK131.out 5
              have hnb34 := NB128_126.out
              have hnc34 := NB126_128.out
              have hcz35_0 : w22.cell? ⟨gb128, 0, none⟩ = some (.string ((rd_T65 l0_0 x3_1).f0)) := (blk_cell BK128.out 0).trans rfl
              have hcz35_1 : w22.cell? ⟨gb128, 1, none⟩ = some (.string ((rd_T65 l0_0 x3_1).f1)) := (blk_cell BK128.out 1).trans rfl
              have hcz35_2 : w22.cell? ⟨gb128, 2, none⟩ = some (.string ((rd_T65 l0_0 x3_1).f2)) := (blk_cell BK128.out 2).trans rfl
              have hcz35_3 : w22.cell? ⟨gb128, 3, none⟩ = some (.int .u64 ((rd_T65 l0_0 x3_1).f3)) := (blk_cell BK128.out 3).trans rfl
              have hcz35_4 : w22.cell? ⟨gb128, 4, none⟩ = some (.int .i64 ((rd_T65 l0_0 x3_1).f4)) := (blk_cell BK128.out 4).trans rfl
              have hcz35_5 : w22.cell? ⟨gb128, 5, none⟩ = some (.string ((rd_T65 l0_0 x3_1).f5)) := (blk_cell BK128.out 5).trans rfl
              have hfz35_0 := blk_frozen BK128.out 0
              have hfz35_1 := blk_frozen BK128.out 1
              have hfz35_2 := blk_frozen BK128.out 2
              have hfz35_3 := blk_frozen BK128.out 3
              have hfz35_4 := blk_frozen BK128.out 4
              have hfz35_5 := blk_frozen BK128.out 5
              go_wp2_with (first | ((with_reducible refine at_fn (f := 63) rfl ?_); refine goesL_ (some 35) rfl rfl Try.func63 (by kernel_rfl) rfl #[.agg #[.string ((rd_T65 l0_0 (ji12)).f0), .string ((rd_T65 l0_0 (ji12)).f1), .string ((rd_T65 l0_0 (ji12)).f2), .int .u64 ((rd_T65 l0_0 (ji12)).f3), .int .i64 ((rd_T65 l0_0 (ji12)).f4), .string ((rd_T65 l0_0 (ji12)).f5)], .agg #[.string ((rd_T65 l0_0 x3_1).f0), .string ((rd_T65 l0_0 x3_1).f1), .string ((rd_T65 l0_0 x3_1).f2), .int .u64 ((rd_T65 l0_0 x3_1).f3), .int .i64 ((rd_T65 l0_0 x3_1).f4), .string ((rd_T65 l0_0 x3_1).f5)]] rfl (by (try simp only [List.map_toArray, List.map_cons, List.map_nil]); first | done | (simp only [hji12]; rfl) | rfl | (simp only [List.length_drop, List.length_take]; rfl)) ?_; (with_reducible refine (spec_CompareKeys.calls k1 ((rd_T65 l0_0 (ji12)).f0) ((rd_T65 l0_0 (ji12)).f1) ((rd_T65 l0_0 (ji12)).f2) ((rd_T65 l0_0 (ji12)).f3) ((rd_T65 l0_0 (ji12)).f4) ((rd_T65 l0_0 (ji12)).f5) ((rd_T65 l0_0 x3_1).f0) ((rd_T65 l0_0 x3_1).f1) ((rd_T65 l0_0 x3_1).f2) ((rd_T65 l0_0 x3_1).f3) ((rd_T65 l0_0 x3_1).f4) ((rd_T65 l0_0 x3_1).f5) t132 _ A26.out).mono ?_); rintro e w36 ⟨rfl, hb⟩; refine ⟨_, rfl, ?_⟩; have n0_ := Aside0.mk (blk_below (g := gb126) (o := .cells #[.slice (some ad127) l0_0.length c0_0] 60 (0, 0)) (by (with_reducible repeat (first | refine blk_drewN ?_ _ | refine blk_drew ?_ | refine blk_alloc ?_ _)); refine blk_far ?_ NB126_131.out _; (with_reducible repeat (first | refine blk_drewN ?_ _ | refine blk_drew ?_ | refine blk_alloc ?_ _)); refine blk_far ?_ NB126_131.out _; (with_reducible repeat (first | refine blk_drewN ?_ _ | refine blk_drew ?_ | refine blk_alloc ?_ _)); refine blk_far ?_ NB126_131.out _; (with_reducible repeat (first | refine blk_drewN ?_ _ | refine blk_drew ?_ | refine blk_alloc ?_ _)); refine blk_far ?_ NB126_131.out _; (with_reducible repeat (first | refine blk_drewN ?_ _ | refine blk_drew ?_ | refine blk_alloc ?_ _)); refine blk_far ?_ NB126_131.out _; (with_reducible repeat (first | refine blk_drewN ?_ _ | refine blk_drew ?_ | refine blk_alloc ?_ _)); refine blk_far ?_ NB126_131.out _; (with_reducible repeat (first | refine blk_drewN ?_ _ | refine blk_drew ?_ | refine blk_alloc ?_ _)); exact BK126.out) hb); have n1_ := Aside0.mk (blk_below (g := gb128) (o := .cells #[.string ((rd_T65 l0_0 x3_1).f0), .string ((rd_T65 l0_0 x3_1).f1), .string ((rd_T65 l0_0 x3_1).f2), .int .u64 ((rd_T65 l0_0 x3_1).f3), .int .i64 ((rd_T65 l0_0 x3_1).f4), .string ((rd_T65 l0_0 x3_1).f5)] 65 (0, 0)) (by (with_reducible repeat (first | refine blk_drewN ?_ _ | refine blk_drew ?_ | refine blk_alloc ?_ _)); refine blk_far ?_ NB128_131.out _; (with_reducible repeat (first | refine blk_drewN ?_ _ | refine blk_drew ?_ | refine blk_alloc ?_ _)); refine blk_far ?_ NB128_131.out _; (with_reducible repeat (first | refine blk_drewN ?_ _ | refine blk_drew ?_ | refine blk_alloc ?_ _)); refine blk_far ?_ NB128_131.out _; (with_reducible repeat (first | refine blk_drewN ?_ _ | refine blk_drew ?_ | refine blk_alloc ?_ _)); refine blk_far ?_ NB128_131.out _; (with_reducible repeat (first | refine blk_drewN ?_ _ | refine blk_drew ?_ | refine blk_alloc ?_ _)); refine blk_far ?_ NB128_131.out _; (with_reducible repeat (first | refine blk_drewN ?_ _ | refine blk_drew ?_ | refine blk_alloc ?_ _)); refine blk_far ?_ NB128_131.out _; (with_reducible repeat (first | refine blk_drewN ?_ _ | refine blk_drew ?_ | refine blk_alloc ?_ _)); exact BK128.out) hb); have n2_ := Aside0.mk (blk_below (g := gb131) (o := .cells #[.string ((rd_T65 l0_0 (ji12)).f0), .string ((rd_T65 l0_0 (ji12)).f1), .string ((rd_T65 l0_0 (ji12)).f2), .int .u64 ((rd_T65 l0_0 (ji12)).f3), .int .i64 ((rd_T65 l0_0 (ji12)).f4), .string ((rd_T65 l0_0 (ji12)).f5)] 65 (0, 0)) (by (with_reducible repeat (first | refine blk_drewN ?_ _ | refine blk_drew ?_ | refine blk_alloc ?_ _)); refine blk_put (cs := #[.string ((rd_T65 l0_0 (ji12)).f0), .string ((rd_T65 l0_0 (ji12)).f1), .string ((rd_T65 l0_0 (ji12)).f2), .int .u64 ((rd_T65 l0_0 (ji12)).f3), .int .i64 ((rd_T65 l0_0 (ji12)).f4), .string (⟨#[]⟩ : ByteArray)]) ?_ 5 _ rfl; (with_reducible repeat (first | refine blk_drewN ?_ _ | refine blk_drew ?_ | refine blk_alloc ?_ _)); refine blk_put (cs := #[.string ((rd_T65 l0_0 (ji12)).f0), .string ((rd_T65 l0_0 (ji12)).f1), .string ((rd_T65 l0_0 (ji12)).f2), .int .u64 ((rd_T65 l0_0 (ji12)).f3), .int .i64 0, .string (⟨#[]⟩ : ByteArray)]) ?_ 4 _ rfl; (with_reducible repeat (first | refine blk_drewN ?_ _ | refine blk_drew ?_ | refine blk_alloc ?_ _)); refine blk_put (cs := #[.string ((rd_T65 l0_0 (ji12)).f0), .string ((rd_T65 l0_0 (ji12)).f1), .string ((rd_T65 l0_0 (ji12)).f2), .int .u64 0, .int .i64 0, .string (⟨#[]⟩ : ByteArray)]) ?_ 3 _ rfl; (with_reducible repeat (first | refine blk_drewN ?_ _ | refine blk_drew ?_ | refine blk_alloc ?_ _)); refine blk_put (cs := #[.string ((rd_T65 l0_0 (ji12)).f0), .string ((rd_T65 l0_0 (ji12)).f1), .string (⟨#[]⟩ : ByteArray), .int .u64 0, .int .i64 0, .string (⟨#[]⟩ : ByteArray)]) ?_ 2 _ rfl; (with_reducible repeat (first | refine blk_drewN ?_ _ | refine blk_drew ?_ | refine blk_alloc ?_ _)); refine blk_put (cs := #[.string ((rd_T65 l0_0 (ji12)).f0), .string (⟨#[]⟩ : ByteArray), .string (⟨#[]⟩ : ByteArray), .int .u64 0, .int .i64 0, .string (⟨#[]⟩ : ByteArray)]) ?_ 1 _ rfl; (with_reducible repeat (first | refine blk_drewN ?_ _ | refine blk_drew ?_ | refine blk_alloc ?_ _)); refine blk_put (cs := #[.string (⟨#[]⟩ : ByteArray), .string (⟨#[]⟩ : ByteArray), .string (⟨#[]⟩ : ByteArray), .int .u64 0, .int .i64 0, .string (⟨#[]⟩ : ByteArray)]) ?_ 0 _ rfl; (with_reducible repeat (first | refine blk_drewN ?_ _ | refine blk_drew ?_ | refine blk_alloc ?_ _)); exact BK131.out) hb); have n3_ := Aside0.mk (below_step bw hb); clear BK126; clear BK128; clear BK131; clear HB; have BK126 := n0_; have BK128 := n1_; have BK131 := n2_; have HB := n3_; clear n0_ n1_ n2_ n3_; (try clear hb); (try clear hb2); (try clear hk); (try clear hi); have hcz37_0 : w36.cell? ⟨gb131, 0, none⟩ = some (.string ((rd_T65 l0_0 (ji12)).f0)) := (blk_cell BK131.out 0).trans rfl; have hcz37_1 : w36.cell? ⟨gb131, 1, none⟩ = some (.string ((rd_T65 l0_0 (ji12)).f1)) := (blk_cell BK131.out 1).trans rfl; have hcz37_2 : w36.cell? ⟨gb131, 2, none⟩ = some (.string ((rd_T65 l0_0 (ji12)).f2)) := (blk_cell BK131.out 2).trans rfl; have hcz37_3 : w36.cell? ⟨gb131, 3, none⟩ = some (.int .u64 ((rd_T65 l0_0 (ji12)).f3)) := (blk_cell BK131.out 3).trans rfl; have hcz37_4 : w36.cell? ⟨gb131, 4, none⟩ = some (.int .i64 ((rd_T65 l0_0 (ji12)).f4)) := (blk_cell BK131.out 4).trans rfl; have hcz37_5 : w36.cell? ⟨gb131, 5, none⟩ = some (.string ((rd_T65 l0_0 (ji12)).f5)) := (blk_cell BK131.out 5).trans rfl; have hfz37_0 := blk_frozen BK131.out 0; have hfz37_1 := blk_frozen BK131.out 1; have hfz37_2 := blk_frozen BK131.out 2; have hfz37_3 := blk_frozen BK131.out 3; have hfz37_4 := blk_frozen BK131.out 4; have hfz37_5 := blk_frozen BK131.out 5; have hcz38_0 : w36.cell? ⟨gb128, 0, none⟩ = some (.string ((rd_T65 l0_0 x3_1).f0)) := (blk_cell BK128.out 0).trans rfl; have hcz38_1 : w36.cell? ⟨gb128, 1, none⟩ = some (.string ((rd_T65 l0_0 x3_1).f1)) := (blk_cell BK128.out 1).trans rfl; have hcz38_2 : w36.cell? ⟨gb128, 2, none⟩ = some (.string ((rd_T65 l0_0 x3_1).f2)) := (blk_cell BK128.out 2).trans rfl; have hcz38_3 : w36.cell? ⟨gb128, 3, none⟩ = some (.int .u64 ((rd_T65 l0_0 x3_1).f3)) := (blk_cell BK128.out 3).trans rfl; have hcz38_4 : w36.cell? ⟨gb128, 4, none⟩ = some (.int .i64 ((rd_T65 l0_0 x3_1).f4)) := (blk_cell BK128.out 4).trans rfl; have hcz38_5 : w36.cell? ⟨gb128, 5, none⟩ = some (.string ((rd_T65 l0_0 x3_1).f5)) := (blk_cell BK128.out 5).trans rfl; have hfz38_0 := blk_frozen BK128.out 0; have hfz38_1 := blk_frozen BK128.out 1; have hfz38_2 := blk_frozen BK128.out 2; have hfz38_3 := blk_frozen BK128.out 3; have hfz38_4 := blk_frozen BK128.out 4; have hfz38_5 := blk_frozen BK128.out 5) | (go_at_call 64; (with_reducible refine (spec_l1SameColumn.calls ((rd_T65 l0_0 (ji12)).f0) ((rd_T65 l0_0 (ji12)).f1) ((rd_T65 l0_0 (ji12)).f2) ((rd_T65 l0_0 (ji12)).f3) ((rd_T65 l0_0 (ji12)).f4) ((rd_T65 l0_0 (ji12)).f5) ((rd_T65 l0_0 x3_1).f0) ((rd_T65 l0_0 x3_1).f1) ((rd_T65 l0_0 x3_1).f2) ((rd_T65 l0_0 x3_1).f3) ((rd_T65 l0_0 x3_1).f4) ((rd_T65 l0_0 x3_1).f5) t133 _ A30.out).mono ?_); rintro e w39 ⟨rfl, hb⟩; have n0_ := Aside0.mk (blk_below (g := gb126) (o := .cells #[.slice (some ad127) l0_0.length c0_0] 60 (0, 0)) (lb BK126) hb); have n1_ := Aside0.mk (blk_below (g := gb128) (o := .cells #[.string ((rd_T65 l0_0 x3_1).f0), .string ((rd_T65 l0_0 x3_1).f1), .string ((rd_T65 l0_0 x3_1).f2), .int .u64 ((rd_T65 l0_0 x3_1).f3), .int .i64 ((rd_T65 l0_0 x3_1).f4), .string ((rd_T65 l0_0 x3_1).f5)] 65 (0, 0)) (lb BK128) hb); have n2_ := Aside0.mk (blk_below (g := gb131) (o := .cells #[.string ((rd_T65 l0_0 (ji12)).f0), .string ((rd_T65 l0_0 (ji12)).f1), .string ((rd_T65 l0_0 (ji12)).f2), .int .u64 ((rd_T65 l0_0 (ji12)).f3), .int .i64 ((rd_T65 l0_0 (ji12)).f4), .string ((rd_T65 l0_0 (ji12)).f5)] 65 (0, 0)) (lb BK131) hb); have n3_ := Aside0.mk (below_step bw hb); clear BK126; clear BK128; clear BK131; clear HB; have BK126 := n0_; have BK128 := n1_; have BK131 := n2_; have HB := n3_; clear n0_ n1_ n2_ n3_; (try clear hb); (try clear hb2); (try clear hk); (try clear hi)))
              go_meet
              case rel => exact ⟨_, (t133), (by first | rfl | (simp; done) | (simp [*]; done)), H', ⟨by have := HK1.out; first | omega | exact Nat.le_refl _⟩, ⟨lb BK126⟩, ⟨lb BK128⟩, ⟨lb BK131⟩, ⟨bw⟩⟩
             ·rw [if_neg c29] at H
              have c29b0 : (((rd_T65 l0_0 x3_1).f4) == 2) = false := beq_eq_false_iff_ne.mpr c29
              have c29b1 : (((rd_T65 l0_0 x3_1).f4) != 2) = true := bne_iff_ne.mpr c29
              have H' := Aside0.mk H
              clear H
              have hnb40 := NB131_126.out
              have hnc40 := NB126_131.out
              have hnb41 := NB131_128.out
              have hnc41 := NB128_131.out
              have hcz42_0 : w22.cell? ⟨gb131, 0, none⟩ = some (.string (⟨#[]⟩ : ByteArray)) := (blk_cell BK131.out 0).trans rfl
              have hcz42_1 : w22.cell? ⟨gb131, 1, none⟩ = some (.string (⟨#[]⟩ : ByteArray)) := (blk_cell BK131.out 1).trans rfl
              have hcz42_2 : w22.cell? ⟨gb131, 2, none⟩ = some (.string (⟨#[]⟩ : ByteArray)) := (blk_cell BK131.out 2).trans rfl
              have hcz42_3 : w22.cell? ⟨gb131, 3, none⟩ = some (.int .u64 0) := (blk_cell BK131.out 3).trans rfl
              have hcz42_4 : w22.cell? ⟨gb131, 4, none⟩ = some (.int .i64 0) := (blk_cell BK131.out 4).trans rfl
              have hcz42_5 : w22.cell? ⟨gb131, 5, none⟩ = some (.string (⟨#[]⟩ : ByteArray)) := (blk_cell BK131.out 5).trans rfl
              have hfz42_0 := blk_frozen BK131.out 0
              have hfz42_1 := blk_frozen BK131.out 1
              have hfz42_2 := blk_frozen BK131.out 2
              have hfz42_3 := blk_frozen BK131.out 3
              have hfz42_4 := blk_frozen BK131.out 4
              have hfz42_5 := blk_frozen BK131.out 5
              have hnb43 := NB128_126.out
              have hnc43 := NB126_128.out
              have hcz44_0 : w22.cell? ⟨gb128, 0, none⟩ = some (.string ((rd_T65 l0_0 x3_1).f0)) := (blk_cell BK128.out 0).trans rfl
              have hcz44_1 : w22.cell? ⟨gb128, 1, none⟩ = some (.string ((rd_T65 l0_0 x3_1).f1)) := (blk_cell BK128.out 1).trans rfl
              have hcz44_2 : w22.cell? ⟨gb128, 2, none⟩ = some (.string ((rd_T65 l0_0 x3_1).f2)) := (blk_cell BK128.out 2).trans rfl
              have hcz44_3 : w22.cell? ⟨gb128, 3, none⟩ = some (.int .u64 ((rd_T65 l0_0 x3_1).f3)) := (blk_cell BK128.out 3).trans rfl
              have hcz44_4 : w22.cell? ⟨gb128, 4, none⟩ = some (.int .i64 ((rd_T65 l0_0 x3_1).f4)) := (blk_cell BK128.out 4).trans rfl
              have hcz44_5 : w22.cell? ⟨gb128, 5, none⟩ = some (.string ((rd_T65 l0_0 x3_1).f5)) := (blk_cell BK128.out 5).trans rfl
              have hfz44_0 := blk_frozen BK128.out 0
              have hfz44_1 := blk_frozen BK128.out 1
              have hfz44_2 := blk_frozen BK128.out 2
              have hfz44_3 := blk_frozen BK128.out 3
              have hfz44_4 := blk_frozen BK128.out 4
              have hfz44_5 := blk_frozen BK128.out 5
              go_wp2_with (first | ((with_reducible refine at_fn (f := 63) rfl ?_); refine goesL_ (some 35) rfl rfl Try.func63 (by kernel_rfl) rfl #[.agg #[.string ((rd_T65 l0_0 (ji12)).f0), .string ((rd_T65 l0_0 (ji12)).f1), .string ((rd_T65 l0_0 (ji12)).f2), .int .u64 ((rd_T65 l0_0 (ji12)).f3), .int .i64 ((rd_T65 l0_0 (ji12)).f4), .string ((rd_T65 l0_0 (ji12)).f5)], .agg #[.string ((rd_T65 l0_0 x3_1).f0), .string ((rd_T65 l0_0 x3_1).f1), .string ((rd_T65 l0_0 x3_1).f2), .int .u64 ((rd_T65 l0_0 x3_1).f3), .int .i64 ((rd_T65 l0_0 x3_1).f4), .string ((rd_T65 l0_0 x3_1).f5)]] rfl (by (try simp only [List.map_toArray, List.map_cons, List.map_nil]); first | done | (simp only [hji12]; rfl) | rfl | (simp only [List.length_drop, List.length_take]; rfl)) ?_; (with_reducible refine (spec_CompareKeys.calls k1 ((rd_T65 l0_0 (ji12)).f0) ((rd_T65 l0_0 (ji12)).f1) ((rd_T65 l0_0 (ji12)).f2) ((rd_T65 l0_0 (ji12)).f3) ((rd_T65 l0_0 (ji12)).f4) ((rd_T65 l0_0 (ji12)).f5) ((rd_T65 l0_0 x3_1).f0) ((rd_T65 l0_0 x3_1).f1) ((rd_T65 l0_0 x3_1).f2) ((rd_T65 l0_0 x3_1).f3) ((rd_T65 l0_0 x3_1).f4) ((rd_T65 l0_0 x3_1).f5) t132 _ A26.out).mono ?_); rintro e w45 ⟨rfl, hb⟩; refine ⟨_, rfl, ?_⟩; have n0_ := Aside0.mk (blk_below (g := gb126) (o := .cells #[.slice (some ad127) l0_0.length c0_0] 60 (0, 0)) (by (with_reducible repeat (first | refine blk_drewN ?_ _ | refine blk_drew ?_ | refine blk_alloc ?_ _)); refine blk_far ?_ NB126_131.out _; (with_reducible repeat (first | refine blk_drewN ?_ _ | refine blk_drew ?_ | refine blk_alloc ?_ _)); refine blk_far ?_ NB126_131.out _; (with_reducible repeat (first | refine blk_drewN ?_ _ | refine blk_drew ?_ | refine blk_alloc ?_ _)); refine blk_far ?_ NB126_131.out _; (with_reducible repeat (first | refine blk_drewN ?_ _ | refine blk_drew ?_ | refine blk_alloc ?_ _)); refine blk_far ?_ NB126_131.out _; (with_reducible repeat (first | refine blk_drewN ?_ _ | refine blk_drew ?_ | refine blk_alloc ?_ _)); refine blk_far ?_ NB126_131.out _; (with_reducible repeat (first | refine blk_drewN ?_ _ | refine blk_drew ?_ | refine blk_alloc ?_ _)); refine blk_far ?_ NB126_131.out _; (with_reducible repeat (first | refine blk_drewN ?_ _ | refine blk_drew ?_ | refine blk_alloc ?_ _)); exact BK126.out) hb); have n1_ := Aside0.mk (blk_below (g := gb128) (o := .cells #[.string ((rd_T65 l0_0 x3_1).f0), .string ((rd_T65 l0_0 x3_1).f1), .string ((rd_T65 l0_0 x3_1).f2), .int .u64 ((rd_T65 l0_0 x3_1).f3), .int .i64 ((rd_T65 l0_0 x3_1).f4), .string ((rd_T65 l0_0 x3_1).f5)] 65 (0, 0)) (by (with_reducible repeat (first | refine blk_drewN ?_ _ | refine blk_drew ?_ | refine blk_alloc ?_ _)); refine blk_far ?_ NB128_131.out _; (with_reducible repeat (first | refine blk_drewN ?_ _ | refine blk_drew ?_ | refine blk_alloc ?_ _)); refine blk_far ?_ NB128_131.out _; (with_reducible repeat (first | refine blk_drewN ?_ _ | refine blk_drew ?_ | refine blk_alloc ?_ _)); refine blk_far ?_ NB128_131.out _; (with_reducible repeat (first | refine blk_drewN ?_ _ | refine blk_drew ?_ | refine blk_alloc ?_ _)); refine blk_far ?_ NB128_131.out _; (with_reducible repeat (first | refine blk_drewN ?_ _ | refine blk_drew ?_ | refine blk_alloc ?_ _)); refine blk_far ?_ NB128_131.out _; (with_reducible repeat (first | refine blk_drewN ?_ _ | refine blk_drew ?_ | refine blk_alloc ?_ _)); refine blk_far ?_ NB128_131.out _; (with_reducible repeat (first | refine blk_drewN ?_ _ | refine blk_drew ?_ | refine blk_alloc ?_ _)); exact BK128.out) hb); have n2_ := Aside0.mk (blk_below (g := gb131) (o := .cells #[.string ((rd_T65 l0_0 (ji12)).f0), .string ((rd_T65 l0_0 (ji12)).f1), .string ((rd_T65 l0_0 (ji12)).f2), .int .u64 ((rd_T65 l0_0 (ji12)).f3), .int .i64 ((rd_T65 l0_0 (ji12)).f4), .string ((rd_T65 l0_0 (ji12)).f5)] 65 (0, 0)) (by (with_reducible repeat (first | refine blk_drewN ?_ _ | refine blk_drew ?_ | refine blk_alloc ?_ _)); refine blk_put (cs := #[.string ((rd_T65 l0_0 (ji12)).f0), .string ((rd_T65 l0_0 (ji12)).f1), .string ((rd_T65 l0_0 (ji12)).f2), .int .u64 ((rd_T65 l0_0 (ji12)).f3), .int .i64 ((rd_T65 l0_0 (ji12)).f4), .string (⟨#[]⟩ : ByteArray)]) ?_ 5 _ rfl; (with_reducible repeat (first | refine blk_drewN ?_ _ | refine blk_drew ?_ | refine blk_alloc ?_ _)); refine blk_put (cs := #[.string ((rd_T65 l0_0 (ji12)).f0), .string ((rd_T65 l0_0 (ji12)).f1), .string ((rd_T65 l0_0 (ji12)).f2), .int .u64 ((rd_T65 l0_0 (ji12)).f3), .int .i64 0, .string (⟨#[]⟩ : ByteArray)]) ?_ 4 _ rfl; (with_reducible repeat (first | refine blk_drewN ?_ _ | refine blk_drew ?_ | refine blk_alloc ?_ _)); refine blk_put (cs := #[.string ((rd_T65 l0_0 (ji12)).f0), .string ((rd_T65 l0_0 (ji12)).f1), .string ((rd_T65 l0_0 (ji12)).f2), .int .u64 0, .int .i64 0, .string (⟨#[]⟩ : ByteArray)]) ?_ 3 _ rfl; (with_reducible repeat (first | refine blk_drewN ?_ _ | refine blk_drew ?_ | refine blk_alloc ?_ _)); refine blk_put (cs := #[.string ((rd_T65 l0_0 (ji12)).f0), .string ((rd_T65 l0_0 (ji12)).f1), .string (⟨#[]⟩ : ByteArray), .int .u64 0, .int .i64 0, .string (⟨#[]⟩ : ByteArray)]) ?_ 2 _ rfl; (with_reducible repeat (first | refine blk_drewN ?_ _ | refine blk_drew ?_ | refine blk_alloc ?_ _)); refine blk_put (cs := #[.string ((rd_T65 l0_0 (ji12)).f0), .string (⟨#[]⟩ : ByteArray), .string (⟨#[]⟩ : ByteArray), .int .u64 0, .int .i64 0, .string (⟨#[]⟩ : ByteArray)]) ?_ 1 _ rfl; (with_reducible repeat (first | refine blk_drewN ?_ _ | refine blk_drew ?_ | refine blk_alloc ?_ _)); refine blk_put (cs := #[.string (⟨#[]⟩ : ByteArray), .string (⟨#[]⟩ : ByteArray), .string (⟨#[]⟩ : ByteArray), .int .u64 0, .int .i64 0, .string (⟨#[]⟩ : ByteArray)]) ?_ 0 _ rfl; (with_reducible repeat (first | refine blk_drewN ?_ _ | refine blk_drew ?_ | refine blk_alloc ?_ _)); exact BK131.out) hb); have n3_ := Aside0.mk (below_step bw hb); clear BK126; clear BK128; clear BK131; clear HB; have BK126 := n0_; have BK128 := n1_; have BK131 := n2_; have HB := n3_; clear n0_ n1_ n2_ n3_; (try clear hb); (try clear hb2); (try clear hk); (try clear hi); have hcz46_0 : w45.cell? ⟨gb131, 0, none⟩ = some (.string ((rd_T65 l0_0 (ji12)).f0)) := (blk_cell BK131.out 0).trans rfl; have hcz46_1 : w45.cell? ⟨gb131, 1, none⟩ = some (.string ((rd_T65 l0_0 (ji12)).f1)) := (blk_cell BK131.out 1).trans rfl; have hcz46_2 : w45.cell? ⟨gb131, 2, none⟩ = some (.string ((rd_T65 l0_0 (ji12)).f2)) := (blk_cell BK131.out 2).trans rfl; have hcz46_3 : w45.cell? ⟨gb131, 3, none⟩ = some (.int .u64 ((rd_T65 l0_0 (ji12)).f3)) := (blk_cell BK131.out 3).trans rfl; have hcz46_4 : w45.cell? ⟨gb131, 4, none⟩ = some (.int .i64 ((rd_T65 l0_0 (ji12)).f4)) := (blk_cell BK131.out 4).trans rfl; have hcz46_5 : w45.cell? ⟨gb131, 5, none⟩ = some (.string ((rd_T65 l0_0 (ji12)).f5)) := (blk_cell BK131.out 5).trans rfl; have hfz46_0 := blk_frozen BK131.out 0; have hfz46_1 := blk_frozen BK131.out 1; have hfz46_2 := blk_frozen BK131.out 2; have hfz46_3 := blk_frozen BK131.out 3; have hfz46_4 := blk_frozen BK131.out 4; have hfz46_5 := blk_frozen BK131.out 5; have hcz47_0 : w45.cell? ⟨gb128, 0, none⟩ = some (.string ((rd_T65 l0_0 x3_1).f0)) := (blk_cell BK128.out 0).trans rfl; have hcz47_1 : w45.cell? ⟨gb128, 1, none⟩ = some (.string ((rd_T65 l0_0 x3_1).f1)) := (blk_cell BK128.out 1).trans rfl; have hcz47_2 : w45.cell? ⟨gb128, 2, none⟩ = some (.string ((rd_T65 l0_0 x3_1).f2)) := (blk_cell BK128.out 2).trans rfl; have hcz47_3 : w45.cell? ⟨gb128, 3, none⟩ = some (.int .u64 ((rd_T65 l0_0 x3_1).f3)) := (blk_cell BK128.out 3).trans rfl; have hcz47_4 : w45.cell? ⟨gb128, 4, none⟩ = some (.int .i64 ((rd_T65 l0_0 x3_1).f4)) := (blk_cell BK128.out 4).trans rfl; have hcz47_5 : w45.cell? ⟨gb128, 5, none⟩ = some (.string ((rd_T65 l0_0 x3_1).f5)) := (blk_cell BK128.out 5).trans rfl; have hfz47_0 := blk_frozen BK128.out 0; have hfz47_1 := blk_frozen BK128.out 1; have hfz47_2 := blk_frozen BK128.out 2; have hfz47_3 := blk_frozen BK128.out 3; have hfz47_4 := blk_frozen BK128.out 4; have hfz47_5 := blk_frozen BK128.out 5))
              go_meet
              case rel => exact ⟨_, (false), (by first | rfl | (simp; done) | (simp [*]; done)), H', ⟨by have := HK1.out; first | omega | exact Nat.le_refl _⟩, ⟨lb BK126⟩, ⟨lb BK128⟩, ⟨lb BK131⟩, ⟨bw⟩⟩
            ·rw [if_neg c28] at H
             have c28b0 : (((rd_T65 l0_0 (ji12)).f4) == 2) = false := beq_eq_false_iff_ne.mpr c28
             have c28b1 : (((rd_T65 l0_0 (ji12)).f4) != 2) = true := bne_iff_ne.mpr c28
             have H' := Aside0.mk H
             clear H
             have hnb48 := NB131_126.out
             have hnc48 := NB126_131.out
             have hnb49 := NB131_128.out
             have hnc49 := NB128_131.out
             have hcz50_0 : w22.cell? ⟨gb131, 0, none⟩ = some (.string (⟨#[]⟩ : ByteArray)) := (blk_cell BK131.out 0).trans rfl
             have hcz50_1 : w22.cell? ⟨gb131, 1, none⟩ = some (.string (⟨#[]⟩ : ByteArray)) := (blk_cell BK131.out 1).trans rfl
             have hcz50_2 : w22.cell? ⟨gb131, 2, none⟩ = some (.string (⟨#[]⟩ : ByteArray)) := (blk_cell BK131.out 2).trans rfl
             have hcz50_3 : w22.cell? ⟨gb131, 3, none⟩ = some (.int .u64 0) := (blk_cell BK131.out 3).trans rfl
             have hcz50_4 : w22.cell? ⟨gb131, 4, none⟩ = some (.int .i64 0) := (blk_cell BK131.out 4).trans rfl
             have hcz50_5 : w22.cell? ⟨gb131, 5, none⟩ = some (.string (⟨#[]⟩ : ByteArray)) := (blk_cell BK131.out 5).trans rfl
             have hfz50_0 := blk_frozen BK131.out 0
             have hfz50_1 := blk_frozen BK131.out 1
             have hfz50_2 := blk_frozen BK131.out 2
             have hfz50_3 := blk_frozen BK131.out 3
             have hfz50_4 := blk_frozen BK131.out 4
             have hfz50_5 := blk_frozen BK131.out 5
             have hnb51 := NB128_126.out
             have hnc51 := NB126_128.out
             have hcz52_0 : w22.cell? ⟨gb128, 0, none⟩ = some (.string ((rd_T65 l0_0 x3_1).f0)) := (blk_cell BK128.out 0).trans rfl
             have hcz52_1 : w22.cell? ⟨gb128, 1, none⟩ = some (.string ((rd_T65 l0_0 x3_1).f1)) := (blk_cell BK128.out 1).trans rfl
             have hcz52_2 : w22.cell? ⟨gb128, 2, none⟩ = some (.string ((rd_T65 l0_0 x3_1).f2)) := (blk_cell BK128.out 2).trans rfl
             have hcz52_3 : w22.cell? ⟨gb128, 3, none⟩ = some (.int .u64 ((rd_T65 l0_0 x3_1).f3)) := (blk_cell BK128.out 3).trans rfl
             have hcz52_4 : w22.cell? ⟨gb128, 4, none⟩ = some (.int .i64 ((rd_T65 l0_0 x3_1).f4)) := (blk_cell BK128.out 4).trans rfl
             have hcz52_5 : w22.cell? ⟨gb128, 5, none⟩ = some (.string ((rd_T65 l0_0 x3_1).f5)) := (blk_cell BK128.out 5).trans rfl
             have hfz52_0 := blk_frozen BK128.out 0
             have hfz52_1 := blk_frozen BK128.out 1
             have hfz52_2 := blk_frozen BK128.out 2
             have hfz52_3 := blk_frozen BK128.out 3
             have hfz52_4 := blk_frozen BK128.out 4
             have hfz52_5 := blk_frozen BK128.out 5
             go_wp2_with (first | ((with_reducible refine at_fn (f := 63) rfl ?_); refine goesL_ (some 35) rfl rfl Try.func63 (by kernel_rfl) rfl #[.agg #[.string ((rd_T65 l0_0 (ji12)).f0), .string ((rd_T65 l0_0 (ji12)).f1), .string ((rd_T65 l0_0 (ji12)).f2), .int .u64 ((rd_T65 l0_0 (ji12)).f3), .int .i64 ((rd_T65 l0_0 (ji12)).f4), .string ((rd_T65 l0_0 (ji12)).f5)], .agg #[.string ((rd_T65 l0_0 x3_1).f0), .string ((rd_T65 l0_0 x3_1).f1), .string ((rd_T65 l0_0 x3_1).f2), .int .u64 ((rd_T65 l0_0 x3_1).f3), .int .i64 ((rd_T65 l0_0 x3_1).f4), .string ((rd_T65 l0_0 x3_1).f5)]] rfl (by (try simp only [List.map_toArray, List.map_cons, List.map_nil]); first | done | (simp only [hji12]; rfl) | rfl | (simp only [List.length_drop, List.length_take]; rfl)) ?_; (with_reducible refine (spec_CompareKeys.calls k1 ((rd_T65 l0_0 (ji12)).f0) ((rd_T65 l0_0 (ji12)).f1) ((rd_T65 l0_0 (ji12)).f2) ((rd_T65 l0_0 (ji12)).f3) ((rd_T65 l0_0 (ji12)).f4) ((rd_T65 l0_0 (ji12)).f5) ((rd_T65 l0_0 x3_1).f0) ((rd_T65 l0_0 x3_1).f1) ((rd_T65 l0_0 x3_1).f2) ((rd_T65 l0_0 x3_1).f3) ((rd_T65 l0_0 x3_1).f4) ((rd_T65 l0_0 x3_1).f5) t132 _ A26.out).mono ?_); rintro e w53 ⟨rfl, hb⟩; refine ⟨_, rfl, ?_⟩; have n0_ := Aside0.mk (blk_below (g := gb126) (o := .cells #[.slice (some ad127) l0_0.length c0_0] 60 (0, 0)) (by (with_reducible repeat (first | refine blk_drewN ?_ _ | refine blk_drew ?_ | refine blk_alloc ?_ _)); refine blk_far ?_ NB126_131.out _; (with_reducible repeat (first | refine blk_drewN ?_ _ | refine blk_drew ?_ | refine blk_alloc ?_ _)); refine blk_far ?_ NB126_131.out _; (with_reducible repeat (first | refine blk_drewN ?_ _ | refine blk_drew ?_ | refine blk_alloc ?_ _)); refine blk_far ?_ NB126_131.out _; (with_reducible repeat (first | refine blk_drewN ?_ _ | refine blk_drew ?_ | refine blk_alloc ?_ _)); refine blk_far ?_ NB126_131.out _; (with_reducible repeat (first | refine blk_drewN ?_ _ | refine blk_drew ?_ | refine blk_alloc ?_ _)); refine blk_far ?_ NB126_131.out _; (with_reducible repeat (first | refine blk_drewN ?_ _ | refine blk_drew ?_ | refine blk_alloc ?_ _)); refine blk_far ?_ NB126_131.out _; (with_reducible repeat (first | refine blk_drewN ?_ _ | refine blk_drew ?_ | refine blk_alloc ?_ _)); exact BK126.out) hb); have n1_ := Aside0.mk (blk_below (g := gb128) (o := .cells #[.string ((rd_T65 l0_0 x3_1).f0), .string ((rd_T65 l0_0 x3_1).f1), .string ((rd_T65 l0_0 x3_1).f2), .int .u64 ((rd_T65 l0_0 x3_1).f3), .int .i64 ((rd_T65 l0_0 x3_1).f4), .string ((rd_T65 l0_0 x3_1).f5)] 65 (0, 0)) (by (with_reducible repeat (first | refine blk_drewN ?_ _ | refine blk_drew ?_ | refine blk_alloc ?_ _)); refine blk_far ?_ NB128_131.out _; (with_reducible repeat (first | refine blk_drewN ?_ _ | refine blk_drew ?_ | refine blk_alloc ?_ _)); refine blk_far ?_ NB128_131.out _; (with_reducible repeat (first | refine blk_drewN ?_ _ | refine blk_drew ?_ | refine blk_alloc ?_ _)); refine blk_far ?_ NB128_131.out _; (with_reducible repeat (first | refine blk_drewN ?_ _ | refine blk_drew ?_ | refine blk_alloc ?_ _)); refine blk_far ?_ NB128_131.out _; (with_reducible repeat (first | refine blk_drewN ?_ _ | refine blk_drew ?_ | refine blk_alloc ?_ _)); refine blk_far ?_ NB128_131.out _; (with_reducible repeat (first | refine blk_drewN ?_ _ | refine blk_drew ?_ | refine blk_alloc ?_ _)); refine blk_far ?_ NB128_131.out _; (with_reducible repeat (first | refine blk_drewN ?_ _ | refine blk_drew ?_ | refine blk_alloc ?_ _)); exact BK128.out) hb); have n2_ := Aside0.mk (blk_below (g := gb131) (o := .cells #[.string ((rd_T65 l0_0 (ji12)).f0), .string ((rd_T65 l0_0 (ji12)).f1), .string ((rd_T65 l0_0 (ji12)).f2), .int .u64 ((rd_T65 l0_0 (ji12)).f3), .int .i64 ((rd_T65 l0_0 (ji12)).f4), .string ((rd_T65 l0_0 (ji12)).f5)] 65 (0, 0)) (by (with_reducible repeat (first | refine blk_drewN ?_ _ | refine blk_drew ?_ | refine blk_alloc ?_ _)); refine blk_put (cs := #[.string ((rd_T65 l0_0 (ji12)).f0), .string ((rd_T65 l0_0 (ji12)).f1), .string ((rd_T65 l0_0 (ji12)).f2), .int .u64 ((rd_T65 l0_0 (ji12)).f3), .int .i64 ((rd_T65 l0_0 (ji12)).f4), .string (⟨#[]⟩ : ByteArray)]) ?_ 5 _ rfl; (with_reducible repeat (first | refine blk_drewN ?_ _ | refine blk_drew ?_ | refine blk_alloc ?_ _)); refine blk_put (cs := #[.string ((rd_T65 l0_0 (ji12)).f0), .string ((rd_T65 l0_0 (ji12)).f1), .string ((rd_T65 l0_0 (ji12)).f2), .int .u64 ((rd_T65 l0_0 (ji12)).f3), .int .i64 0, .string (⟨#[]⟩ : ByteArray)]) ?_ 4 _ rfl; (with_reducible repeat (first | refine blk_drewN ?_ _ | refine blk_drew ?_ | refine blk_alloc ?_ _)); refine blk_put (cs := #[.string ((rd_T65 l0_0 (ji12)).f0), .string ((rd_T65 l0_0 (ji12)).f1), .string ((rd_T65 l0_0 (ji12)).f2), .int .u64 0, .int .i64 0, .string (⟨#[]⟩ : ByteArray)]) ?_ 3 _ rfl; (with_reducible repeat (first | refine blk_drewN ?_ _ | refine blk_drew ?_ | refine blk_alloc ?_ _)); refine blk_put (cs := #[.string ((rd_T65 l0_0 (ji12)).f0), .string ((rd_T65 l0_0 (ji12)).f1), .string (⟨#[]⟩ : ByteArray), .int .u64 0, .int .i64 0, .string (⟨#[]⟩ : ByteArray)]) ?_ 2 _ rfl; (with_reducible repeat (first | refine blk_drewN ?_ _ | refine blk_drew ?_ | refine blk_alloc ?_ _)); refine blk_put (cs := #[.string ((rd_T65 l0_0 (ji12)).f0), .string (⟨#[]⟩ : ByteArray), .string (⟨#[]⟩ : ByteArray), .int .u64 0, .int .i64 0, .string (⟨#[]⟩ : ByteArray)]) ?_ 1 _ rfl; (with_reducible repeat (first | refine blk_drewN ?_ _ | refine blk_drew ?_ | refine blk_alloc ?_ _)); refine blk_put (cs := #[.string (⟨#[]⟩ : ByteArray), .string (⟨#[]⟩ : ByteArray), .string (⟨#[]⟩ : ByteArray), .int .u64 0, .int .i64 0, .string (⟨#[]⟩ : ByteArray)]) ?_ 0 _ rfl; (with_reducible repeat (first | refine blk_drewN ?_ _ | refine blk_drew ?_ | refine blk_alloc ?_ _)); exact BK131.out) hb); have n3_ := Aside0.mk (below_step bw hb); clear BK126; clear BK128; clear BK131; clear HB; have BK126 := n0_; have BK128 := n1_; have BK131 := n2_; have HB := n3_; clear n0_ n1_ n2_ n3_; (try clear hb); (try clear hb2); (try clear hk); (try clear hi); have hcz54_0 : w53.cell? ⟨gb131, 0, none⟩ = some (.string ((rd_T65 l0_0 (ji12)).f0)) := (blk_cell BK131.out 0).trans rfl; have hcz54_1 : w53.cell? ⟨gb131, 1, none⟩ = some (.string ((rd_T65 l0_0 (ji12)).f1)) := (blk_cell BK131.out 1).trans rfl; have hcz54_2 : w53.cell? ⟨gb131, 2, none⟩ = some (.string ((rd_T65 l0_0 (ji12)).f2)) := (blk_cell BK131.out 2).trans rfl; have hcz54_3 : w53.cell? ⟨gb131, 3, none⟩ = some (.int .u64 ((rd_T65 l0_0 (ji12)).f3)) := (blk_cell BK131.out 3).trans rfl; have hcz54_4 : w53.cell? ⟨gb131, 4, none⟩ = some (.int .i64 ((rd_T65 l0_0 (ji12)).f4)) := (blk_cell BK131.out 4).trans rfl; have hcz54_5 : w53.cell? ⟨gb131, 5, none⟩ = some (.string ((rd_T65 l0_0 (ji12)).f5)) := (blk_cell BK131.out 5).trans rfl; have hfz54_0 := blk_frozen BK131.out 0; have hfz54_1 := blk_frozen BK131.out 1; have hfz54_2 := blk_frozen BK131.out 2; have hfz54_3 := blk_frozen BK131.out 3; have hfz54_4 := blk_frozen BK131.out 4; have hfz54_5 := blk_frozen BK131.out 5))
             go_meet
             case rel => exact ⟨_, (false), (by first | rfl | (simp; done) | (simp [*]; done)), H', ⟨by have := HK1.out; first | omega | exact Nat.le_refl _⟩, ⟨lb BK126⟩, ⟨lb BK128⟩, ⟨lb BK131⟩, ⟨bw⟩⟩
           ·rw [if_neg c27] at H
            have c27b0 : (t132 == (-1)) = false := beq_eq_false_iff_ne.mpr c27
            have c27b1 : (t132 != (-1)) = true := bne_iff_ne.mpr c27
            (first | rw [c27b0] | (simp only [i64_w, i32_w]; rw [c27b0]) | skip)
            have H' := Aside0.mk H
            clear H
            have hnb55 := NB131_126.out
            have hnc55 := NB126_131.out
            have hnb56 := NB131_128.out
            have hnc56 := NB128_131.out
            have hcz57_0 : w22.cell? ⟨gb131, 0, none⟩ = some (.string (⟨#[]⟩ : ByteArray)) := (blk_cell BK131.out 0).trans rfl
            have hcz57_1 : w22.cell? ⟨gb131, 1, none⟩ = some (.string (⟨#[]⟩ : ByteArray)) := (blk_cell BK131.out 1).trans rfl
            have hcz57_2 : w22.cell? ⟨gb131, 2, none⟩ = some (.string (⟨#[]⟩ : ByteArray)) := (blk_cell BK131.out 2).trans rfl
            have hcz57_3 : w22.cell? ⟨gb131, 3, none⟩ = some (.int .u64 0) := (blk_cell BK131.out 3).trans rfl
            have hcz57_4 : w22.cell? ⟨gb131, 4, none⟩ = some (.int .i64 0) := (blk_cell BK131.out 4).trans rfl
            have hcz57_5 : w22.cell? ⟨gb131, 5, none⟩ = some (.string (⟨#[]⟩ : ByteArray)) := (blk_cell BK131.out 5).trans rfl
            have hfz57_0 := blk_frozen BK131.out 0
            have hfz57_1 := blk_frozen BK131.out 1
            have hfz57_2 := blk_frozen BK131.out 2
            have hfz57_3 := blk_frozen BK131.out 3
            have hfz57_4 := blk_frozen BK131.out 4
            have hfz57_5 := blk_frozen BK131.out 5
            have hnb58 := NB128_126.out
            have hnc58 := NB126_128.out
            have hcz59_0 : w22.cell? ⟨gb128, 0, none⟩ = some (.string ((rd_T65 l0_0 x3_1).f0)) := (blk_cell BK128.out 0).trans rfl
            have hcz59_1 : w22.cell? ⟨gb128, 1, none⟩ = some (.string ((rd_T65 l0_0 x3_1).f1)) := (blk_cell BK128.out 1).trans rfl
            have hcz59_2 : w22.cell? ⟨gb128, 2, none⟩ = some (.string ((rd_T65 l0_0 x3_1).f2)) := (blk_cell BK128.out 2).trans rfl
            have hcz59_3 : w22.cell? ⟨gb128, 3, none⟩ = some (.int .u64 ((rd_T65 l0_0 x3_1).f3)) := (blk_cell BK128.out 3).trans rfl
            have hcz59_4 : w22.cell? ⟨gb128, 4, none⟩ = some (.int .i64 ((rd_T65 l0_0 x3_1).f4)) := (blk_cell BK128.out 4).trans rfl
            have hcz59_5 : w22.cell? ⟨gb128, 5, none⟩ = some (.string ((rd_T65 l0_0 x3_1).f5)) := (blk_cell BK128.out 5).trans rfl
            have hfz59_0 := blk_frozen BK128.out 0
            have hfz59_1 := blk_frozen BK128.out 1
            have hfz59_2 := blk_frozen BK128.out 2
            have hfz59_3 := blk_frozen BK128.out 3
            have hfz59_4 := blk_frozen BK128.out 4
            have hfz59_5 := blk_frozen BK128.out 5
            go_wp2_with (first | ((with_reducible refine at_fn (f := 63) rfl ?_); refine goesL_ (some 35) rfl rfl Try.func63 (by kernel_rfl) rfl #[.agg #[.string ((rd_T65 l0_0 (ji12)).f0), .string ((rd_T65 l0_0 (ji12)).f1), .string ((rd_T65 l0_0 (ji12)).f2), .int .u64 ((rd_T65 l0_0 (ji12)).f3), .int .i64 ((rd_T65 l0_0 (ji12)).f4), .string ((rd_T65 l0_0 (ji12)).f5)], .agg #[.string ((rd_T65 l0_0 x3_1).f0), .string ((rd_T65 l0_0 x3_1).f1), .string ((rd_T65 l0_0 x3_1).f2), .int .u64 ((rd_T65 l0_0 x3_1).f3), .int .i64 ((rd_T65 l0_0 x3_1).f4), .string ((rd_T65 l0_0 x3_1).f5)]] rfl (by (try simp only [List.map_toArray, List.map_cons, List.map_nil]); first | done | (simp only [hji12]; rfl) | rfl | (simp only [List.length_drop, List.length_take]; rfl)) ?_; (with_reducible refine (spec_CompareKeys.calls k1 ((rd_T65 l0_0 (ji12)).f0) ((rd_T65 l0_0 (ji12)).f1) ((rd_T65 l0_0 (ji12)).f2) ((rd_T65 l0_0 (ji12)).f3) ((rd_T65 l0_0 (ji12)).f4) ((rd_T65 l0_0 (ji12)).f5) ((rd_T65 l0_0 x3_1).f0) ((rd_T65 l0_0 x3_1).f1) ((rd_T65 l0_0 x3_1).f2) ((rd_T65 l0_0 x3_1).f3) ((rd_T65 l0_0 x3_1).f4) ((rd_T65 l0_0 x3_1).f5) t132 _ A26.out).mono ?_); rintro e w60 ⟨rfl, hb⟩; refine ⟨_, rfl, ?_⟩; have n0_ := Aside0.mk (blk_below (g := gb126) (o := .cells #[.slice (some ad127) l0_0.length c0_0] 60 (0, 0)) (by (with_reducible repeat (first | refine blk_drewN ?_ _ | refine blk_drew ?_ | refine blk_alloc ?_ _)); refine blk_far ?_ NB126_131.out _; (with_reducible repeat (first | refine blk_drewN ?_ _ | refine blk_drew ?_ | refine blk_alloc ?_ _)); refine blk_far ?_ NB126_131.out _; (with_reducible repeat (first | refine blk_drewN ?_ _ | refine blk_drew ?_ | refine blk_alloc ?_ _)); refine blk_far ?_ NB126_131.out _; (with_reducible repeat (first | refine blk_drewN ?_ _ | refine blk_drew ?_ | refine blk_alloc ?_ _)); refine blk_far ?_ NB126_131.out _; (with_reducible repeat (first | refine blk_drewN ?_ _ | refine blk_drew ?_ | refine blk_alloc ?_ _)); refine blk_far ?_ NB126_131.out _; (with_reducible repeat (first | refine blk_drewN ?_ _ | refine blk_drew ?_ | refine blk_alloc ?_ _)); refine blk_far ?_ NB126_131.out _; (with_reducible repeat (first | refine blk_drewN ?_ _ | refine blk_drew ?_ | refine blk_alloc ?_ _)); exact BK126.out) hb); have n1_ := Aside0.mk (blk_below (g := gb128) (o := .cells #[.string ((rd_T65 l0_0 x3_1).f0), .string ((rd_T65 l0_0 x3_1).f1), .string ((rd_T65 l0_0 x3_1).f2), .int .u64 ((rd_T65 l0_0 x3_1).f3), .int .i64 ((rd_T65 l0_0 x3_1).f4), .string ((rd_T65 l0_0 x3_1).f5)] 65 (0, 0)) (by (with_reducible repeat (first | refine blk_drewN ?_ _ | refine blk_drew ?_ | refine blk_alloc ?_ _)); refine blk_far ?_ NB128_131.out _; (with_reducible repeat (first | refine blk_drewN ?_ _ | refine blk_drew ?_ | refine blk_alloc ?_ _)); refine blk_far ?_ NB128_131.out _; (with_reducible repeat (first | refine blk_drewN ?_ _ | refine blk_drew ?_ | refine blk_alloc ?_ _)); refine blk_far ?_ NB128_131.out _; (with_reducible repeat (first | refine blk_drewN ?_ _ | refine blk_drew ?_ | refine blk_alloc ?_ _)); refine blk_far ?_ NB128_131.out _; (with_reducible repeat (first | refine blk_drewN ?_ _ | refine blk_drew ?_ | refine blk_alloc ?_ _)); refine blk_far ?_ NB128_131.out _; (with_reducible repeat (first | refine blk_drewN ?_ _ | refine blk_drew ?_ | refine blk_alloc ?_ _)); refine blk_far ?_ NB128_131.out _; (with_reducible repeat (first | refine blk_drewN ?_ _ | refine blk_drew ?_ | refine blk_alloc ?_ _)); exact BK128.out) hb); have n2_ := Aside0.mk (blk_below (g := gb131) (o := .cells #[.string ((rd_T65 l0_0 (ji12)).f0), .string ((rd_T65 l0_0 (ji12)).f1), .string ((rd_T65 l0_0 (ji12)).f2), .int .u64 ((rd_T65 l0_0 (ji12)).f3), .int .i64 ((rd_T65 l0_0 (ji12)).f4), .string ((rd_T65 l0_0 (ji12)).f5)] 65 (0, 0)) (by (with_reducible repeat (first | refine blk_drewN ?_ _ | refine blk_drew ?_ | refine blk_alloc ?_ _)); refine blk_put (cs := #[.string ((rd_T65 l0_0 (ji12)).f0), .string ((rd_T65 l0_0 (ji12)).f1), .string ((rd_T65 l0_0 (ji12)).f2), .int .u64 ((rd_T65 l0_0 (ji12)).f3), .int .i64 ((rd_T65 l0_0 (ji12)).f4), .string (⟨#[]⟩ : ByteArray)]) ?_ 5 _ rfl; (with_reducible repeat (first | refine blk_drewN ?_ _ | refine blk_drew ?_ | refine blk_alloc ?_ _)); refine blk_put (cs := #[.string ((rd_T65 l0_0 (ji12)).f0), .string ((rd_T65 l0_0 (ji12)).f1), .string ((rd_T65 l0_0 (ji12)).f2), .int .u64 ((rd_T65 l0_0 (ji12)).f3), .int .i64 0, .string (⟨#[]⟩ : ByteArray)]) ?_ 4 _ rfl; (with_reducible repeat (first | refine blk_drewN ?_ _ | refine blk_drew ?_ | refine blk_alloc ?_ _)); refine blk_put (cs := #[.string ((rd_T65 l0_0 (ji12)).f0), .string ((rd_T65 l0_0 (ji12)).f1), .string ((rd_T65 l0_0 (ji12)).f2), .int .u64 0, .int .i64 0, .string (⟨#[]⟩ : ByteArray)]) ?_ 3 _ rfl; (with_reducible repeat (first | refine blk_drewN ?_ _ | refine blk_drew ?_ | refine blk_alloc ?_ _)); refine blk_put (cs := #[.string ((rd_T65 l0_0 (ji12)).f0), .string ((rd_T65 l0_0 (ji12)).f1), .string (⟨#[]⟩ : ByteArray), .int .u64 0, .int .i64 0, .string (⟨#[]⟩ : ByteArray)]) ?_ 2 _ rfl; (with_reducible repeat (first | refine blk_drewN ?_ _ | refine blk_drew ?_ | refine blk_alloc ?_ _)); refine blk_put (cs := #[.string ((rd_T65 l0_0 (ji12)).f0), .string (⟨#[]⟩ : ByteArray), .string (⟨#[]⟩ : ByteArray), .int .u64 0, .int .i64 0, .string (⟨#[]⟩ : ByteArray)]) ?_ 1 _ rfl; (with_reducible repeat (first | refine blk_drewN ?_ _ | refine blk_drew ?_ | refine blk_alloc ?_ _)); refine blk_put (cs := #[.string (⟨#[]⟩ : ByteArray), .string (⟨#[]⟩ : ByteArray), .string (⟨#[]⟩ : ByteArray), .int .u64 0, .int .i64 0, .string (⟨#[]⟩ : ByteArray)]) ?_ 0 _ rfl; (with_reducible repeat (first | refine blk_drewN ?_ _ | refine blk_drew ?_ | refine blk_alloc ?_ _)); exact BK131.out) hb); have n3_ := Aside0.mk (below_step bw hb); clear BK126; clear BK128; clear BK131; clear HB; have BK126 := n0_; have BK128 := n1_; have BK131 := n2_; have HB := n3_; clear n0_ n1_ n2_ n3_; (try clear hb); (try clear hb2); (try clear hk); (try clear hi)))
            go_meet
            case rel => exact ⟨_, (true), (by first | rfl | (simp; done) | (simp [*]; done)), H', ⟨by have := HK1.out; first | omega | exact Nat.le_refl _⟩, ⟨lb BK126⟩, ⟨lb BK128⟩, ⟨lb BK131⟩, ⟨bw⟩⟩
          case rest =>
           clear HC15
           try clear c1
           try clear p1
           try clear q1
           try clear hx1
           try clear c2
           try clear c2b0
           try clear c2b1
           try clear p2
           try clear c3
           try clear c4
           try clear c5
           try clear c6
           try clear p6
           try clear c7
           try clear c7b0
           try clear c8
           try clear c8b0
           try clear c10
           try clear c11
           try clear c11b0
           try clear p12
           try clear q12
           try clear hx12
           try clear c13
           try clear c13b0
           try clear p13
           try clear q13
           try clear hx13
           try clear c14
           try clear c14b0
           try clear c18
           try clear c23
           try clear c24
           try clear c27
           try clear c27b0
           try clear c27b1
           try clear c28
           try clear c28b0
           try clear c28b1
           try clear c29
           try clear c29b0
           try clear c29b1
           try clear c31
           try clear c32
           try clear c34
           try clear c40
           try clear c41
           try clear c43
           try clear c48
           try clear c49
           try clear c51
           try clear c52
           try clear c55
           try clear c56
           try clear c58
           try clear hcz16_0
           try clear hcz19_0
           try clear hcz19_1
           try clear hcz19_2
           try clear hcz19_3
           try clear hcz19_4
           try clear hcz19_5
           try clear hcz21_0
           try clear hcz25_0
           try clear hcz25_1
           try clear hcz25_2
           try clear hcz25_3
           try clear hcz25_4
           try clear hcz25_5
           try clear hcz33_0
           try clear hcz33_1
           try clear hcz33_2
           try clear hcz33_3
           try clear hcz33_4
           try clear hcz33_5
           try clear hcz35_0
           try clear hcz35_1
           try clear hcz35_2
           try clear hcz35_3
           try clear hcz35_4
           try clear hcz35_5
           try clear hcz37_0
           try clear hcz37_1
           try clear hcz37_2
           try clear hcz37_3
           try clear hcz37_4
           try clear hcz37_5
           try clear hcz38_0
           try clear hcz38_1
           try clear hcz38_2
           try clear hcz38_3
           try clear hcz38_4
           try clear hcz38_5
           try clear hcz42_0
           try clear hcz42_1
           try clear hcz42_2
           try clear hcz42_3
           try clear hcz42_4
           try clear hcz42_5
           try clear hcz44_0
           try clear hcz44_1
           try clear hcz44_2
           try clear hcz44_3
           try clear hcz44_4
           try clear hcz44_5
           try clear hcz46_0
           try clear hcz46_1
           try clear hcz46_2
           try clear hcz46_3
           try clear hcz46_4
           try clear hcz46_5
           try clear hcz47_0
           try clear hcz47_1
           try clear hcz47_2
           try clear hcz47_3
           try clear hcz47_4
           try clear hcz47_5
           try clear hcz4_0
           try clear hcz50_0
           try clear hcz50_1
           try clear hcz50_2
           try clear hcz50_3
           try clear hcz50_4
           try clear hcz50_5
           try clear hcz52_0
           try clear hcz52_1
           try clear hcz52_2
           try clear hcz52_3
           try clear hcz52_4
           try clear hcz52_5
           try clear hcz54_0
           try clear hcz54_1
           try clear hcz54_2
           try clear hcz54_3
           try clear hcz54_4
           try clear hcz54_5
           try clear hcz57_0
           try clear hcz57_1
           try clear hcz57_2
           try clear hcz57_3
           try clear hcz57_4
           try clear hcz57_5
           try clear hcz59_0
           try clear hcz59_1
           try clear hcz59_2
           try clear hcz59_3
           try clear hcz59_4
           try clear hcz59_5
           try clear hcz6_0
           try clear hfz16_0
           try clear hfz19_0
           try clear hfz19_1
           try clear hfz19_2
           try clear hfz19_3
           try clear hfz19_4
           try clear hfz19_5
           try clear hfz21_0
           try clear hfz25_0
           try clear hfz25_1
           try clear hfz25_2
           try clear hfz25_3
           try clear hfz25_4
           try clear hfz25_5
           try clear hfz33_0
           try clear hfz33_1
           try clear hfz33_2
           try clear hfz33_3
           try clear hfz33_4
           try clear hfz33_5
           try clear hfz35_0
           try clear hfz35_1
           try clear hfz35_2
           try clear hfz35_3
           try clear hfz35_4
           try clear hfz35_5
           try clear hfz37_0
           try clear hfz37_1
           try clear hfz37_2
           try clear hfz37_3
           try clear hfz37_4
           try clear hfz37_5
           try clear hfz38_0
           try clear hfz38_1
           try clear hfz38_2
           try clear hfz38_3
           try clear hfz38_4
           try clear hfz38_5
           try clear hfz42_0
           try clear hfz42_1
           try clear hfz42_2
           try clear hfz42_3
           try clear hfz42_4
           try clear hfz42_5
           try clear hfz44_0
           try clear hfz44_1
           try clear hfz44_2
           try clear hfz44_3
           try clear hfz44_4
           try clear hfz44_5
           try clear hfz46_0
           try clear hfz46_1
           try clear hfz46_2
           try clear hfz46_3
           try clear hfz46_4
           try clear hfz46_5
           try clear hfz47_0
           try clear hfz47_1
           try clear hfz47_2
           try clear hfz47_3
           try clear hfz47_4
           try clear hfz47_5
           try clear hfz4_0
           try clear hfz50_0
           try clear hfz50_1
           try clear hfz50_2
           try clear hfz50_3
           try clear hfz50_4
           try clear hfz50_5
           try clear hfz52_0
           try clear hfz52_1
           try clear hfz52_2
           try clear hfz52_3
           try clear hfz52_4
           try clear hfz52_5
           try clear hfz54_0
           try clear hfz54_1
           try clear hfz54_2
           try clear hfz54_3
           try clear hfz54_4
           try clear hfz54_5
           try clear hfz57_0
           try clear hfz57_1
           try clear hfz57_2
           try clear hfz57_3
           try clear hfz57_4
           try clear hfz57_5
           try clear hfz59_0
           try clear hfz59_1
           try clear hfz59_2
           try clear hfz59_3
           try clear hfz59_4
           try clear hfz59_5
           try clear hfz6_0
           try clear hx127_0
           try clear hx127_1
           try clear hx127_2
           try clear hx127_3
           try clear hx127_4
           try clear hx127_5
           try clear hx130_0
           try clear hx130_1
           try clear hx130_2
           try clear hx130_3
           try clear hx130_4
           try clear hx130_5
           try clear p127
           try clear p130
           try clear p2
           try clear q127
           try clear q130
           obtain ⟨kq, x51_14, rfl, HA, HJ14, BK126, BK128, BK131, HB⟩ := hcut
           cases kq with
           | zero => exact absurd HA.out (by simp [spec_ValidRun.j1])
           | succ kj14 =>
            have H := HA.out
            clear HA
            simp only [spec_ValidRun.j1] at H
            by_cases c61 : x51_14 = true
            ·subst c61
             have H1 : (some false) = some r := by rw [if_pos rfl] at H; exact H
             clear H
             have H := H1
             clear H1
             obtain rfl := Option.some.inj H
             go_wp2
             go_ret
             exact ⟨by first | rfl | (simp [errW_none, errW_some] <;> rfl) | (simp only [← hji12]; first | rfl | (simp [errW_none, errW_some] <;> rfl)) | (simp [*, errW_none, errW_some] <;> rfl), bw⟩
            ·replace c61 := Bool.eq_false_iff.mpr c61
             subst c61
             have H1 : (spec_ValidRun.l0 kj14 (wrap64 (x3_1 + 1)) l0_0) = some r := by rw [if_neg (show ¬ (false = true) by decide)] at H; exact H
             clear H
             have H := H1
             clear H1
             have H' := Aside0.mk H
             clear H
             go_wp2
             go_roundg kj14
             case measure => have := HK1.out; have := HJ14.out; omega
             case rel => exact ⟨(wrap64 (x3_1 + 1)), (by first | rfl | (simp; done) | (simp [*]; done)), H', ⟨by have := HK1.out; have := HJ14.out; omega⟩, ⟨lb BK126⟩, ⟨bw⟩⟩
         ·rw [if_neg c14] at H
          exact absurd H (by simp)
        ·rw [if_neg c13] at H
         exact absurd H (by simp)
       ·rw [if_neg c11] at H
        have c11b0 : decide (0 < x3_1) = false := decide_eq_false c11
        clear c11
        have H' := Aside0.mk H
        clear H
        have hcz62_0 : wr.cell? ⟨gb126, 0, none⟩ = some (.slice A0_0 l0_0.length c0_0) := (blk_cell BK126.out 0).trans rfl
        have hfz62_0 := blk_frozen BK126.out 0
        have p127 : 0 ≤ (x3_1 : Int) := of_decide_eq_true (by first | (with_reducible assumption) | assumption)
        have q127 : x3_1 < (l0_0.length : Int) := of_decide_eq_true (by first | (with_reducible assumption) | assumption)
        obtain ⟨ad127, e127, hx127_0, hx127_1, hx127_2, hx127_3, hx127_4, hx127_5⟩ := at_T65 HR0_0.out x3_1 p127 q127
        cases e127
        replace hx127_0 := (HB.out.cell (World.block_lt_of_cell? w _ hx127_0)).trans hx127_0
        replace hx127_1 := (HB.out.cell (World.block_lt_of_cell? w _ hx127_1)).trans hx127_1
        replace hx127_2 := (HB.out.cell (World.block_lt_of_cell? w _ hx127_2)).trans hx127_2
        replace hx127_3 := (HB.out.cell (World.block_lt_of_cell? w _ hx127_3)).trans hx127_3
        replace hx127_4 := (HB.out.cell (World.block_lt_of_cell? w _ hx127_4)).trans hx127_4
        replace hx127_5 := (HB.out.cell (World.block_lt_of_cell? w _ hx127_5)).trans hx127_5
        replace p127 := eq_true p127
        replace q127 := eq_true q127
        go_wp2_with (first | ((with_reducible refine gate_dst (N := 4) rfl ?_); refine box_event ?hg (N := 4) ?hd (cs := #[.string (⟨#[]⟩ : ByteArray), .string (⟨#[]⟩ : ByteArray), .string (⟨#[]⟩ : ByteArray), .int .u64 0, .int .i64 0, .string (⟨#[]⟩ : ByteArray)]) (t := 65) ?hr ?_; (case hd => rfl); (case hg => rfl); (case hr => first | (go_simp; done) | (go_simp; rfl)); intro gb128 hg w63 hbox hb; have n0_ := Aside0.mk (blk_below (g := gb126) (o := .cells #[.slice (some ad127) l0_0.length c0_0] 60 (0, 0)) (lb BK126) hb); have n1_ := Aside0.mk (below_step bw hb); have n2_ := Aside0.mk (hbox); have n3_ := Aside0.mk ((by rw [hg]; exact (below_size bw) : w.heap.size ≤ gb128)); have n4_ := Aside0.mk ((by rw [hg]; exact (below_size bw) : w.heap.size ≤ gb128)); have n5_ := Aside0.mk ((by rw [hg]; exact Nat.ne_of_lt (blk_lt (g := gb126) (o := .cells #[.slice (some ad127) l0_0.length c0_0] 60 (0, 0)) (lb BK126)) : gb126 ≠ gb128)); have n6_ := Aside0.mk ((by rw [hg]; exact Nat.ne_of_gt (blk_lt (g := gb126) (o := .cells #[.slice (some ad127) l0_0.length c0_0] 60 (0, 0)) (lb BK126)) : gb128 ≠ gb126)); clear BK126; clear HB; have BK126 := n0_; have HB := n1_; have BK128 := n2_; have GW128 := n3_; have GE128 := n4_; have NB126_128 := n5_; have NB128_126 := n6_; clear n0_ n1_ n2_ n3_ n4_ n5_ n6_; clear hb hbox hg; have hnb64 := NB128_126.out; have hnc64 := NB126_128.out; have hcz65_0 : w63.cell? ⟨gb128, 0, none⟩ = some (.string (⟨#[]⟩ : ByteArray)) := (blk_cell BK128.out 0).trans rfl; have hcz65_1 : w63.cell? ⟨gb128, 1, none⟩ = some (.string (⟨#[]⟩ : ByteArray)) := (blk_cell BK128.out 1).trans rfl; have hcz65_2 : w63.cell? ⟨gb128, 2, none⟩ = some (.string (⟨#[]⟩ : ByteArray)) := (blk_cell BK128.out 2).trans rfl; have hcz65_3 : w63.cell? ⟨gb128, 3, none⟩ = some (.int .u64 0) := (blk_cell BK128.out 3).trans rfl; have hcz65_4 : w63.cell? ⟨gb128, 4, none⟩ = some (.int .i64 0) := (blk_cell BK128.out 4).trans rfl; have hcz65_5 : w63.cell? ⟨gb128, 5, none⟩ = some (.string (⟨#[]⟩ : ByteArray)) := (blk_cell BK128.out 5).trans rfl; have hfz65_0 := blk_frozen BK128.out 0; have hfz65_1 := blk_frozen BK128.out 1; have hfz65_2 := blk_frozen BK128.out 2; have hfz65_3 := blk_frozen BK128.out 3; have hfz65_4 := blk_frozen BK128.out 4; have hfz65_5 := blk_frozen BK128.out 5) | ((with_reducible refine at_fn (f := 62) rfl ?_); refine goesL_ (some 23) rfl rfl Try.func62 (by kernel_rfl) rfl #[.agg #[.string ((rd_T65 l0_0 x3_1).f0), .string ((rd_T65 l0_0 x3_1).f1), .string ((rd_T65 l0_0 x3_1).f2), .int .u64 ((rd_T65 l0_0 x3_1).f3), .int .i64 ((rd_T65 l0_0 x3_1).f4), .string ((rd_T65 l0_0 x3_1).f5)]] rfl (by (try simp only [List.map_toArray, List.map_cons, List.map_nil]); first | done | rfl | (simp only [List.length_drop, List.length_take]; rfl)) ?_; (with_reducible refine (spec_ValidEntry.calls ((rd_T65 l0_0 x3_1).f0) ((rd_T65 l0_0 x3_1).f1) ((rd_T65 l0_0 x3_1).f2) ((rd_T65 l0_0 x3_1).f3) ((rd_T65 l0_0 x3_1).f4) ((rd_T65 l0_0 x3_1).f5) true _ A9.out).mono ?_); rintro e w66 ⟨rfl, hb⟩; refine ⟨_, rfl, ?_⟩; have n0_ := Aside0.mk (blk_below (g := gb126) (o := .cells #[.slice (some ad127) l0_0.length c0_0] 60 (0, 0)) (by (with_reducible repeat (first | refine blk_drewN ?_ _ | refine blk_drew ?_ | refine blk_alloc ?_ _)); refine blk_far ?_ NB126_128.out _; (with_reducible repeat (first | refine blk_drewN ?_ _ | refine blk_drew ?_ | refine blk_alloc ?_ _)); refine blk_far ?_ NB126_128.out _; (with_reducible repeat (first | refine blk_drewN ?_ _ | refine blk_drew ?_ | refine blk_alloc ?_ _)); refine blk_far ?_ NB126_128.out _; (with_reducible repeat (first | refine blk_drewN ?_ _ | refine blk_drew ?_ | refine blk_alloc ?_ _)); refine blk_far ?_ NB126_128.out _; (with_reducible repeat (first | refine blk_drewN ?_ _ | refine blk_drew ?_ | refine blk_alloc ?_ _)); refine blk_far ?_ NB126_128.out _; (with_reducible repeat (first | refine blk_drewN ?_ _ | refine blk_drew ?_ | refine blk_alloc ?_ _)); refine blk_far ?_ NB126_128.out _; (with_reducible repeat (first | refine blk_drewN ?_ _ | refine blk_drew ?_ | refine blk_alloc ?_ _)); exact BK126.out) hb); have n1_ := Aside0.mk (blk_below (g := gb128) (o := .cells #[.string ((rd_T65 l0_0 x3_1).f0), .string ((rd_T65 l0_0 x3_1).f1), .string ((rd_T65 l0_0 x3_1).f2), .int .u64 ((rd_T65 l0_0 x3_1).f3), .int .i64 ((rd_T65 l0_0 x3_1).f4), .string ((rd_T65 l0_0 x3_1).f5)] 65 (0, 0)) (by (with_reducible repeat (first | refine blk_drewN ?_ _ | refine blk_drew ?_ | refine blk_alloc ?_ _)); refine blk_put (cs := #[.string ((rd_T65 l0_0 x3_1).f0), .string ((rd_T65 l0_0 x3_1).f1), .string ((rd_T65 l0_0 x3_1).f2), .int .u64 ((rd_T65 l0_0 x3_1).f3), .int .i64 ((rd_T65 l0_0 x3_1).f4), .string (⟨#[]⟩ : ByteArray)]) ?_ 5 _ rfl; (with_reducible repeat (first | refine blk_drewN ?_ _ | refine blk_drew ?_ | refine blk_alloc ?_ _)); refine blk_put (cs := #[.string ((rd_T65 l0_0 x3_1).f0), .string ((rd_T65 l0_0 x3_1).f1), .string ((rd_T65 l0_0 x3_1).f2), .int .u64 ((rd_T65 l0_0 x3_1).f3), .int .i64 0, .string (⟨#[]⟩ : ByteArray)]) ?_ 4 _ rfl; (with_reducible repeat (first | refine blk_drewN ?_ _ | refine blk_drew ?_ | refine blk_alloc ?_ _)); refine blk_put (cs := #[.string ((rd_T65 l0_0 x3_1).f0), .string ((rd_T65 l0_0 x3_1).f1), .string ((rd_T65 l0_0 x3_1).f2), .int .u64 0, .int .i64 0, .string (⟨#[]⟩ : ByteArray)]) ?_ 3 _ rfl; (with_reducible repeat (first | refine blk_drewN ?_ _ | refine blk_drew ?_ | refine blk_alloc ?_ _)); refine blk_put (cs := #[.string ((rd_T65 l0_0 x3_1).f0), .string ((rd_T65 l0_0 x3_1).f1), .string (⟨#[]⟩ : ByteArray), .int .u64 0, .int .i64 0, .string (⟨#[]⟩ : ByteArray)]) ?_ 2 _ rfl; (with_reducible repeat (first | refine blk_drewN ?_ _ | refine blk_drew ?_ | refine blk_alloc ?_ _)); refine blk_put (cs := #[.string ((rd_T65 l0_0 x3_1).f0), .string (⟨#[]⟩ : ByteArray), .string (⟨#[]⟩ : ByteArray), .int .u64 0, .int .i64 0, .string (⟨#[]⟩ : ByteArray)]) ?_ 1 _ rfl; (with_reducible repeat (first | refine blk_drewN ?_ _ | refine blk_drew ?_ | refine blk_alloc ?_ _)); refine blk_put (cs := #[.string (⟨#[]⟩ : ByteArray), .string (⟨#[]⟩ : ByteArray), .string (⟨#[]⟩ : ByteArray), .int .u64 0, .int .i64 0, .string (⟨#[]⟩ : ByteArray)]) ?_ 0 _ rfl; (with_reducible repeat (first | refine blk_drewN ?_ _ | refine blk_drew ?_ | refine blk_alloc ?_ _)); exact BK128.out) hb); have n2_ := Aside0.mk (below_step bw hb); clear BK126; clear BK128; clear HB; have BK126 := n0_; have BK128 := n1_; have HB := n2_; clear n0_ n1_ n2_; (try clear hb); (try clear hb2); (try clear hk); (try clear hi)))
        go_roundg k1
        case measure => have := HK1.out; omega
        case rel => exact ⟨(wrap64 (x3_1 + 1)), (by first | rfl | (simp; done) | (simp [*]; done)), H', ⟨by have := HK1.out; omega⟩, ⟨lb BK126⟩, ⟨bw⟩⟩
      ·replace c10 := Bool.eq_false_iff.mpr c10
       subst c10
       have H1 : (some false) = some r := by rw [if_neg (show ¬ (false = true) by decide)] at H; exact H
       clear H
       have H := H1
       clear H1
       obtain rfl := Option.some.inj H
       have hcz67_0 : wr.cell? ⟨gb126, 0, none⟩ = some (.slice A0_0 l0_0.length c0_0) := (blk_cell BK126.out 0).trans rfl
       have hfz67_0 := blk_frozen BK126.out 0
       have p127 : 0 ≤ (x3_1 : Int) := of_decide_eq_true (by first | (with_reducible assumption) | assumption)
       have q127 : x3_1 < (l0_0.length : Int) := of_decide_eq_true (by first | (with_reducible assumption) | assumption)
       obtain ⟨ad127, e127, hx127_0, hx127_1, hx127_2, hx127_3, hx127_4, hx127_5⟩ := at_T65 HR0_0.out x3_1 p127 q127
       cases e127
       replace hx127_0 := (HB.out.cell (World.block_lt_of_cell? w _ hx127_0)).trans hx127_0
       replace hx127_1 := (HB.out.cell (World.block_lt_of_cell? w _ hx127_1)).trans hx127_1
       replace hx127_2 := (HB.out.cell (World.block_lt_of_cell? w _ hx127_2)).trans hx127_2
       replace hx127_3 := (HB.out.cell (World.block_lt_of_cell? w _ hx127_3)).trans hx127_3
       replace hx127_4 := (HB.out.cell (World.block_lt_of_cell? w _ hx127_4)).trans hx127_4
       replace hx127_5 := (HB.out.cell (World.block_lt_of_cell? w _ hx127_5)).trans hx127_5
       replace p127 := eq_true p127
       replace q127 := eq_true q127
       go_wp2_with (first | ((with_reducible refine gate_dst (N := 4) rfl ?_); refine box_event ?hg (N := 4) ?hd (cs := #[.string (⟨#[]⟩ : ByteArray), .string (⟨#[]⟩ : ByteArray), .string (⟨#[]⟩ : ByteArray), .int .u64 0, .int .i64 0, .string (⟨#[]⟩ : ByteArray)]) (t := 65) ?hr ?_; (case hd => rfl); (case hg => rfl); (case hr => first | (go_simp; done) | (go_simp; rfl)); intro gb128 hg w68 hbox hb; have n0_ := Aside0.mk (blk_below (g := gb126) (o := .cells #[.slice (some ad127) l0_0.length c0_0] 60 (0, 0)) (lb BK126) hb); have n1_ := Aside0.mk (below_step bw hb); have n2_ := Aside0.mk (hbox); have n3_ := Aside0.mk ((by rw [hg]; exact (below_size bw) : w.heap.size ≤ gb128)); have n4_ := Aside0.mk ((by rw [hg]; exact (below_size bw) : w.heap.size ≤ gb128)); have n5_ := Aside0.mk ((by rw [hg]; exact Nat.ne_of_lt (blk_lt (g := gb126) (o := .cells #[.slice (some ad127) l0_0.length c0_0] 60 (0, 0)) (lb BK126)) : gb126 ≠ gb128)); have n6_ := Aside0.mk ((by rw [hg]; exact Nat.ne_of_gt (blk_lt (g := gb126) (o := .cells #[.slice (some ad127) l0_0.length c0_0] 60 (0, 0)) (lb BK126)) : gb128 ≠ gb126)); clear BK126; clear HB; have BK126 := n0_; have HB := n1_; have BK128 := n2_; have GW128 := n3_; have GE128 := n4_; have NB126_128 := n5_; have NB128_126 := n6_; clear n0_ n1_ n2_ n3_ n4_ n5_ n6_; clear hb hbox hg; have hnb69 := NB128_126.out; have hnc69 := NB126_128.out; have hcz70_0 : w68.cell? ⟨gb128, 0, none⟩ = some (.string (⟨#[]⟩ : ByteArray)) := (blk_cell BK128.out 0).trans rfl; have hcz70_1 : w68.cell? ⟨gb128, 1, none⟩ = some (.string (⟨#[]⟩ : ByteArray)) := (blk_cell BK128.out 1).trans rfl; have hcz70_2 : w68.cell? ⟨gb128, 2, none⟩ = some (.string (⟨#[]⟩ : ByteArray)) := (blk_cell BK128.out 2).trans rfl; have hcz70_3 : w68.cell? ⟨gb128, 3, none⟩ = some (.int .u64 0) := (blk_cell BK128.out 3).trans rfl; have hcz70_4 : w68.cell? ⟨gb128, 4, none⟩ = some (.int .i64 0) := (blk_cell BK128.out 4).trans rfl; have hcz70_5 : w68.cell? ⟨gb128, 5, none⟩ = some (.string (⟨#[]⟩ : ByteArray)) := (blk_cell BK128.out 5).trans rfl; have hfz70_0 := blk_frozen BK128.out 0; have hfz70_1 := blk_frozen BK128.out 1; have hfz70_2 := blk_frozen BK128.out 2; have hfz70_3 := blk_frozen BK128.out 3; have hfz70_4 := blk_frozen BK128.out 4; have hfz70_5 := blk_frozen BK128.out 5) | ((with_reducible refine at_fn (f := 62) rfl ?_); refine goesL_ (some 23) rfl rfl Try.func62 (by kernel_rfl) rfl #[.agg #[.string ((rd_T65 l0_0 x3_1).f0), .string ((rd_T65 l0_0 x3_1).f1), .string ((rd_T65 l0_0 x3_1).f2), .int .u64 ((rd_T65 l0_0 x3_1).f3), .int .i64 ((rd_T65 l0_0 x3_1).f4), .string ((rd_T65 l0_0 x3_1).f5)]] rfl (by (try simp only [List.map_toArray, List.map_cons, List.map_nil]); first | done | rfl | (simp only [List.length_drop, List.length_take]; rfl)) ?_; (with_reducible refine (spec_ValidEntry.calls ((rd_T65 l0_0 x3_1).f0) ((rd_T65 l0_0 x3_1).f1) ((rd_T65 l0_0 x3_1).f2) ((rd_T65 l0_0 x3_1).f3) ((rd_T65 l0_0 x3_1).f4) ((rd_T65 l0_0 x3_1).f5) false _ A9.out).mono ?_); rintro e w71 ⟨rfl, hb⟩; refine ⟨_, rfl, ?_⟩; have n0_ := Aside0.mk (blk_below (g := gb126) (o := .cells #[.slice (some ad127) l0_0.length c0_0] 60 (0, 0)) (by (with_reducible repeat (first | refine blk_drewN ?_ _ | refine blk_drew ?_ | refine blk_alloc ?_ _)); refine blk_far ?_ NB126_128.out _; (with_reducible repeat (first | refine blk_drewN ?_ _ | refine blk_drew ?_ | refine blk_alloc ?_ _)); refine blk_far ?_ NB126_128.out _; (with_reducible repeat (first | refine blk_drewN ?_ _ | refine blk_drew ?_ | refine blk_alloc ?_ _)); refine blk_far ?_ NB126_128.out _; (with_reducible repeat (first | refine blk_drewN ?_ _ | refine blk_drew ?_ | refine blk_alloc ?_ _)); refine blk_far ?_ NB126_128.out _; (with_reducible repeat (first | refine blk_drewN ?_ _ | refine blk_drew ?_ | refine blk_alloc ?_ _)); refine blk_far ?_ NB126_128.out _; (with_reducible repeat (first | refine blk_drewN ?_ _ | refine blk_drew ?_ | refine blk_alloc ?_ _)); refine blk_far ?_ NB126_128.out _; (with_reducible repeat (first | refine blk_drewN ?_ _ | refine blk_drew ?_ | refine blk_alloc ?_ _)); exact BK126.out) hb); have n1_ := Aside0.mk (blk_below (g := gb128) (o := .cells #[.string ((rd_T65 l0_0 x3_1).f0), .string ((rd_T65 l0_0 x3_1).f1), .string ((rd_T65 l0_0 x3_1).f2), .int .u64 ((rd_T65 l0_0 x3_1).f3), .int .i64 ((rd_T65 l0_0 x3_1).f4), .string ((rd_T65 l0_0 x3_1).f5)] 65 (0, 0)) (by (with_reducible repeat (first | refine blk_drewN ?_ _ | refine blk_drew ?_ | refine blk_alloc ?_ _)); refine blk_put (cs := #[.string ((rd_T65 l0_0 x3_1).f0), .string ((rd_T65 l0_0 x3_1).f1), .string ((rd_T65 l0_0 x3_1).f2), .int .u64 ((rd_T65 l0_0 x3_1).f3), .int .i64 ((rd_T65 l0_0 x3_1).f4), .string (⟨#[]⟩ : ByteArray)]) ?_ 5 _ rfl; (with_reducible repeat (first | refine blk_drewN ?_ _ | refine blk_drew ?_ | refine blk_alloc ?_ _)); refine blk_put (cs := #[.string ((rd_T65 l0_0 x3_1).f0), .string ((rd_T65 l0_0 x3_1).f1), .string ((rd_T65 l0_0 x3_1).f2), .int .u64 ((rd_T65 l0_0 x3_1).f3), .int .i64 0, .string (⟨#[]⟩ : ByteArray)]) ?_ 4 _ rfl; (with_reducible repeat (first | refine blk_drewN ?_ _ | refine blk_drew ?_ | refine blk_alloc ?_ _)); refine blk_put (cs := #[.string ((rd_T65 l0_0 x3_1).f0), .string ((rd_T65 l0_0 x3_1).f1), .string ((rd_T65 l0_0 x3_1).f2), .int .u64 0, .int .i64 0, .string (⟨#[]⟩ : ByteArray)]) ?_ 3 _ rfl; (with_reducible repeat (first | refine blk_drewN ?_ _ | refine blk_drew ?_ | refine blk_alloc ?_ _)); refine blk_put (cs := #[.string ((rd_T65 l0_0 x3_1).f0), .string ((rd_T65 l0_0 x3_1).f1), .string (⟨#[]⟩ : ByteArray), .int .u64 0, .int .i64 0, .string (⟨#[]⟩ : ByteArray)]) ?_ 2 _ rfl; (with_reducible repeat (first | refine blk_drewN ?_ _ | refine blk_drew ?_ | refine blk_alloc ?_ _)); refine blk_put (cs := #[.string ((rd_T65 l0_0 x3_1).f0), .string (⟨#[]⟩ : ByteArray), .string (⟨#[]⟩ : ByteArray), .int .u64 0, .int .i64 0, .string (⟨#[]⟩ : ByteArray)]) ?_ 1 _ rfl; (with_reducible repeat (first | refine blk_drewN ?_ _ | refine blk_drew ?_ | refine blk_alloc ?_ _)); refine blk_put (cs := #[.string (⟨#[]⟩ : ByteArray), .string (⟨#[]⟩ : ByteArray), .string (⟨#[]⟩ : ByteArray), .int .u64 0, .int .i64 0, .string (⟨#[]⟩ : ByteArray)]) ?_ 0 _ rfl; (with_reducible repeat (first | refine blk_drewN ?_ _ | refine blk_drew ?_ | refine blk_alloc ?_ _)); exact BK128.out) hb); have n2_ := Aside0.mk (below_step bw hb); clear BK126; clear BK128; clear HB; have BK126 := n0_; have BK128 := n1_; have HB := n2_; clear n0_ n1_ n2_; (try clear hb); (try clear hb2); (try clear hk); (try clear hi)))
       go_ret
       exact ⟨by first | rfl | (simp [errW_none, errW_some] <;> rfl) | (simp [*, errW_none, errW_some] <;> rfl), bw⟩
     ·rw [if_neg c8] at H
      exact absurd H (by simp)
    ·rw [if_neg c7] at H
     have c7b0 : decide (x3_1 < (l0_0.length : Int)) = false := decide_eq_false c7
     clear c7
     obtain rfl := Option.some.inj H
     have hcz72_0 : wr.cell? ⟨gb126, 0, none⟩ = some (.slice A0_0 l0_0.length c0_0) := (blk_cell BK126.out 0).trans rfl
     have hfz72_0 := blk_frozen BK126.out 0
     go_wp2
     go_ret
     exact ⟨by first | rfl | (simp [errW_none, errW_some] <;> rfl) | (simp [*, errW_none, errW_some] <;> rfl), bw⟩

end Go.Proofs.Ytjlggfdmfchncaa.Q

namespace Go.Proofs.Ytjlggfdmfchncaa.Q
open Go.RowKit Go.Proofs.YtjlggfdmfchncaaW.PrintWords Go.Proofs.YtjlggfdmfchncaaW.PrintLast Go.Proofs.YtjlggfdmfchncaaW.PrintMore
set_option linter.unusedVariables false
set_option linter.unusedSimpArgs false

theorem eqA95 (d : Nat) (w : World) (x0 y0 : ByteArray) (x1 y1 : ByteArray) (x2 y2 : ByteArray) :
    (Op.equalIn (d + 2) 95 (.agg #[.string x0, .string x1, .string x2]) (.agg #[.string y0, .string y1, .string y2])).run Try.prog w = .ok (x0.toList == y0.toList && (x1.toList == y1.toList && (x2.toList == y2.toList))) w := by
  refine eqA_of Try.underlying95 (by kernel_rfl) ?_
  refine eqf_cons (by rfl) (by go_simp; rfl) (by go_simp; rfl) (by go_simp) ?_
  refine eqf_cons (by rfl) (by go_simp; rfl) (by go_simp; rfl) (by go_simp) ?_
  exact eqf_last (by rfl) (by go_simp; rfl) (by go_simp; rfl) (by go_simp)
end Go.Proofs.Ytjlggfdmfchncaa.Q

namespace Go.Proofs.Ytjlggfdmfchncaa.Q
open Go.RowKit Go.Proofs.YtjlggfdmfchncaaW.PrintWords Go.Proofs.YtjlggfdmfchncaaW.PrintLast Go.Proofs.YtjlggfdmfchncaaW.PrintMore
set_option linter.unusedVariables false
set_option linter.unusedSimpArgs false

/-! ### impl_ValidEntry: function 66 -/
def impl_ValidEntry.f (a0_0 : ByteArray) (a0_1 : ByteArray) (a0_2 : ByteArray) (a0_3 : Int) (a0_4 : Int) (a0_5 : ByteArray) : Option (Bool) := if (a0_0.size : Int) ≥ 1 then (if (a0_0.size : Int) ≤ 64 then (if (a0_1.size : Int) ≥ 1 then (if (a0_1.size : Int) ≤ 16 then (if (a0_2.size : Int) ≤ 64 then (if (a0_5.size : Int) ≤ 200 then (if a0_4 ≥ 0 then (if a0_4 ≤ 2 then (if a0_4 = 0 then (some true) else (some (a0_5.toList == ([] : List UInt8)))) else (some false)) else (some false)) else (some false)) else (some false)) else (some false)) else (some false)) else (some false)) else (some false)
set_option maxHeartbeats 8000000 in
set_option maxRecDepth 100000 in
theorem impl_ValidEntry.calls (a0_0 : ByteArray) (a0_1 : ByteArray) (a0_2 : ByteArray) (a0_3 : Int) (a0_4 : Int) (a0_5 : ByteArray) (r : Bool) (w : World) (h : impl_ValidEntry.f a0_0 a0_1 a0_2 a0_3 a0_4 a0_5 = some r) :
  Calls Try.prog 66 #[.agg #[.string a0_0, .string a0_1, .string a0_2, .int .u64 a0_3, .int .i64 a0_4, .string a0_5]] w fun e w' => e = .returned (.bool r) ∧ Below w.heap.size w w' := by
 have hu65 := Try.underlying65
 have HB := Aside0.mk (Below.refl w.heap.size w)
 have H : (if (a0_0.size : Int) ≥ 1 then (if (a0_0.size : Int) ≤ 64 then (if (a0_1.size : Int) ≥ 1 then (if (a0_1.size : Int) ≤ 16 then (if (a0_2.size : Int) ≤ 64 then (if (a0_5.size : Int) ≤ 200 then (if a0_4 ≥ 0 then (if a0_4 ≤ 2 then (if a0_4 = 0 then (some true) else (some (a0_5.toList == ([] : List UInt8)))) else (some false)) else (some false)) else (some false)) else (some false)) else (some false)) else (some false)) else (some false)) else (some false)) = some r := h
 clear h
 by_cases c2 : (a0_0.size : Int) ≥ 1
 ·rw [if_pos c2] at H
  have c2b0 : decide (1 ≤ (a0_0.size : Int)) = true := decide_eq_true c2
  have c2b1 : decide (1 ≤ a0_0.size) = true := decide_eq_true (by omega)
  clear c2
  by_cases c3 : (a0_0.size : Int) ≤ 64
  ·rw [if_pos c3] at H
   have c3b0 : decide ((a0_0.size : Int) ≤ 64) = true := decide_eq_true c3
   have c3b1 : decide (a0_0.size ≤ 64) = true := decide_eq_true (by omega)
   clear c3
   by_cases c4 : (a0_1.size : Int) ≥ 1
   ·rw [if_pos c4] at H
    have c4b0 : decide (1 ≤ (a0_1.size : Int)) = true := decide_eq_true c4
    have c4b1 : decide (1 ≤ a0_1.size) = true := decide_eq_true (by omega)
    clear c4
    by_cases c5 : (a0_1.size : Int) ≤ 16
    ·rw [if_pos c5] at H
     have c5b0 : decide ((a0_1.size : Int) ≤ 16) = true := decide_eq_true c5
     have c5b1 : decide (a0_1.size ≤ 16) = true := decide_eq_true (by omega)
     clear c5
     by_cases c6 : (a0_2.size : Int) ≤ 64
     ·rw [if_pos c6] at H
      have c6b0 : decide ((a0_2.size : Int) ≤ 64) = true := decide_eq_true c6
      have c6b1 : decide (a0_2.size ≤ 64) = true := decide_eq_true (by omega)
      clear c6
      by_cases c7 : (a0_5.size : Int) ≤ 200
      ·rw [if_pos c7] at H
       have c7b0 : decide ((a0_5.size : Int) ≤ 200) = true := decide_eq_true c7
       have c7b1 : decide (a0_5.size ≤ 200) = true := decide_eq_true (by omega)
       clear c7
       by_cases c8 : a0_4 ≥ 0
       ·rw [if_pos c8] at H
        have c8b0 : decide (0 ≤ a0_4) = true := decide_eq_true c8
        clear c8
        by_cases c9 : a0_4 ≤ 2
        ·rw [if_pos c9] at H
         have c9b0 : decide (a0_4 ≤ 2) = true := decide_eq_true c9
         clear c9
         by_cases c10 : a0_4 = 0
         ·rw [if_pos c10] at H
          have c10b0 : (a0_4 == 0) = true := beq_iff_eq.mpr c10
          have c10b1 : (a0_4 != 0) = false := bne_eq_false_iff_eq.mpr c10
          clear c10
          obtain rfl := Option.some.inj H
          go_enter Try.func66, Try.ntmps66
          go_wp2_with (first | ((with_reducible refine gate_dst (N := 1) rfl ?_); (try (refine gate_guard (by rfl) ?_; dsimp only)); refine box_event ?hg (N := 1) ?hd (cs := #[.string a0_0, .string a0_1, .string a0_2, .int .u64 a0_3, .int .i64 a0_4, .string a0_5]) (t := 65) ?hr ?_; (case hd => rfl); (case hg => rfl); (case hr => first | (go_simp; done) | (go_simp; rfl)); intro gb285 hg w11 hbox hb; have n0_ := Aside0.mk (below_step bw hb); have n1_ := Aside0.mk (hbox); have n2_ := Aside0.mk ((by rw [hg]; exact (below_size bw) : w.heap.size ≤ gb285)); have n3_ := Aside0.mk ((by rw [hg]; exact (below_size bw) : w.heap.size ≤ gb285)); clear HB; have HB := n0_; have BK285 := n1_; have GW285 := n2_; have GE285 := n3_; clear n0_ n1_ n2_ n3_; clear hb hbox hg; have hcz12_0 : w11.cell? ⟨gb285, 0, none⟩ = some (.string a0_0) := (blk_cell BK285.out 0).trans rfl; have hcz12_1 : w11.cell? ⟨gb285, 1, none⟩ = some (.string a0_1) := (blk_cell BK285.out 1).trans rfl; have hcz12_2 : w11.cell? ⟨gb285, 2, none⟩ = some (.string a0_2) := (blk_cell BK285.out 2).trans rfl; have hcz12_3 : w11.cell? ⟨gb285, 3, none⟩ = some (.int .u64 a0_3) := (blk_cell BK285.out 3).trans rfl; have hcz12_4 : w11.cell? ⟨gb285, 4, none⟩ = some (.int .i64 a0_4) := (blk_cell BK285.out 4).trans rfl; have hcz12_5 : w11.cell? ⟨gb285, 5, none⟩ = some (.string a0_5) := (blk_cell BK285.out 5).trans rfl; have hfz12_0 := blk_frozen BK285.out 0; have hfz12_1 := blk_frozen BK285.out 1; have hfz12_2 := blk_frozen BK285.out 2; have hfz12_3 := blk_frozen BK285.out 3; have hfz12_4 := blk_frozen BK285.out 4; have hfz12_5 := blk_frozen BK285.out 5))
          go_ret
          exact ⟨by first | rfl | (simp [errW_none, errW_some] <;> rfl) | (simp [*, errW_none, errW_some] <;> rfl), bw⟩
         ·rw [if_neg c10] at H
          have c10b0 : (a0_4 == 0) = false := beq_eq_false_iff_ne.mpr c10
          have c10b1 : (a0_4 != 0) = true := bne_iff_ne.mpr c10
          obtain rfl := Option.some.inj H
          go_enter Try.func66, Try.ntmps66
          go_wp2_with (first | ((with_reducible refine gate_dst (N := 1) rfl ?_); (try (refine gate_guard (by rfl) ?_; dsimp only)); refine box_event ?hg (N := 1) ?hd (cs := #[.string a0_0, .string a0_1, .string a0_2, .int .u64 a0_3, .int .i64 a0_4, .string a0_5]) (t := 65) ?hr ?_; (case hd => rfl); (case hg => rfl); (case hr => first | (go_simp; done) | (go_simp; rfl)); intro gb285 hg w13 hbox hb; have n0_ := Aside0.mk (below_step bw hb); have n1_ := Aside0.mk (hbox); have n2_ := Aside0.mk ((by rw [hg]; exact (below_size bw) : w.heap.size ≤ gb285)); have n3_ := Aside0.mk ((by rw [hg]; exact (below_size bw) : w.heap.size ≤ gb285)); clear HB; have HB := n0_; have BK285 := n1_; have GW285 := n2_; have GE285 := n3_; clear n0_ n1_ n2_ n3_; clear hb hbox hg; have hcz14_0 : w13.cell? ⟨gb285, 0, none⟩ = some (.string a0_0) := (blk_cell BK285.out 0).trans rfl; have hcz14_1 : w13.cell? ⟨gb285, 1, none⟩ = some (.string a0_1) := (blk_cell BK285.out 1).trans rfl; have hcz14_2 : w13.cell? ⟨gb285, 2, none⟩ = some (.string a0_2) := (blk_cell BK285.out 2).trans rfl; have hcz14_3 : w13.cell? ⟨gb285, 3, none⟩ = some (.int .u64 a0_3) := (blk_cell BK285.out 3).trans rfl; have hcz14_4 : w13.cell? ⟨gb285, 4, none⟩ = some (.int .i64 a0_4) := (blk_cell BK285.out 4).trans rfl; have hcz14_5 : w13.cell? ⟨gb285, 5, none⟩ = some (.string a0_5) := (blk_cell BK285.out 5).trans rfl; have hfz14_0 := blk_frozen BK285.out 0; have hfz14_1 := blk_frozen BK285.out 1; have hfz14_2 := blk_frozen BK285.out 2; have hfz14_3 := blk_frozen BK285.out 3; have hfz14_4 := blk_frozen BK285.out 4; have hfz14_5 := blk_frozen BK285.out 5))
          go_ret
          exact ⟨by first | rfl | (simp [errW_none, errW_some] <;> rfl) | (simp [*, errW_none, errW_some] <;> rfl), bw⟩
        ·rw [if_neg c9] at H
         have c9b0 : decide (a0_4 ≤ 2) = false := decide_eq_false c9
         clear c9
         obtain rfl := Option.some.inj H
         go_enter Try.func66, Try.ntmps66
         go_wp2_with (first | ((with_reducible refine gate_dst (N := 1) rfl ?_); (try (refine gate_guard (by rfl) ?_; dsimp only)); refine box_event ?hg (N := 1) ?hd (cs := #[.string a0_0, .string a0_1, .string a0_2, .int .u64 a0_3, .int .i64 a0_4, .string a0_5]) (t := 65) ?hr ?_; (case hd => rfl); (case hg => rfl); (case hr => first | (go_simp; done) | (go_simp; rfl)); intro gb285 hg w15 hbox hb; have n0_ := Aside0.mk (below_step bw hb); have n1_ := Aside0.mk (hbox); have n2_ := Aside0.mk ((by rw [hg]; exact (below_size bw) : w.heap.size ≤ gb285)); have n3_ := Aside0.mk ((by rw [hg]; exact (below_size bw) : w.heap.size ≤ gb285)); clear HB; have HB := n0_; have BK285 := n1_; have GW285 := n2_; have GE285 := n3_; clear n0_ n1_ n2_ n3_; clear hb hbox hg; have hcz16_0 : w15.cell? ⟨gb285, 0, none⟩ = some (.string a0_0) := (blk_cell BK285.out 0).trans rfl; have hcz16_1 : w15.cell? ⟨gb285, 1, none⟩ = some (.string a0_1) := (blk_cell BK285.out 1).trans rfl; have hcz16_2 : w15.cell? ⟨gb285, 2, none⟩ = some (.string a0_2) := (blk_cell BK285.out 2).trans rfl; have hcz16_3 : w15.cell? ⟨gb285, 3, none⟩ = some (.int .u64 a0_3) := (blk_cell BK285.out 3).trans rfl; have hcz16_4 : w15.cell? ⟨gb285, 4, none⟩ = some (.int .i64 a0_4) := (blk_cell BK285.out 4).trans rfl; have hcz16_5 : w15.cell? ⟨gb285, 5, none⟩ = some (.string a0_5) := (blk_cell BK285.out 5).trans rfl; have hfz16_0 := blk_frozen BK285.out 0; have hfz16_1 := blk_frozen BK285.out 1; have hfz16_2 := blk_frozen BK285.out 2; have hfz16_3 := blk_frozen BK285.out 3; have hfz16_4 := blk_frozen BK285.out 4; have hfz16_5 := blk_frozen BK285.out 5))
         go_ret
         exact ⟨by first | rfl | (simp [errW_none, errW_some] <;> rfl) | (simp [*, errW_none, errW_some] <;> rfl), bw⟩
       ·rw [if_neg c8] at H
        have c8b0 : decide (0 ≤ a0_4) = false := decide_eq_false c8
        clear c8
        obtain rfl := Option.some.inj H
        go_enter Try.func66, Try.ntmps66
        go_wp2_with (first | ((with_reducible refine gate_dst (N := 1) rfl ?_); (try (refine gate_guard (by rfl) ?_; dsimp only)); refine box_event ?hg (N := 1) ?hd (cs := #[.string a0_0, .string a0_1, .string a0_2, .int .u64 a0_3, .int .i64 a0_4, .string a0_5]) (t := 65) ?hr ?_; (case hd => rfl); (case hg => rfl); (case hr => first | (go_simp; done) | (go_simp; rfl)); intro gb285 hg w17 hbox hb; have n0_ := Aside0.mk (below_step bw hb); have n1_ := Aside0.mk (hbox); have n2_ := Aside0.mk ((by rw [hg]; exact (below_size bw) : w.heap.size ≤ gb285)); have n3_ := Aside0.mk ((by rw [hg]; exact (below_size bw) : w.heap.size ≤ gb285)); clear HB; have HB := n0_; have BK285 := n1_; have GW285 := n2_; have GE285 := n3_; clear n0_ n1_ n2_ n3_; clear hb hbox hg; have hcz18_0 : w17.cell? ⟨gb285, 0, none⟩ = some (.string a0_0) := (blk_cell BK285.out 0).trans rfl; have hcz18_1 : w17.cell? ⟨gb285, 1, none⟩ = some (.string a0_1) := (blk_cell BK285.out 1).trans rfl; have hcz18_2 : w17.cell? ⟨gb285, 2, none⟩ = some (.string a0_2) := (blk_cell BK285.out 2).trans rfl; have hcz18_3 : w17.cell? ⟨gb285, 3, none⟩ = some (.int .u64 a0_3) := (blk_cell BK285.out 3).trans rfl; have hcz18_4 : w17.cell? ⟨gb285, 4, none⟩ = some (.int .i64 a0_4) := (blk_cell BK285.out 4).trans rfl; have hcz18_5 : w17.cell? ⟨gb285, 5, none⟩ = some (.string a0_5) := (blk_cell BK285.out 5).trans rfl; have hfz18_0 := blk_frozen BK285.out 0; have hfz18_1 := blk_frozen BK285.out 1; have hfz18_2 := blk_frozen BK285.out 2; have hfz18_3 := blk_frozen BK285.out 3; have hfz18_4 := blk_frozen BK285.out 4; have hfz18_5 := blk_frozen BK285.out 5))
        go_ret
        exact ⟨by first | rfl | (simp [errW_none, errW_some] <;> rfl) | (simp [*, errW_none, errW_some] <;> rfl), bw⟩
      ·rw [if_neg c7] at H
       have c7b0 : decide ((a0_5.size : Int) ≤ 200) = false := decide_eq_false c7
       have c7b1 : decide (a0_5.size ≤ 200) = false := decide_eq_false (by omega)
       clear c7
       obtain rfl := Option.some.inj H
       go_enter Try.func66, Try.ntmps66
       go_wp2_with (first | ((with_reducible refine gate_dst (N := 1) rfl ?_); (try (refine gate_guard (by rfl) ?_; dsimp only)); refine box_event ?hg (N := 1) ?hd (cs := #[.string a0_0, .string a0_1, .string a0_2, .int .u64 a0_3, .int .i64 a0_4, .string a0_5]) (t := 65) ?hr ?_; (case hd => rfl); (case hg => rfl); (case hr => first | (go_simp; done) | (go_simp; rfl)); intro gb285 hg w19 hbox hb; have n0_ := Aside0.mk (below_step bw hb); have n1_ := Aside0.mk (hbox); have n2_ := Aside0.mk ((by rw [hg]; exact (below_size bw) : w.heap.size ≤ gb285)); have n3_ := Aside0.mk ((by rw [hg]; exact (below_size bw) : w.heap.size ≤ gb285)); clear HB; have HB := n0_; have BK285 := n1_; have GW285 := n2_; have GE285 := n3_; clear n0_ n1_ n2_ n3_; clear hb hbox hg; have hcz20_0 : w19.cell? ⟨gb285, 0, none⟩ = some (.string a0_0) := (blk_cell BK285.out 0).trans rfl; have hcz20_1 : w19.cell? ⟨gb285, 1, none⟩ = some (.string a0_1) := (blk_cell BK285.out 1).trans rfl; have hcz20_2 : w19.cell? ⟨gb285, 2, none⟩ = some (.string a0_2) := (blk_cell BK285.out 2).trans rfl; have hcz20_3 : w19.cell? ⟨gb285, 3, none⟩ = some (.int .u64 a0_3) := (blk_cell BK285.out 3).trans rfl; have hcz20_4 : w19.cell? ⟨gb285, 4, none⟩ = some (.int .i64 a0_4) := (blk_cell BK285.out 4).trans rfl; have hcz20_5 : w19.cell? ⟨gb285, 5, none⟩ = some (.string a0_5) := (blk_cell BK285.out 5).trans rfl; have hfz20_0 := blk_frozen BK285.out 0; have hfz20_1 := blk_frozen BK285.out 1; have hfz20_2 := blk_frozen BK285.out 2; have hfz20_3 := blk_frozen BK285.out 3; have hfz20_4 := blk_frozen BK285.out 4; have hfz20_5 := blk_frozen BK285.out 5))
       go_ret
       exact ⟨by first | rfl | (simp [errW_none, errW_some] <;> rfl) | (simp [*, errW_none, errW_some] <;> rfl), bw⟩
     ·rw [if_neg c6] at H
      have c6b0 : decide ((a0_2.size : Int) ≤ 64) = false := decide_eq_false c6
      have c6b1 : decide (a0_2.size ≤ 64) = false := decide_eq_false (by omega)
      clear c6
      obtain rfl := Option.some.inj H
      go_enter Try.func66, Try.ntmps66
      go_wp2_with (first | ((with_reducible refine gate_dst (N := 1) rfl ?_); (try (refine gate_guard (by rfl) ?_; dsimp only)); refine box_event ?hg (N := 1) ?hd (cs := #[.string a0_0, .string a0_1, .string a0_2, .int .u64 a0_3, .int .i64 a0_4, .string a0_5]) (t := 65) ?hr ?_; (case hd => rfl); (case hg => rfl); (case hr => first | (go_simp; done) | (go_simp; rfl)); intro gb285 hg w21 hbox hb; have n0_ := Aside0.mk (below_step bw hb); have n1_ := Aside0.mk (hbox); have n2_ := Aside0.mk ((by rw [hg]; exact (below_size bw) : w.heap.size ≤ gb285)); have n3_ := Aside0.mk ((by rw [hg]; exact (below_size bw) : w.heap.size ≤ gb285)); clear HB; have HB := n0_; have BK285 := n1_; have GW285 := n2_; have GE285 := n3_; clear n0_ n1_ n2_ n3_; clear hb hbox hg; have hcz22_0 : w21.cell? ⟨gb285, 0, none⟩ = some (.string a0_0) := (blk_cell BK285.out 0).trans rfl; have hcz22_1 : w21.cell? ⟨gb285, 1, none⟩ = some (.string a0_1) := (blk_cell BK285.out 1).trans rfl; have hcz22_2 : w21.cell? ⟨gb285, 2, none⟩ = some (.string a0_2) := (blk_cell BK285.out 2).trans rfl; have hcz22_3 : w21.cell? ⟨gb285, 3, none⟩ = some (.int .u64 a0_3) := (blk_cell BK285.out 3).trans rfl; have hcz22_4 : w21.cell? ⟨gb285, 4, none⟩ = some (.int .i64 a0_4) := (blk_cell BK285.out 4).trans rfl; have hcz22_5 : w21.cell? ⟨gb285, 5, none⟩ = some (.string a0_5) := (blk_cell BK285.out 5).trans rfl; have hfz22_0 := blk_frozen BK285.out 0; have hfz22_1 := blk_frozen BK285.out 1; have hfz22_2 := blk_frozen BK285.out 2; have hfz22_3 := blk_frozen BK285.out 3; have hfz22_4 := blk_frozen BK285.out 4; have hfz22_5 := blk_frozen BK285.out 5))
      go_ret
      exact ⟨by first | rfl | (simp [errW_none, errW_some] <;> rfl) | (simp [*, errW_none, errW_some] <;> rfl), bw⟩
    ·rw [if_neg c5] at H
     have c5b0 : decide ((a0_1.size : Int) ≤ 16) = false := decide_eq_false c5
     have c5b1 : decide (a0_1.size ≤ 16) = false := decide_eq_false (by omega)
     clear c5
     obtain rfl := Option.some.inj H
     go_enter Try.func66, Try.ntmps66
     go_wp2_with (first | ((with_reducible refine gate_dst (N := 1) rfl ?_); (try (refine gate_guard (by rfl) ?_; dsimp only)); refine box_event ?hg (N := 1) ?hd (cs := #[.string a0_0, .string a0_1, .string a0_2, .int .u64 a0_3, .int .i64 a0_4, .string a0_5]) (t := 65) ?hr ?_; (case hd => rfl); (case hg => rfl); (case hr => first | (go_simp; done) | (go_simp; rfl)); intro gb285 hg w23 hbox hb; have n0_ := Aside0.mk (below_step bw hb); have n1_ := Aside0.mk (hbox); have n2_ := Aside0.mk ((by rw [hg]; exact (below_size bw) : w.heap.size ≤ gb285)); have n3_ := Aside0.mk ((by rw [hg]; exact (below_size bw) : w.heap.size ≤ gb285)); clear HB; have HB := n0_; have BK285 := n1_; have GW285 := n2_; have GE285 := n3_; clear n0_ n1_ n2_ n3_; clear hb hbox hg; have hcz24_0 : w23.cell? ⟨gb285, 0, none⟩ = some (.string a0_0) := (blk_cell BK285.out 0).trans rfl; have hcz24_1 : w23.cell? ⟨gb285, 1, none⟩ = some (.string a0_1) := (blk_cell BK285.out 1).trans rfl; have hcz24_2 : w23.cell? ⟨gb285, 2, none⟩ = some (.string a0_2) := (blk_cell BK285.out 2).trans rfl; have hcz24_3 : w23.cell? ⟨gb285, 3, none⟩ = some (.int .u64 a0_3) := (blk_cell BK285.out 3).trans rfl; have hcz24_4 : w23.cell? ⟨gb285, 4, none⟩ = some (.int .i64 a0_4) := (blk_cell BK285.out 4).trans rfl; have hcz24_5 : w23.cell? ⟨gb285, 5, none⟩ = some (.string a0_5) := (blk_cell BK285.out 5).trans rfl; have hfz24_0 := blk_frozen BK285.out 0; have hfz24_1 := blk_frozen BK285.out 1; have hfz24_2 := blk_frozen BK285.out 2; have hfz24_3 := blk_frozen BK285.out 3; have hfz24_4 := blk_frozen BK285.out 4; have hfz24_5 := blk_frozen BK285.out 5))
     go_ret
     exact ⟨by first | rfl | (simp [errW_none, errW_some] <;> rfl) | (simp [*, errW_none, errW_some] <;> rfl), bw⟩
   ·rw [if_neg c4] at H
    have c4b0 : decide (1 ≤ (a0_1.size : Int)) = false := decide_eq_false c4
    have c4b1 : decide (1 ≤ a0_1.size) = false := decide_eq_false (by omega)
    clear c4
    obtain rfl := Option.some.inj H
    go_enter Try.func66, Try.ntmps66
    go_wp2_with (first | ((with_reducible refine gate_dst (N := 1) rfl ?_); (try (refine gate_guard (by rfl) ?_; dsimp only)); refine box_event ?hg (N := 1) ?hd (cs := #[.string a0_0, .string a0_1, .string a0_2, .int .u64 a0_3, .int .i64 a0_4, .string a0_5]) (t := 65) ?hr ?_; (case hd => rfl); (case hg => rfl); (case hr => first | (go_simp; done) | (go_simp; rfl)); intro gb285 hg w25 hbox hb; have n0_ := Aside0.mk (below_step bw hb); have n1_ := Aside0.mk (hbox); have n2_ := Aside0.mk ((by rw [hg]; exact (below_size bw) : w.heap.size ≤ gb285)); have n3_ := Aside0.mk ((by rw [hg]; exact (below_size bw) : w.heap.size ≤ gb285)); clear HB; have HB := n0_; have BK285 := n1_; have GW285 := n2_; have GE285 := n3_; clear n0_ n1_ n2_ n3_; clear hb hbox hg; have hcz26_0 : w25.cell? ⟨gb285, 0, none⟩ = some (.string a0_0) := (blk_cell BK285.out 0).trans rfl; have hcz26_1 : w25.cell? ⟨gb285, 1, none⟩ = some (.string a0_1) := (blk_cell BK285.out 1).trans rfl; have hcz26_2 : w25.cell? ⟨gb285, 2, none⟩ = some (.string a0_2) := (blk_cell BK285.out 2).trans rfl; have hcz26_3 : w25.cell? ⟨gb285, 3, none⟩ = some (.int .u64 a0_3) := (blk_cell BK285.out 3).trans rfl; have hcz26_4 : w25.cell? ⟨gb285, 4, none⟩ = some (.int .i64 a0_4) := (blk_cell BK285.out 4).trans rfl; have hcz26_5 : w25.cell? ⟨gb285, 5, none⟩ = some (.string a0_5) := (blk_cell BK285.out 5).trans rfl; have hfz26_0 := blk_frozen BK285.out 0; have hfz26_1 := blk_frozen BK285.out 1; have hfz26_2 := blk_frozen BK285.out 2; have hfz26_3 := blk_frozen BK285.out 3; have hfz26_4 := blk_frozen BK285.out 4; have hfz26_5 := blk_frozen BK285.out 5))
    go_ret
    exact ⟨by first | rfl | (simp [errW_none, errW_some] <;> rfl) | (simp [*, errW_none, errW_some] <;> rfl), bw⟩
  ·rw [if_neg c3] at H
   have c3b0 : decide ((a0_0.size : Int) ≤ 64) = false := decide_eq_false c3
   have c3b1 : decide (a0_0.size ≤ 64) = false := decide_eq_false (by omega)
   clear c3
   obtain rfl := Option.some.inj H
   go_enter Try.func66, Try.ntmps66
   go_wp2_with (first | ((with_reducible refine gate_dst (N := 1) rfl ?_); (try (refine gate_guard (by rfl) ?_; dsimp only)); refine box_event ?hg (N := 1) ?hd (cs := #[.string a0_0, .string a0_1, .string a0_2, .int .u64 a0_3, .int .i64 a0_4, .string a0_5]) (t := 65) ?hr ?_; (case hd => rfl); (case hg => rfl); (case hr => first | (go_simp; done) | (go_simp; rfl)); intro gb285 hg w27 hbox hb; have n0_ := Aside0.mk (below_step bw hb); have n1_ := Aside0.mk (hbox); have n2_ := Aside0.mk ((by rw [hg]; exact (below_size bw) : w.heap.size ≤ gb285)); have n3_ := Aside0.mk ((by rw [hg]; exact (below_size bw) : w.heap.size ≤ gb285)); clear HB; have HB := n0_; have BK285 := n1_; have GW285 := n2_; have GE285 := n3_; clear n0_ n1_ n2_ n3_; clear hb hbox hg; have hcz28_0 : w27.cell? ⟨gb285, 0, none⟩ = some (.string a0_0) := (blk_cell BK285.out 0).trans rfl; have hcz28_1 : w27.cell? ⟨gb285, 1, none⟩ = some (.string a0_1) := (blk_cell BK285.out 1).trans rfl; have hcz28_2 : w27.cell? ⟨gb285, 2, none⟩ = some (.string a0_2) := (blk_cell BK285.out 2).trans rfl; have hcz28_3 : w27.cell? ⟨gb285, 3, none⟩ = some (.int .u64 a0_3) := (blk_cell BK285.out 3).trans rfl; have hcz28_4 : w27.cell? ⟨gb285, 4, none⟩ = some (.int .i64 a0_4) := (blk_cell BK285.out 4).trans rfl; have hcz28_5 : w27.cell? ⟨gb285, 5, none⟩ = some (.string a0_5) := (blk_cell BK285.out 5).trans rfl; have hfz28_0 := blk_frozen BK285.out 0; have hfz28_1 := blk_frozen BK285.out 1; have hfz28_2 := blk_frozen BK285.out 2; have hfz28_3 := blk_frozen BK285.out 3; have hfz28_4 := blk_frozen BK285.out 4; have hfz28_5 := blk_frozen BK285.out 5))
   go_ret
   exact ⟨by first | rfl | (simp [errW_none, errW_some] <;> rfl) | (simp [*, errW_none, errW_some] <;> rfl), bw⟩
 ·rw [if_neg c2] at H
  have c2b0 : decide (1 ≤ (a0_0.size : Int)) = false := decide_eq_false c2
  have c2b1 : decide (1 ≤ a0_0.size) = false := decide_eq_false (by omega)
  clear c2
  obtain rfl := Option.some.inj H
  go_enter Try.func66, Try.ntmps66
  go_wp2_with (first | ((with_reducible refine gate_dst (N := 1) rfl ?_); (try (refine gate_guard (by rfl) ?_; dsimp only)); refine box_event ?hg (N := 1) ?hd (cs := #[.string a0_0, .string a0_1, .string a0_2, .int .u64 a0_3, .int .i64 a0_4, .string a0_5]) (t := 65) ?hr ?_; (case hd => rfl); (case hg => rfl); (case hr => first | (go_simp; done) | (go_simp; rfl)); intro gb285 hg w29 hbox hb; have n0_ := Aside0.mk (below_step bw hb); have n1_ := Aside0.mk (hbox); have n2_ := Aside0.mk ((by rw [hg]; exact (below_size bw) : w.heap.size ≤ gb285)); have n3_ := Aside0.mk ((by rw [hg]; exact (below_size bw) : w.heap.size ≤ gb285)); clear HB; have HB := n0_; have BK285 := n1_; have GW285 := n2_; have GE285 := n3_; clear n0_ n1_ n2_ n3_; clear hb hbox hg; have hcz30_0 : w29.cell? ⟨gb285, 0, none⟩ = some (.string a0_0) := (blk_cell BK285.out 0).trans rfl; have hcz30_1 : w29.cell? ⟨gb285, 1, none⟩ = some (.string a0_1) := (blk_cell BK285.out 1).trans rfl; have hcz30_2 : w29.cell? ⟨gb285, 2, none⟩ = some (.string a0_2) := (blk_cell BK285.out 2).trans rfl; have hcz30_3 : w29.cell? ⟨gb285, 3, none⟩ = some (.int .u64 a0_3) := (blk_cell BK285.out 3).trans rfl; have hcz30_4 : w29.cell? ⟨gb285, 4, none⟩ = some (.int .i64 a0_4) := (blk_cell BK285.out 4).trans rfl; have hcz30_5 : w29.cell? ⟨gb285, 5, none⟩ = some (.string a0_5) := (blk_cell BK285.out 5).trans rfl; have hfz30_0 := blk_frozen BK285.out 0; have hfz30_1 := blk_frozen BK285.out 1; have hfz30_2 := blk_frozen BK285.out 2; have hfz30_3 := blk_frozen BK285.out 3; have hfz30_4 := blk_frozen BK285.out 4; have hfz30_5 := blk_frozen BK285.out 5))
  go_ret
  exact ⟨by first | rfl | (simp [errW_none, errW_some] <;> rfl) | (simp [*, errW_none, errW_some] <;> rfl), bw⟩

end Go.Proofs.Ytjlggfdmfchncaa.Q

namespace Go.Proofs.Ytjlggfdmfchncaa.Q
open Go.RowKit Go.Proofs.YtjlggfdmfchncaaW.PrintWords Go.Proofs.YtjlggfdmfchncaaW.PrintLast Go.Proofs.YtjlggfdmfchncaaW.PrintMore
set_option linter.unusedVariables false
set_option linter.unusedSimpArgs false

/-! ### impl_Entry_column: function 68 -/
def impl_Entry_column.f (a0_0 : ByteArray) (a0_1 : ByteArray) (a0_2 : ByteArray) (a0_3 : Int) (a0_4 : Int) (a0_5 : ByteArray) : Option (ByteArray × ByteArray × ByteArray) := some (a0_0, a0_1, a0_2)
set_option maxHeartbeats 8000000 in
set_option maxRecDepth 100000 in
theorem impl_Entry_column.calls (a0_0 : ByteArray) (a0_1 : ByteArray) (a0_2 : ByteArray) (a0_3 : Int) (a0_4 : Int) (a0_5 : ByteArray) (r1 : ByteArray) (r2 : ByteArray) (r3 : ByteArray) (w : World) (h : impl_Entry_column.f a0_0 a0_1 a0_2 a0_3 a0_4 a0_5 = some (r1, r2, r3)) :
  Calls Try.prog 68 #[.agg #[.string a0_0, .string a0_1, .string a0_2, .int .u64 a0_3, .int .i64 a0_4, .string a0_5]] w fun e w' => e = .returned (.agg #[.string r1, .string r2, .string r3]) ∧ Below w.heap.size w w' := by
 have hu65 := Try.underlying65
 have hu95 := Try.underlying95
 have HB := Aside0.mk (Below.refl w.heap.size w)
 have H : (some (a0_0, a0_1, a0_2)) = some (r1, r2, r3) := h
 clear h
 simp only [Option.some.injEq, Prod.mk.injEq] at H
 obtain ⟨rfl, rfl, rfl⟩ := H
 go_enter Try.func68, Try.ntmps68
 go_wp2_with (first | ((with_reducible refine gate_dst (N := 1) rfl ?_); refine box_event ?hg (N := 1) ?hd (cs := #[.string a0_0, .string a0_1, .string a0_2, .int .u64 a0_3, .int .i64 a0_4, .string a0_5]) (t := 65) ?hr ?_; (case hd => rfl); (case hg => rfl); (case hr => first | (go_simp; done) | (go_simp; rfl)); intro gb305 hg w2 hbox hb; have n0_ := Aside0.mk (below_step bw hb); have n1_ := Aside0.mk (hbox); have n2_ := Aside0.mk ((by rw [hg]; exact (below_size bw) : w.heap.size ≤ gb305)); have n3_ := Aside0.mk ((by rw [hg]; exact (below_size bw) : w.heap.size ≤ gb305)); clear HB; have HB := n0_; have BK305 := n1_; have GW305 := n2_; have GE305 := n3_; clear n0_ n1_ n2_ n3_; clear hb hbox hg) | ((with_reducible refine gate_dst (N := 2) rfl ?_); refine box_event ?hg (N := 2) ?hd (cs := #[.string (⟨#[]⟩ : ByteArray), .string (⟨#[]⟩ : ByteArray), .string (⟨#[]⟩ : ByteArray)]) (t := 95) ?hr ?_; (case hd => rfl); (case hg => rfl); (case hr => first | (go_simp; done) | (go_simp; rfl)); intro gb306 hg w3 hbox hb; have n0_ := Aside0.mk (blk_below (g := gb305) (o := .cells #[.string a0_0, .string a0_1, .string a0_2, .int .u64 a0_3, .int .i64 a0_4, .string a0_5] 65 (0, 0)) (lb BK305) hb); have n1_ := Aside0.mk (below_step bw hb); have n2_ := Aside0.mk (hbox); have n3_ := Aside0.mk ((by rw [hg]; exact (below_size bw) : w.heap.size ≤ gb306)); have n4_ := Aside0.mk ((by rw [hg]; exact (below_size bw) : w.heap.size ≤ gb306)); have n5_ := Aside0.mk ((by rw [hg]; exact Nat.ne_of_lt (blk_lt (g := gb305) (o := .cells #[.string a0_0, .string a0_1, .string a0_2, .int .u64 a0_3, .int .i64 a0_4, .string a0_5] 65 (0, 0)) (lb BK305)) : gb305 ≠ gb306)); have n6_ := Aside0.mk ((by rw [hg]; exact Nat.ne_of_gt (blk_lt (g := gb305) (o := .cells #[.string a0_0, .string a0_1, .string a0_2, .int .u64 a0_3, .int .i64 a0_4, .string a0_5] 65 (0, 0)) (lb BK305)) : gb306 ≠ gb305)); clear BK305; clear HB; have BK305 := n0_; have HB := n1_; have BK306 := n2_; have GW306 := n3_; have GE306 := n4_; have NB305_306 := n5_; have NB306_305 := n6_; clear n0_ n1_ n2_ n3_ n4_ n5_ n6_; clear hb hbox hg; have hnb4 := NB305_306.out; have hnc4 := NB306_305.out; have hcz5_0 : w3.cell? ⟨gb305, 0, none⟩ = some (.string a0_0) := (blk_cell BK305.out 0).trans rfl; have hcz5_1 : w3.cell? ⟨gb305, 1, none⟩ = some (.string a0_1) := (blk_cell BK305.out 1).trans rfl; have hcz5_2 : w3.cell? ⟨gb305, 2, none⟩ = some (.string a0_2) := (blk_cell BK305.out 2).trans rfl; have hcz5_3 : w3.cell? ⟨gb305, 3, none⟩ = some (.int .u64 a0_3) := (blk_cell BK305.out 3).trans rfl; have hcz5_4 : w3.cell? ⟨gb305, 4, none⟩ = some (.int .i64 a0_4) := (blk_cell BK305.out 4).trans rfl; have hcz5_5 : w3.cell? ⟨gb305, 5, none⟩ = some (.string a0_5) := (blk_cell BK305.out 5).trans rfl; have hfz5_0 := blk_frozen BK305.out 0; have hfz5_1 := blk_frozen BK305.out 1; have hfz5_2 := blk_frozen BK305.out 2; have hfz5_3 := blk_frozen BK305.out 3; have hfz5_4 := blk_frozen BK305.out 4; have hfz5_5 := blk_frozen BK305.out 5; have hcz6_0 : w3.cell? ⟨gb306, 0, none⟩ = some (.string (⟨#[]⟩ : ByteArray)) := (blk_cell BK306.out 0).trans rfl; have hcz6_1 : w3.cell? ⟨gb306, 1, none⟩ = some (.string (⟨#[]⟩ : ByteArray)) := (blk_cell BK306.out 1).trans rfl; have hcz6_2 : w3.cell? ⟨gb306, 2, none⟩ = some (.string (⟨#[]⟩ : ByteArray)) := (blk_cell BK306.out 2).trans rfl; have hfz6_0 := blk_frozen BK306.out 0; have hfz6_1 := blk_frozen BK306.out 1; have hfz6_2 := blk_frozen BK306.out 2))
 refine bodyPost_ret (results_cell_row rfl _ _ gb306 95 #[.string a0_0, .string a0_1, .string a0_2] (0, 0) _ rfl (by (with_reducible repeat (first | refine blk_drewN ?_ _ | refine blk_drew ?_ | refine blk_alloc ?_ _)); refine blk_put (cs := #[.string a0_0, .string a0_1, .string (⟨#[]⟩ : ByteArray)]) ?_ 2 _ rfl; (with_reducible repeat (first | refine blk_drewN ?_ _ | refine blk_drew ?_ | refine blk_alloc ?_ _)); refine blk_put (cs := #[.string a0_0, .string (⟨#[]⟩ : ByteArray), .string (⟨#[]⟩ : ByteArray)]) ?_ 1 _ rfl; (with_reducible repeat (first | refine blk_drewN ?_ _ | refine blk_drew ?_ | refine blk_alloc ?_ _)); refine blk_put (cs := #[.string (⟨#[]⟩ : ByteArray), .string (⟨#[]⟩ : ByteArray), .string (⟨#[]⟩ : ByteArray)]) ?_ 0 _ rfl; (with_reducible repeat (first | refine blk_drewN ?_ _ | refine blk_drew ?_ | refine blk_alloc ?_ _)); exact BK306.out) Try.underlying95 rfl (by kernel_rfl)) rfl ?_
 exact ⟨by first | rfl | (simp [errW_none, errW_some] <;> rfl) | (simp [*, errW_none, errW_some] <;> rfl), bw⟩

end Go.Proofs.Ytjlggfdmfchncaa.Q

namespace Go.Proofs.Ytjlggfdmfchncaa.Q
open Go.RowKit Go.Proofs.YtjlggfdmfchncaaW.PrintWords Go.Proofs.YtjlggfdmfchncaaW.PrintLast Go.Proofs.YtjlggfdmfchncaaW.PrintMore
set_option linter.unusedVariables false
set_option linter.unusedSimpArgs false

attribute [local go_sem high] eqA95
/-! ### impl_ValidRun: function 55 -/
mutual
def impl_ValidRun.l0 : Nat → List (S65) → Int → Int → List (S65) → Option (Bool)
  | 0, _, _, _, _ => none
  | k + 1, x11, x12, x13, x308000 => if x13 < x12 then (if 0 ≤ x13 then (if x13 < (x11.length : Int) then ((impl_ValidEntry.f ((rd_T65 x11 x13).f0) ((rd_T65 x11 x13).f1) ((rd_T65 x11 x13).f2) ((rd_T65 x11 x13).f3) ((rd_T65 x11 x13).f4) ((rd_T65 x11 x13).f5)).bind fun t310 => (if t310 = true then (if x13 = 0 then (impl_ValidRun.l0 k x11 x12 (wrap64 (x13 + 1)) x308000) else (if 0 ≤ (wrap64 (x13 - 1)) then (if (wrap64 (x13 - 1)) < (x308000.length : Int) then ((impl_Entry_compare.f k ((rd_T65 x308000 (wrap64 (x13 - 1))).f0) ((rd_T65 x308000 (wrap64 (x13 - 1))).f1) ((rd_T65 x308000 (wrap64 (x13 - 1))).f2) ((rd_T65 x308000 (wrap64 (x13 - 1))).f3) ((rd_T65 x308000 (wrap64 (x13 - 1))).f4) ((rd_T65 x308000 (wrap64 (x13 - 1))).f5) ((rd_T65 x11 x13).f0) ((rd_T65 x11 x13).f1) ((rd_T65 x11 x13).f2) ((rd_T65 x11 x13).f3) ((rd_T65 x11 x13).f4) ((rd_T65 x11 x13).f5)).bind fun t313 => (if t313 ≥ 0 then (impl_ValidRun.j1 k x11 x12 x13 true x308000) else (if ((rd_T65 x308000 (wrap64 (x13 - 1))).f4) = 2 then (if ((rd_T65 x11 x13).f4) = 2 then ((impl_Entry_column.f ((rd_T65 x308000 (wrap64 (x13 - 1))).f0) ((rd_T65 x308000 (wrap64 (x13 - 1))).f1) ((rd_T65 x308000 (wrap64 (x13 - 1))).f2) ((rd_T65 x308000 (wrap64 (x13 - 1))).f3) ((rd_T65 x308000 (wrap64 (x13 - 1))).f4) ((rd_T65 x308000 (wrap64 (x13 - 1))).f5)).bind fun bt314 => ((impl_Entry_column.f ((rd_T65 x11 x13).f0) ((rd_T65 x11 x13).f1) ((rd_T65 x11 x13).f2) ((rd_T65 x11 x13).f3) ((rd_T65 x11 x13).f4) ((rd_T65 x11 x13).f5)).bind fun bt317 => (impl_ValidRun.j1 k x11 x12 x13 (bt314.1.toList == bt317.1.toList && (bt314.2.1.toList == bt317.2.1.toList && (bt314.2.2.toList == bt317.2.2.toList))) x308000))) else (impl_ValidRun.j1 k x11 x12 x13 false x308000)) else (impl_ValidRun.j1 k x11 x12 x13 false x308000)))) else (none)) else (none))) else (some false))) else (none)) else (none)) else (some true)
def impl_ValidRun.j1 : Nat → List (S65) → Int → Int → Bool → List (S65) → Option (Bool)
  | 0, _, _, _, _, _ => none
  | k + 1, x11, x12, x13, x49, x308000 => if x49 = true then (some false) else (impl_ValidRun.l0 k x11 x12 (wrap64 (x13 + 1)) x308000)
end
def impl_ValidRun.f (k : Nat) (l0_0 : List (S65)) : Option (Bool) := if (l0_0.length : Int) > 10000 then (some false) else (impl_ValidRun.l0 k l0_0 (l0_0.length : Int) 0 l0_0)
attribute [local go_sem high] eqA95
set_option maxHeartbeats 8000000 in
set_option maxRecDepth 100000 in
theorem impl_ValidRun.calls (k : Nat) (A0_0 : Option Addr) (c0_0 : Nat) (l0_0 : List (S65)) (r : Bool) (w : World) (hr0_0 : Kd.C k65 w A0_0 l0_0.length l0_0) (hc0_0 : l0_0.length ≤ c0_0) (h : impl_ValidRun.f k l0_0 = some r) :
    Calls Try.prog 55 #[.agg #[.slice A0_0 l0_0.length c0_0]] w fun e w' => e = .returned (.bool r) ∧ Below w.heap.size w w' := by
  have hu66 := Try.underlying60
  have hu35 := Try.underlying65
  have hu113 := Try.underlying95
  unfold impl_ValidRun.f at h
  have hmax := hr0_0.2.1
  have kr : K0 (Below w.heap.size w w) := ⟨Below.refl _ _⟩
  by_cases h1 : (l0_0.length : Int) > 10000
  · rw [if_pos h1] at h
    obtain rfl := Option.some.inj h
    go_enter Try.func55, Try.ntmps55
    go_wp2
    go_ret
    exact ⟨rfl, kk⟩
  rw [if_neg h1] at h
  go_enter Try.func55, Try.ntmps55
  go_wp2
  have hB : Below w.heap.size w (w.alloc (.cells #[.slice A0_0 l0_0.length c0_0] 60)) := kk
  have hrb := Kd.C_alloc hr0_0 (.cells #[.slice A0_0 l0_0.length c0_0] 60)
  have hbx : (w.alloc (.cells #[.slice A0_0 l0_0.length c0_0] 60)).cell? ⟨w.heap.size, 0, none⟩ = some (.slice A0_0 l0_0.length c0_0) := cell_of_row _ w.heap.size 0 _ 60 _ (heap_alloc_new w (.cells #[.slice A0_0 l0_0.length c0_0] 60))
  generalize w.alloc (.cells #[.slice A0_0 l0_0.length c0_0] 60) = wb at *
  have hbx := clk hbx
  go_loopw [13] (fun i W => ∃ j kq : Nat, j ≤ l0_0.length ∧ i = .int .i64 j ∧ impl_ValidRun.l0 kq l0_0 (l0_0.length : Int) j l0_0 = some r ∧ Below wb.heap.size wb W) (fun i _ => l0_0.length - (intOf i).toNat)
  case atStart => exact ⟨0, k, by omega, rfl, h, Below.refl _ _⟩
  case round =>
    clear h
    obtain ⟨j, kq, hj, rfl, ht, hW⟩ := hrel
    have kW : K0 (Below wb.heap.size wb wr) := ⟨hW⟩
    cases kq with
    | zero => simp [impl_ValidRun.l0] at ht
    | succ kq =>
    simp only [impl_ValidRun.l0] at ht
    by_cases hlt : j < l0_0.length
    · rw [if_pos (by omega), if_pos (by omega), if_pos (by omega)] at ht
      obtain ⟨b, hv, ht⟩ := Option.bind_eq_some_iff.mp ht
      obtain ⟨ad, rfl, hx0, hx1, hx2, hx3, hx4, hx5⟩ := at_T65 hrb (j : Int) (by omega) (by omega)
      rw [Int.toNat_natCast] at hx0 hx1 hx2 hx3 hx4 hx5
      replace hx0 := clk hx0
      replace hx1 := clk hx1
      replace hx2 := clk hx2
      replace hx3 := clk hx3
      replace hx4 := clk hx4
      replace hx5 := clk hx5
      have hj1 : j + 1 ≤ l0_0.length := hlt
      have hj2 : l0_0.length - (j + 1) < l0_0.length - j := by omega
      have hj4 : j < 4611686018427387904 := by omega
      go_wp2_with fail
      have hwt : Below wb.heap.size wb (wr.alloc (.cells #[.string (rd_T65 l0_0 (j : Int)).f0, .string (rd_T65 l0_0 (j : Int)).f1, .string (rd_T65 l0_0 (j : Int)).f2, .int .u64 (rd_T65 l0_0 (j : Int)).f3, .int .i64 (rd_T65 l0_0 (j : Int)).f4, .string (rd_T65 l0_0 (j : Int)).f5] 65)) := kk
      have hg0 : (wr.alloc (.cells #[.string (rd_T65 l0_0 (j : Int)).f0, .string (rd_T65 l0_0 (j : Int)).f1, .string (rd_T65 l0_0 (j : Int)).f2, .int .u64 (rd_T65 l0_0 (j : Int)).f3, .int .i64 (rd_T65 l0_0 (j : Int)).f4, .string (rd_T65 l0_0 (j : Int)).f5] 65)).cell? ⟨wr.heap.size, 0, none⟩ = some (.string (rd_T65 l0_0 (j : Int)).f0) := cell_of_row _ wr.heap.size 0 _ 65 _ (heap_alloc_new _ _)
      have hg1 : (wr.alloc (.cells #[.string (rd_T65 l0_0 (j : Int)).f0, .string (rd_T65 l0_0 (j : Int)).f1, .string (rd_T65 l0_0 (j : Int)).f2, .int .u64 (rd_T65 l0_0 (j : Int)).f3, .int .i64 (rd_T65 l0_0 (j : Int)).f4, .string (rd_T65 l0_0 (j : Int)).f5] 65)).cell? ⟨wr.heap.size, 1, none⟩ = some (.string (rd_T65 l0_0 (j : Int)).f1) := cell_of_row _ wr.heap.size 1 _ 65 _ (heap_alloc_new _ _)
      have hg2 : (wr.alloc (.cells #[.string (rd_T65 l0_0 (j : Int)).f0, .string (rd_T65 l0_0 (j : Int)).f1, .string (rd_T65 l0_0 (j : Int)).f2, .int .u64 (rd_T65 l0_0 (j : Int)).f3, .int .i64 (rd_T65 l0_0 (j : Int)).f4, .string (rd_T65 l0_0 (j : Int)).f5] 65)).cell? ⟨wr.heap.size, 2, none⟩ = some (.string (rd_T65 l0_0 (j : Int)).f2) := cell_of_row _ wr.heap.size 2 _ 65 _ (heap_alloc_new _ _)
      have hg3 : (wr.alloc (.cells #[.string (rd_T65 l0_0 (j : Int)).f0, .string (rd_T65 l0_0 (j : Int)).f1, .string (rd_T65 l0_0 (j : Int)).f2, .int .u64 (rd_T65 l0_0 (j : Int)).f3, .int .i64 (rd_T65 l0_0 (j : Int)).f4, .string (rd_T65 l0_0 (j : Int)).f5] 65)).cell? ⟨wr.heap.size, 3, none⟩ = some (.int .u64 (rd_T65 l0_0 (j : Int)).f3) := cell_of_row _ wr.heap.size 3 _ 65 _ (heap_alloc_new _ _)
      have hg4 : (wr.alloc (.cells #[.string (rd_T65 l0_0 (j : Int)).f0, .string (rd_T65 l0_0 (j : Int)).f1, .string (rd_T65 l0_0 (j : Int)).f2, .int .u64 (rd_T65 l0_0 (j : Int)).f3, .int .i64 (rd_T65 l0_0 (j : Int)).f4, .string (rd_T65 l0_0 (j : Int)).f5] 65)).cell? ⟨wr.heap.size, 4, none⟩ = some (.int .i64 (rd_T65 l0_0 (j : Int)).f4) := cell_of_row _ wr.heap.size 4 _ 65 _ (heap_alloc_new _ _)
      have hg5 : (wr.alloc (.cells #[.string (rd_T65 l0_0 (j : Int)).f0, .string (rd_T65 l0_0 (j : Int)).f1, .string (rd_T65 l0_0 (j : Int)).f2, .int .u64 (rd_T65 l0_0 (j : Int)).f3, .int .i64 (rd_T65 l0_0 (j : Int)).f4, .string (rd_T65 l0_0 (j : Int)).f5] 65)).cell? ⟨wr.heap.size, 5, none⟩ = some (.string (rd_T65 l0_0 (j : Int)).f5) := cell_of_row _ wr.heap.size 5 _ 65 _ (heap_alloc_new _ _)
      generalize wr.alloc (.cells #[.string (rd_T65 l0_0 (j : Int)).f0, .string (rd_T65 l0_0 (j : Int)).f1, .string (rd_T65 l0_0 (j : Int)).f2, .int .u64 (rd_T65 l0_0 (j : Int)).f3, .int .i64 (rd_T65 l0_0 (j : Int)).f4, .string (rd_T65 l0_0 (j : Int)).f5] 65) = wt at *
      have hg0 := clk hg0
      have hg1 := clk hg1
      have hg2 := clk hg2
      have hg3 := clk hg3
      have hg4 := clk hg4
      have hg5 := clk hg5
      have kt : K0 (Below wt.heap.size wt wt) := ⟨Below.refl _ _⟩
      have tr : ∀ W [K0 (Below wt.heap.size wt W)], K0 (Below wb.heap.size wb W) := fun W k => ⟨hwt.trans (k.out.mono hwt.size)⟩
      go_at_call 66
      refine (impl_ValidEntry.calls _ _ _ _ _ _ b _ hv).mono ?_
      rintro e w1 ⟨rfl, hb⟩
      have k1 : K0 (Below wt.heap.size wt w1) := ⟨hb⟩
      cases b
      case false =>
        simp only [Bool.false_eq_true, if_false] at ht
        obtain rfl := Option.some.inj ht
        go_wp2
        go_ret
        exact ⟨rfl, hB.trans (Below.mono (tr _).out hB.size)⟩
      simp only [if_true] at ht
      by_cases hj0 : (j : Int) = 0
      · have hwj : wrap64 ((j : Int) + 1) = ((j + 1 : Nat) : Int) := wrap_nat _ hj4
        rw [if_pos hj0, hwj] at ht
        have hj3 : ((j : Int) == 0) = true := beq_iff_eq.mpr hj0
        clear hj0
        go_wp2
        exact ⟨⟨j + 1, kq, hj1, rfl, ht, (tr _).out⟩, hj2⟩
      rw [if_neg hj0] at ht
      have hj3 : ((j : Int) == 0) = false := beq_eq_false_iff_ne.mpr hj0
      obtain ⟨m, hm⟩ : ∃ m : Nat, (j : Int) - 1 = (m : Int) := ⟨j - 1, by omega⟩
      have hm1 : m < l0_0.length := by omega
      have g1 : (0 : Int) ≤ (m : Int) := by omega
      have g2 : (m : Int) < (l0_0.length : Int) := by omega
      have g3 : (m : Int) ≤ 9223372036854775807 := by omega
      obtain ⟨ad', e2, hy0, hy1, hy2, hy3, hy4, hy5⟩ := at_T65 hrb (m : Int) g1 g2
      cases e2
      rw [Int.toNat_natCast] at hy0 hy1 hy2 hy3 hy4 hy5
      replace hy0 := clk hy0
      replace hy1 := clk hy1
      replace hy2 := clk hy2
      replace hy3 := clk hy3
      replace hy4 := clk hy4
      replace hy5 := clk hy5
      have hwm2 : IntKind.i64.wrap ((j : Int) - 1) = (m : Int) := by rw [IntKind.wrap_i64]; omega
      have hwm3 : IntKind.i64.wrap (m : Int) = (m : Int) := by rw [IntKind.wrap_i64]; omega
      have hwm4 : wrap64 (m : Int) = (m : Int) := wrap_id _ (by omega) g3
      have hwm : wrap64 ((j : Int) - 1) = (m : Int) := by rw [hm]; exact hwm4
      rw [hwm, if_pos g1, if_pos g2] at ht
      obtain ⟨t, hc, ht⟩ := Option.bind_eq_some_iff.mp ht
      clear hj0
      go_wp2_with fail
      have hws : Below wt.heap.size wt (w1.alloc (.cells #[.string (rd_T65 l0_0 (m : Int)).f0, .string (rd_T65 l0_0 (m : Int)).f1, .string (rd_T65 l0_0 (m : Int)).f2, .int .u64 (rd_T65 l0_0 (m : Int)).f3, .int .i64 (rd_T65 l0_0 (m : Int)).f4, .string (rd_T65 l0_0 (m : Int)).f5] 65)) := kk
      have hp0 : (w1.alloc (.cells #[.string (rd_T65 l0_0 (m : Int)).f0, .string (rd_T65 l0_0 (m : Int)).f1, .string (rd_T65 l0_0 (m : Int)).f2, .int .u64 (rd_T65 l0_0 (m : Int)).f3, .int .i64 (rd_T65 l0_0 (m : Int)).f4, .string (rd_T65 l0_0 (m : Int)).f5] 65)).cell? ⟨w1.heap.size, 0, none⟩ = some (.string (rd_T65 l0_0 (m : Int)).f0) := cell_of_row _ w1.heap.size 0 _ 65 _ (heap_alloc_new _ _)
      have hp1 : (w1.alloc (.cells #[.string (rd_T65 l0_0 (m : Int)).f0, .string (rd_T65 l0_0 (m : Int)).f1, .string (rd_T65 l0_0 (m : Int)).f2, .int .u64 (rd_T65 l0_0 (m : Int)).f3, .int .i64 (rd_T65 l0_0 (m : Int)).f4, .string (rd_T65 l0_0 (m : Int)).f5] 65)).cell? ⟨w1.heap.size, 1, none⟩ = some (.string (rd_T65 l0_0 (m : Int)).f1) := cell_of_row _ w1.heap.size 1 _ 65 _ (heap_alloc_new _ _)
      have hp2 : (w1.alloc (.cells #[.string (rd_T65 l0_0 (m : Int)).f0, .string (rd_T65 l0_0 (m : Int)).f1, .string (rd_T65 l0_0 (m : Int)).f2, .int .u64 (rd_T65 l0_0 (m : Int)).f3, .int .i64 (rd_T65 l0_0 (m : Int)).f4, .string (rd_T65 l0_0 (m : Int)).f5] 65)).cell? ⟨w1.heap.size, 2, none⟩ = some (.string (rd_T65 l0_0 (m : Int)).f2) := cell_of_row _ w1.heap.size 2 _ 65 _ (heap_alloc_new _ _)
      have hp3 : (w1.alloc (.cells #[.string (rd_T65 l0_0 (m : Int)).f0, .string (rd_T65 l0_0 (m : Int)).f1, .string (rd_T65 l0_0 (m : Int)).f2, .int .u64 (rd_T65 l0_0 (m : Int)).f3, .int .i64 (rd_T65 l0_0 (m : Int)).f4, .string (rd_T65 l0_0 (m : Int)).f5] 65)).cell? ⟨w1.heap.size, 3, none⟩ = some (.int .u64 (rd_T65 l0_0 (m : Int)).f3) := cell_of_row _ w1.heap.size 3 _ 65 _ (heap_alloc_new _ _)
      have hp4 : (w1.alloc (.cells #[.string (rd_T65 l0_0 (m : Int)).f0, .string (rd_T65 l0_0 (m : Int)).f1, .string (rd_T65 l0_0 (m : Int)).f2, .int .u64 (rd_T65 l0_0 (m : Int)).f3, .int .i64 (rd_T65 l0_0 (m : Int)).f4, .string (rd_T65 l0_0 (m : Int)).f5] 65)).cell? ⟨w1.heap.size, 4, none⟩ = some (.int .i64 (rd_T65 l0_0 (m : Int)).f4) := cell_of_row _ w1.heap.size 4 _ 65 _ (heap_alloc_new _ _)
      have hp5 : (w1.alloc (.cells #[.string (rd_T65 l0_0 (m : Int)).f0, .string (rd_T65 l0_0 (m : Int)).f1, .string (rd_T65 l0_0 (m : Int)).f2, .int .u64 (rd_T65 l0_0 (m : Int)).f3, .int .i64 (rd_T65 l0_0 (m : Int)).f4, .string (rd_T65 l0_0 (m : Int)).f5] 65)).cell? ⟨w1.heap.size, 5, none⟩ = some (.string (rd_T65 l0_0 (m : Int)).f5) := cell_of_row _ w1.heap.size 5 _ 65 _ (heap_alloc_new _ _)
      generalize w1.alloc (.cells #[.string (rd_T65 l0_0 (m : Int)).f0, .string (rd_T65 l0_0 (m : Int)).f1, .string (rd_T65 l0_0 (m : Int)).f2, .int .u64 (rd_T65 l0_0 (m : Int)).f3, .int .i64 (rd_T65 l0_0 (m : Int)).f4, .string (rd_T65 l0_0 (m : Int)).f5] 65) = ws at *
      have hp0 := clk hp0
      have hp1 := clk hp1
      have hp2 := clk hp2
      have hp3 := clk hp3
      have hp4 := clk hp4
      have hp5 := clk hp5
      have ks : K0 (Below ws.heap.size ws ws) := ⟨Below.refl _ _⟩
      have tr1 : ∀ W [K0 (Below ws.heap.size ws W)], K0 (Below wt.heap.size wt W) := fun W k => ⟨hws.trans (k.out.mono hws.size)⟩
      clear k1
      by_cases c1 : t ≥ 0
      · rw [if_pos c1] at ht
        have d1 : decide ((0 : Int) ≤ t) = true := decide_eq_true c1
        refine sq_region (S := fun W' => K0 (Below ws.heap.size ws W')) [(0, false), (1, false), (2, true), (3, false), (4, false), (5, false), (6, false), (7, false), (8, false), (9, false), (10, false), (11, false), (12, false), (13, false), (14, false), (16, false), (15, true), (17, true), (18, false), (19, false), (20, false)] (by kernel_rfl) (by kernel_rfl) (by exact inferInstance) (fun hS => ?_)
        repeat (first | (refine sq_n ?_ ?_ rfl ?_ ?_ ?_; rotate_left 2; (intro W hW; go_simp; first | done | with_reducible rfl); (simp only [List.setIfInBounds_toArray, List.set_cons_zero, List.set_cons_succ]; try rfl)) | (refine sq_g ?_ ?_ rfl rfl rfl ?_ ?_ ?_; rotate_left 2; (intro W hW; go_simp; first | done | with_reducible rfl); (simp only [List.setIfInBounds_toArray, List.set_cons_zero, List.set_cons_succ]; try rfl)) | (refine sq_f ?_ rfl rfl rfl ?_ ?_; rotate_left; (simp only [List.setIfInBounds_toArray, List.set_cons_zero, List.set_cons_succ]; try rfl)) | (refine sq_u ?_ rfl rfl rfl ?_ ?_; rotate_left; (simp only [List.setIfInBounds_toArray, List.set_cons_zero, List.set_cons_succ]; try rfl)))
        refine sq_1n rfl (fun hS K hK => ?_)
        go_simp
        go_at_call 67
        refine (impl_Entry_compare.calls kq _ _ _ _ _ _ _ _ _ _ _ _ t _ hc).mono ?_
        rintro e w3 ⟨rfl, hb⟩
        have hk := K0.mk (below_step hS.out hb)
        go_wp2_with fail
        refine hK.out _ _ hk (fun hS => ?_)
        repeat (first | (refine sq_n ?_ ?_ rfl ?_ ?_ ?_; rotate_left 2; (intro W hW; go_simp; first | done | with_reducible rfl); (simp only [List.setIfInBounds_toArray, List.set_cons_zero, List.set_cons_succ]; try rfl)) | (refine sq_g ?_ ?_ rfl rfl rfl ?_ ?_ ?_; rotate_left 2; (intro W hW; go_simp; first | done | with_reducible rfl); (simp only [List.setIfInBounds_toArray, List.set_cons_zero, List.set_cons_succ]; try rfl)) | (refine sq_f ?_ rfl rfl rfl ?_ ?_; rotate_left; (simp only [List.setIfInBounds_toArray, List.set_cons_zero, List.set_cons_succ]; try rfl)) | (refine sq_u ?_ rfl rfl rfl ?_ ?_; rotate_left; (simp only [List.setIfInBounds_toArray, List.set_cons_zero, List.set_cons_succ]; try rfl)))
        refine sq_done (fun hS => ?_)
        cases kq with
        | zero => simp [impl_ValidRun.j1] at ht
        | succ kq =>
        simp only [impl_ValidRun.j1, if_true] at ht
        obtain rfl := Option.some.inj ht
        go_wp2
        go_ret
        exact ⟨rfl, hB.trans (Below.mono (@tr _ (tr1 _)).out hB.size)⟩
      rw [if_neg c1] at ht
      have d1 : decide ((0 : Int) ≤ t) = false := decide_eq_false c1
      by_cases c2 : (rd_T65 l0_0 (m : Int)).f4 = 2
      rotate_left
      · rw [if_neg c2] at ht
        have d2 : ((rd_T65 l0_0 (m : Int)).f4 == 2) = false := beq_eq_false_iff_ne.mpr c2
        clear c2
        refine sq_region (S := fun W' => K0 (Below ws.heap.size ws W')) [(0, false), (1, false), (2, true), (3, false), (4, false), (5, false), (6, false), (7, false), (8, false), (9, false), (10, false), (11, false), (12, false), (13, false), (14, false), (16, false), (15, true), (17, true), (18, false), (19, false), (20, false)] (by kernel_rfl) (by kernel_rfl) (by exact inferInstance) (fun hS => ?_)
        repeat (first | (refine sq_n ?_ ?_ rfl ?_ ?_ ?_; rotate_left 2; (intro W hW; go_simp; first | done | with_reducible rfl); (simp only [List.setIfInBounds_toArray, List.set_cons_zero, List.set_cons_succ]; try rfl)) | (refine sq_g ?_ ?_ rfl rfl rfl ?_ ?_ ?_; rotate_left 2; (intro W hW; go_simp; first | done | with_reducible rfl); (simp only [List.setIfInBounds_toArray, List.set_cons_zero, List.set_cons_succ]; try rfl)) | (refine sq_f ?_ rfl rfl rfl ?_ ?_; rotate_left; (simp only [List.setIfInBounds_toArray, List.set_cons_zero, List.set_cons_succ]; try rfl)) | (refine sq_u ?_ rfl rfl rfl ?_ ?_; rotate_left; (simp only [List.setIfInBounds_toArray, List.set_cons_zero, List.set_cons_succ]; try rfl)))
        refine sq_1n rfl (fun hS K hK => ?_)
        go_simp
        go_at_call 67
        refine (impl_Entry_compare.calls kq _ _ _ _ _ _ _ _ _ _ _ _ t _ hc).mono ?_
        rintro e w3 ⟨rfl, hb⟩
        have hk := K0.mk (below_step hS.out hb)
        go_wp2_with fail
        refine hK.out _ _ hk (fun hS => ?_)
        repeat (first | (refine sq_n ?_ ?_ rfl ?_ ?_ ?_; rotate_left 2; (intro W hW; go_simp; first | done | with_reducible rfl); (simp only [List.setIfInBounds_toArray, List.set_cons_zero, List.set_cons_succ]; try rfl)) | (refine sq_g ?_ ?_ rfl rfl rfl ?_ ?_ ?_; rotate_left 2; (intro W hW; go_simp; first | done | with_reducible rfl); (simp only [List.setIfInBounds_toArray, List.set_cons_zero, List.set_cons_succ]; try rfl)) | (refine sq_f ?_ rfl rfl rfl ?_ ?_; rotate_left; (simp only [List.setIfInBounds_toArray, List.set_cons_zero, List.set_cons_succ]; try rfl)) | (refine sq_u ?_ rfl rfl rfl ?_ ?_; rotate_left; (simp only [List.setIfInBounds_toArray, List.set_cons_zero, List.set_cons_succ]; try rfl)))
        refine sq_done (fun hS => ?_)
        cases kq with
        | zero => simp [impl_ValidRun.j1] at ht
        | succ kq =>
        simp only [impl_ValidRun.j1, Bool.false_eq_true, if_false] at ht
        have hwj : wrap64 ((j : Int) + 1) = ((j + 1 : Nat) : Int) := wrap_nat _ hj4
        rw [hwj] at ht
        clear hm hwm hwm2 hwm3 hwm4 hc g1 g2 g3 hm1
        go_wp2
        exact ⟨⟨j + 1, kq, hj1, rfl, ht, (@tr _ (tr1 _)).out⟩, hj2⟩
      rw [if_pos c2] at ht
      have d2 : ((rd_T65 l0_0 (m : Int)).f4 == 2) = true := beq_iff_eq.mpr c2
      by_cases c3 : (rd_T65 l0_0 (j : Int)).f4 = 2
      rotate_left
      · rw [if_neg c3] at ht
        have d3 : ((rd_T65 l0_0 (j : Int)).f4 == 2) = false := beq_eq_false_iff_ne.mpr c3
        clear c2 c3
        refine sq_region (S := fun W' => K0 (Below ws.heap.size ws W')) [(0, false), (1, false), (2, true), (3, false), (4, false), (5, false), (6, false), (7, false), (8, false), (9, false), (10, false), (11, false), (12, false), (13, false), (14, false), (16, false), (15, true), (17, true), (18, false), (19, false), (20, false)] (by kernel_rfl) (by kernel_rfl) (by exact inferInstance) (fun hS => ?_)
        repeat (first | (refine sq_n ?_ ?_ rfl ?_ ?_ ?_; rotate_left 2; (intro W hW; go_simp; first | done | with_reducible rfl); (simp only [List.setIfInBounds_toArray, List.set_cons_zero, List.set_cons_succ]; try rfl)) | (refine sq_g ?_ ?_ rfl rfl rfl ?_ ?_ ?_; rotate_left 2; (intro W hW; go_simp; first | done | with_reducible rfl); (simp only [List.setIfInBounds_toArray, List.set_cons_zero, List.set_cons_succ]; try rfl)) | (refine sq_f ?_ rfl rfl rfl ?_ ?_; rotate_left; (simp only [List.setIfInBounds_toArray, List.set_cons_zero, List.set_cons_succ]; try rfl)) | (refine sq_u ?_ rfl rfl rfl ?_ ?_; rotate_left; (simp only [List.setIfInBounds_toArray, List.set_cons_zero, List.set_cons_succ]; try rfl)))
        refine sq_1n rfl (fun hS K hK => ?_)
        go_simp
        go_at_call 67
        refine (impl_Entry_compare.calls kq _ _ _ _ _ _ _ _ _ _ _ _ t _ hc).mono ?_
        rintro e w3 ⟨rfl, hb⟩
        have hk := K0.mk (below_step hS.out hb)
        go_wp2_with fail
        refine hK.out _ _ hk (fun hS => ?_)
        repeat (first | (refine sq_n ?_ ?_ rfl ?_ ?_ ?_; rotate_left 2; (intro W hW; go_simp; first | done | with_reducible rfl); (simp only [List.setIfInBounds_toArray, List.set_cons_zero, List.set_cons_succ]; try rfl)) | (refine sq_g ?_ ?_ rfl rfl rfl ?_ ?_ ?_; rotate_left 2; (intro W hW; go_simp; first | done | with_reducible rfl); (simp only [List.setIfInBounds_toArray, List.set_cons_zero, List.set_cons_succ]; try rfl)) | (refine sq_f ?_ rfl rfl rfl ?_ ?_; rotate_left; (simp only [List.setIfInBounds_toArray, List.set_cons_zero, List.set_cons_succ]; try rfl)) | (refine sq_u ?_ rfl rfl rfl ?_ ?_; rotate_left; (simp only [List.setIfInBounds_toArray, List.set_cons_zero, List.set_cons_succ]; try rfl)))
        refine sq_done (fun hS => ?_)
        cases kq with
        | zero => simp [impl_ValidRun.j1] at ht
        | succ kq =>
        simp only [impl_ValidRun.j1, Bool.false_eq_true, if_false] at ht
        have hwj : wrap64 ((j : Int) + 1) = ((j + 1 : Nat) : Int) := wrap_nat _ hj4
        rw [hwj] at ht
        clear hm hwm hwm2 hwm3 hwm4 hc g1 g2 g3 hm1
        go_wp2
        exact ⟨⟨j + 1, kq, hj1, rfl, ht, (@tr _ (tr1 _)).out⟩, hj2⟩
      rw [if_pos c3] at ht
      have d3 : ((rd_T65 l0_0 (j : Int)).f4 == 2) = true := beq_iff_eq.mpr c3
      simp only [impl_Entry_column.f, Option.bind_some] at ht
      clear c2 c3
      obtain ⟨x, hx⟩ : ∃ x, x = ((rd_T65 l0_0 (m : Int)).f0.toList == (rd_T65 l0_0 (j : Int)).f0.toList && ((rd_T65 l0_0 (m : Int)).f1.toList == (rd_T65 l0_0 (j : Int)).f1.toList && ((rd_T65 l0_0 (m : Int)).f2.toList == (rd_T65 l0_0 (j : Int)).f2.toList))) := ⟨_, rfl⟩
      rw [← hx] at ht
      replace hx := hx.symm
      refine sq_region (S := fun W' => K0 (Below ws.heap.size ws W')) [(0, false), (1, false), (2, true), (3, false), (4, false), (5, false), (6, false), (7, false), (8, false), (9, false), (10, false), (11, false), (12, false), (13, false), (14, false), (16, false), (15, true), (17, true), (18, false), (19, false), (20, false)] (by kernel_rfl) (by kernel_rfl) (by exact inferInstance) (fun hS => ?_)
      repeat (first | (refine sq_n ?_ ?_ rfl ?_ ?_ ?_; rotate_left 2; (intro W hW; go_simp; first | done | with_reducible rfl); (simp only [List.setIfInBounds_toArray, List.set_cons_zero, List.set_cons_succ]; try rfl)) | (refine sq_g ?_ ?_ rfl rfl rfl ?_ ?_ ?_; rotate_left 2; (intro W hW; go_simp; first | done | with_reducible rfl); (simp only [List.setIfInBounds_toArray, List.set_cons_zero, List.set_cons_succ]; try rfl)) | (refine sq_f ?_ rfl rfl rfl ?_ ?_; rotate_left; (simp only [List.setIfInBounds_toArray, List.set_cons_zero, List.set_cons_succ]; try rfl)) | (refine sq_u ?_ rfl rfl rfl ?_ ?_; rotate_left; (simp only [List.setIfInBounds_toArray, List.set_cons_zero, List.set_cons_succ]; try rfl)))
      refine sq_1n rfl (fun hS K hK => ?_)
      go_simp
      go_at_call 67
      refine (impl_Entry_compare.calls kq _ _ _ _ _ _ _ _ _ _ _ _ t _ hc).mono ?_
      rintro e w3 ⟨rfl, hb⟩
      have hk := K0.mk (below_step hS.out hb)
      go_wp2_with fail
      refine hK.out _ _ hk (fun hS => ?_)
      repeat (first | (refine sq_n ?_ ?_ rfl ?_ ?_ ?_; rotate_left 2; (intro W hW; go_simp; first | done | with_reducible rfl); (simp only [List.setIfInBounds_toArray, List.set_cons_zero, List.set_cons_succ]; try rfl)) | (refine sq_g ?_ ?_ rfl rfl rfl ?_ ?_ ?_; rotate_left 2; (intro W hW; go_simp; first | done | with_reducible rfl); (simp only [List.setIfInBounds_toArray, List.set_cons_zero, List.set_cons_succ]; try rfl)) | (refine sq_f ?_ rfl rfl rfl ?_ ?_; rotate_left; (simp only [List.setIfInBounds_toArray, List.set_cons_zero, List.set_cons_succ]; try rfl)) | (refine sq_u ?_ rfl rfl rfl ?_ ?_; rotate_left; (simp only [List.setIfInBounds_toArray, List.set_cons_zero, List.set_cons_succ]; try rfl)))
      refine sq_1g rfl rfl rfl (fun hS K hK => ?_)
      go_simp
      go_at_call 68
      refine (impl_Entry_column.calls _ _ _ _ _ _ _ _ _ _ rfl).mono ?_
      rintro e w3 ⟨rfl, hb⟩
      have hk := K0.mk (below_step hS.out hb)
      go_wp2_with fail
      refine hK.out _ _ hk (fun hS => ?_)
      repeat (first | (refine sq_n ?_ ?_ rfl ?_ ?_ ?_; rotate_left 2; (intro W hW; go_simp; first | done | with_reducible rfl); (simp only [List.setIfInBounds_toArray, List.set_cons_zero, List.set_cons_succ]; try rfl)) | (refine sq_g ?_ ?_ rfl rfl rfl ?_ ?_ ?_; rotate_left 2; (intro W hW; go_simp; first | done | with_reducible rfl); (simp only [List.setIfInBounds_toArray, List.set_cons_zero, List.set_cons_succ]; try rfl)) | (refine sq_f ?_ rfl rfl rfl ?_ ?_; rotate_left; (simp only [List.setIfInBounds_toArray, List.set_cons_zero, List.set_cons_succ]; try rfl)) | (refine sq_u ?_ rfl rfl rfl ?_ ?_; rotate_left; (simp only [List.setIfInBounds_toArray, List.set_cons_zero, List.set_cons_succ]; try rfl)))
      refine sq_1g rfl rfl rfl (fun hS K hK => ?_)
      go_simp
      go_at_call 68
      refine (impl_Entry_column.calls _ _ _ _ _ _ _ _ _ _ rfl).mono ?_
      rintro e w3 ⟨rfl, hb⟩
      have hk := K0.mk (below_step hS.out hb)
      go_wp2_with fail
      refine hK.out _ _ hk (fun hS => ?_)
      repeat (first | (refine sq_n ?_ ?_ rfl ?_ ?_ ?_; rotate_left 2; (intro W hW; go_simp; first | done | with_reducible rfl); (simp only [List.setIfInBounds_toArray, List.set_cons_zero, List.set_cons_succ]; try rfl)) | (refine sq_g ?_ ?_ rfl rfl rfl ?_ ?_ ?_; rotate_left 2; (intro W hW; go_simp; first | done | with_reducible rfl); (simp only [List.setIfInBounds_toArray, List.set_cons_zero, List.set_cons_succ]; try rfl)) | (refine sq_f ?_ rfl rfl rfl ?_ ?_; rotate_left; (simp only [List.setIfInBounds_toArray, List.set_cons_zero, List.set_cons_succ]; try rfl)) | (refine sq_u ?_ rfl rfl rfl ?_ ?_; rotate_left; (simp only [List.setIfInBounds_toArray, List.set_cons_zero, List.set_cons_succ]; try rfl)))
      cases x
      · refine sq_done (fun hS => ?_)
        cases kq with
        | zero => simp [impl_ValidRun.j1] at ht
        | succ kq =>
        simp only [impl_ValidRun.j1, Bool.false_eq_true, if_false] at ht
        have hwj : wrap64 ((j : Int) + 1) = ((j + 1 : Nat) : Int) := wrap_nat _ hj4
        rw [hwj] at ht
        clear hm hwm hwm2 hwm3 hwm4 hc g1 g2 g3 hm1
        go_wp2
        exact ⟨⟨j + 1, kq, hj1, rfl, ht, (@tr _ (tr1 _)).out⟩, hj2⟩
      refine sq_done (fun hS => ?_)
      cases kq with
      | zero => simp [impl_ValidRun.j1] at ht
      | succ kq =>
      simp only [impl_ValidRun.j1, if_true] at ht
      obtain rfl := Option.some.inj ht
      go_wp2
      go_ret
      exact ⟨rfl, hB.trans (Below.mono (@tr _ (tr1 _)).out hB.size)⟩
    · obtain rfl : j = l0_0.length := by omega
      rw [if_neg (by omega)] at ht
      obtain rfl := Option.some.inj ht
      go_wp2
      go_ret
      exact ⟨rfl, hB.trans (hW.mono hB.size)⟩

end Go.Proofs.Ytjlggfdmfchncaa.Q

namespace Go.Proofs.Ytjlggfdmfchncaa.Q
open Go.RowKit Go.Proofs.YtjlggfdmfchncaaW.PrintWords Go.Proofs.YtjlggfdmfchncaaW.PrintLast
set_option linter.unusedVariables false
set_option linter.unusedSimpArgs false
abbrev LE := S109
abbrev IE := S65
theorem szEntry_is (x : LE) (n : Int) (h0 : 0 ≤ n) (h1 : n ≤ 1048576) (hx : ok109 x) :
    ∃ t, laws_szEntry.f x.f0 x.f1 x.f2 x.f3 x.f4 x.f5 n = some t ∧ (t < 0 ∨ (0 ≤ t ∧ t ≤ n)) := by
  obtain ⟨s0, s1, s2, _, _, s5⟩ := hx
  simp only [maxLen] at s0 s1 s2 s5
  unfold laws_szEntry.f
  rw [wrap_id (n - (x.f0.size : Int)) (by omega) (by omega)]
  split
  · exact ⟨_, rfl, .inl (by omega)⟩
  rw [wrap_id (n - (x.f0.size : Int) - (x.f1.size : Int)) (by omega) (by omega)]
  split
  · exact ⟨_, rfl, .inl (by omega)⟩
  rw [wrap_id (n - (x.f0.size : Int) - (x.f1.size : Int) - (x.f2.size : Int)) (by omega) (by omega)]
  split
  · exact ⟨_, rfl, .inl (by omega)⟩
  rw [wrap_id (n - (x.f0.size : Int) - (x.f1.size : Int) - (x.f2.size : Int) - (x.f5.size : Int)) (by omega) (by omega)]
  split
  · exact ⟨_, rfl, .inl (by omega)⟩
  · exact ⟨_, rfl, .inr ⟨by omega, by omega⟩⟩
theorem szEntryS_loop (xs : List LE) (hb : xs.length < 4611686018427387904) : ∀ (rest pre : List LE) (n : Int), xs = pre ++ rest → (∀ x ∈ rest, ok109 x) → 0 ≤ n → n ≤ 1048576 →
    ∃ t, Ev (fun k => laws_szEntryS.l0 k xs n (pre.length : Int)) t ∧ (t < 0 ∨ (0 ≤ t ∧ t ≤ n)) := by
  intro rest
  induction rest with
  | nil =>
    intro pre n e _ h0 h1
    refine ⟨n, Ev.shift 1 fun k => ?_, .inr ⟨h0, Int.le_refl _⟩⟩
    simp only [laws_szEntryS.l0]; rw [if_neg (by rw [e]; simp)]
  | cons x rest ih =>
    intro pre n e hok h0 h1
    have hlt : pre.length < xs.length := by rw [e]; exact len_cut _ _ _
    have hr : rd_T109 xs (pre.length : Int) = x := by unfold rd_T109; rw [Int.toNat_natCast, e, getD_cut]
    obtain ⟨t, ht, h2⟩ := szEntry_is x n h0 h1 (hok x List.mem_cons_self)
    rcases h2 with h2 | ⟨h2, h3⟩
    · refine ⟨-1, Ev.shift 1 fun k => ?_, .inl (by omega)⟩
      simp only [laws_szEntryS.l0]; rw [if_pos (by omega), if_pos (by omega), hr, ht]; simp only [Option.bind_some]; rw [if_pos h2]
    · obtain ⟨u, hu, h4⟩ := ih (pre ++ [x]) t (by simp [e]) (fun y hy => hok y (List.mem_cons_of_mem _ hy)) h2 (by omega)
      refine ⟨u, Ev.round (fun k => ?_) hu, by omega⟩
      simp only [laws_szEntryS.l0]; rw [if_pos (by omega), if_pos (by omega), hr, ht]; simp only [Option.bind_some]; rw [if_neg (by omega), wrap_nat _ (by omega)]; simp
theorem szEntryS_is (xs : List LE) (n : Int) (hl : xs.length ≤ maxLen) (hok : ∀ x ∈ xs, ok109 x) (h0 : 0 ≤ n) (h1 : n ≤ 1048576) :
    ∃ t, Ev (fun k => laws_szEntryS.f k xs n) t ∧ (t < 0 ∨ (0 ≤ t ∧ t + xs.length ≤ n)) := by
  simp only [maxLen] at hl
  unfold laws_szEntryS.f
  rw [wrap_id _ (by omega) (by omega)]
  by_cases h : n - (xs.length : Int) < 0
  · exact ⟨-1, Ev.if_pos h (Ev.now _), .inl (by omega)⟩
  · obtain ⟨t, ht, h2⟩ := szEntryS_loop xs (by omega) xs [] (n - xs.length) rfl hok (by omega) (by omega)
    exact ⟨t, Ev.if_neg h ht, by omega⟩
def cvE (x : LE) : IE := ⟨x.f0, x.f1, x.f2, x.f3, x.f4, x.f5⟩
theorem toEntryS_loop (xs : List LE) (hb : xs.length < 4611686018427387904) : ∀ (rest pre : List LE), xs = pre ++ rest →
    Ev (fun k => laws_toEntryS.l0 k xs (pre.map cvE ++ List.replicate rest.length z65) (pre.length : Int)) (xs.map cvE) := by
  intro rest
  induction rest with
  | nil =>
    intro pre e
    refine Ev.shift 1 fun k => ?_
    simp only [laws_toEntryS.l0]; rw [if_neg (by rw [e]; simp), e]; simp
  | cons x rest ih =>
    intro pre e
    have hlt : pre.length < xs.length := by rw [e]; exact len_cut _ _ _
    have hr : rd_T109 xs (pre.length : Int) = x := by unfold rd_T109; rw [Int.toNat_natCast, e, getD_cut]
    have h := ih (pre ++ [x]) (by simp [e])
    refine Ev.round (fun k => ?_) h
    simp only [laws_toEntryS.l0]; rw [if_pos (by omega), if_pos (by omega), hr]; simp only [laws_toEntry.f, Option.bind_some]
    rw [if_pos (by simp; omega), wrap_nat _ (by omega), Int.toNat_natCast]
    have hs := set_fill (pre.map cvE) z65 (cvE x) rest.length
    rw [List.length_map] at hs
    rw [List.length_cons]
    have hs' : (pre.map cvE ++ List.replicate (rest.length + 1) z65).set pre.length ⟨x.f0, x.f1, x.f2, x.f3, x.f4, x.f5⟩ = _ := hs
    rw [hs']; simp
theorem toEntryS_is (xs : List LE) (hl : xs.length ≤ 1048576) : Ev (fun k => laws_toEntryS.f k xs) (xs.map cvE) := by
  have h := toEntryS_loop xs (by omega) xs [] rfl
  unfold laws_toEntryS.f
  simp only [Int.toNat_natCast]
  refine Ev.if_pos (by omega) (Ev.if_pos (by omega) ?_)
  simpa using h
theorem eqEntry_refl (x : IE) : laws_eqEntry.f x.f0 x.f1 x.f2 x.f3 x.f4 x.f5 x.f0 x.f1 x.f2 x.f3 x.f4 x.f5 = some true := by simp [laws_eqEntry.f]
theorem eqEntryS_loop (xs : List IE) (hb : xs.length < 4611686018427387904) : ∀ (rest pre : List IE), xs = pre ++ rest → Ev (fun k => laws_eqEntryS.l0 k xs xs (pre.length : Int)) true := by
  intro rest
  induction rest with
  | nil => intro pre e; exact Ev.shift 1 fun k => by simp only [laws_eqEntryS.l0]; rw [if_neg (by rw [e]; simp)]
  | cons x rest ih =>
    intro pre e
    have hlt : pre.length < xs.length := by rw [e]; exact len_cut _ _ _
    have h := ih (pre ++ [x]) (by simp [e])
    refine Ev.round (fun k => ?_) h
    simp only [laws_eqEntryS.l0]; rw [if_pos (by omega), if_pos (by omega), if_pos (by omega), eqEntry_refl]; simp only [Option.bind_some, if_true]; rw [wrap_nat _ (by omega)]; simp
theorem eqEntryS_refl (xs : List IE) (hb : xs.length < 4611686018427387904) : Ev (fun k => laws_eqEntryS.f k xs xs) true :=
  Ev.if_pos rfl (eqEntryS_loop xs hb xs [] rfl)
/-! a valid entry -/
def vent (e : IE) : Bool := decide ((e.f0.size : Int) ≥ 1) && (decide ((e.f0.size : Int) ≤ 64) && (decide ((e.f1.size : Int) ≥ 1) && (decide ((e.f1.size : Int) ≤ 16) && (decide ((e.f2.size : Int) ≤ 64) && (decide ((e.f5.size : Int) ≤ 200) && (decide (e.f4 ≥ 0) && (decide (e.f4 ≤ 2) && (decide (e.f4 = 0) || e.f5.toList == []))))))))
theorem implValidEntry_is (e : IE) : impl_ValidEntry.f e.f0 e.f1 e.f2 e.f3 e.f4 e.f5 = some (vent e) := by
  have st : ∀ (c : Prop) [Decidable c] (a : Option Bool) (b : Bool), a = some b → (if c then a else some false) = some (decide c && b) := fun c _ a b h => by by_cases hc : c <;> simp [hc, h]
  unfold impl_ValidEntry.f vent
  refine st _ _ _ (st _ _ _ (st _ _ _ (st _ _ _ (st _ _ _ (st _ _ _ (st _ _ _ (st _ _ _ ?_)))))))
  by_cases h : e.f4 = 0
  · rw [if_pos h]; simp [h]
  · rw [if_neg h]; simp [h]
theorem specValidEntry_is (e : IE) : spec_ValidEntry.f e.f0 e.f1 e.f2 e.f3 e.f4 e.f5 = some (vent e) := implValidEntry_is e
/-! a valid run -/
def cmpE (a b : IE) : Int := cmpK a.f0 a.f1 a.f2 a.f3 a.f4 b.f0 b.f1 b.f2 b.f3 b.f4
def sameCol (a b : IE) : Bool := a.f0.toList == b.f0.toList && (a.f1.toList == b.f1.toList && a.f2.toList == b.f2.toList)
def nextOk (p e : IE) : Bool := decide (cmpE p e = -1) && !(decide (p.f4 = 2) && decide (e.f4 = 2) && sameCol p e)
def vfrom : IE → List IE → Bool
  | _, [] => true
  | p, e :: es => vent e && nextOk p e && vfrom e es
def vall : List IE → Bool
  | [] => true
  | e :: es => vent e && vfrom e es
def vrun (xs : List IE) : Bool := decide (xs.length ≤ 10000) && vall xs
theorem cmpK_range (r f q : ByteArray) (t k : Int) (r' f' q' : ByteArray) (t' k' : Int) : cmpK r f q t k r' f' q' t' k' = -1 ∨ cmpK r f q t k r' f' q' t' k' = 0 ∨ cmpK r f q t k r' f' q' t' k' = 1 := by
  have hs : ∀ a b, scmp a b = -1 ∨ scmp a b = 0 ∨ scmp a b = 1 := fun a b => by unfold scmp; repeat' (first | split | simp)
  have hk : ∀ a b, kcmp a b = -1 ∨ kcmp a b = 0 ∨ kcmp a b = 1 := fun a b => by unfold kcmp; repeat' (first | split | simp)
  have ht : ∀ a b, tcmp a b = -1 ∨ tcmp a b = 0 ∨ tcmp a b = 1 := fun a b => by unfold tcmp; repeat' (first | split | simp)
  have hf : ∀ a b : Int, (a = -1 ∨ a = 0 ∨ a = 1) → (b = -1 ∨ b = 0 ∨ b = 1) → (fst0 a b = -1 ∨ fst0 a b = 0 ∨ fst0 a b = 1) := fun a b h1 h2 => by unfold fst0; split <;> assumption
  exact hf _ _ (hs _ _) (hf _ _ (hs _ _) (hf _ _ (hs _ _) (hf _ _ (hk _ _) (ht _ _))))
theorem cmpE_range (a b : IE) : cmpE a b = -1 ∨ cmpE a b = 0 ∨ cmpE a b = 1 := cmpK_range ..
theorem sameColumn_is (a b : IE) : spec_l1SameColumn.f a.f0 a.f1 a.f2 a.f3 a.f4 a.f5 b.f0 b.f1 b.f2 b.f3 b.f4 b.f5 = some (sameCol a b) := by
  unfold spec_l1SameColumn.f sameCol
  by_cases h1 : a.f0.toList = b.f0.toList <;> by_cases h2 : a.f1.toList = b.f1.toList <;> simp [h1, h2]
/-- One entry behind another, in the reference's loop. -/
theorem specRun_loop (xs : List IE) (hb : xs.length < 4611686018427387904) : ∀ (rest pre : List IE) (p : IE), xs = pre ++ p :: rest → Ev (fun k => spec_ValidRun.l0 k ((pre.length + 1 : Nat) : Int) xs) (vfrom p rest) := by
  intro rest
  induction rest with
  | nil => intro pre p e; exact Ev.shift 1 fun k => by simp only [spec_ValidRun.l0]; rw [if_neg (by rw [e]; simp)]; rfl
  | cons x rest ih =>
    intro pre p e
    have hlt : pre.length + 1 < xs.length := by rw [e]; simp
    have hr : rd_T65 xs ((pre.length + 1 : Nat) : Int) = x := by
      unfold rd_T65; rw [Int.toNat_natCast, e]; simp
    have hw : wrap64 (((pre.length + 1 : Nat) : Int) - 1) = (pre.length : Int) := by unfold wrap64; omega
    have hp : rd_T65 xs (pre.length : Int) = p := by unfold rd_T65; rw [Int.toNat_natCast, e, getD_cut]
    have h := ih (pre ++ [p]) x (by rw [e]; simp)
    rw [List.length_append, List.length_singleton] at h
    have key : ∀ m, 6 ≤ m → spec_ValidRun.l0 (m + 1 + 1) ((pre.length + 1 : Nat) : Int) xs = if vent x = true then (if cmpE p x = -1 then (if p.f4 = 2 ∧ x.f4 = 2 ∧ sameCol p x = true then some false else spec_ValidRun.l0 m ((pre.length + 1 + 1 : Nat) : Int) xs) else some false) else some false := by
      intro m hm
      have hj : ∀ b, spec_ValidRun.j1 (m + 1) ((pre.length + 1 : Nat) : Int) b xs = if b = true then some false else spec_ValidRun.l0 m ((pre.length + 1 + 1 : Nat) : Int) xs := fun b => by rw [spec_ValidRun.j1, wrap_nat _ (show pre.length + 1 < 4611686018427387904 by omega)]
      rw [spec_ValidRun.l0]
      rw [if_pos (by omega), if_pos (by omega), hr, specValidEntry_is]; simp only [Option.bind_some]
      by_cases hv : vent x = true
      · rw [if_pos hv, if_pos hv, if_pos (by omega), hw, if_pos (by omega), if_pos (by omega), hp, spec_cmp_ge (m + 1) (by omega)]; simp only [Option.bind_some]
        show (if cmpE p x = -1 then _ else _) = _
        by_cases hc : cmpE p x = -1
        · rw [if_pos hc, if_pos hc, sameColumn_is]; simp only [Option.bind_some]
          by_cases h1 : p.f4 = 2 <;> by_cases h2 : x.f4 = 2 <;> by_cases h3 : sameCol p x = true <;> simp only [h1, h2, h3, hj, Option.bind_some, if_true, if_false, and_true, and_false, true_and, false_and, Bool.false_eq_true]
        · rw [if_neg hc, if_neg hc, hj, if_pos rfl]
      · rw [if_neg hv, if_neg hv]
    have hg : Ev (fun k => if vent x = true then (if cmpE p x = -1 then (if p.f4 = 2 ∧ x.f4 = 2 ∧ sameCol p x = true then some false else spec_ValidRun.l0 k ((pre.length + 1 + 1 : Nat) : Int) xs) else some false) else some false) (vfrom p (x :: rest)) := by
      unfold vfrom
      by_cases hv : vent x = true
      · refine Ev.if_pos hv ?_
        by_cases hc : cmpE p x = -1
        · refine Ev.if_pos hc ?_
          by_cases h3 : p.f4 = 2 ∧ x.f4 = 2 ∧ sameCol p x = true
          · refine Ev.if_pos h3 ?_
            have : (vent x && nextOk p x && vfrom x rest) = false := by simp [nextOk, h3.1, h3.2.1, h3.2.2]
            rw [this]; exact Ev.now _
          · refine Ev.if_neg h3 ?_
            have : (vent x && nextOk p x && vfrom x rest) = vfrom x rest := by
              have : nextOk p x = true := by
                simp only [nextOk, hc, decide_true, Bool.true_and, Bool.not_eq_true', Bool.and_eq_false_iff, decide_eq_false_iff_not]
                by_cases h1 : p.f4 = 2 <;> by_cases h2 : x.f4 = 2 <;> simp_all
              simp [hv, this]
            rw [this]; exact h
        · refine Ev.if_neg hc ?_
          have : (vent x && nextOk p x && vfrom x rest) = false := by simp [nextOk, hc]
          rw [this]; exact Ev.now _
      · refine Ev.if_neg hv ?_
        have : (vent x && nextOk p x && vfrom x rest) = false := by simp [hv]
        rw [this]; exact Ev.now _
    obtain ⟨K, hK⟩ := hg
    refine ⟨K + 8, fun k hk => ?_⟩
    obtain ⟨m, rfl⟩ : ∃ m, k = m + 1 + 1 := ⟨k - 2, by omega⟩
    exact (key m (by omega)).trans (hK m (by omega))
theorem specRun_is (xs : List IE) (hb : xs.length < 4611686018427387904) : Ev (fun k => spec_ValidRun.f k xs) (vrun xs) := by
  unfold spec_ValidRun.f vrun
  by_cases h : (xs.length : Int) > 10000
  · refine Ev.if_pos h ?_
    have : ¬ xs.length ≤ 10000 := by omega
    simp only [this, decide_false, Bool.false_and]; exact Ev.now _
  · refine Ev.if_neg h ?_
    have h' : xs.length ≤ 10000 := by omega
    simp only [h', decide_true, Bool.true_and]
    cases xs with
    | nil => exact Ev.shift 1 fun k => by simp only [spec_ValidRun.l0]; rfl
    | cons x rest =>
      have h2 := specRun_loop (x :: rest) hb rest [] x rfl
      have hr : rd_T65 (x :: rest) 0 = x := rfl
      by_cases hv : vent x = true
      · refine Ev.round (f := fun k => spec_ValidRun.l0 k (([] : List IE).length + 1 : Nat) (x :: rest)) (fun k => ?_) (by simpa [vall, hv] using h2)
        rw [spec_ValidRun.l0, if_pos (by rw [List.length_cons]; omega), if_pos (by omega), hr, specValidEntry_is]; simp only [Option.bind_some]; rw [if_pos hv, if_neg (by omega), show wrap64 (0 + 1) = ((([] : List IE).length + 1 : Nat) : Int) from by unfold wrap64; rfl]
      · refine Ev.shift 1 fun k => ?_
        rw [spec_ValidRun.l0, if_pos (by rw [List.length_cons]; omega), if_pos (by omega), hr, specValidEntry_is]; simp only [Option.bind_some]; rw [if_neg hv]; simp [vall, hv]
/-- The same in the program's. -/
theorem implRun_loop (xs : List IE) (hb : xs.length < 4611686018427387904) : ∀ (rest pre : List IE) (p : IE), xs = pre ++ p :: rest → Ev (fun k => impl_ValidRun.l0 k xs (xs.length : Int) ((pre.length + 1 : Nat) : Int) xs) (vfrom p rest) := by
  intro rest
  induction rest with
  | nil => intro pre p e; exact Ev.shift 1 fun k => by simp only [impl_ValidRun.l0]; rw [if_neg (by rw [e]; simp)]; rfl
  | cons x rest ih =>
    intro pre p e
    have hlt : pre.length + 1 < xs.length := by rw [e]; simp
    have hr : rd_T65 xs ((pre.length + 1 : Nat) : Int) = x := by
      unfold rd_T65; rw [Int.toNat_natCast, e]; simp
    have hw : wrap64 (((pre.length + 1 : Nat) : Int) - 1) = (pre.length : Int) := by unfold wrap64; omega
    have hp : rd_T65 xs (pre.length : Int) = p := by unfold rd_T65; rw [Int.toNat_natCast, e, getD_cut]
    have h := ih (pre ++ [p]) x (by rw [e]; simp)
    rw [List.length_append, List.length_singleton] at h
    have key : ∀ m, 6 ≤ m → impl_ValidRun.l0 (m + 1 + 1) xs (xs.length : Int) ((pre.length + 1 : Nat) : Int) xs = if vent x = true then (if cmpE p x = -1 then (if p.f4 = 2 ∧ x.f4 = 2 ∧ sameCol p x = true then some false else impl_ValidRun.l0 m xs (xs.length : Int) ((pre.length + 1 + 1 : Nat) : Int) xs) else some false) else some false := by
      intro m hm
      have hj : ∀ b, impl_ValidRun.j1 (m + 1) xs (xs.length : Int) ((pre.length + 1 : Nat) : Int) b xs = if b = true then some false else impl_ValidRun.l0 m xs (xs.length : Int) ((pre.length + 1 + 1 : Nat) : Int) xs := fun b => by rw [impl_ValidRun.j1, wrap_nat _ (show pre.length + 1 < 4611686018427387904 by omega)]
      rw [impl_ValidRun.l0]
      rw [if_pos (by omega), if_pos (by omega), if_pos (by omega), hr, implValidEntry_is]; simp only [Option.bind_some]
      by_cases hv : vent x = true
      · rw [if_pos hv, if_pos hv, if_neg (by omega), hw, if_pos (by omega), if_pos (by omega), hp, impl_cmp_ge (m + 1) (by omega)]; simp only [Option.bind_some, impl_Entry_column.f]
        show (if cmpE p x ≥ 0 then _ else _) = _
        by_cases hc : cmpE p x = -1
        · have hs : (p.f0.toList == x.f0.toList && (p.f1.toList == x.f1.toList && p.f2.toList == x.f2.toList)) = sameCol p x := rfl
          rw [if_neg (by omega), if_pos hc, hs]
          by_cases h1 : p.f4 = 2 <;> by_cases h2 : x.f4 = 2 <;> by_cases h3 : sameCol p x = true <;> simp only [h1, h2, h3, hj, if_true, if_false, and_true, and_false, true_and, false_and, Bool.false_eq_true]
        · rw [if_pos (by rcases cmpE_range p x with h | h | h <;> omega), if_neg hc, hj, if_pos rfl]
      · rw [if_neg hv, if_neg hv]
    have hg : Ev (fun k => if vent x = true then (if cmpE p x = -1 then (if p.f4 = 2 ∧ x.f4 = 2 ∧ sameCol p x = true then some false else impl_ValidRun.l0 k xs (xs.length : Int) ((pre.length + 1 + 1 : Nat) : Int) xs) else some false) else some false) (vfrom p (x :: rest)) := by
      unfold vfrom
      by_cases hv : vent x = true
      · refine Ev.if_pos hv ?_
        by_cases hc : cmpE p x = -1
        · refine Ev.if_pos hc ?_
          by_cases h3 : p.f4 = 2 ∧ x.f4 = 2 ∧ sameCol p x = true
          · refine Ev.if_pos h3 ?_
            have : (vent x && nextOk p x && vfrom x rest) = false := by simp [nextOk, h3.1, h3.2.1, h3.2.2]
            rw [this]; exact Ev.now _
          · refine Ev.if_neg h3 ?_
            have : (vent x && nextOk p x && vfrom x rest) = vfrom x rest := by
              have : nextOk p x = true := by
                simp only [nextOk, hc, decide_true, Bool.true_and, Bool.not_eq_true', Bool.and_eq_false_iff, decide_eq_false_iff_not]
                by_cases h1 : p.f4 = 2 <;> by_cases h2 : x.f4 = 2 <;> simp_all
              simp [hv, this]
            rw [this]; exact h
        · refine Ev.if_neg hc ?_
          have : (vent x && nextOk p x && vfrom x rest) = false := by simp [nextOk, hc]
          rw [this]; exact Ev.now _
      · refine Ev.if_neg hv ?_
        have : (vent x && nextOk p x && vfrom x rest) = false := by simp [hv]
        rw [this]; exact Ev.now _
    obtain ⟨K, hK⟩ := hg
    refine ⟨K + 8, fun k hk => ?_⟩
    obtain ⟨m, rfl⟩ : ∃ m, k = m + 1 + 1 := ⟨k - 2, by omega⟩
    exact (key m (by omega)).trans (hK m (by omega))
theorem implRun_is (xs : List IE) (hb : xs.length < 4611686018427387904) : Ev (fun k => impl_ValidRun.f k xs) (vrun xs) := by
  unfold impl_ValidRun.f vrun
  by_cases h : (xs.length : Int) > 10000
  · refine Ev.if_pos h ?_
    have : ¬ xs.length ≤ 10000 := by omega
    simp only [this, decide_false, Bool.false_and]; exact Ev.now _
  · refine Ev.if_neg h ?_
    have h' : xs.length ≤ 10000 := by omega
    simp only [h', decide_true, Bool.true_and]
    cases xs with
    | nil => exact Ev.shift 1 fun k => by simp only [impl_ValidRun.l0]; rfl
    | cons x rest =>
      have h2 := implRun_loop (x :: rest) hb rest [] x rfl
      have hr : rd_T65 (x :: rest) 0 = x := rfl
      by_cases hv : vent x = true
      · refine Ev.round (f := fun k => impl_ValidRun.l0 k (x :: rest) ((x :: rest).length : Int) (([] : List IE).length + 1 : Nat) (x :: rest)) (fun k => ?_) (by simpa [vall, hv] using h2)
        rw [impl_ValidRun.l0, if_pos (by rw [List.length_cons]; omega), if_pos (by omega), if_pos (by rw [List.length_cons]; omega), hr, implValidEntry_is]; simp only [Option.bind_some]; rw [if_pos hv, if_pos trivial, show wrap64 (0 + 1) = ((([] : List IE).length + 1 : Nat) : Int) from by unfold wrap64; rfl]
      · refine Ev.shift 1 fun k => ?_
        rw [impl_ValidRun.l0, if_pos (by rw [List.length_cons]; omega), if_pos (by omega), if_pos (by rw [List.length_cons]; omega), hr, implValidEntry_is]; simp only [Option.bind_some]; rw [if_neg hv]; simp [vall, hv]
end Go.Proofs.Ytjlggfdmfchncaa.Q

namespace Go.Proofs.Ytjlggfdmfchncaa.Q
open Go.RowKit Go.Proofs.YtjlggfdmfchncaaW.PrintWords Go.Proofs.YtjlggfdmfchncaaW.PrintLast
set_option linter.unusedVariables false
set_option linter.unusedSimpArgs false
theorem Ev.of_all {α : Type} {g : Nat → Option α} {r : α} (h : ∀ k, g k = some r) : Ev g r := ⟨0, fun k _ => h k⟩
/-- What is left of the room behind all elements. -/
theorem sz_all {α : Type} (xs : List α) (z : α) (P : α → Prop) (S : Nat → α → Int → Option Int) (L : Nat → Int → Int → Option Int) (hb : xs.length < 4611686018427387904)
    (hL : ∀ k n (i : Nat), i < xs.length → L (k + 1) n i = (S k (xs.getD i z) n).bind fun t => if t < 0 then some (-1) else L k t ((i + 1 : Nat) : Int))
    (hE : ∀ k n, L (k + 1) n (xs.length : Int) = some n)
    (hS : ∀ x ∈ xs, ∀ n : Int, 0 ≤ n → n ≤ 1048576 → ∃ t, Ev (fun k => S k x n) t ∧ (t < 0 ∨ (0 ≤ t ∧ t ≤ n ∧ P x))) :
    ∀ (rest pre : List α) (n : Int), xs = pre ++ rest → 0 ≤ n → n ≤ 1048576 → ∃ t, Ev (fun k => L k n (pre.length : Int)) t ∧ (t < 0 ∨ (0 ≤ t ∧ t ≤ n ∧ ∀ x ∈ rest, P x)) := by
  intro rest
  induction rest with
  | nil => intro pre n e h0 h1; exact ⟨n, Ev.shift 1 fun k => by rw [show pre.length = xs.length by rw [e]; simp, hE], .inr ⟨h0, Int.le_refl _, by simp⟩⟩
  | cons x rest ih =>
    intro pre n e h0 h1
    have hlt : pre.length < xs.length := by rw [e]; exact len_cut _ _ _
    have hr : xs.getD pre.length z = x := by rw [e, getD_cut]
    obtain ⟨t, ht, h2⟩ := hS x (by rw [e]; simp) n h0 h1
    rcases h2 with h2 | ⟨h2, h3, h4⟩
    · exact ⟨-1, Ev.round (f := fun k => (S k x n).bind fun t => if t < 0 then some (-1) else L k t ((pre.length + 1 : Nat) : Int)) (fun k => by rw [hL _ _ _ hlt, hr]) (Ev.bind ht (Ev.if_pos h2 (Ev.now _))), .inl (by omega)⟩
    · obtain ⟨u, hu, h5⟩ := ih (pre ++ [x]) t (by simp [e]) h2 (by omega)
      rw [List.length_append, List.length_singleton] at hu
      refine ⟨u, Ev.round (f := fun k => (S k x n).bind fun t => if t < 0 then some (-1) else L k t ((pre.length + 1 : Nat) : Int)) (fun k => by rw [hL _ _ _ hlt, hr]) (Ev.bind ht (Ev.if_neg (by omega) hu)), ?_⟩
      rcases h5 with h5 | ⟨h5, h6, h7⟩
      · exact .inl h5
      · refine .inr ⟨h5, by omega, fun y hy => ?_⟩
        rcases List.mem_cons.mp hy with rfl | hy
        · exact h4
        · exact h7 y hy
/-- A row that is filled, element by element. -/
theorem to_all {α β γ : Type} (xs : List α) (z : α) (z' : β) (T : Nat → α → Option γ) (mk : γ → β) (g : α → β) (L : Nat → List β → Int → Option (List β)) (hb : xs.length < 4611686018427387904)
    (hL : ∀ k ys (i : Nat), i < xs.length → i < ys.length → L (k + 1) ys i = (T k (xs.getD i z)).bind fun t => L k (ys.set i (mk t)) ((i + 1 : Nat) : Int))
    (hE : ∀ k ys, L (k + 1) ys (xs.length : Int) = some ys)
    (hT : ∀ x ∈ xs, ∃ t, Ev (fun k => T k x) t ∧ mk t = g x) :
    ∀ (rest pre : List α), xs = pre ++ rest → Ev (fun k => L k (pre.map g ++ List.replicate rest.length z') (pre.length : Int)) (xs.map g) := by
  intro rest
  induction rest with
  | nil => intro pre e; exact Ev.shift 1 fun k => by rw [show pre.length = xs.length by rw [e]; simp, hE, e]; simp
  | cons x rest ih =>
    intro pre e
    have hlt : pre.length < xs.length := by rw [e]; exact len_cut _ _ _
    have hr : xs.getD pre.length z = x := by rw [e, getD_cut]
    obtain ⟨t, ht, hg⟩ := hT x (by rw [e]; simp)
    have h := ih (pre ++ [x]) (by simp [e])
    rw [List.length_append, List.length_singleton, List.map_append] at h
    have hs := set_fill (pre.map g) z' (g x) rest.length
    rw [List.length_map] at hs
    refine Ev.round (f := fun k => (T k x).bind fun t => L k ((pre.map g ++ List.replicate (rest.length + 1) z').set pre.length (mk t)) ((pre.length + 1 : Nat) : Int)) (fun k => by rw [List.length_cons, hL _ _ _ hlt (by simp), hr]) (Ev.bind ht ?_)
    rw [hg, hs]
    exact h
/-- All elements of a list pass, and then what follows. -/
theorem all_loop {α : Type} (xs : List α) (z : α) (p : α → Bool) (V : Nat → α → Option Bool) (L : Nat → Int → Option Bool) (F : Nat → Option Bool) (r : Bool) (hb : xs.length < 4611686018427387904)
    (hL : ∀ k (i : Nat), i < xs.length → L (k + 1) i = (V k (xs.getD i z)).bind fun t => if t = true then L k ((i + 1 : Nat) : Int) else some false)
    (hF : ∀ k, L (k + 1) (xs.length : Int) = F k) (hV : ∀ x ∈ xs, Ev (fun k => V k x) (p x)) (hr : Ev F r) :
    ∀ (rest pre : List α), xs = pre ++ rest → Ev (fun k => L k (pre.length : Int)) (rest.all p && r) := by
  intro rest
  induction rest with
  | nil => intro pre e; rw [show pre.length = xs.length by rw [e]; simp]; simpa using Ev.round hF hr
  | cons x rest ih =>
    intro pre e
    have hlt : pre.length < xs.length := by rw [e]; exact len_cut _ _ _
    have hx : xs.getD pre.length z = x := by rw [e, getD_cut]
    have h := ih (pre ++ [x]) (by simp [e])
    rw [List.length_append, List.length_singleton] at h
    refine Ev.round (f := fun k => (V k x).bind fun t => if t = true then L k ((pre.length + 1 : Nat) : Int) else some false) (fun k => by rw [hL _ _ hlt, hx]) (Ev.bind (hV x (by rw [e]; simp)) ?_)
    rw [List.all_cons]
    cases hp : p x with
    | true => exact Ev.if_pos rfl (by simpa using h)
    | false => exact Ev.if_neg (by decide) (Ev.now _)
/-! the order of strings -/
theorem less_irrefl : ∀ a : List UInt8, Op.bytesLess a a = false
  | [] => rfl
  | a :: x => by simp [Op.bytesLess, less_irrefl x]
theorem less_trans : ∀ a b c : List UInt8, Op.bytesLess a b = true → Op.bytesLess b c = true → Op.bytesLess a c = true
  | _, _, [] => by intro _ h; simp [Op.bytesLess] at h
  | _, [], _ :: _ => by intro h _; simp [Op.bytesLess] at h
  | [], _ :: _, _ :: _ => by intro _ _; rfl
  | a :: x, b :: y, c :: z => by
    have ih := less_trans x y z
    simp only [Op.bytesLess, Bool.or_eq_true, Bool.and_eq_true, decide_eq_true_eq, beq_iff_eq]
    rintro (h1 | ⟨rfl, h1⟩) (h2 | ⟨rfl, h2⟩)
    · exact .inl (UInt8.lt_trans h1 h2)
    · exact .inl h1
    · exact .inl h2
    · exact .inr ⟨rfl, ih h1 h2⟩
theorem less_tri : ∀ a b : List UInt8, Op.bytesLess a b = true ∨ a = b ∨ Op.bytesLess b a = true
  | [], [] => .inr (.inl rfl)
  | [], _ :: _ => .inl rfl
  | _ :: _, [] => .inr (.inr rfl)
  | a :: x, b :: y => by
    simp only [Op.bytesLess, Bool.or_eq_true, Bool.and_eq_true, decide_eq_true_eq, beq_iff_eq]
    by_cases h1 : a < b
    · exact .inl (.inl h1)
    · by_cases h2 : b < a
      · exact .inr (.inr (.inl h2))
      · have h3 : a = b := UInt8.le_antisymm (UInt8.not_lt.1 h2) (UInt8.not_lt.1 h1)
        subst h3
        rcases less_tri x y with h | rfl | h
        · exact .inl (.inr ⟨rfl, h⟩)
        · exact .inr (.inl rfl)
        · exact .inr (.inr (.inr ⟨rfl, h⟩))
/-- a ≤ b and b < c -/
theorem le_less {a b c : List UInt8} (h : Op.bytesLess b a = false) (k : Op.bytesLess b c = true) : Op.bytesLess a c = true := by
  rcases less_tri a b with h1 | rfl | h1
  · exact less_trans _ _ _ h1 k
  · exact k
  · rw [h] at h1; cases h1
theorem less_le {a b c : List UInt8} (h : Op.bytesLess a b = true) (k : Op.bytesLess c b = false) : Op.bytesLess a c = true := by
  rcases less_tri b c with h1 | rfl | h1
  · exact less_trans _ _ _ h h1
  · exact h
  · rw [k] at h1; cases h1
theorem le_trans' {a b c : List UInt8} (h : Op.bytesLess b a = false) (k : Op.bytesLess c b = false) : Op.bytesLess c a = false := by
  cases e : Op.bytesLess c a with
  | false => rfl
  | true => have := less_le e h; rw [k] at this; cases this
theorem less_asymm {a b : List UInt8} (h : Op.bytesLess a b = true) : Op.bytesLess b a = false := by
  cases e : Op.bytesLess b a with
  | false => rfl
  | true => have := less_trans _ _ _ h e; rw [less_irrefl] at this; cases this
/-! ranges of rows -/
def inR (lo : ByteArray) (has : Bool) (hi : ByteArray) (row : ByteArray) : Bool := !(Op.bytesLess row.toList lo.toList) && (!has || Op.bytesLess row.toList hi.toList)
end Go.Proofs.Ytjlggfdmfchncaa.Q

namespace Go.Proofs.Ytjlggfdmfchncaa.Q
open Go.RowKit Go.Proofs.YtjlggfdmfchncaaW.PrintWords Go.Proofs.YtjlggfdmfchncaaW.PrintLast Go.Proofs.YtjlggfdmfchncaaW.PrintMore
set_option linter.unusedVariables false
set_option linter.unusedSimpArgs false

/-! ### laws_szRunS: function 51 -/
def laws_szRunS.l0 : Nat → List (S88) → Int → Int → Option (Int)
 | 0, _, _, _ => none
 | k + 1, x0, x1, x5 => if x5 < (x0.length : Int) then (if 0 ≤ x5 then ((laws_szRun.f k ((rd_T88 x0 x5).f0) x1).bind fun t107 => (if t107 < 0 then (some (-1)) else (laws_szRunS.l0 k x0 t107 (wrap64 (x5 + 1))))) else (none)) else (some x1)
def laws_szRunS.f (k : Nat) (l0 : List (S88)) (a1 : Int) : Option (Int) := if (wrap64 (a1 - (l0.length : Int))) < 0 then (some (-1)) else (laws_szRunS.l0 k l0 (wrap64 (a1 - (l0.length : Int))) 0)
set_option maxHeartbeats 8000000 in
set_option maxRecDepth 100000 in
theorem laws_szRunS.calls (k : Nat) (A0 : Option Addr) (c0 : Nat) (l0 : List (S88)) (a1 : Int) (r : Int) (w : World) (hr0 : Kd.C k88 w A0 l0.length l0) (hc0 : l0.length ≤ c0) (h : laws_szRunS.f k l0 a1 = some r) :
  Calls Try.prog 51 #[.slice A0 l0.length c0, .int .i64 a1] w fun e w' => e = .returned (.int .i64 r) ∧ Below w.heap.size w w' := by
 have hu88 := Try.underlying88
 have HR0 := Aside0.mk hr0
 have HC0 := Aside0.mk hc0
 clear hr0 hc0
 have HB := Aside0.mk (Below.refl w.heap.size w)
 have H : (if (wrap64 (a1 - (l0.length : Int))) < 0 then (some (-1)) else (laws_szRunS.l0 k l0 (wrap64 (a1 - (l0.length : Int))) 0)) = some r := h
 clear h
 by_cases c3 : (wrap64 (a1 - (l0.length : Int))) < 0
 ·rw [if_pos c3] at H
  have c3b0 : decide ((wrap64 (a1 - (l0.length : Int))) < 0) = true := decide_eq_true c3
  clear c3
  obtain rfl := Option.some.inj H
  go_enter Try.func51, Try.ntmps51
  go_wp2
  go_ret
  exact ⟨by first | rfl | (simp [errW_none, errW_some] <;> rfl) | (simp [*, errW_none, errW_some] <;> rfl), bw⟩
 ·rw [if_neg c3] at H
  have c3b0 : decide ((wrap64 (a1 - (l0.length : Int))) < 0) = false := decide_eq_false c3
  clear c3
  have H' := Aside0.mk H
  clear H
  go_enter Try.func51, Try.ntmps51
  go_wp2
  go_loopg [1, 5] k (fun kq v1 v5 w' => ∃ (x1_1 : Int) (x5_1 : Int), v1 = .int .i64 x1_1 ∧ v5 = .int .i64 x5_1 ∧ Aside0 (laws_szRunS.l0 kq l0 x1_1 x5_1 = some r) ∧ Aside0 (kq ≤ k) ∧ Aside0 (Below w.heap.size w w'))
  case atStart => exact ⟨(wrap64 (a1 - (l0.length : Int))), (0), (by first | rfl | (simp; done) | (simp [*]; done)), (by first | rfl | (simp; done) | (simp [*]; done)), H', ⟨Nat.le_refl _⟩, ⟨bw⟩⟩
  case round =>
   clear H'
   try clear p2
   try clear c3
   try clear c3b0
   obtain ⟨x1_1, x5_1, rfl, rfl, HA, HK1, HB⟩ := hrel
   cases gk with
   | zero => exact absurd HA.out (by simp [laws_szRunS.l0])
   | succ k1 =>
    have H := HA.out
    clear HA
    simp only [laws_szRunS.l0] at H
    by_cases c4 : x5_1 < (l0.length : Int)
    ·rw [if_pos c4] at H
     have c4b0 : decide (x5_1 < (l0.length : Int)) = true := decide_eq_true c4
     clear c4
     by_cases c5 : 0 ≤ x5_1
     ·rw [if_pos c5] at H
      have c5b0 : decide (0 ≤ x5_1) = true := decide_eq_true c5
      clear c5
      replace H := Option.bind_eq_some_iff.mp H
      obtain ⟨t107, A60, H⟩ := H
      replace H : (if t107 < 0 then (some (-1)) else (laws_szRunS.l0 k1 l0 t107 (wrap64 (x5_1 + 1)))) = some r := H
      have A6 := Aside0.mk A60
      clear A60
      by_cases c7 : t107 < 0
      ·rw [if_pos c7] at H
       have c7b0 : decide (t107 < 0) = true := decide_eq_true c7
       clear c7
       obtain rfl := Option.some.inj H
       have p106 : 0 ≤ (x5_1 : Int) := of_decide_eq_true (by first | (with_reducible assumption) | assumption)
       have q106 : x5_1 < (l0.length : Int) := of_decide_eq_true (by first | (with_reducible assumption) | assumption)
       obtain ⟨ad106, A106_0, c106_0, e106, hx106_0, hl106_0, hi106_0⟩ := at_T88 HR0.out x5_1 p106 q106
       cases e106
       replace hx106_0 := (HB.out.cell (World.block_lt_of_cell? w _ hx106_0)).trans hx106_0
       have HR106_0 := Aside0.mk hi106_0
       have HC106_0 := Aside0.mk hl106_0
       clear hi106_0 hl106_0
       replace p106 := eq_true p106
       replace q106 := eq_true q106
       go_wp2_with (first | ((with_reducible refine at_fn (f := 61) rfl ?_); refine goesL_ (some 23) rfl rfl Try.func61 (by kernel_rfl) rfl #[.agg #[.slice A106_0 ((rd_T88 l0 x5_1).f0).length c106_0], .int .i64 x1_1] rfl (by (try simp only [List.map_toArray, List.map_cons, List.map_nil]); first | done | rfl | (simp only [List.length_drop, List.length_take]; rfl)) ?_; (with_reducible refine (laws_szRun.calls k1 _ _ ((rd_T88 l0 x5_1).f0) x1_1 t107 _ ?side1 ?side2 A6.out).mono ?_); (case side1 => repeat (first | exact (Kd.C_below HR106_0.out HB.out) | (with_reducible refine Kd.C_alloc ?_ _) | (with_reducible refine Kd.C_drewN ?_ _) | (with_reducible refine Kd.C_drew ?_))); (case side2 => exact HC106_0.out); rintro e w8 ⟨rfl, hb⟩; refine ⟨_, rfl, ?_⟩; have n0_ := Aside0.mk (below_step bw hb); clear HB; have HB := n0_; clear n0_; (try clear hb); (try clear hb2); (try clear hk); (try clear hi)))
       go_ret
       exact ⟨by first | rfl | (simp [errW_none, errW_some] <;> rfl) | (simp [*, errW_none, errW_some] <;> rfl), bw⟩
      ·rw [if_neg c7] at H
       have c7b0 : decide (t107 < 0) = false := decide_eq_false c7
       clear c7
       have H' := Aside0.mk H
       clear H
       have p106 : 0 ≤ (x5_1 : Int) := of_decide_eq_true (by first | (with_reducible assumption) | assumption)
       have q106 : x5_1 < (l0.length : Int) := of_decide_eq_true (by first | (with_reducible assumption) | assumption)
       obtain ⟨ad106, A106_0, c106_0, e106, hx106_0, hl106_0, hi106_0⟩ := at_T88 HR0.out x5_1 p106 q106
       cases e106
       replace hx106_0 := (HB.out.cell (World.block_lt_of_cell? w _ hx106_0)).trans hx106_0
       have HR106_0 := Aside0.mk hi106_0
       have HC106_0 := Aside0.mk hl106_0
       clear hi106_0 hl106_0
       replace p106 := eq_true p106
       replace q106 := eq_true q106
       go_wp2_with (first | ((with_reducible refine at_fn (f := 61) rfl ?_); refine goesL_ (some 23) rfl rfl Try.func61 (by kernel_rfl) rfl #[.agg #[.slice A106_0 ((rd_T88 l0 x5_1).f0).length c106_0], .int .i64 x1_1] rfl (by (try simp only [List.map_toArray, List.map_cons, List.map_nil]); first | done | rfl | (simp only [List.length_drop, List.length_take]; rfl)) ?_; (with_reducible refine (laws_szRun.calls k1 _ _ ((rd_T88 l0 x5_1).f0) x1_1 t107 _ ?side1 ?side2 A6.out).mono ?_); (case side1 => repeat (first | exact (Kd.C_below HR106_0.out HB.out) | (with_reducible refine Kd.C_alloc ?_ _) | (with_reducible refine Kd.C_drewN ?_ _) | (with_reducible refine Kd.C_drew ?_))); (case side2 => exact HC106_0.out); rintro e w9 ⟨rfl, hb⟩; refine ⟨_, rfl, ?_⟩; have n0_ := Aside0.mk (below_step bw hb); clear HB; have HB := n0_; clear n0_; (try clear hb); (try clear hb2); (try clear hk); (try clear hi)))
       go_roundg k1
       case measure => have := HK1.out; omega
       case rel => exact ⟨(t107), (wrap64 (x5_1 + 1)), (by first | rfl | (simp; done) | (simp [*]; done)), (by first | rfl | (simp; done) | (simp [*]; done)), H', ⟨by have := HK1.out; omega⟩, ⟨bw⟩⟩
     ·rw [if_neg c5] at H
      exact absurd H (by simp)
    ·rw [if_neg c4] at H
     have c4b0 : decide (x5_1 < (l0.length : Int)) = false := decide_eq_false c4
     clear c4
     obtain rfl := Option.some.inj H
     go_wp2
     go_ret
     exact ⟨by first | rfl | (simp [errW_none, errW_some] <;> rfl) | (simp [*, errW_none, errW_some] <;> rfl), bw⟩

end Go.Proofs.Ytjlggfdmfchncaa.Q

namespace Go.Proofs.Ytjlggfdmfchncaa.Q
open Go.RowKit Go.Proofs.YtjlggfdmfchncaaW.PrintWords Go.Proofs.YtjlggfdmfchncaaW.PrintLast Go.Proofs.YtjlggfdmfchncaaW.PrintMore
set_option linter.unusedVariables false
set_option linter.unusedSimpArgs false

/-! ### laws_szTablet: function 31 -/
def laws_szTablet.f (k : Nat) (a0_0 : ByteArray) (l0_1 : List (S88)) (a1 : Int) : Option (Int) := if (wrap64 (a1 - (a0_0.size : Int))) < 0 then (some (-1)) else ((laws_szRunS.f k l0_1 (wrap64 (a1 - (a0_0.size : Int)))).bind fun t109 => (if t109 < 0 then (some (-1)) else (some t109)))
set_option maxHeartbeats 8000000 in
set_option maxRecDepth 100000 in
theorem laws_szTablet.calls (k : Nat) (a0_0 : ByteArray) (A0_1 : Option Addr) (c0_1 : Nat) (l0_1 : List (S88)) (a1 : Int) (r : Int) (w : World) (hr0_1 : Kd.C k88 w A0_1 l0_1.length l0_1) (hc0_1 : l0_1.length ≤ c0_1) (h : laws_szTablet.f k a0_0 l0_1 a1 = some r) :
  Calls Try.prog 31 #[.agg #[.string a0_0, .slice A0_1 l0_1.length c0_1], .int .i64 a1] w fun e w' => e = .returned (.int .i64 r) ∧ Below w.heap.size w w' := by
 have hu56 := Try.underlying56
 have HR0_1 := Aside0.mk hr0_1
 have HC0_1 := Aside0.mk hc0_1
 clear hr0_1 hc0_1
 have HB := Aside0.mk (Below.refl w.heap.size w)
 have H : (if (wrap64 (a1 - (a0_0.size : Int))) < 0 then (some (-1)) else ((laws_szRunS.f k l0_1 (wrap64 (a1 - (a0_0.size : Int)))).bind fun t109 => (if t109 < 0 then (some (-1)) else (some t109)))) = some r := h
 clear h
 by_cases c3 : (wrap64 (a1 - (a0_0.size : Int))) < 0
 ·rw [if_pos c3] at H
  have c3b0 : decide ((wrap64 (a1 - (a0_0.size : Int))) < 0) = true := decide_eq_true c3
  clear c3
  obtain rfl := Option.some.inj H
  go_enter Try.func31, Try.ntmps31
  go_wp2_with (first | ((with_reducible refine gate_dst (N := 2) rfl ?_); refine box_event ?hg (N := 2) ?hd (cs := #[.string a0_0, .slice A0_1 l0_1.length c0_1]) (t := 56) ?hr ?_; (case hd => rfl); (case hg => rfl); (case hr => first | (go_simp; done) | (go_simp; rfl)); intro gb108 hg w4 hbox hb; have n0_ := Aside0.mk (below_step bw hb); have n1_ := Aside0.mk (hbox); have n2_ := Aside0.mk ((by rw [hg]; exact (below_size bw) : w.heap.size ≤ gb108)); have n3_ := Aside0.mk ((by rw [hg]; exact (below_size bw) : w.heap.size ≤ gb108)); clear HB; have HB := n0_; have BK108 := n1_; have GW108 := n2_; have GE108 := n3_; clear n0_ n1_ n2_ n3_; clear hb hbox hg; have hcz5_0 : w4.cell? ⟨gb108, 0, none⟩ = some (.string a0_0) := (blk_cell BK108.out 0).trans rfl; have hcz5_1 : w4.cell? ⟨gb108, 1, none⟩ = some (.slice A0_1 l0_1.length c0_1) := (blk_cell BK108.out 1).trans rfl; have hfz5_0 := blk_frozen BK108.out 0; have hfz5_1 := blk_frozen BK108.out 1))
  go_ret
  exact ⟨by first | rfl | (simp [errW_none, errW_some] <;> rfl) | (simp [*, errW_none, errW_some] <;> rfl), bw⟩
 ·rw [if_neg c3] at H
  have c3b0 : decide ((wrap64 (a1 - (a0_0.size : Int))) < 0) = false := decide_eq_false c3
  clear c3
  replace H := Option.bind_eq_some_iff.mp H
  obtain ⟨t109, A60, H⟩ := H
  replace H : (if t109 < 0 then (some (-1)) else (some t109)) = some r := H
  have A6 := Aside0.mk A60
  clear A60
  by_cases c7 : t109 < 0
  ·rw [if_pos c7] at H
   have c7b0 : decide (t109 < 0) = true := decide_eq_true c7
   clear c7
   obtain rfl := Option.some.inj H
   go_enter Try.func31, Try.ntmps31
   go_wp2_with (first | ((with_reducible refine gate_dst (N := 2) rfl ?_); refine box_event ?hg (N := 2) ?hd (cs := #[.string a0_0, .slice A0_1 l0_1.length c0_1]) (t := 56) ?hr ?_; (case hd => rfl); (case hg => rfl); (case hr => first | (go_simp; done) | (go_simp; rfl)); intro gb108 hg w8 hbox hb; have n0_ := Aside0.mk (below_step bw hb); have n1_ := Aside0.mk (hbox); have n2_ := Aside0.mk ((by rw [hg]; exact (below_size bw) : w.heap.size ≤ gb108)); have n3_ := Aside0.mk ((by rw [hg]; exact (below_size bw) : w.heap.size ≤ gb108)); clear HB; have HB := n0_; have BK108 := n1_; have GW108 := n2_; have GE108 := n3_; clear n0_ n1_ n2_ n3_; clear hb hbox hg; have hcz9_0 : w8.cell? ⟨gb108, 0, none⟩ = some (.string a0_0) := (blk_cell BK108.out 0).trans rfl; have hcz9_1 : w8.cell? ⟨gb108, 1, none⟩ = some (.slice A0_1 l0_1.length c0_1) := (blk_cell BK108.out 1).trans rfl; have hfz9_0 := blk_frozen BK108.out 0; have hfz9_1 := blk_frozen BK108.out 1) | ((with_reducible refine at_fn (f := 51) rfl ?_); refine goesL_ (some 15) rfl rfl Try.func51 (by kernel_rfl) rfl #[.slice A0_1 l0_1.length c0_1, .int .i64 (wrap64 (a1 - (a0_0.size : Int)))] rfl (by (try simp only [List.map_toArray, List.map_cons, List.map_nil]); first | done | rfl | (simp only [List.length_drop, List.length_take]; rfl)) ?_; (with_reducible refine (laws_szRunS.calls k _ _ l0_1 (wrap64 (a1 - (a0_0.size : Int))) t109 _ ?side1 ?side2 A6.out).mono ?_); (case side1 => repeat (first | exact (Kd.C_below HR0_1.out HB.out) | (with_reducible refine Kd.C_alloc ?_ _) | (with_reducible refine Kd.C_drewN ?_ _) | (with_reducible refine Kd.C_drew ?_))); (case side2 => exact HC0_1.out); rintro e w10 ⟨rfl, hb⟩; refine ⟨_, rfl, ?_⟩; have n0_ := Aside0.mk (blk_below (g := gb108) (o := .cells #[.string a0_0, .slice A0_1 l0_1.length c0_1] 56 (0, 0)) (lb BK108) hb); have n1_ := Aside0.mk (below_step bw hb); clear BK108; clear HB; have BK108 := n0_; have HB := n1_; clear n0_ n1_; (try clear hb); (try clear hb2); (try clear hk); (try clear hi)))
   go_ret
   exact ⟨by first | rfl | (simp [errW_none, errW_some] <;> rfl) | (simp [*, errW_none, errW_some] <;> rfl), bw⟩
  ·rw [if_neg c7] at H
   have c7b0 : decide (t109 < 0) = false := decide_eq_false c7
   clear c7
   obtain rfl := Option.some.inj H
   go_enter Try.func31, Try.ntmps31
   go_wp2_with (first | ((with_reducible refine gate_dst (N := 2) rfl ?_); refine box_event ?hg (N := 2) ?hd (cs := #[.string a0_0, .slice A0_1 l0_1.length c0_1]) (t := 56) ?hr ?_; (case hd => rfl); (case hg => rfl); (case hr => first | (go_simp; done) | (go_simp; rfl)); intro gb108 hg w11 hbox hb; have n0_ := Aside0.mk (below_step bw hb); have n1_ := Aside0.mk (hbox); have n2_ := Aside0.mk ((by rw [hg]; exact (below_size bw) : w.heap.size ≤ gb108)); have n3_ := Aside0.mk ((by rw [hg]; exact (below_size bw) : w.heap.size ≤ gb108)); clear HB; have HB := n0_; have BK108 := n1_; have GW108 := n2_; have GE108 := n3_; clear n0_ n1_ n2_ n3_; clear hb hbox hg; have hcz12_0 : w11.cell? ⟨gb108, 0, none⟩ = some (.string a0_0) := (blk_cell BK108.out 0).trans rfl; have hcz12_1 : w11.cell? ⟨gb108, 1, none⟩ = some (.slice A0_1 l0_1.length c0_1) := (blk_cell BK108.out 1).trans rfl; have hfz12_0 := blk_frozen BK108.out 0; have hfz12_1 := blk_frozen BK108.out 1) | ((with_reducible refine at_fn (f := 51) rfl ?_); refine goesL_ (some 15) rfl rfl Try.func51 (by kernel_rfl) rfl #[.slice A0_1 l0_1.length c0_1, .int .i64 (wrap64 (a1 - (a0_0.size : Int)))] rfl (by (try simp only [List.map_toArray, List.map_cons, List.map_nil]); first | done | rfl | (simp only [List.length_drop, List.length_take]; rfl)) ?_; (with_reducible refine (laws_szRunS.calls k _ _ l0_1 (wrap64 (a1 - (a0_0.size : Int))) t109 _ ?side1 ?side2 A6.out).mono ?_); (case side1 => repeat (first | exact (Kd.C_below HR0_1.out HB.out) | (with_reducible refine Kd.C_alloc ?_ _) | (with_reducible refine Kd.C_drewN ?_ _) | (with_reducible refine Kd.C_drew ?_))); (case side2 => exact HC0_1.out); rintro e w13 ⟨rfl, hb⟩; refine ⟨_, rfl, ?_⟩; have n0_ := Aside0.mk (blk_below (g := gb108) (o := .cells #[.string a0_0, .slice A0_1 l0_1.length c0_1] 56 (0, 0)) (lb BK108) hb); have n1_ := Aside0.mk (below_step bw hb); clear BK108; clear HB; have BK108 := n0_; have HB := n1_; clear n0_ n1_; (try clear hb); (try clear hb2); (try clear hk); (try clear hi)))
   go_ret
   exact ⟨by first | rfl | (simp [errW_none, errW_some] <;> rfl) | (simp [*, errW_none, errW_some] <;> rfl), bw⟩

end Go.Proofs.Ytjlggfdmfchncaa.Q

namespace Go.Proofs.Ytjlggfdmfchncaa.Q
open Go.RowKit Go.Proofs.YtjlggfdmfchncaaW.PrintWords Go.Proofs.YtjlggfdmfchncaaW.PrintLast Go.Proofs.YtjlggfdmfchncaaW.PrintMore
set_option linter.unusedVariables false
set_option linter.unusedSimpArgs false

/-! ### laws_szTabletS: function 14 -/
def laws_szTabletS.l0 : Nat → List (S56) → Int → Int → Option (Int)
 | 0, _, _, _ => none
 | k + 1, x0, x1, x5 => if x5 < (x0.length : Int) then (if 0 ≤ x5 then ((laws_szTablet.f k ((rd_T56 x0 x5).f0) ((rd_T56 x0 x5).f1) x1).bind fun t111 => (if t111 < 0 then (some (-1)) else (laws_szTabletS.l0 k x0 t111 (wrap64 (x5 + 1))))) else (none)) else (some x1)
def laws_szTabletS.f (k : Nat) (l0 : List (S56)) (a1 : Int) : Option (Int) := if (wrap64 (a1 - (l0.length : Int))) < 0 then (some (-1)) else (laws_szTabletS.l0 k l0 (wrap64 (a1 - (l0.length : Int))) 0)
set_option maxHeartbeats 8000000 in
set_option maxRecDepth 100000 in
theorem laws_szTabletS.calls (k : Nat) (A0 : Option Addr) (c0 : Nat) (l0 : List (S56)) (a1 : Int) (r : Int) (w : World) (hr0 : Kd.C k56 w A0 l0.length l0) (hc0 : l0.length ≤ c0) (h : laws_szTabletS.f k l0 a1 = some r) :
  Calls Try.prog 14 #[.slice A0 l0.length c0, .int .i64 a1] w fun e w' => e = .returned (.int .i64 r) ∧ Below w.heap.size w w' := by
 have hu56 := Try.underlying56
 have HR0 := Aside0.mk hr0
 have HC0 := Aside0.mk hc0
 clear hr0 hc0
 have HB := Aside0.mk (Below.refl w.heap.size w)
 have H : (if (wrap64 (a1 - (l0.length : Int))) < 0 then (some (-1)) else (laws_szTabletS.l0 k l0 (wrap64 (a1 - (l0.length : Int))) 0)) = some r := h
 clear h
 by_cases c3 : (wrap64 (a1 - (l0.length : Int))) < 0
 ·rw [if_pos c3] at H
  have c3b0 : decide ((wrap64 (a1 - (l0.length : Int))) < 0) = true := decide_eq_true c3
  clear c3
  obtain rfl := Option.some.inj H
  go_enter Try.func14, Try.ntmps14
  go_wp2
  go_ret
  exact ⟨by first | rfl | (simp [errW_none, errW_some] <;> rfl) | (simp [*, errW_none, errW_some] <;> rfl), bw⟩
 ·rw [if_neg c3] at H
  have c3b0 : decide ((wrap64 (a1 - (l0.length : Int))) < 0) = false := decide_eq_false c3
  clear c3
  have H' := Aside0.mk H
  clear H
  go_enter Try.func14, Try.ntmps14
  go_wp2
  go_loopg [1, 5] k (fun kq v1 v5 w' => ∃ (x1_1 : Int) (x5_1 : Int), v1 = .int .i64 x1_1 ∧ v5 = .int .i64 x5_1 ∧ Aside0 (laws_szTabletS.l0 kq l0 x1_1 x5_1 = some r) ∧ Aside0 (kq ≤ k) ∧ Aside0 (Below w.heap.size w w'))
  case atStart => exact ⟨(wrap64 (a1 - (l0.length : Int))), (0), (by first | rfl | (simp; done) | (simp [*]; done)), (by first | rfl | (simp; done) | (simp [*]; done)), H', ⟨Nat.le_refl _⟩, ⟨bw⟩⟩
  case round =>
   clear H'
   try clear c1
   try clear p2
   try clear c3
   try clear c3b0
   obtain ⟨x1_1, x5_1, rfl, rfl, HA, HK1, HB⟩ := hrel
   cases gk with
   | zero => exact absurd HA.out (by simp [laws_szTabletS.l0])
   | succ k1 =>
    have H := HA.out
    clear HA
    simp only [laws_szTabletS.l0] at H
    by_cases c4 : x5_1 < (l0.length : Int)
    ·rw [if_pos c4] at H
     have c4b0 : decide (x5_1 < (l0.length : Int)) = true := decide_eq_true c4
     clear c4
     by_cases c5 : 0 ≤ x5_1
     ·rw [if_pos c5] at H
      have c5b0 : decide (0 ≤ x5_1) = true := decide_eq_true c5
      clear c5
      replace H := Option.bind_eq_some_iff.mp H
      obtain ⟨t111, A60, H⟩ := H
      replace H : (if t111 < 0 then (some (-1)) else (laws_szTabletS.l0 k1 l0 t111 (wrap64 (x5_1 + 1)))) = some r := H
      have A6 := Aside0.mk A60
      clear A60
      by_cases c7 : t111 < 0
      ·rw [if_pos c7] at H
       have c7b0 : decide (t111 < 0) = true := decide_eq_true c7
       clear c7
       obtain rfl := Option.some.inj H
       have p110 : 0 ≤ (x5_1 : Int) := of_decide_eq_true (by first | (with_reducible assumption) | assumption)
       have q110 : x5_1 < (l0.length : Int) := of_decide_eq_true (by first | (with_reducible assumption) | assumption)
       obtain ⟨ad110, A110_1, c110_1, e110, hx110_0, hx110_1, hl110_1, hi110_1⟩ := at_T56 HR0.out x5_1 p110 q110
       cases e110
       replace hx110_0 := (HB.out.cell (World.block_lt_of_cell? w _ hx110_0)).trans hx110_0
       replace hx110_1 := (HB.out.cell (World.block_lt_of_cell? w _ hx110_1)).trans hx110_1
       have HR110_1 := Aside0.mk hi110_1
       have HC110_1 := Aside0.mk hl110_1
       clear hi110_1 hl110_1
       replace p110 := eq_true p110
       replace q110 := eq_true q110
       go_wp2_with (first | ((with_reducible refine at_fn (f := 31) rfl ?_); refine goesL_ (some 23) rfl rfl Try.func31 (by kernel_rfl) rfl #[.agg #[.string ((rd_T56 l0 x5_1).f0), .slice A110_1 ((rd_T56 l0 x5_1).f1).length c110_1], .int .i64 x1_1] rfl (by (try simp only [List.map_toArray, List.map_cons, List.map_nil]); first | done | rfl | (simp only [List.length_drop, List.length_take]; rfl)) ?_; (with_reducible refine (laws_szTablet.calls k1 ((rd_T56 l0 x5_1).f0) _ _ ((rd_T56 l0 x5_1).f1) x1_1 t111 _ ?side1 ?side2 A6.out).mono ?_); (case side1 => repeat (first | exact (Kd.C_below HR110_1.out HB.out) | (with_reducible refine Kd.C_alloc ?_ _) | (with_reducible refine Kd.C_drewN ?_ _) | (with_reducible refine Kd.C_drew ?_))); (case side2 => exact HC110_1.out); rintro e w8 ⟨rfl, hb⟩; refine ⟨_, rfl, ?_⟩; have n0_ := Aside0.mk (below_step bw hb); clear HB; have HB := n0_; clear n0_; (try clear hb); (try clear hb2); (try clear hk); (try clear hi)))
       go_ret
       exact ⟨by first | rfl | (simp [errW_none, errW_some] <;> rfl) | (simp [*, errW_none, errW_some] <;> rfl), bw⟩
      ·rw [if_neg c7] at H
       have c7b0 : decide (t111 < 0) = false := decide_eq_false c7
       clear c7
       have H' := Aside0.mk H
       clear H
       have p110 : 0 ≤ (x5_1 : Int) := of_decide_eq_true (by first | (with_reducible assumption) | assumption)
       have q110 : x5_1 < (l0.length : Int) := of_decide_eq_true (by first | (with_reducible assumption) | assumption)
       obtain ⟨ad110, A110_1, c110_1, e110, hx110_0, hx110_1, hl110_1, hi110_1⟩ := at_T56 HR0.out x5_1 p110 q110
       cases e110
       replace hx110_0 := (HB.out.cell (World.block_lt_of_cell? w _ hx110_0)).trans hx110_0
       replace hx110_1 := (HB.out.cell (World.block_lt_of_cell? w _ hx110_1)).trans hx110_1
       have HR110_1 := Aside0.mk hi110_1
       have HC110_1 := Aside0.mk hl110_1
       clear hi110_1 hl110_1
       replace p110 := eq_true p110
       replace q110 := eq_true q110
       go_wp2_with (first | ((with_reducible refine at_fn (f := 31) rfl ?_); refine goesL_ (some 23) rfl rfl Try.func31 (by kernel_rfl) rfl #[.agg #[.string ((rd_T56 l0 x5_1).f0), .slice A110_1 ((rd_T56 l0 x5_1).f1).length c110_1], .int .i64 x1_1] rfl (by (try simp only [List.map_toArray, List.map_cons, List.map_nil]); first | done | rfl | (simp only [List.length_drop, List.length_take]; rfl)) ?_; (with_reducible refine (laws_szTablet.calls k1 ((rd_T56 l0 x5_1).f0) _ _ ((rd_T56 l0 x5_1).f1) x1_1 t111 _ ?side1 ?side2 A6.out).mono ?_); (case side1 => repeat (first | exact (Kd.C_below HR110_1.out HB.out) | (with_reducible refine Kd.C_alloc ?_ _) | (with_reducible refine Kd.C_drewN ?_ _) | (with_reducible refine Kd.C_drew ?_))); (case side2 => exact HC110_1.out); rintro e w9 ⟨rfl, hb⟩; refine ⟨_, rfl, ?_⟩; have n0_ := Aside0.mk (below_step bw hb); clear HB; have HB := n0_; clear n0_; (try clear hb); (try clear hb2); (try clear hk); (try clear hi)))
       go_roundg k1
       case measure => have := HK1.out; omega
       case rel => exact ⟨(t111), (wrap64 (x5_1 + 1)), (by first | rfl | (simp; done) | (simp [*]; done)), (by first | rfl | (simp; done) | (simp [*]; done)), H', ⟨by have := HK1.out; omega⟩, ⟨bw⟩⟩
     ·rw [if_neg c5] at H
      exact absurd H (by simp)
    ·rw [if_neg c4] at H
     have c4b0 : decide (x5_1 < (l0.length : Int)) = false := decide_eq_false c4
     clear c4
     obtain rfl := Option.some.inj H
     go_wp2
     go_ret
     exact ⟨by first | rfl | (simp [errW_none, errW_some] <;> rfl) | (simp [*, errW_none, errW_some] <;> rfl), bw⟩

end Go.Proofs.Ytjlggfdmfchncaa.Q

namespace Go.Proofs.Ytjlggfdmfchncaa.Q
open Go.RowKit Go.Proofs.YtjlggfdmfchncaaW.PrintWords Go.Proofs.YtjlggfdmfchncaaW.PrintLast Go.Proofs.YtjlggfdmfchncaaW.PrintMore
set_option linter.unusedVariables false
set_option linter.unusedSimpArgs false

/-! ### laws_szStore: function 5 -/
def laws_szStore.f (k : Nat) (l0_0 : List (S56)) (a1 : Int) : Option (Int) := (laws_szTabletS.f k l0_0 a1).bind fun t113 => (if t113 < 0 then (some (-1)) else (some t113))
set_option maxHeartbeats 8000000 in
set_option maxRecDepth 100000 in
theorem laws_szStore.calls (k : Nat) (A0_0 : Option Addr) (c0_0 : Nat) (l0_0 : List (S56)) (a1 : Int) (r : Int) (w : World) (hr0_0 : Kd.C k56 w A0_0 l0_0.length l0_0) (hc0_0 : l0_0.length ≤ c0_0) (h : laws_szStore.f k l0_0 a1 = some r) :
  Calls Try.prog 5 #[.agg #[.slice A0_0 l0_0.length c0_0], .int .i64 a1] w fun e w' => e = .returned (.int .i64 r) ∧ Below w.heap.size w w' := by
 have hu24 := Try.underlying24
 have HR0_0 := Aside0.mk hr0_0
 have HC0_0 := Aside0.mk hc0_0
 clear hr0_0 hc0_0
 have HB := Aside0.mk (Below.refl w.heap.size w)
 have H : ((laws_szTabletS.f k l0_0 a1).bind fun t113 => (if t113 < 0 then (some (-1)) else (some t113))) = some r := h
 clear h
 replace H := Option.bind_eq_some_iff.mp H
 obtain ⟨t113, A30, H⟩ := H
 replace H : (if t113 < 0 then (some (-1)) else (some t113)) = some r := H
 have A3 := Aside0.mk A30
 clear A30
 by_cases c4 : t113 < 0
 ·rw [if_pos c4] at H
  have c4b0 : decide (t113 < 0) = true := decide_eq_true c4
  clear c4
  obtain rfl := Option.some.inj H
  go_enter Try.func5, Try.ntmps5
  go_wp2_with (first | ((with_reducible refine gate_dst (N := 2) rfl ?_); refine box_event ?hg (N := 2) ?hd (cs := #[.slice A0_0 l0_0.length c0_0]) (t := 24) ?hr ?_; (case hd => rfl); (case hg => rfl); (case hr => first | (go_simp; done) | (go_simp; rfl)); intro gb112 hg w5 hbox hb; have n0_ := Aside0.mk (below_step bw hb); have n1_ := Aside0.mk (hbox); have n2_ := Aside0.mk ((by rw [hg]; exact (below_size bw) : w.heap.size ≤ gb112)); have n3_ := Aside0.mk ((by rw [hg]; exact (below_size bw) : w.heap.size ≤ gb112)); clear HB; have HB := n0_; have BK112 := n1_; have GW112 := n2_; have GE112 := n3_; clear n0_ n1_ n2_ n3_; clear hb hbox hg; have hcz6_0 : w5.cell? ⟨gb112, 0, none⟩ = some (.slice A0_0 l0_0.length c0_0) := (blk_cell BK112.out 0).trans rfl; have hfz6_0 := blk_frozen BK112.out 0) | ((with_reducible refine at_fn (f := 14) rfl ?_); refine goesL_ (some 8) rfl rfl Try.func14 (by kernel_rfl) rfl #[.slice A0_0 l0_0.length c0_0, .int .i64 a1] rfl (by (try simp only [List.map_toArray, List.map_cons, List.map_nil]); first | done | rfl | (simp only [List.length_drop, List.length_take]; rfl)) ?_; (with_reducible refine (laws_szTabletS.calls k _ _ l0_0 a1 t113 _ ?side1 ?side2 A3.out).mono ?_); (case side1 => repeat (first | exact (Kd.C_below HR0_0.out HB.out) | (with_reducible refine Kd.C_alloc ?_ _) | (with_reducible refine Kd.C_drewN ?_ _) | (with_reducible refine Kd.C_drew ?_))); (case side2 => exact HC0_0.out); rintro e w7 ⟨rfl, hb⟩; refine ⟨_, rfl, ?_⟩; have n0_ := Aside0.mk (blk_below (g := gb112) (o := .cells #[.slice A0_0 l0_0.length c0_0] 24 (0, 0)) (lb BK112) hb); have n1_ := Aside0.mk (below_step bw hb); clear BK112; clear HB; have BK112 := n0_; have HB := n1_; clear n0_ n1_; (try clear hb); (try clear hb2); (try clear hk); (try clear hi)))
  go_ret
  exact ⟨by first | rfl | (simp [errW_none, errW_some] <;> rfl) | (simp [*, errW_none, errW_some] <;> rfl), bw⟩
 ·rw [if_neg c4] at H
  have c4b0 : decide (t113 < 0) = false := decide_eq_false c4
  clear c4
  obtain rfl := Option.some.inj H
  go_enter Try.func5, Try.ntmps5
  go_wp2_with (first | ((with_reducible refine gate_dst (N := 2) rfl ?_); refine box_event ?hg (N := 2) ?hd (cs := #[.slice A0_0 l0_0.length c0_0]) (t := 24) ?hr ?_; (case hd => rfl); (case hg => rfl); (case hr => first | (go_simp; done) | (go_simp; rfl)); intro gb112 hg w8 hbox hb; have n0_ := Aside0.mk (below_step bw hb); have n1_ := Aside0.mk (hbox); have n2_ := Aside0.mk ((by rw [hg]; exact (below_size bw) : w.heap.size ≤ gb112)); have n3_ := Aside0.mk ((by rw [hg]; exact (below_size bw) : w.heap.size ≤ gb112)); clear HB; have HB := n0_; have BK112 := n1_; have GW112 := n2_; have GE112 := n3_; clear n0_ n1_ n2_ n3_; clear hb hbox hg; have hcz9_0 : w8.cell? ⟨gb112, 0, none⟩ = some (.slice A0_0 l0_0.length c0_0) := (blk_cell BK112.out 0).trans rfl; have hfz9_0 := blk_frozen BK112.out 0) | ((with_reducible refine at_fn (f := 14) rfl ?_); refine goesL_ (some 8) rfl rfl Try.func14 (by kernel_rfl) rfl #[.slice A0_0 l0_0.length c0_0, .int .i64 a1] rfl (by (try simp only [List.map_toArray, List.map_cons, List.map_nil]); first | done | rfl | (simp only [List.length_drop, List.length_take]; rfl)) ?_; (with_reducible refine (laws_szTabletS.calls k _ _ l0_0 a1 t113 _ ?side1 ?side2 A3.out).mono ?_); (case side1 => repeat (first | exact (Kd.C_below HR0_0.out HB.out) | (with_reducible refine Kd.C_alloc ?_ _) | (with_reducible refine Kd.C_drewN ?_ _) | (with_reducible refine Kd.C_drew ?_))); (case side2 => exact HC0_0.out); rintro e w10 ⟨rfl, hb⟩; refine ⟨_, rfl, ?_⟩; have n0_ := Aside0.mk (blk_below (g := gb112) (o := .cells #[.slice A0_0 l0_0.length c0_0] 24 (0, 0)) (lb BK112) hb); have n1_ := Aside0.mk (below_step bw hb); clear BK112; clear HB; have BK112 := n0_; have HB := n1_; clear n0_ n1_; (try clear hb); (try clear hb2); (try clear hk); (try clear hi)))
  go_ret
  exact ⟨by first | rfl | (simp [errW_none, errW_some] <;> rfl) | (simp [*, errW_none, errW_some] <;> rfl), bw⟩

end Go.Proofs.Ytjlggfdmfchncaa.Q

namespace Go.Proofs.Ytjlggfdmfchncaa.Q
open Go.RowKit Go.Proofs.YtjlggfdmfchncaaW.PrintWords Go.Proofs.YtjlggfdmfchncaaW.PrintLast Go.Proofs.YtjlggfdmfchncaaW.PrintMore
set_option linter.unusedVariables false
set_option linter.unusedSimpArgs false

/-! ### laws_toRunS: function 53 -/
def laws_toRunS.l0 : Nat → List (S88) → List (S60) → Int → Option ((List (S60)))
 | 0, _, _, _ => none
 | k + 1, x0, x3, x4 => if x4 < (x0.length : Int) then (if 0 ≤ x4 then ((laws_toRun.f k ((rd_T88 x0 x4).f0)).bind fun t253 => (if x4 < (x3.length : Int) then (laws_toRunS.l0 k x0 (x3.set (x4 : Int).toNat (⟨t253⟩ : S60)) (wrap64 (x4 + 1))) else (none))) else (none)) else (some x3)
def laws_toRunS.f (k : Nat) (l0 : List (S88)) : Option ((List (S60))) := if 0 ≤ (l0.length : Int) then (if ((l0.length : Int) : Int).toNat ≤ 11728124029610 then (laws_toRunS.l0 k l0 (List.replicate ((l0.length : Int) : Int).toNat z60) 0) else (none)) else (none)
set_option maxHeartbeats 8000000 in
set_option maxRecDepth 100000 in
theorem laws_toRunS.calls (k : Nat) (A0 : Option Addr) (c0 : Nat) (l0 : List (S88)) (r : List (S60)) (w : World) (hr0 : Kd.C k88 w A0 l0.length l0) (hc0 : l0.length ≤ c0) (h : laws_toRunS.f k l0 = some r) :
  Calls Try.prog 53 #[.slice A0 l0.length c0] w fun e w' => ∃ v0_ : Value, e = .returned (v0_) ∧ Kd.S k60 60 w' w.heap.size (fun _ => True) v0_ r ∧ Below w.heap.size w w' := by
 have hu88 := Try.underlying88
 have hu60 := Try.underlying60
 have HR0 := Aside0.mk hr0
 have HC0 := Aside0.mk hc0
 clear hr0 hc0
 have HB := Aside0.mk (Below.refl w.heap.size w)
 have H : (if 0 ≤ (l0.length : Int) then (if ((l0.length : Int) : Int).toNat ≤ 11728124029610 then (laws_toRunS.l0 k l0 (List.replicate ((l0.length : Int) : Int).toNat z60) 0) else (none)) else (none)) = some r := h
 clear h
 by_cases c2 : 0 ≤ (l0.length : Int)
 ·rw [if_pos c2] at H
  have c2b0 := eq_true c2
  have c2b1 : decide (0 ≤ (l0.length : Int)) = true := decide_eq_true c2
  clear c2
  by_cases c3 : ((l0.length : Int) : Int).toNat ≤ 11728124029610
  ·rw [if_pos c3] at H
   have c3b0 := eq_true c3
   have c3b1 : decide (((l0.length : Int) : Int).toNat ≤ 11728124029610) = true := decide_eq_true c3
   clear c3
   obtain ⟨y249, hy249⟩ : ∃ y_ : List (S60), y_ = (List.replicate ((l0.length : Int) : Int).toNat z60) := ⟨_, rfl⟩
   replace H : (laws_toRunS.l0 k l0 y249 0) = some r := by first | (rw [hy249]; with_reducible exact H) | (have H2_ := (Option.bind_some _ _).symm.trans H; rw [hy249]; with_reducible exact H2_) | (have H2_ := (Option.bind_some _ _).symm.trans H; with_reducible exact H2_) | with_reducible exact H | (rw [hy249]; exact H) | exact H
   have Ny249 := Aside0.mk hy249
   clear hy249
   have H' := Aside0.mk H
   clear H
   go_enter Try.func53, Try.ntmps53
   go_wp2_with (first | ((with_reducible refine gate_dst (N := 7) rfl ?_); refine Kd.S_make k60 _ 60 rfl (N := 7) rfl 38 _ _ rfl (l0.length : Int) rfl rfl Try.underlying38 (.agg #[(.slice none 0 0)]) 24 info60 rfl (by decide) (by omega) z60 (ok := fun _ => True) (okp := fun _ => True) (k60_mkM _ _ _ z60 (Kd.R_nil _ _ _ _ _)) (fun _ hk => hk) trivial (of_decide_eq_true (by first | (with_reducible assumption) | assumption)) (Nat.le_trans (Nat.mul_le_mul_right _ (of_decide_eq_true (by first | (with_reducible assumption) | assumption) : (l0.length : Int).toNat ≤ 11728124029610)) (by omega)) (Below.refl _ _) (Nat.le_refl _) ?_; intro v250 w4 ho5 hb hg_ hnew_; clear hg_ hnew_; (first | rw [← Ny249.out] at ho5 | (simp only [Int.reduceToNat] at ho5; rw [← Ny249.out] at ho5)); have n0_ := Aside0.mk (Kd.S_lower ho5 (below_size bw)); have n1_ := Aside0.mk (below_step bw hb); clear HB; have HO251 := n0_; have HB := n1_; clear n0_ n1_; clear hb ho5))
   go_loopg [4] k (fun kq v4 w' => ∃ (x3_1 : List (S60)) (x4_1 : Int), v4 = .int .i64 x4_1 ∧ Aside0 (laws_toRunS.l0 kq l0 x3_1 x4_1 = some r) ∧ Aside0 (kq ≤ k) ∧ Aside0 (Kd.S k60 60 w' w.heap.size (fun _ => True) v250 x3_1) ∧ Aside0 (Below w.heap.size w w'))
   case atStart => exact ⟨(y249), (0), (by first | rfl | (simp; done) | (simp [*]; done)), H', ⟨Nat.le_refl _⟩, ⟨by (with_reducible repeat (first | apply Kd.S_alloc | apply Kd.S_drewN | apply Kd.S_drew)); exact HO251.out⟩, ⟨bw⟩⟩
   case round =>
    clear H'
    try clear c2
    try clear c2b0
    try clear c2b1
    try clear p2
    try clear c3
    try clear c3b0
    try clear c3b1
    try clear c5
    obtain ⟨x3_1, x4_1, rfl, HA, HK1, HO_3, HB⟩ := hrel
    cases gk with
    | zero => exact absurd HA.out (by simp [laws_toRunS.l0])
    | succ k1 =>
     have H := HA.out
     clear HA
     simp only [laws_toRunS.l0] at H
     by_cases c6 : x4_1 < (l0.length : Int)
     ·rw [if_pos c6] at H
      have c6b0 : decide (x4_1 < (l0.length : Int)) = true := decide_eq_true c6
      clear c6
      by_cases c7 : 0 ≤ x4_1
      ·rw [if_pos c7] at H
       have c7b0 : decide (0 ≤ x4_1) = true := decide_eq_true c7
       clear c7
       replace H := Option.bind_eq_some_iff.mp H
       obtain ⟨t253, A80, H⟩ := H
       replace H : (if x4_1 < (x3_1.length : Int) then (laws_toRunS.l0 k1 l0 (x3_1.set (x4_1 : Int).toNat (⟨t253⟩ : S60)) (wrap64 (x4_1 + 1))) else (none)) = some r := H
       have A8 := Aside0.mk A80
       clear A80
       by_cases c9 : x4_1 < (x3_1.length : Int)
       ·rw [if_pos c9] at H
        have c9b0 : decide (x4_1 < (x3_1.length : Int)) = true := decide_eq_true c9
        clear c9
        obtain ⟨y256, hy256⟩ : ∃ y_ : List (S60), y_ = (x3_1.set (x4_1 : Int).toNat (⟨t253⟩ : S60)) := ⟨_, rfl⟩
        replace H : (laws_toRunS.l0 k1 l0 y256 (wrap64 (x4_1 + 1))) = some r := by first | (rw [hy256]; with_reducible exact H) | (have H2_ := (Option.bind_some _ _).symm.trans H; rw [hy256]; with_reducible exact H2_) | (have H2_ := (Option.bind_some _ _).symm.trans H; with_reducible exact H2_) | with_reducible exact H | (rw [hy256]; exact H) | exact H
        have Ny256 := Aside0.mk hy256
        clear hy256
        have H' := Aside0.mk H
        clear H
        have p252 : 0 ≤ (x4_1 : Int) := of_decide_eq_true (by first | (with_reducible assumption) | assumption)
        have q252 : x4_1 < (l0.length : Int) := of_decide_eq_true (by first | (with_reducible assumption) | assumption)
        obtain ⟨ad252, A252_0, c252_0, e252, hx252_0, hl252_0, hi252_0⟩ := at_T88 HR0.out x4_1 p252 q252
        cases e252
        replace hx252_0 := (HB.out.cell (World.block_lt_of_cell? w _ hx252_0)).trans hx252_0
        have HR252_0 := Aside0.mk hi252_0
        have HC252_0 := Aside0.mk hl252_0
        clear hi252_0 hl252_0
        replace p252 := eq_true p252
        replace q252 := eq_true q252
        go_wp2_with (first | ((with_reducible refine at_fn (f := 65) rfl ?_); refine goesL_ (some 20) rfl rfl Try.func65 (by kernel_rfl) rfl #[.agg #[.slice A252_0 ((rd_T88 l0 x4_1).f0).length c252_0]] rfl (by (try simp only [List.map_toArray, List.map_cons, List.map_nil]); first | done | rfl | (simp only [List.length_drop, List.length_take]; rfl)) ?_; (with_reducible refine (laws_toRun.calls k1 _ _ ((rd_T88 l0 x4_1).f0) t253 _ ?side1 ?side2 A8.out).mono ?_); (case side1 => repeat (first | exact (Kd.C_below HR252_0.out HB.out) | (with_reducible refine Kd.C_alloc ?_ _) | (with_reducible refine Kd.C_drewN ?_ _) | (with_reducible refine Kd.C_drew ?_))); (case side2 => exact HC252_0.out); rintro e w11 ⟨v254, rfl, ho0, hb⟩; refine ⟨_, rfl, ?_⟩; obtain ⟨Av_, cv_, ev_⟩ := Kd.R_slice ho0; subst ev_; have n0_ := Aside0.mk (Kd.S_elder' (by (with_reducible repeat (first | apply Kd.S_alloc | apply Kd.S_drewN | apply Kd.S_drew)); exact HO_3.out) (Kd.R_base ho0) hb); have n1_ := Aside0.mk (Kd.R_lower ho0 (below_size bw)); have n2_ := Aside0.mk (below_step bw hb); clear HO_3; clear HB; have HO_3 := n0_; have HO255 := n1_; have HB := n2_; clear n0_ n1_ n2_; (try clear hb); (try clear hb2); (try clear hk); (try clear hi); (try clear ho0); have p10 : 0 ≤ (x4_1 : Int) := of_decide_eq_true (by first | (with_reducible assumption) | assumption); have q10 : (x4_1 : Int) < ((x3_1.length : Int) : Int) := of_decide_eq_true (by first | (with_reducible assumption) | assumption); obtain ⟨go10, co10, eo10, gb10, gl10, cl10, HG10⟩ := Kd.S_form HO_3.out (by omega); (first | cases eo10 | (injection eo10 with ea_ en_ ec_; (first | subst ea_ | (injection ea_ with ea_; subst ea_)); subst ec_; clear en_)); have GB10 := Aside0.mk gb10; have GG10 := Aside0.mk HG10; clear gb10 gl10 HG10; obtain ⟨_, ce10, hcl10, hM10, hcc10, hfr10, _, _⟩ := Kd.S_elem HO_3.out z60 (x4_1 : Int) p10 q10; obtain ⟨ve10_0, rfl, ge10_0⟩ := k60_openM hM10; have hx10_0 := hcc10 0 _ rfl; have hf10_0 := hfr10 0; (try simp only [show (k60).sz = 1 from rfl, Nat.mul_one, Nat.add_zero] at hx10_0); (try simp only [show (k60).sz = 1 from rfl, Nat.mul_one, Nat.add_zero] at hf10_0); clear hcl10 hcc10 hfr10 hM10; replace p10 := eq_true p10; replace q10 := eq_true q10; have n_ := Aside0.mk (Kd.S_mono (ok' := (fun k_ => some k_ ≠ ((.slice Av_ t253.length cv_) : Value).ownBlock)) HO_3.out (fun k_ hk => hk.2)); clear HO_3; have HO_3 := n_; clear n_; have HX12 := Aside0.mk (show Kd.S k60 60 w11 w.heap.size (fun k_ => ((fun _ => True)) k_ ∧ ¬ ((fun k_ => some k_ = ((.slice Av_ t253.length cv_) : Value).ownBlock)) k_) (.slice (some ⟨go10, 0, none⟩) x3_1.length co10) x3_1 from (by (with_reducible repeat (first | apply Kd.S_alloc | apply Kd.S_drewN | apply Kd.S_drew)); exact Kd.S_mono HO_3.out (fun k_ hk => ⟨trivial, fun e_ => hk e_⟩))); obtain ⟨oki12, ce12, hcl12, hM12, hcc12, hfr12, hoki12, hH12⟩ := Kd.S_elem HX12.out z60 (x4_1 : Int) (of_decide_eq_true (by first | (with_reducible assumption) | assumption)) (by have h_ : (x4_1 : Int) < ((x3_1.length : Int) : Int) := of_decide_eq_true (by first | (with_reducible assumption) | assumption); first | exact h_ | (have e_ := (Kd.S_reads' HO_3.out).1; omega) | simpa using h_); obtain ⟨ve12_0, rfl, ge12_0⟩ := k60_openM hM12; have HP12 := Kd.S_seg hH12 (of_decide_eq_true (by first | (with_reducible assumption) | assumption)) (by have h_ : (x4_1 : Int) < ((x3_1.length : Int) : Int) := of_decide_eq_true (by first | (with_reducible assumption) | assumption); first | exact h_ | (have e_ := (Kd.S_reads' HO_3.out).1; omega) | simpa using h_) (seg := [(.slice Av_ t253.length cv_)]) (j := 0) (show 1 ≤ 1 from by decide) (x' := (⟨t253⟩ : S60)) (k60_mkM _ _ _ (⟨t253⟩ : S60) (Kd.R_mono (Kd.R_tight rfl (Kd.R_mono (ok' := fun k_ => ((fun _ => True)) k_ ∧ k_ ≠ go10) (Kd.R_apart' (HO255.out) (Kd.S_typed HO_3.out) (by decide)) (fun k_ hk => ⟨trivial, fun e_ => (hk.2) (by rw [e_]; rfl)⟩))) (fun _ h_ => Or.inr (h_)))) (fun _ hk => hk) (fun k_ hk_ => ((Kd.R_mono (ok' := fun k_ => ((fun _ => True)) k_ ∧ k_ ≠ go10) (Kd.R_apart' (HO255.out) (Kd.S_typed HO_3.out) (by decide)) (fun k_ hk => ⟨trivial, fun e_ => (hk.2) (by rw [e_]; rfl)⟩))).1 k_ hk_.symm); have hx12_0 := hcc12 0 _ rfl; (try simp only [show (k60).sz = 1 from rfl, Nat.mul_one, Nat.add_zero] at hx12_0); have hf12_0 := hfr12 0; (try simp only [show (k60).sz = 1 from rfl, Nat.mul_one, Nat.add_zero] at hf12_0); clear hcl12 hcc12 hfr12 hM12 hoki12 hH12; (try simp only [show (k60).sz = 1 from rfl, Nat.mul_one, Nat.add_zero] at HP12)) | ((with_reducible refine gate_store (t := 60) (p := 21) rfl ?_); refine store_event (t := 60) (p := 21) (v := ?vo_w13) (w1 := (w11.setCell ⟨go10, (x4_1 : Int).toNat, none⟩ ((.slice Av_ t253.length cv_)))) ?hg ?ho ?hn ?hr ?_; (case ho => rfl); (case hg => rfl); (case hn => rfl); (case hr => first | (go_simp; done) | (go_simp; rfl)); intro w13 hw; have hg : w11.grownBy w13 (some go10) := (by rw [hw]; exact HP12.2); have hp_ : Kd.S k60 60 w13 w.heap.size (fun _ => True) (.slice (some ⟨go10, 0, none⟩) x3_1.length co10) y256 := (by rw [hw, Ny256.out]; exact HP12.1); clear HP12; have n0_ := Aside0.mk (hp_); have n1_ := Aside0.mk ((by rw [hw]; exact below_set (HB.out) GB10.out : Below w.heap.size w w13)); clear HO_3; clear HB; clear HO255; have HO_3 := n0_; have HB := n1_; clear n0_ n1_; clear hg hw hp_))
        go_roundg k1
        case measure => have := HK1.out; omega
        case rel => exact ⟨(y256), (wrap64 (x4_1 + 1)), (by first | rfl | (simp; done) | (simp [*]; done)), H', ⟨by have := HK1.out; omega⟩, ⟨by (with_reducible repeat (first | apply Kd.S_alloc | apply Kd.S_drewN | apply Kd.S_drew)); exact HO_3.out⟩, ⟨bw⟩⟩
       ·rw [if_neg c9] at H
        exact absurd H (by simp)
      ·rw [if_neg c7] at H
       exact absurd H (by simp)
     ·rw [if_neg c6] at H
      have c6b0 : decide (x4_1 < (l0.length : Int)) = false := decide_eq_false c6
      clear c6
      obtain rfl := Option.some.inj H
      go_wp2
      go_ret
      exact ⟨_, by first | rfl | (simp [errW_none, errW_some] <;> rfl) | (simp [*, errW_none, errW_some] <;> rfl), by (with_reducible repeat (first | apply Kd.S_alloc | apply Kd.S_drewN | apply Kd.S_drew)); exact HO_3.out, bw⟩
  ·rw [if_neg c3] at H
   exact absurd H (by simp)
 ·rw [if_neg c2] at H
  exact absurd H (by simp)

end Go.Proofs.Ytjlggfdmfchncaa.Q

namespace Go.Proofs.Ytjlggfdmfchncaa.Q
open Go.RowKit Go.Proofs.YtjlggfdmfchncaaW.PrintWords Go.Proofs.YtjlggfdmfchncaaW.PrintLast Go.Proofs.YtjlggfdmfchncaaW.PrintMore
set_option linter.unusedVariables false
set_option linter.unusedSimpArgs false

/-! ### laws_toTablet: function 35 -/
def laws_toTablet.f (k : Nat) (a0_0 : ByteArray) (l0_1 : List (S88)) : Option (ByteArray × (List (S60))) := (laws_toRunS.f k l0_1).bind fun t260 => (some (a0_0, t260))
set_option maxHeartbeats 8000000 in
set_option maxRecDepth 100000 in
theorem laws_toTablet.calls (k : Nat) (a0_0 : ByteArray) (A0_1 : Option Addr) (c0_1 : Nat) (l0_1 : List (S88)) (r1 : ByteArray) (r2 : List (S60)) (w : World) (hr0_1 : Kd.C k88 w A0_1 l0_1.length l0_1) (hc0_1 : l0_1.length ≤ c0_1) (h : laws_toTablet.f k a0_0 l0_1 = some (r1, r2)) :
  Calls Try.prog 35 #[.agg #[.string a0_0, .slice A0_1 l0_1.length c0_1]] w fun e w' => ∃ v1_ : Value, e = .returned (.agg #[.string r1, v1_]) ∧ Kd.S k60 60 w' w.heap.size (fun _ => True) v1_ r2 ∧ Below w.heap.size w w' := by
 have hu56 := Try.underlying56
 have hu40 := Try.underlying40
 have HR0_1 := Aside0.mk hr0_1
 have HC0_1 := Aside0.mk hc0_1
 clear hr0_1 hc0_1
 have HB := Aside0.mk (Below.refl w.heap.size w)
 have H : ((laws_toRunS.f k l0_1).bind fun t260 => (some (a0_0, t260))) = some (r1, r2) := h
 clear h
 replace H := Option.bind_eq_some_iff.mp H
 obtain ⟨t260, A20, H⟩ := H
 replace H : (some (a0_0, t260)) = some (r1, r2) := H
 have A2 := Aside0.mk A20
 clear A20
 simp only [Option.some.injEq, Prod.mk.injEq] at H
 obtain ⟨rfl, rfl⟩ := H
 go_enter Try.func35, Try.ntmps35
 go_wp2_with (first | ((with_reducible refine gate_dst (N := 1) rfl ?_); refine box_event ?hg (N := 1) ?hd (cs := #[.string a0_0, .slice A0_1 l0_1.length c0_1]) (t := 56) ?hr ?_; (case hd => rfl); (case hg => rfl); (case hr => first | (go_simp; done) | (go_simp; rfl)); intro gb257 hg w3 hbox hb; have n0_ := Aside0.mk (below_step bw hb); have n1_ := Aside0.mk (hbox); have n2_ := Aside0.mk ((by rw [hg]; exact (below_size bw) : w.heap.size ≤ gb257)); have n3_ := Aside0.mk ((by rw [hg]; exact (below_size bw) : w.heap.size ≤ gb257)); clear HB; have HB := n0_; have BK257 := n1_; have GW257 := n2_; have GE257 := n3_; clear n0_ n1_ n2_ n3_; clear hb hbox hg) | ((with_reducible refine gate_dst (N := 2) rfl ?_); refine box_event ?hg (N := 2) ?hd (cs := #[.string (⟨#[]⟩ : ByteArray), .slice none 0 0]) (t := 40) ?hr ?_; (case hd => rfl); (case hg => rfl); (case hr => first | (go_simp; done) | (go_simp; rfl)); intro gb258 hg w4 hbox hb; have n0_ := Aside0.mk (blk_below (g := gb257) (o := .cells #[.string a0_0, .slice A0_1 l0_1.length c0_1] 56 (0, 0)) (lb BK257) hb); have n1_ := Aside0.mk (below_step bw hb); have n2_ := Aside0.mk (hbox); have n3_ := Aside0.mk ((by rw [hg]; exact (below_size bw) : w.heap.size ≤ gb258)); have n4_ := Aside0.mk ((by rw [hg]; exact (below_size bw) : w.heap.size ≤ gb258)); have n5_ := Aside0.mk ((by rw [hg]; exact Nat.ne_of_lt (blk_lt (g := gb257) (o := .cells #[.string a0_0, .slice A0_1 l0_1.length c0_1] 56 (0, 0)) (lb BK257)) : gb257 ≠ gb258)); have n6_ := Aside0.mk ((by rw [hg]; exact Nat.ne_of_gt (blk_lt (g := gb257) (o := .cells #[.string a0_0, .slice A0_1 l0_1.length c0_1] 56 (0, 0)) (lb BK257)) : gb258 ≠ gb257)); clear BK257; clear HB; have BK257 := n0_; have HB := n1_; have BK258 := n2_; have GW258 := n3_; have GE258 := n4_; have NB257_258 := n5_; have NB258_257 := n6_; clear n0_ n1_ n2_ n3_ n4_ n5_ n6_; clear hb hbox hg) | ((with_reducible refine gate_dst (N := 3) rfl ?_); refine box_event ?hg (N := 3) ?hd (cs := #[.string (⟨#[]⟩ : ByteArray), .slice none 0 0]) (t := 40) ?hr ?_; (case hd => rfl); (case hg => rfl); (case hr => first | (go_simp; done) | (go_simp; rfl)); intro gb259 hg w5 hbox hb; have n0_ := Aside0.mk (blk_below (g := gb257) (o := .cells #[.string a0_0, .slice A0_1 l0_1.length c0_1] 56 (0, 0)) (lb BK257) hb); have n1_ := Aside0.mk (blk_below (g := gb258) (o := .cells #[.string (⟨#[]⟩ : ByteArray), .slice none 0 0] 40 (0, 0)) (lb BK258) hb); have n2_ := Aside0.mk (below_step bw hb); have n3_ := Aside0.mk (hbox); have n4_ := Aside0.mk ((by rw [hg]; exact (below_size bw) : w.heap.size ≤ gb259)); have n5_ := Aside0.mk ((by rw [hg]; exact (below_size bw) : w.heap.size ≤ gb259)); have n6_ := Aside0.mk ((by rw [hg]; exact Nat.ne_of_lt (blk_lt (g := gb257) (o := .cells #[.string a0_0, .slice A0_1 l0_1.length c0_1] 56 (0, 0)) (lb BK257)) : gb257 ≠ gb259)); have n7_ := Aside0.mk ((by rw [hg]; exact Nat.ne_of_gt (blk_lt (g := gb257) (o := .cells #[.string a0_0, .slice A0_1 l0_1.length c0_1] 56 (0, 0)) (lb BK257)) : gb259 ≠ gb257)); have n8_ := Aside0.mk ((by rw [hg]; exact Nat.ne_of_lt (blk_lt (g := gb258) (o := .cells #[.string (⟨#[]⟩ : ByteArray), .slice none 0 0] 40 (0, 0)) (lb BK258)) : gb258 ≠ gb259)); have n9_ := Aside0.mk ((by rw [hg]; exact Nat.ne_of_gt (blk_lt (g := gb258) (o := .cells #[.string (⟨#[]⟩ : ByteArray), .slice none 0 0] 40 (0, 0)) (lb BK258)) : gb259 ≠ gb258)); clear BK257; clear BK258; clear HB; have BK257 := n0_; have BK258 := n1_; have HB := n2_; have BK259 := n3_; have GW259 := n4_; have GE259 := n5_; have NB257_259 := n6_; have NB259_257 := n7_; have NB258_259 := n8_; have NB259_258 := n9_; clear n0_ n1_ n2_ n3_ n4_ n5_ n6_ n7_ n8_ n9_; clear hb hbox hg; have hnb6 := NB257_258.out; have hnc6 := NB258_257.out; have hnb7 := NB257_259.out; have hnc7 := NB259_257.out; have hcz8_0 : w5.cell? ⟨gb257, 0, none⟩ = some (.string a0_0) := (blk_cell BK257.out 0).trans rfl; have hcz8_1 : w5.cell? ⟨gb257, 1, none⟩ = some (.slice A0_1 l0_1.length c0_1) := (blk_cell BK257.out 1).trans rfl; have hfz8_0 := blk_frozen BK257.out 0; have hfz8_1 := blk_frozen BK257.out 1; have hnb9 := NB259_258.out; have hnc9 := NB258_259.out; have hcz10_0 : w5.cell? ⟨gb259, 0, none⟩ = some (.string (⟨#[]⟩ : ByteArray)) := (blk_cell BK259.out 0).trans rfl; have hcz10_1 : w5.cell? ⟨gb259, 1, none⟩ = some (.slice none 0 0) := (blk_cell BK259.out 1).trans rfl; have hfz10_0 := blk_frozen BK259.out 0; have hfz10_1 := blk_frozen BK259.out 1) | ((with_reducible refine at_fn (f := 53) rfl ?_); refine goesL_ (some 9) rfl rfl Try.func53 (by kernel_rfl) rfl #[.slice A0_1 l0_1.length c0_1] rfl (by (try simp only [List.map_toArray, List.map_cons, List.map_nil]); first | done | rfl | (simp only [List.length_drop, List.length_take]; rfl)) ?_; (with_reducible refine (laws_toRunS.calls k _ _ l0_1 t260 _ ?side1 ?side2 A2.out).mono ?_); (case side1 => exact Kd.C_below HR0_1.out bw); (case side2 => exact HC0_1.out); rintro e w11 ⟨v261, rfl, ho0, hb⟩; refine ⟨_, rfl, ?_⟩; have n0_ := Aside0.mk (Kd.S_lower ho0 (below_size bw)); have n1_ := Aside0.mk (blk_below (g := gb257) (o := .cells #[.string a0_0, .slice A0_1 l0_1.length c0_1] 56 (0, 0)) (by (with_reducible repeat (first | refine blk_drewN ?_ _ | refine blk_drew ?_ | refine blk_alloc ?_ _)); refine blk_far ?_ NB257_259.out _; (with_reducible repeat (first | refine blk_drewN ?_ _ | refine blk_drew ?_ | refine blk_alloc ?_ _)); exact BK257.out) hb); have n2_ := Aside0.mk (blk_below (g := gb258) (o := .cells #[.string (⟨#[]⟩ : ByteArray), .slice none 0 0] 40 (0, 0)) (by (with_reducible repeat (first | refine blk_drewN ?_ _ | refine blk_drew ?_ | refine blk_alloc ?_ _)); refine blk_far ?_ NB258_259.out _; (with_reducible repeat (first | refine blk_drewN ?_ _ | refine blk_drew ?_ | refine blk_alloc ?_ _)); exact BK258.out) hb); have n3_ := Aside0.mk (blk_below (g := gb259) (o := .cells #[.string a0_0, .slice none 0 0] 40 (0, 0)) (by (with_reducible repeat (first | refine blk_drewN ?_ _ | refine blk_drew ?_ | refine blk_alloc ?_ _)); refine blk_put (cs := #[.string (⟨#[]⟩ : ByteArray), .slice none 0 0]) ?_ 0 _ rfl; (with_reducible repeat (first | refine blk_drewN ?_ _ | refine blk_drew ?_ | refine blk_alloc ?_ _)); exact BK259.out) hb); have n4_ := Aside0.mk (below_step bw hb); clear BK257; clear BK258; clear BK259; clear HB; have HO262 := n0_; have BK257 := n1_; have BK258 := n2_; have BK259 := n3_; have HB := n4_; clear n0_ n1_ n2_ n3_ n4_; (try clear hb); (try clear hb2); (try clear hk); (try clear hi); (try clear ho0); obtain ⟨Ao12, co12, eo12⟩ := Kd.S_slice HO262.out; subst eo12; have hcz13_0 : w11.cell? ⟨gb259, 0, none⟩ = some (.string a0_0) := (blk_cell BK259.out 0).trans rfl; have hcz13_1 : w11.cell? ⟨gb259, 1, none⟩ = some (.slice none 0 0) := (blk_cell BK259.out 1).trans rfl; have hfz13_0 := blk_frozen BK259.out 0; have hfz13_1 := blk_frozen BK259.out 1; have hcz14_0 : w11.cell? ⟨gb258, 0, none⟩ = some (.string (⟨#[]⟩ : ByteArray)) := (blk_cell BK258.out 0).trans rfl; have hcz14_1 : w11.cell? ⟨gb258, 1, none⟩ = some (.slice none 0 0) := (blk_cell BK258.out 1).trans rfl; have hfz14_0 := blk_frozen BK258.out 0; have hfz14_1 := blk_frozen BK258.out 1))
 refine bodyPost_ret (results_cell_row rfl _ _ gb258 40 #[.string a0_0, .slice Ao12 t260.length co12] (0, 0) _ rfl (by (with_reducible repeat (first | refine blk_drewN ?_ _ | refine blk_drew ?_ | refine blk_alloc ?_ _)); refine blk_put (cs := #[.string a0_0, .slice none 0 0]) ?_ 1 _ rfl; (with_reducible repeat (first | refine blk_drewN ?_ _ | refine blk_drew ?_ | refine blk_alloc ?_ _)); refine blk_put (cs := #[.string (⟨#[]⟩ : ByteArray), .slice none 0 0]) ?_ 0 _ rfl; (with_reducible repeat (first | refine blk_drewN ?_ _ | refine blk_drew ?_ | refine blk_alloc ?_ _)); refine blk_far ?_ NB258_259.out _; (with_reducible repeat (first | refine blk_drewN ?_ _ | refine blk_drew ?_ | refine blk_alloc ?_ _)); exact BK258.out) Try.underlying40 rfl (by kernel_rfl)) rfl ?_
 exact ⟨_, by first | rfl | (simp [errW_none, errW_some] <;> rfl) | (simp [*, errW_none, errW_some] <;> rfl), by (with_reducible repeat (first | apply Kd.S_alloc | apply Kd.S_drewN | apply Kd.S_drew)); exact Kd.S_mono (Kd.S_far (p := ⟨gb258, 1, none⟩) (Kd.S_far (p := ⟨gb258, 0, none⟩) (Kd.S_far (p := ⟨gb259, 1, none⟩) (Kd.S_types (Kd.S_types HO262.out BK259.out (by decide)) BK258.out (by decide)) (fun _ hk => hk.1.2) (.slice Ao12 t260.length co12)) (fun _ hk => hk.2) (.string a0_0)) (fun _ hk => hk.2) (.slice Ao12 t260.length co12)) (fun _ hk => trivial), bw⟩

end Go.Proofs.Ytjlggfdmfchncaa.Q

namespace Go.Proofs.Ytjlggfdmfchncaa.Q
open Go.RowKit Go.Proofs.YtjlggfdmfchncaaW.PrintWords Go.Proofs.YtjlggfdmfchncaaW.PrintLast Go.Proofs.YtjlggfdmfchncaaW.PrintMore
set_option linter.unusedVariables false
set_option linter.unusedSimpArgs false

/-! ### laws_eqRunS: function 57 -/
def laws_eqRunS.l0 : Nat → List (S60) → List (S60) → Int → Option (Bool)
 | 0, _, _, _ => none
 | k + 1, x0, x1, x5 => if x5 < (x0.length : Int) then (if 0 ≤ x5 then (if x5 < (x1.length : Int) then ((laws_eqRun.f k ((rd_T60 x0 x5).f0) ((rd_T60 x1 x5).f0)).bind fun t342 => (if t342 = true then (laws_eqRunS.l0 k x0 x1 (wrap64 (x5 + 1))) else (some false))) else (none)) else (none)) else (some true)
def laws_eqRunS.f (k : Nat) (l0 : List (S60)) (l1 : List (S60)) : Option (Bool) := if (l0.length : Int) = (l1.length : Int) then (laws_eqRunS.l0 k l0 l1 0) else (some false)
def laws_eqRunS.T6 : Bool × List (List Nat × List Nat) := (true, [([], []), ([], []), ([0, 1], [0, 1]), ([2], [2]), ([], []), ([], []), ([4, 5], [4, 5]), ([6], [6]), ([3, 7], [3, 7]), ([8], [8])])
def laws_eqRunS.B6 : List Nat := [0, 0, 3, 7, 0, 0, 48, 112, 255, 511]
theorem laws_eqRunS.tab6 : rtab .any (opsOf Try.f57 6) = laws_eqRunS.T6 := by kernel_rfl
theorem laws_eqRunS.bits6 : waitsOk laws_eqRunS.T6.2 laws_eqRunS.B6 = true := by kernel_rfl
set_option maxHeartbeats 8000000 in
set_option maxRecDepth 100000 in
theorem laws_eqRunS.calls (k : Nat) (A0 : Option Addr) (c0 : Nat) (l0 : List (S60)) (A1 : Option Addr) (c1 : Nat) (l1 : List (S60)) (r : Bool) (w : World) (hr0 : Kd.C k60 w A0 l0.length l0) (hc0 : l0.length ≤ c0) (hr1 : Kd.C k60 w A1 l1.length l1) (hc1 : l1.length ≤ c1) (h : laws_eqRunS.f k l0 l1 = some r) :
  Calls Try.prog 57 #[.slice A0 l0.length c0, .slice A1 l1.length c1] w fun e w' => e = .returned (.bool r) ∧ Below w.heap.size w w' := by
 have hu60 := Try.underlying60
 have HR0 := Aside0.mk hr0
 have HC0 := Aside0.mk hc0
 clear hr0 hc0
 have HR1 := Aside0.mk hr1
 have HC1 := Aside0.mk hc1
 clear hr1 hc1
 have HB := Aside0.mk (Below.refl w.heap.size w)
 have H : (if (l0.length : Int) = (l1.length : Int) then (laws_eqRunS.l0 k l0 l1 0) else (some false)) = some r := h
 clear h
 by_cases c3 : (l0.length : Int) = (l1.length : Int)
 ·rw [if_pos c3] at H
  have c3b0 : ((l0.length : Int) == (l1.length : Int)) = true := beq_iff_eq.mpr c3
  have c3b1 : ((l0.length : Int) != (l1.length : Int)) = false := bne_eq_false_iff_eq.mpr c3
  have c3b2 : (l0.length == l1.length) = true := by first | simpa using c3 | (simp at c3 ⊢; omega)
  clear c3
  have H' := Aside0.mk H
  clear H
  go_enter Try.func57, Try.ntmps57
  go_wp2
  go_loopg [5] k (fun kq v5 w' => ∃ (x5_1 : Int), v5 = .int .i64 x5_1 ∧ Aside0 (laws_eqRunS.l0 kq l0 l1 x5_1 = some r) ∧ Aside0 (kq ≤ k) ∧ Aside0 (Below w.heap.size w w'))
  case atStart => exact ⟨(0), (by first | rfl | (simp; done) | (simp [*]; done)), H', ⟨Nat.le_refl _⟩, ⟨bw⟩⟩
  case round =>
   clear H'
   try clear c1
   try clear p2
   try clear c3
   try clear c3b0
   try clear c3b1
   try clear c3b2
   obtain ⟨x5_1, rfl, HA, HK1, HB⟩ := hrel
   cases gk with
   | zero => exact absurd HA.out (by simp [laws_eqRunS.l0])
   | succ k1 =>
    have H := HA.out
    clear HA
    simp only [laws_eqRunS.l0] at H
    by_cases c4 : x5_1 < (l0.length : Int)
    ·rw [if_pos c4] at H
     have c4b0 : decide (x5_1 < (l0.length : Int)) = true := decide_eq_true c4
     clear c4
     by_cases c5 : 0 ≤ x5_1
     ·rw [if_pos c5] at H
      have c5b0 : decide (0 ≤ x5_1) = true := decide_eq_true c5
      clear c5
      by_cases c6 : x5_1 < (l1.length : Int)
      ·rw [if_pos c6] at H
       have c6b0 : decide (x5_1 < (l1.length : Int)) = true := decide_eq_true c6
       clear c6
       replace H := Option.bind_eq_some_iff.mp H
       obtain ⟨t342, A70, H⟩ := H
       replace H : (if t342 = true then (laws_eqRunS.l0 k1 l0 l1 (wrap64 (x5_1 + 1))) else (some false)) = some r := H
       have A7 := Aside0.mk A70
       clear A70
       by_cases c8 : t342 = true
       ·subst c8
        have H1 : (laws_eqRunS.l0 k1 l0 l1 (wrap64 (x5_1 + 1))) = some r := by rw [if_pos rfl] at H; exact H
        clear H
        have H := H1
        clear H1
        have H' := Aside0.mk H
        clear H
        try go_wp2
        have n0_ := Aside0.mk (below_drew1 HB.out)
        clear HB
        have HB := n0_
        clear n0_
        have p340 : 0 ≤ (x5_1 : Int) := of_decide_eq_true (by first | (with_reducible assumption) | assumption)
        have q340 : x5_1 < (l0.length : Int) := of_decide_eq_true (by first | (with_reducible assumption) | assumption)
        obtain ⟨ad340, A340_0, c340_0, e340, hx340_0, hl340_0, hi340_0⟩ := at_T60 HR0.out x5_1 p340 q340
        have hw340_0 := hx340_0
        cases e340
        replace hx340_0 := (HB.out.cell (World.block_lt_of_cell? w _ hx340_0)).trans hx340_0
        have HR340_0 := Aside0.mk hi340_0
        have HC340_0 := Aside0.mk hl340_0
        clear hi340_0 hl340_0
        replace p340 := eq_true p340
        replace q340 := eq_true q340
        have p341 : 0 ≤ (x5_1 : Int) := of_decide_eq_true (by first | (with_reducible assumption) | assumption)
        have q341 : x5_1 < (l1.length : Int) := of_decide_eq_true (by first | (with_reducible assumption) | assumption)
        obtain ⟨ad341, A341_0, c341_0, e341, hx341_0, hl341_0, hi341_0⟩ := at_T60 HR1.out x5_1 p341 q341
        have hw341_0 := hx341_0
        cases e341
        replace hx341_0 := (HB.out.cell (World.block_lt_of_cell? w _ hx341_0)).trans hx341_0
        have HR341_0 := Aside0.mk hi341_0
        have HC341_0 := Aside0.mk hl341_0
        clear hi341_0 hl341_0
        replace p341 := eq_true p341
        replace q341 := eq_true q341
        refine start_ (n := 10) (S := fun w' => w'.cell? (ad340.add (x5_1).toNat) = some (.slice A340_0 ((rd_T60 l0 x5_1).f0).length c340_0) ∧ w'.cell? (ad341.add (x5_1).toNat) = some (.slice A341_0 ((rd_T60 l1 x5_1).f0).length c341_0)) (ds := []) #[false, false, false, false, false, false, false, false, false, false] (by kernel_rfl) rfl rfl ⟨((HB.out.cell (World.block_lt_of_cell? w _ hw340_0)).trans hw340_0), ((HB.out.cell (World.block_lt_of_cell? w _ hw341_0)).trans hw341_0)⟩ (fun hHeld => ?_); refine with_tabW laws_eqRunS.tab6 laws_eqRunS.bits6 (fun HT_ HW_ => ?_)
        generalize wr.drew = w9 at HB HR340_0 HR341_0 hx340_0 hx341_0 hHeld ⊢
        refine pure_ (i := 0) (N := some 17) (v := ?_) (a' := ?_) #[true, false, false, false, false, false, false, false, false, false] rfl rfl (any_of HT_.out (by kernel_rfl)) (fun _ _ _ h => h) (Or.inl ⟨by rfl, ?_⟩) ?_ ?_
        rotate_left
        ·intro w'
         go_simp
         with_reducible rfl
        rotate_left
        ·simp only [Act.put, List.setIfInBounds_toArray, List.set_cons_zero, List.set_cons_succ, i64_w, i32_w]
         rfl
        refine pure_ (i := 1) (N := some 18) (v := ?_) (a' := ?_) #[true, true, false, false, false, false, false, false, false, false] rfl rfl (any_of HT_.out (by kernel_rfl)) (fun _ _ _ h => h) (Or.inl ⟨by rfl, ?_⟩) ?_ ?_
        rotate_left
        ·intro w'
         go_simp
         with_reducible rfl
        rotate_left
        ·simp only [Act.put, List.setIfInBounds_toArray, List.set_cons_zero, List.set_cons_succ, i64_w, i32_w]
         rfl
        refine pure_ (i := 2) (N := some 19) (v := ?_) (a' := ?_) #[true, true, true, false, false, false, false, false, false, false] rfl rfl (any_of HT_.out (by kernel_rfl)) (fun _ _ _ h => h) (Or.inl ⟨by rfl, ?_⟩) ?_ ?_
        rotate_left
        ·intro w'
         go_simp
         with_reducible rfl
        rotate_left
        ·simp only [Act.put, List.setIfInBounds_toArray, List.set_cons_zero, List.set_cons_succ, i64_w, i32_w]
         rfl
        refine pure_ (i := 4) (N := some 21) (v := ?_) (a' := ?_) #[true, true, true, false, true, false, false, false, false, false] rfl rfl (any_of HT_.out (by kernel_rfl)) (fun _ _ _ h => h) (Or.inl ⟨by rfl, ?_⟩) ?_ ?_
        rotate_left
        ·intro w'
         go_simp
         with_reducible rfl
        rotate_left
        ·simp only [Act.put, List.setIfInBounds_toArray, List.set_cons_zero, List.set_cons_succ, i64_w, i32_w]
         rfl
        refine pure_ (i := 5) (N := some 22) (v := ?_) (a' := ?_) #[true, true, true, false, true, true, false, false, false, false] rfl rfl (any_of HT_.out (by kernel_rfl)) (fun _ _ _ h => h) (Or.inl ⟨by rfl, ?_⟩) ?_ ?_
        rotate_left
        ·intro w'
         go_simp
         with_reducible rfl
        rotate_left
        ·simp only [Act.put, List.setIfInBounds_toArray, List.set_cons_zero, List.set_cons_succ, i64_w, i32_w]
         rfl
        refine pure_ (i := 6) (N := some 23) (v := ?_) (a' := ?_) #[true, true, true, false, true, true, true, false, false, false] rfl rfl (any_of HT_.out (by kernel_rfl)) (fun _ _ _ h => h) (Or.inl ⟨by rfl, ?_⟩) ?_ ?_
        rotate_left
        ·intro w'
         go_simp
         with_reducible rfl
        rotate_left
        ·simp only [Act.put, List.setIfInBounds_toArray, List.set_cons_zero, List.set_cons_succ, i64_w, i32_w]
         rfl
        refine take_ (i := 3) (N := some 20) (v := ?_) (a' := ?_) #[true, true, true, true, true, true, true, false, false, false] rfl rfl (take_ofW HT_.out HW_.out (by kernel_rfl)) (fun _ _ _ h => h) (Or.inl ⟨by rfl, ?_⟩) hHeld ?_ ?_
        rotate_left
        ·rintro w' ⟨s0, s1⟩
         go_simp
         with_reducible rfl
        rotate_left
        ·simp only [Act.put, List.setIfInBounds_toArray, List.set_cons_zero, List.set_cons_succ, i64_w, i32_w]
         rfl
        refine take_ (i := 7) (N := some 24) (v := ?_) (a' := ?_) #[true, true, true, true, true, true, true, true, false, false] rfl rfl (take_ofW HT_.out HW_.out (by kernel_rfl)) (fun _ _ _ h => h) (Or.inl ⟨by rfl, ?_⟩) hHeld ?_ ?_
        rotate_left
        ·rintro w' ⟨s0, s1⟩
         go_simp
         with_reducible rfl
        rotate_left
        ·simp only [Act.put, List.setIfInBounds_toArray, List.set_cons_zero, List.set_cons_succ, i64_w, i32_w]
         rfl
        refine one_ (i := 8) (N := some 25) #[true, true, true, true, true, true, true, true, true, false] rfl rfl (one_of HT_.out (by kernel_rfl)) (by decide) (fun K hK => ?_)
        refine goes_ Try.func70 (by kernel_rfl) rfl #[.agg #[.slice A340_0 ((rd_T60 l0 x5_1).f0).length c340_0], .agg #[.slice A341_0 ((rd_T60 l1 x5_1).f0).length c341_0]] (by rfl) rfl rfl (by (try simp only [List.map_toArray, List.map_cons, List.map_nil]); first | done | rfl | (simp only [List.length_drop, List.length_take]; rfl)) ?_
        with_reducible refine (laws_eqRun.calls k1 _ _ ((rd_T60 l0 x5_1).f0) _ _ ((rd_T60 l1 x5_1).f0) true _ ?side1 ?side2 ?side3 ?side4 A7.out).mono ?_
        (case side1 => repeat (first | exact (Kd.C_below HR340_0.out HB.out) | (with_reducible refine Kd.C_alloc ?_ _) | (with_reducible refine Kd.C_drewN ?_ _) | (with_reducible refine Kd.C_drew ?_)))
        (case side2 => exact HC340_0.out)
        (case side3 => repeat (first | exact (Kd.C_below HR341_0.out HB.out) | (with_reducible refine Kd.C_alloc ?_ _) | (with_reducible refine Kd.C_drewN ?_ _) | (with_reducible refine Kd.C_drew ?_)))
        (case side4 => exact HC341_0.out)
        rintro e w10 ⟨rfl, hb⟩
        refine ⟨_, rfl, ?_⟩
        have n0_ := Aside0.mk (below_step bw hb)
        clear HB
        have HB := n0_
        clear n0_
        (try clear hb)
        (try clear hb2)
        (try clear hk)
        (try clear hi)
        refine hK.out _ _ ⟨((HB.out.cell (World.block_lt_of_cell? w _ hw340_0)).trans hw340_0), ((HB.out.cell (World.block_lt_of_cell? w _ hw341_0)).trans hw341_0)⟩ (fun hHeld => ?_)
        clear hK K
        refine norm_ (a' := ?_) ?_ ?_
        rotate_left
        ·show Act.put _ (some 25) _ = _
         simp only [Act.put, List.setIfInBounds_toArray, List.set_cons_zero, List.set_cons_succ, i64_w, i32_w]
         rfl
        refine pure_ (i := 9) (N := some 26) (v := ?_) (a' := ?_) #[true, true, true, true, true, true, true, true, true, true] rfl rfl (any_of HT_.out (by kernel_rfl)) (fun _ _ _ h => h) (Or.inl ⟨by rfl, ?_⟩) ?_ ?_
        rotate_left
        ·intro w'
         go_simp
         with_reducible rfl
        rotate_left
        ·simp only [Act.put, List.setIfInBounds_toArray, List.set_cons_zero, List.set_cons_succ, i64_w, i32_w]
         rfl
        refine done_ (done_of HT_.out (by kernel_rfl)) ?_
        try go_wp2
        go_roundg k1
        case measure => have := HK1.out; omega
        case rel => exact ⟨(wrap64 (x5_1 + 1)), (by first | rfl | (simp; done) | (simp [*]; done)), H', ⟨by have := HK1.out; omega⟩, ⟨bw⟩⟩
       ·replace c8 := Bool.eq_false_iff.mpr c8
        subst c8
        have H1 : (some false) = some r := by rw [if_neg (show ¬ (false = true) by decide)] at H; exact H
        clear H
        have H := H1
        clear H1
        obtain rfl := Option.some.inj H
        try go_wp2
        have n0_ := Aside0.mk (below_drew1 HB.out)
        clear HB
        have HB := n0_
        clear n0_
        have p340 : 0 ≤ (x5_1 : Int) := of_decide_eq_true (by first | (with_reducible assumption) | assumption)
        have q340 : x5_1 < (l0.length : Int) := of_decide_eq_true (by first | (with_reducible assumption) | assumption)
        obtain ⟨ad340, A340_0, c340_0, e340, hx340_0, hl340_0, hi340_0⟩ := at_T60 HR0.out x5_1 p340 q340
        have hw340_0 := hx340_0
        cases e340
        replace hx340_0 := (HB.out.cell (World.block_lt_of_cell? w _ hx340_0)).trans hx340_0
        have HR340_0 := Aside0.mk hi340_0
        have HC340_0 := Aside0.mk hl340_0
        clear hi340_0 hl340_0
        replace p340 := eq_true p340
        replace q340 := eq_true q340
        have p341 : 0 ≤ (x5_1 : Int) := of_decide_eq_true (by first | (with_reducible assumption) | assumption)
        have q341 : x5_1 < (l1.length : Int) := of_decide_eq_true (by first | (with_reducible assumption) | assumption)
        obtain ⟨ad341, A341_0, c341_0, e341, hx341_0, hl341_0, hi341_0⟩ := at_T60 HR1.out x5_1 p341 q341
        have hw341_0 := hx341_0
        cases e341
        replace hx341_0 := (HB.out.cell (World.block_lt_of_cell? w _ hx341_0)).trans hx341_0
        have HR341_0 := Aside0.mk hi341_0
        have HC341_0 := Aside0.mk hl341_0
        clear hi341_0 hl341_0
        replace p341 := eq_true p341
        replace q341 := eq_true q341
        refine start_ (n := 10) (S := fun w' => w'.cell? (ad340.add (x5_1).toNat) = some (.slice A340_0 ((rd_T60 l0 x5_1).f0).length c340_0) ∧ w'.cell? (ad341.add (x5_1).toNat) = some (.slice A341_0 ((rd_T60 l1 x5_1).f0).length c341_0)) (ds := []) #[false, false, false, false, false, false, false, false, false, false] (by kernel_rfl) rfl rfl ⟨((HB.out.cell (World.block_lt_of_cell? w _ hw340_0)).trans hw340_0), ((HB.out.cell (World.block_lt_of_cell? w _ hw341_0)).trans hw341_0)⟩ (fun hHeld => ?_); refine with_tabW laws_eqRunS.tab6 laws_eqRunS.bits6 (fun HT_ HW_ => ?_)
        generalize wr.drew = w11 at HB HR340_0 HR341_0 hx340_0 hx341_0 hHeld ⊢
        refine pure_ (i := 0) (N := some 17) (v := ?_) (a' := ?_) #[true, false, false, false, false, false, false, false, false, false] rfl rfl (any_of HT_.out (by kernel_rfl)) (fun _ _ _ h => h) (Or.inl ⟨by rfl, ?_⟩) ?_ ?_
        rotate_left
        ·intro w'
         go_simp
         with_reducible rfl
        rotate_left
        ·simp only [Act.put, List.setIfInBounds_toArray, List.set_cons_zero, List.set_cons_succ, i64_w, i32_w]
         rfl
        refine pure_ (i := 1) (N := some 18) (v := ?_) (a' := ?_) #[true, true, false, false, false, false, false, false, false, false] rfl rfl (any_of HT_.out (by kernel_rfl)) (fun _ _ _ h => h) (Or.inl ⟨by rfl, ?_⟩) ?_ ?_
        rotate_left
        ·intro w'
         go_simp
         with_reducible rfl
        rotate_left
        ·simp only [Act.put, List.setIfInBounds_toArray, List.set_cons_zero, List.set_cons_succ, i64_w, i32_w]
         rfl
        refine pure_ (i := 2) (N := some 19) (v := ?_) (a' := ?_) #[true, true, true, false, false, false, false, false, false, false] rfl rfl (any_of HT_.out (by kernel_rfl)) (fun _ _ _ h => h) (Or.inl ⟨by rfl, ?_⟩) ?_ ?_
        rotate_left
        ·intro w'
         go_simp
         with_reducible rfl
        rotate_left
        ·simp only [Act.put, List.setIfInBounds_toArray, List.set_cons_zero, List.set_cons_succ, i64_w, i32_w]
         rfl
        refine pure_ (i := 4) (N := some 21) (v := ?_) (a' := ?_) #[true, true, true, false, true, false, false, false, false, false] rfl rfl (any_of HT_.out (by kernel_rfl)) (fun _ _ _ h => h) (Or.inl ⟨by rfl, ?_⟩) ?_ ?_
        rotate_left
        ·intro w'
         go_simp
         with_reducible rfl
        rotate_left
        ·simp only [Act.put, List.setIfInBounds_toArray, List.set_cons_zero, List.set_cons_succ, i64_w, i32_w]
         rfl
        refine pure_ (i := 5) (N := some 22) (v := ?_) (a' := ?_) #[true, true, true, false, true, true, false, false, false, false] rfl rfl (any_of HT_.out (by kernel_rfl)) (fun _ _ _ h => h) (Or.inl ⟨by rfl, ?_⟩) ?_ ?_
        rotate_left
        ·intro w'
         go_simp
         with_reducible rfl
        rotate_left
        ·simp only [Act.put, List.setIfInBounds_toArray, List.set_cons_zero, List.set_cons_succ, i64_w, i32_w]
         rfl
        refine pure_ (i := 6) (N := some 23) (v := ?_) (a' := ?_) #[true, true, true, false, true, true, true, false, false, false] rfl rfl (any_of HT_.out (by kernel_rfl)) (fun _ _ _ h => h) (Or.inl ⟨by rfl, ?_⟩) ?_ ?_
        rotate_left
        ·intro w'
         go_simp
         with_reducible rfl
        rotate_left
        ·simp only [Act.put, List.setIfInBounds_toArray, List.set_cons_zero, List.set_cons_succ, i64_w, i32_w]
         rfl
        refine take_ (i := 3) (N := some 20) (v := ?_) (a' := ?_) #[true, true, true, true, true, true, true, false, false, false] rfl rfl (take_ofW HT_.out HW_.out (by kernel_rfl)) (fun _ _ _ h => h) (Or.inl ⟨by rfl, ?_⟩) hHeld ?_ ?_
        rotate_left
        ·rintro w' ⟨s0, s1⟩
         go_simp
         with_reducible rfl
        rotate_left
        ·simp only [Act.put, List.setIfInBounds_toArray, List.set_cons_zero, List.set_cons_succ, i64_w, i32_w]
         rfl
        refine take_ (i := 7) (N := some 24) (v := ?_) (a' := ?_) #[true, true, true, true, true, true, true, true, false, false] rfl rfl (take_ofW HT_.out HW_.out (by kernel_rfl)) (fun _ _ _ h => h) (Or.inl ⟨by rfl, ?_⟩) hHeld ?_ ?_
        rotate_left
        ·rintro w' ⟨s0, s1⟩
         go_simp
         with_reducible rfl
        rotate_left
        ·simp only [Act.put, List.setIfInBounds_toArray, List.set_cons_zero, List.set_cons_succ, i64_w, i32_w]
         rfl
        refine one_ (i := 8) (N := some 25) #[true, true, true, true, true, true, true, true, true, false] rfl rfl (one_of HT_.out (by kernel_rfl)) (by decide) (fun K hK => ?_)
        refine goes_ Try.func70 (by kernel_rfl) rfl #[.agg #[.slice A340_0 ((rd_T60 l0 x5_1).f0).length c340_0], .agg #[.slice A341_0 ((rd_T60 l1 x5_1).f0).length c341_0]] (by rfl) rfl rfl (by (try simp only [List.map_toArray, List.map_cons, List.map_nil]); first | done | rfl | (simp only [List.length_drop, List.length_take]; rfl)) ?_
        with_reducible refine (laws_eqRun.calls k1 _ _ ((rd_T60 l0 x5_1).f0) _ _ ((rd_T60 l1 x5_1).f0) false _ ?side1 ?side2 ?side3 ?side4 A7.out).mono ?_
        (case side1 => repeat (first | exact (Kd.C_below HR340_0.out HB.out) | (with_reducible refine Kd.C_alloc ?_ _) | (with_reducible refine Kd.C_drewN ?_ _) | (with_reducible refine Kd.C_drew ?_)))
        (case side2 => exact HC340_0.out)
        (case side3 => repeat (first | exact (Kd.C_below HR341_0.out HB.out) | (with_reducible refine Kd.C_alloc ?_ _) | (with_reducible refine Kd.C_drewN ?_ _) | (with_reducible refine Kd.C_drew ?_)))
        (case side4 => exact HC341_0.out)
        rintro e w12 ⟨rfl, hb⟩
        refine ⟨_, rfl, ?_⟩
        have n0_ := Aside0.mk (below_step bw hb)
        clear HB
        have HB := n0_
        clear n0_
        (try clear hb)
        (try clear hb2)
        (try clear hk)
        (try clear hi)
        refine hK.out _ _ ⟨((HB.out.cell (World.block_lt_of_cell? w _ hw340_0)).trans hw340_0), ((HB.out.cell (World.block_lt_of_cell? w _ hw341_0)).trans hw341_0)⟩ (fun hHeld => ?_)
        clear hK K
        refine norm_ (a' := ?_) ?_ ?_
        rotate_left
        ·show Act.put _ (some 25) _ = _
         simp only [Act.put, List.setIfInBounds_toArray, List.set_cons_zero, List.set_cons_succ, i64_w, i32_w]
         rfl
        refine pure_ (i := 9) (N := some 26) (v := ?_) (a' := ?_) #[true, true, true, true, true, true, true, true, true, true] rfl rfl (any_of HT_.out (by kernel_rfl)) (fun _ _ _ h => h) (Or.inl ⟨by rfl, ?_⟩) ?_ ?_
        rotate_left
        ·intro w'
         go_simp
         with_reducible rfl
        rotate_left
        ·simp only [Act.put, List.setIfInBounds_toArray, List.set_cons_zero, List.set_cons_succ, i64_w, i32_w]
         rfl
        refine done_ (done_of HT_.out (by kernel_rfl)) ?_
        try go_wp2
        go_ret
        exact ⟨by first | rfl | (simp [errW_none, errW_some] <;> rfl) | (simp [*, errW_none, errW_some] <;> rfl), bw⟩
      ·rw [if_neg c6] at H
       exact absurd H (by simp)
     ·rw [if_neg c5] at H
      exact absurd H (by simp)
    ·rw [if_neg c4] at H
     have c4b0 : decide (x5_1 < (l0.length : Int)) = false := decide_eq_false c4
     clear c4
     obtain rfl := Option.some.inj H
     go_wp2
     go_ret
     exact ⟨by first | rfl | (simp [errW_none, errW_some] <;> rfl) | (simp [*, errW_none, errW_some] <;> rfl), bw⟩
 ·rw [if_neg c3] at H
  have c3b0 : ((l0.length : Int) == (l1.length : Int)) = false := beq_eq_false_iff_ne.mpr c3
  have c3b1 : ((l0.length : Int) != (l1.length : Int)) = true := bne_iff_ne.mpr c3
  have c3b2 : (l0.length == l1.length) = false := by first | simpa using c3 | (simp at c3 ⊢; omega)
  obtain rfl := Option.some.inj H
  go_enter Try.func57, Try.ntmps57
  go_wp2
  go_ret
  exact ⟨by first | rfl | (simp [errW_none, errW_some] <;> rfl) | (simp [*, errW_none, errW_some] <;> rfl), bw⟩

end Go.Proofs.Ytjlggfdmfchncaa.Q

namespace Go.Proofs.Ytjlggfdmfchncaa.Q
open Go.RowKit Go.Proofs.YtjlggfdmfchncaaW.PrintWords Go.Proofs.YtjlggfdmfchncaaW.PrintLast Go.Proofs.YtjlggfdmfchncaaW.PrintMore
set_option linter.unusedVariables false
set_option linter.unusedSimpArgs false

/-! ### laws_eqTablet: function 43 -/
def laws_eqTablet.f (k : Nat) (a0_0 : ByteArray) (l0_1 : List (S60)) (a1_0 : ByteArray) (l1_1 : List (S60)) : Option (Bool) := if a0_0.toList = a1_0.toList then ((laws_eqRunS.f k l0_1 l1_1).bind fun t345 => (if t345 = true then (some true) else (some false))) else (some false)
set_option maxHeartbeats 8000000 in
set_option maxRecDepth 100000 in
theorem laws_eqTablet.calls (k : Nat) (a0_0 : ByteArray) (A0_1 : Option Addr) (c0_1 : Nat) (l0_1 : List (S60)) (a1_0 : ByteArray) (A1_1 : Option Addr) (c1_1 : Nat) (l1_1 : List (S60)) (r : Bool) (w : World) (hr0_1 : Kd.C k60 w A0_1 l0_1.length l0_1) (hc0_1 : l0_1.length ≤ c0_1) (hr1_1 : Kd.C k60 w A1_1 l1_1.length l1_1) (hc1_1 : l1_1.length ≤ c1_1) (h : laws_eqTablet.f k a0_0 l0_1 a1_0 l1_1 = some r) :
  Calls Try.prog 43 #[.agg #[.string a0_0, .slice A0_1 l0_1.length c0_1], .agg #[.string a1_0, .slice A1_1 l1_1.length c1_1]] w fun e w' => e = .returned (.bool r) ∧ Below w.heap.size w w' := by
 have hu40 := Try.underlying40
 have HR0_1 := Aside0.mk hr0_1
 have HC0_1 := Aside0.mk hc0_1
 clear hr0_1 hc0_1
 have HR1_1 := Aside0.mk hr1_1
 have HC1_1 := Aside0.mk hc1_1
 clear hr1_1 hc1_1
 have HB := Aside0.mk (Below.refl w.heap.size w)
 have H : (if a0_0.toList = a1_0.toList then ((laws_eqRunS.f k l0_1 l1_1).bind fun t345 => (if t345 = true then (some true) else (some false))) else (some false)) = some r := h
 clear h
 by_cases c3 : a0_0.toList = a1_0.toList
 ·rw [if_pos c3] at H
  have c3b0 : (a0_0.toList == a1_0.toList) = true := beq_iff_eq.mpr c3
  have c3b1 : (a0_0.toList != a1_0.toList) = false := bne_eq_false_iff_eq.mpr c3
  clear c3
  replace H := Option.bind_eq_some_iff.mp H
  obtain ⟨t345, A40, H⟩ := H
  replace H : (if t345 = true then (some true) else (some false)) = some r := H
  have A4 := Aside0.mk A40
  clear A40
  by_cases c5 : t345 = true
  ·subst c5
   have H1 : (some true) = some r := by rw [if_pos rfl] at H; exact H
   clear H
   have H := H1
   clear H1
   obtain rfl := Option.some.inj H
   go_enter Try.func43, Try.ntmps43
   go_wp2_with (first | ((with_reducible refine gate_dst (N := 2) rfl ?_); refine box_event ?hg (N := 2) ?hd (cs := #[.string a0_0, .slice A0_1 l0_1.length c0_1]) (t := 40) ?hr ?_; (case hd => rfl); (case hg => rfl); (case hr => first | (go_simp; done) | (go_simp; rfl)); intro gb343 hg w6 hbox hb; have n0_ := Aside0.mk (below_step bw hb); have n1_ := Aside0.mk (hbox); have n2_ := Aside0.mk ((by rw [hg]; exact (below_size bw) : w.heap.size ≤ gb343)); have n3_ := Aside0.mk ((by rw [hg]; exact (below_size bw) : w.heap.size ≤ gb343)); clear HB; have HB := n0_; have BK343 := n1_; have GW343 := n2_; have GE343 := n3_; clear n0_ n1_ n2_ n3_; clear hb hbox hg) | ((with_reducible refine gate_dst (N := 3) rfl ?_); refine box_event ?hg (N := 3) ?hd (cs := #[.string a1_0, .slice A1_1 l1_1.length c1_1]) (t := 40) ?hr ?_; (case hd => rfl); (case hg => rfl); (case hr => first | (go_simp; done) | (go_simp; rfl)); intro gb344 hg w7 hbox hb; have n0_ := Aside0.mk (blk_below (g := gb343) (o := .cells #[.string a0_0, .slice A0_1 l0_1.length c0_1] 40 (0, 0)) (lb BK343) hb); have n1_ := Aside0.mk (below_step bw hb); have n2_ := Aside0.mk (hbox); have n3_ := Aside0.mk ((by rw [hg]; exact (below_size bw) : w.heap.size ≤ gb344)); have n4_ := Aside0.mk ((by rw [hg]; exact (below_size bw) : w.heap.size ≤ gb344)); have n5_ := Aside0.mk ((by rw [hg]; exact Nat.ne_of_lt (blk_lt (g := gb343) (o := .cells #[.string a0_0, .slice A0_1 l0_1.length c0_1] 40 (0, 0)) (lb BK343)) : gb343 ≠ gb344)); have n6_ := Aside0.mk ((by rw [hg]; exact Nat.ne_of_gt (blk_lt (g := gb343) (o := .cells #[.string a0_0, .slice A0_1 l0_1.length c0_1] 40 (0, 0)) (lb BK343)) : gb344 ≠ gb343)); clear BK343; clear HB; have BK343 := n0_; have HB := n1_; have BK344 := n2_; have GW344 := n3_; have GE344 := n4_; have NB343_344 := n5_; have NB344_343 := n6_; clear n0_ n1_ n2_ n3_ n4_ n5_ n6_; clear hb hbox hg; have hnb8 := NB343_344.out; have hnc8 := NB344_343.out; have hcz9_0 : w7.cell? ⟨gb343, 0, none⟩ = some (.string a0_0) := (blk_cell BK343.out 0).trans rfl; have hcz9_1 : w7.cell? ⟨gb343, 1, none⟩ = some (.slice A0_1 l0_1.length c0_1) := (blk_cell BK343.out 1).trans rfl; have hfz9_0 := blk_frozen BK343.out 0; have hfz9_1 := blk_frozen BK343.out 1; have hcz10_0 : w7.cell? ⟨gb344, 0, none⟩ = some (.string a1_0) := (blk_cell BK344.out 0).trans rfl; have hcz10_1 : w7.cell? ⟨gb344, 1, none⟩ = some (.slice A1_1 l1_1.length c1_1) := (blk_cell BK344.out 1).trans rfl; have hfz10_0 := blk_frozen BK344.out 0; have hfz10_1 := blk_frozen BK344.out 1) | ((with_reducible refine at_fn (f := 57) rfl ?_); refine goesL_ (some 14) rfl rfl Try.func57 (by kernel_rfl) rfl #[.slice A0_1 l0_1.length c0_1, .slice A1_1 l1_1.length c1_1] rfl (by (try simp only [List.map_toArray, List.map_cons, List.map_nil]); first | done | rfl | (simp only [List.length_drop, List.length_take]; rfl)) ?_; (with_reducible refine (laws_eqRunS.calls k _ _ l0_1 _ _ l1_1 true _ ?side1 ?side2 ?side3 ?side4 A4.out).mono ?_); (case side1 => repeat (first | exact (Kd.C_below HR0_1.out HB.out) | (with_reducible refine Kd.C_alloc ?_ _) | (with_reducible refine Kd.C_drewN ?_ _) | (with_reducible refine Kd.C_drew ?_))); (case side2 => exact HC0_1.out); (case side3 => repeat (first | exact (Kd.C_below HR1_1.out HB.out) | (with_reducible refine Kd.C_alloc ?_ _) | (with_reducible refine Kd.C_drewN ?_ _) | (with_reducible refine Kd.C_drew ?_))); (case side4 => exact HC1_1.out); rintro e w11 ⟨rfl, hb⟩; refine ⟨_, rfl, ?_⟩; have n0_ := Aside0.mk (blk_below (g := gb343) (o := .cells #[.string a0_0, .slice A0_1 l0_1.length c0_1] 40 (0, 0)) (lb BK343) hb); have n1_ := Aside0.mk (blk_below (g := gb344) (o := .cells #[.string a1_0, .slice A1_1 l1_1.length c1_1] 40 (0, 0)) (lb BK344) hb); have n2_ := Aside0.mk (below_step bw hb); clear BK343; clear BK344; clear HB; have BK343 := n0_; have BK344 := n1_; have HB := n2_; clear n0_ n1_ n2_; (try clear hb); (try clear hb2); (try clear hk); (try clear hi)))
   go_ret
   exact ⟨by first | rfl | (simp [errW_none, errW_some] <;> rfl) | (simp [*, errW_none, errW_some] <;> rfl), bw⟩
  ·replace c5 := Bool.eq_false_iff.mpr c5
   subst c5
   have H1 : (some false) = some r := by rw [if_neg (show ¬ (false = true) by decide)] at H; exact H
   clear H
   have H := H1
   clear H1
   obtain rfl := Option.some.inj H
   go_enter Try.func43, Try.ntmps43
   go_wp2_with (first | ((with_reducible refine gate_dst (N := 2) rfl ?_); refine box_event ?hg (N := 2) ?hd (cs := #[.string a0_0, .slice A0_1 l0_1.length c0_1]) (t := 40) ?hr ?_; (case hd => rfl); (case hg => rfl); (case hr => first | (go_simp; done) | (go_simp; rfl)); intro gb343 hg w12 hbox hb; have n0_ := Aside0.mk (below_step bw hb); have n1_ := Aside0.mk (hbox); have n2_ := Aside0.mk ((by rw [hg]; exact (below_size bw) : w.heap.size ≤ gb343)); have n3_ := Aside0.mk ((by rw [hg]; exact (below_size bw) : w.heap.size ≤ gb343)); clear HB; have HB := n0_; have BK343 := n1_; have GW343 := n2_; have GE343 := n3_; clear n0_ n1_ n2_ n3_; clear hb hbox hg) | ((with_reducible refine gate_dst (N := 3) rfl ?_); refine box_event ?hg (N := 3) ?hd (cs := #[.string a1_0, .slice A1_1 l1_1.length c1_1]) (t := 40) ?hr ?_; (case hd => rfl); (case hg => rfl); (case hr => first | (go_simp; done) | (go_simp; rfl)); intro gb344 hg w13 hbox hb; have n0_ := Aside0.mk (blk_below (g := gb343) (o := .cells #[.string a0_0, .slice A0_1 l0_1.length c0_1] 40 (0, 0)) (lb BK343) hb); have n1_ := Aside0.mk (below_step bw hb); have n2_ := Aside0.mk (hbox); have n3_ := Aside0.mk ((by rw [hg]; exact (below_size bw) : w.heap.size ≤ gb344)); have n4_ := Aside0.mk ((by rw [hg]; exact (below_size bw) : w.heap.size ≤ gb344)); have n5_ := Aside0.mk ((by rw [hg]; exact Nat.ne_of_lt (blk_lt (g := gb343) (o := .cells #[.string a0_0, .slice A0_1 l0_1.length c0_1] 40 (0, 0)) (lb BK343)) : gb343 ≠ gb344)); have n6_ := Aside0.mk ((by rw [hg]; exact Nat.ne_of_gt (blk_lt (g := gb343) (o := .cells #[.string a0_0, .slice A0_1 l0_1.length c0_1] 40 (0, 0)) (lb BK343)) : gb344 ≠ gb343)); clear BK343; clear HB; have BK343 := n0_; have HB := n1_; have BK344 := n2_; have GW344 := n3_; have GE344 := n4_; have NB343_344 := n5_; have NB344_343 := n6_; clear n0_ n1_ n2_ n3_ n4_ n5_ n6_; clear hb hbox hg; have hnb14 := NB343_344.out; have hnc14 := NB344_343.out; have hcz15_0 : w13.cell? ⟨gb343, 0, none⟩ = some (.string a0_0) := (blk_cell BK343.out 0).trans rfl; have hcz15_1 : w13.cell? ⟨gb343, 1, none⟩ = some (.slice A0_1 l0_1.length c0_1) := (blk_cell BK343.out 1).trans rfl; have hfz15_0 := blk_frozen BK343.out 0; have hfz15_1 := blk_frozen BK343.out 1; have hcz16_0 : w13.cell? ⟨gb344, 0, none⟩ = some (.string a1_0) := (blk_cell BK344.out 0).trans rfl; have hcz16_1 : w13.cell? ⟨gb344, 1, none⟩ = some (.slice A1_1 l1_1.length c1_1) := (blk_cell BK344.out 1).trans rfl; have hfz16_0 := blk_frozen BK344.out 0; have hfz16_1 := blk_frozen BK344.out 1) | ((with_reducible refine at_fn (f := 57) rfl ?_); refine goesL_ (some 14) rfl rfl Try.func57 (by kernel_rfl) rfl #[.slice A0_1 l0_1.length c0_1, .slice A1_1 l1_1.length c1_1] rfl (by (try simp only [List.map_toArray, List.map_cons, List.map_nil]); first | done | rfl | (simp only [List.length_drop, List.length_take]; rfl)) ?_; (with_reducible refine (laws_eqRunS.calls k _ _ l0_1 _ _ l1_1 false _ ?side1 ?side2 ?side3 ?side4 A4.out).mono ?_); (case side1 => repeat (first | exact (Kd.C_below HR0_1.out HB.out) | (with_reducible refine Kd.C_alloc ?_ _) | (with_reducible refine Kd.C_drewN ?_ _) | (with_reducible refine Kd.C_drew ?_))); (case side2 => exact HC0_1.out); (case side3 => repeat (first | exact (Kd.C_below HR1_1.out HB.out) | (with_reducible refine Kd.C_alloc ?_ _) | (with_reducible refine Kd.C_drewN ?_ _) | (with_reducible refine Kd.C_drew ?_))); (case side4 => exact HC1_1.out); rintro e w17 ⟨rfl, hb⟩; refine ⟨_, rfl, ?_⟩; have n0_ := Aside0.mk (blk_below (g := gb343) (o := .cells #[.string a0_0, .slice A0_1 l0_1.length c0_1] 40 (0, 0)) (lb BK343) hb); have n1_ := Aside0.mk (blk_below (g := gb344) (o := .cells #[.string a1_0, .slice A1_1 l1_1.length c1_1] 40 (0, 0)) (lb BK344) hb); have n2_ := Aside0.mk (below_step bw hb); clear BK343; clear BK344; clear HB; have BK343 := n0_; have BK344 := n1_; have HB := n2_; clear n0_ n1_ n2_; (try clear hb); (try clear hb2); (try clear hk); (try clear hi)))
   go_ret
   exact ⟨by first | rfl | (simp [errW_none, errW_some] <;> rfl) | (simp [*, errW_none, errW_some] <;> rfl), bw⟩
 ·rw [if_neg c3] at H
  have c3b0 : (a0_0.toList == a1_0.toList) = false := beq_eq_false_iff_ne.mpr c3
  have c3b1 : (a0_0.toList != a1_0.toList) = true := bne_iff_ne.mpr c3
  obtain rfl := Option.some.inj H
  go_enter Try.func43, Try.ntmps43
  go_wp2_with (first | ((with_reducible refine gate_dst (N := 2) rfl ?_); refine box_event ?hg (N := 2) ?hd (cs := #[.string a0_0, .slice A0_1 l0_1.length c0_1]) (t := 40) ?hr ?_; (case hd => rfl); (case hg => rfl); (case hr => first | (go_simp; done) | (go_simp; rfl)); intro gb343 hg w18 hbox hb; have n0_ := Aside0.mk (below_step bw hb); have n1_ := Aside0.mk (hbox); have n2_ := Aside0.mk ((by rw [hg]; exact (below_size bw) : w.heap.size ≤ gb343)); have n3_ := Aside0.mk ((by rw [hg]; exact (below_size bw) : w.heap.size ≤ gb343)); clear HB; have HB := n0_; have BK343 := n1_; have GW343 := n2_; have GE343 := n3_; clear n0_ n1_ n2_ n3_; clear hb hbox hg) | ((with_reducible refine gate_dst (N := 3) rfl ?_); refine box_event ?hg (N := 3) ?hd (cs := #[.string a1_0, .slice A1_1 l1_1.length c1_1]) (t := 40) ?hr ?_; (case hd => rfl); (case hg => rfl); (case hr => first | (go_simp; done) | (go_simp; rfl)); intro gb344 hg w19 hbox hb; have n0_ := Aside0.mk (blk_below (g := gb343) (o := .cells #[.string a0_0, .slice A0_1 l0_1.length c0_1] 40 (0, 0)) (lb BK343) hb); have n1_ := Aside0.mk (below_step bw hb); have n2_ := Aside0.mk (hbox); have n3_ := Aside0.mk ((by rw [hg]; exact (below_size bw) : w.heap.size ≤ gb344)); have n4_ := Aside0.mk ((by rw [hg]; exact (below_size bw) : w.heap.size ≤ gb344)); have n5_ := Aside0.mk ((by rw [hg]; exact Nat.ne_of_lt (blk_lt (g := gb343) (o := .cells #[.string a0_0, .slice A0_1 l0_1.length c0_1] 40 (0, 0)) (lb BK343)) : gb343 ≠ gb344)); have n6_ := Aside0.mk ((by rw [hg]; exact Nat.ne_of_gt (blk_lt (g := gb343) (o := .cells #[.string a0_0, .slice A0_1 l0_1.length c0_1] 40 (0, 0)) (lb BK343)) : gb344 ≠ gb343)); clear BK343; clear HB; have BK343 := n0_; have HB := n1_; have BK344 := n2_; have GW344 := n3_; have GE344 := n4_; have NB343_344 := n5_; have NB344_343 := n6_; clear n0_ n1_ n2_ n3_ n4_ n5_ n6_; clear hb hbox hg; have hnb20 := NB343_344.out; have hnc20 := NB344_343.out; have hcz21_0 : w19.cell? ⟨gb343, 0, none⟩ = some (.string a0_0) := (blk_cell BK343.out 0).trans rfl; have hcz21_1 : w19.cell? ⟨gb343, 1, none⟩ = some (.slice A0_1 l0_1.length c0_1) := (blk_cell BK343.out 1).trans rfl; have hfz21_0 := blk_frozen BK343.out 0; have hfz21_1 := blk_frozen BK343.out 1; have hcz22_0 : w19.cell? ⟨gb344, 0, none⟩ = some (.string a1_0) := (blk_cell BK344.out 0).trans rfl; have hcz22_1 : w19.cell? ⟨gb344, 1, none⟩ = some (.slice A1_1 l1_1.length c1_1) := (blk_cell BK344.out 1).trans rfl; have hfz22_0 := blk_frozen BK344.out 0; have hfz22_1 := blk_frozen BK344.out 1))
  go_ret
  exact ⟨by first | rfl | (simp [errW_none, errW_some] <;> rfl) | (simp [*, errW_none, errW_some] <;> rfl), bw⟩

end Go.Proofs.Ytjlggfdmfchncaa.Q
