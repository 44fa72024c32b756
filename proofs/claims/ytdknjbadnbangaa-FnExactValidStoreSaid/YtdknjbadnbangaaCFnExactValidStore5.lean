/- FnExactValidStore: the row of the law: its arguments opened, its walk, its statement over lists (PrFnExactValidStore). No condition. -/
import Derived.Test.YtdknjbadnbangaaCFnExactValidStore4
import Derived.Deep.RegionHeld3
import Derived.Deep.DeepCutAuto
import Derived.Deep.QuietTactic
import Derived.BigQuiet
import Derived.StillTailTactics

namespace Go.Proofs.Ytdknjbadnbangaa.Q
open Go.RowKit Go.Proofs.YtdknjbadnbangaaW.PrintWords Go.Proofs.YtdknjbadnbangaaW.PrintLast Go.Proofs.YtdknjbadnbangaaW.PrintMore
set_option linter.unusedVariables false
set_option linter.unusedSimpArgs false

attribute [local go_sem high] eqA113
/-! ### impl_ValidRun: function 42 -/
mutual
def impl_ValidRun.l0 : Nat → List (S35) → Int → Int → List (S35) → Option (Bool)
 | 0, _, _, _, _ => none
 | k + 1, x11, x12, x13, x335000 => if x13 < x12 then (if 0 ≤ x13 then (if x13 < (x11.length : Int) then ((impl_ValidEntry.f ((rd_T35 x11 x13).f0) ((rd_T35 x11 x13).f1) ((rd_T35 x11 x13).f2) ((rd_T35 x11 x13).f3) ((rd_T35 x11 x13).f4) ((rd_T35 x11 x13).f5)).bind fun t337 => (if t337 = true then (if x13 = 0 then (impl_ValidRun.l0 k x11 x12 (wrap64 (x13 + 1)) x335000) else (if 0 ≤ (wrap64 (x13 - 1)) then (if (wrap64 (x13 - 1)) < (x335000.length : Int) then ((impl_Entry_compare.f k ((rd_T35 x335000 (wrap64 (x13 - 1))).f0) ((rd_T35 x335000 (wrap64 (x13 - 1))).f1) ((rd_T35 x335000 (wrap64 (x13 - 1))).f2) ((rd_T35 x335000 (wrap64 (x13 - 1))).f3) ((rd_T35 x335000 (wrap64 (x13 - 1))).f4) ((rd_T35 x335000 (wrap64 (x13 - 1))).f5) ((rd_T35 x11 x13).f0) ((rd_T35 x11 x13).f1) ((rd_T35 x11 x13).f2) ((rd_T35 x11 x13).f3) ((rd_T35 x11 x13).f4) ((rd_T35 x11 x13).f5)).bind fun t340 => (if t340 ≥ 0 then (impl_ValidRun.j1 k x11 x12 x13 true x335000) else (if ((rd_T35 x335000 (wrap64 (x13 - 1))).f4) = 2 then (if ((rd_T35 x11 x13).f4) = 2 then ((impl_Entry_column.f ((rd_T35 x335000 (wrap64 (x13 - 1))).f0) ((rd_T35 x335000 (wrap64 (x13 - 1))).f1) ((rd_T35 x335000 (wrap64 (x13 - 1))).f2) ((rd_T35 x335000 (wrap64 (x13 - 1))).f3) ((rd_T35 x335000 (wrap64 (x13 - 1))).f4) ((rd_T35 x335000 (wrap64 (x13 - 1))).f5)).bind fun bt341 => ((impl_Entry_column.f ((rd_T35 x11 x13).f0) ((rd_T35 x11 x13).f1) ((rd_T35 x11 x13).f2) ((rd_T35 x11 x13).f3) ((rd_T35 x11 x13).f4) ((rd_T35 x11 x13).f5)).bind fun bt344 => (impl_ValidRun.j1 k x11 x12 x13 (bt341.1.toList == bt344.1.toList && (bt341.2.1.toList == bt344.2.1.toList && (bt341.2.2.toList == bt344.2.2.toList))) x335000))) else (impl_ValidRun.j1 k x11 x12 x13 false x335000)) else (impl_ValidRun.j1 k x11 x12 x13 false x335000)))) else (none)) else (none))) else (some false))) else (none)) else (none)) else (some true)
def impl_ValidRun.j1 : Nat → List (S35) → Int → Int → Bool → List (S35) → Option (Bool)
 | 0, _, _, _, _, _ => none
 | k + 1, x11, x12, x13, x49, x335000 => if x49 = true then (some false) else (impl_ValidRun.l0 k x11 x12 (wrap64 (x13 + 1)) x335000)
end
def impl_ValidRun.f (k : Nat) (l0_0 : List (S35)) : Option (Bool) := if (l0_0.length : Int) > 10000 then (some false) else (impl_ValidRun.l0 k l0_0 (l0_0.length : Int) 0 l0_0)
def impl_ValidRun.T10 : Bool × List (List Nat × List Nat) := (true, [([], []), ([], []), ([0, 1], [0, 1]), ([2], [2]), ([3, 2], [3]), ([4], [4]), ([5, 4], [4, 5]), ([6, 4], [4, 6]), ([7, 4, 4], [4, 7]), ([8], [8]), ([9, 8], [8, 9]), ([10, 8], [8, 10]), ([8, 11, 4], [4, 8, 11]), ([12, 8, 4], [4, 12]), ([13], [13]), ([14, 13, 13], [13, 14]), ([13], [13]), ([16, 15, 13], [13, 16]), ([15, 17, 13], [13, 15, 17]), ([13, 18, 4], [4, 13, 18]), ([4, 19], [4, 19])])
def impl_ValidRun.B10 : List Nat := [0, 0, 3, 7, 15, 31, 63, 127, 255, 511, 1023, 2047, 4095, 8191, 16383, 32767, 16383, 131071, 262143, 524287, 1048575]
theorem impl_ValidRun.tab10 : rtab .any (opsOf Try.f42 10) = impl_ValidRun.T10 := by kernel_rfl
theorem impl_ValidRun.bits10 : waitsOk impl_ValidRun.T10.2 impl_ValidRun.B10 = true := by kernel_rfl
set_option maxHeartbeats 8000000 in
set_option maxRecDepth 100000 in
theorem impl_ValidRun.calls (k : Nat) (A0_0 : Option Addr) (c0_0 : Nat) (l0_0 : List (S35)) (r : Bool) (w : World) (hr0_0 : Kd.C k35 w A0_0 l0_0.length l0_0) (hc0_0 : l0_0.length ≤ c0_0) (h : impl_ValidRun.f k l0_0 = some r) :
  Calls Try.prog 42 #[.agg #[.slice A0_0 l0_0.length c0_0]] w fun e w' => e = .returned (.bool r) ∧ Below w.heap.size w w' := by
 have hu66 := Try.underlying66
 have hu35 := Try.underlying35
 have HR0_0 := Aside0.mk hr0_0
 have HC0_0 := Aside0.mk hc0_0
 clear hr0_0 hc0_0
 have HB := Aside0.mk (Below.refl w.heap.size w)
 have H : (if (l0_0.length : Int) > 10000 then (some false) else (impl_ValidRun.l0 k l0_0 (l0_0.length : Int) 0 l0_0)) = some r := h
 clear h
 by_cases c2 : (l0_0.length : Int) > 10000
 ·rw [if_pos c2] at H
  have c2b0 : decide (10000 < (l0_0.length : Int)) = true := decide_eq_true c2
  have c2b1 : decide (10000 < l0_0.length) = true := decide_eq_true (by omega)
  clear c2
  obtain rfl := Option.some.inj H
  go_enter Try.func42, Try.ntmps42
  go_wp2_with (first | ((with_reducible refine gate_dst (N := 1) rfl ?_); refine box_event ?hg (N := 1) ?hd (cs := #[.slice A0_0 l0_0.length c0_0]) (t := 66) ?hr ?_; (case hd => rfl); (case hg => rfl); (case hr => first | (go_simp; done) | (go_simp; rfl)); intro gb334 hg w3 hbox hb; have n0_ := Aside0.mk (below_step (by repeat (first | (with_reducible first | exact HB.out | apply below_alloc | apply pw_below_drewN | apply below_drew1) | exact HB.out)) hb); have n1_ := Aside0.mk (hbox); have n2_ := Aside0.mk ((by rw [hg]; exact (below_size (by repeat (first | (with_reducible first | exact HB.out | apply below_alloc | apply pw_below_drewN | apply below_drew1) | exact HB.out))) : w.heap.size ≤ gb334)); have n3_ := Aside0.mk ((by rw [hg]; exact (below_size (by repeat (first | (with_reducible first | exact HB.out | apply below_alloc | apply pw_below_drewN | apply below_drew1) | exact HB.out))) : w.heap.size ≤ gb334)); clear HB; have HB := n0_; have BK334 := n1_; have GW334 := n2_; have GE334 := n3_; clear n0_ n1_ n2_ n3_; clear hb hbox hg; have hcz4_0 : w3.cell? ⟨gb334, 0, none⟩ = some (.slice A0_0 l0_0.length c0_0) := (blk_cell BK334.out 0).trans rfl; have hfz4_0 := blk_frozen BK334.out 0))
  go_ret
  exact ⟨by first | rfl | (simp [errW_none, errW_some] <;> rfl) | (simp [*, errW_none, errW_some] <;> rfl), by repeat (first | (with_reducible first | exact HB.out | apply below_alloc | apply pw_below_drewN | apply below_drew1 | refine below_set ?_ GE334.out) | exact HB.out)⟩
 ·rw [if_neg c2] at H
  have c2b0 : decide (10000 < (l0_0.length : Int)) = false := decide_eq_false c2
  have c2b1 : decide (10000 < l0_0.length) = false := decide_eq_false (by omega)
  clear c2
  have H' := Aside0.mk H
  clear H
  go_enter Try.func42, Try.ntmps42
  go_wp2_with (first | ((with_reducible refine gate_dst (N := 1) rfl ?_); refine box_event ?hg (N := 1) ?hd (cs := #[.slice A0_0 l0_0.length c0_0]) (t := 66) ?hr ?_; (case hd => rfl); (case hg => rfl); (case hr => first | (go_simp; done) | (go_simp; rfl)); intro gb334 hg w5 hbox hb; have n0_ := Aside0.mk (below_step (by repeat (first | (with_reducible first | exact HB.out | apply below_alloc | apply pw_below_drewN | apply below_drew1) | exact HB.out)) hb); have n1_ := Aside0.mk (hbox); have n2_ := Aside0.mk ((by rw [hg]; exact (below_size (by repeat (first | (with_reducible first | exact HB.out | apply below_alloc | apply pw_below_drewN | apply below_drew1) | exact HB.out))) : w.heap.size ≤ gb334)); have n3_ := Aside0.mk ((by rw [hg]; exact (below_size (by repeat (first | (with_reducible first | exact HB.out | apply below_alloc | apply pw_below_drewN | apply below_drew1) | exact HB.out))) : w.heap.size ≤ gb334)); clear HB; have HB := n0_; have BK334 := n1_; have GW334 := n2_; have GE334 := n3_; clear n0_ n1_ n2_ n3_; clear hb hbox hg; have hcz6_0 : w5.cell? ⟨gb334, 0, none⟩ = some (.slice A0_0 l0_0.length c0_0) := (blk_cell BK334.out 0).trans rfl; have hfz6_0 := blk_frozen BK334.out 0))
  go_loopg [13] k (fun kq v13 w' => ∃ (x13_1 : Int), v13 = .int .i64 x13_1 ∧ Aside0 (impl_ValidRun.l0 kq l0_0 (l0_0.length : Int) x13_1 l0_0 = some r) ∧ Aside0 (kq ≤ k) ∧ Aside0 (w'.heap[gb334]? = some (.cells #[(.slice A0_0 l0_0.length c0_0)] 66 (0, 0))) ∧ Aside0 (Below w.heap.size w w'))
  case atStart => exact ⟨(0), (by first | rfl | (simp; done) | (simp [*]; done)), H', ⟨Nat.le_refl _⟩, ⟨by (with_reducible repeat (first | refine blk_drewN ?_ _ | refine blk_drew ?_ | refine blk_alloc ?_ _)); exact BK334.out⟩, ⟨by repeat (first | (with_reducible first | exact HB.out | apply below_alloc | apply pw_below_drewN | apply below_drew1 | refine below_set ?_ GE334.out) | exact HB.out)⟩⟩
  case round =>
   clear H'
   try clear c2
   try clear c2b0
   try clear c2b1
   try clear p2
   try clear c4
   try clear hcz4_0
   try clear hcz6_0
   try clear hfz4_0
   try clear hfz6_0
   obtain ⟨x13_1, rfl, HA, HK1, BK334, HB⟩ := hrel
   cases gk with
   | zero => exact absurd HA.out (by simp [impl_ValidRun.l0])
   | succ k1 =>
    have H := HA.out
    clear HA
    simp only [impl_ValidRun.l0] at H
    by_cases c7 : x13_1 < (l0_0.length : Int)
    ·rw [if_pos c7] at H
     have c7b0 : decide (x13_1 < (l0_0.length : Int)) = true := decide_eq_true c7
     clear c7
     by_cases c8 : 0 ≤ x13_1
     ·rw [if_pos c8] at H
      have c8b0 : decide (0 ≤ x13_1) = true := decide_eq_true c8
      clear c8
      by_cases c9 : x13_1 < (l0_0.length : Int)
      ·rw [if_pos c9] at H
       have c9b0 : decide (x13_1 < (l0_0.length : Int)) = true := decide_eq_true c9
       clear c9
       replace H := Option.bind_eq_some_iff.mp H
       obtain ⟨t337, A100, H⟩ := H
       replace H : (if t337 = true then (if x13_1 = 0 then (impl_ValidRun.l0 k1 l0_0 (l0_0.length : Int) (wrap64 (x13_1 + 1)) l0_0) else (if 0 ≤ (wrap64 (x13_1 - 1)) then (if (wrap64 (x13_1 - 1)) < (l0_0.length : Int) then ((impl_Entry_compare.f k1 ((rd_T35 l0_0 (wrap64 (x13_1 - 1))).f0) ((rd_T35 l0_0 (wrap64 (x13_1 - 1))).f1) ((rd_T35 l0_0 (wrap64 (x13_1 - 1))).f2) ((rd_T35 l0_0 (wrap64 (x13_1 - 1))).f3) ((rd_T35 l0_0 (wrap64 (x13_1 - 1))).f4) ((rd_T35 l0_0 (wrap64 (x13_1 - 1))).f5) ((rd_T35 l0_0 x13_1).f0) ((rd_T35 l0_0 x13_1).f1) ((rd_T35 l0_0 x13_1).f2) ((rd_T35 l0_0 x13_1).f3) ((rd_T35 l0_0 x13_1).f4) ((rd_T35 l0_0 x13_1).f5)).bind fun t340 => (if t340 ≥ 0 then (impl_ValidRun.j1 k1 l0_0 (l0_0.length : Int) x13_1 true l0_0) else (if ((rd_T35 l0_0 (wrap64 (x13_1 - 1))).f4) = 2 then (if ((rd_T35 l0_0 x13_1).f4) = 2 then ((impl_Entry_column.f ((rd_T35 l0_0 (wrap64 (x13_1 - 1))).f0) ((rd_T35 l0_0 (wrap64 (x13_1 - 1))).f1) ((rd_T35 l0_0 (wrap64 (x13_1 - 1))).f2) ((rd_T35 l0_0 (wrap64 (x13_1 - 1))).f3) ((rd_T35 l0_0 (wrap64 (x13_1 - 1))).f4) ((rd_T35 l0_0 (wrap64 (x13_1 - 1))).f5)).bind fun bt341 => ((impl_Entry_column.f ((rd_T35 l0_0 x13_1).f0) ((rd_T35 l0_0 x13_1).f1) ((rd_T35 l0_0 x13_1).f2) ((rd_T35 l0_0 x13_1).f3) ((rd_T35 l0_0 x13_1).f4) ((rd_T35 l0_0 x13_1).f5)).bind fun bt344 => (impl_ValidRun.j1 k1 l0_0 (l0_0.length : Int) x13_1 (bt341.1.toList == bt344.1.toList && (bt341.2.1.toList == bt344.2.1.toList && (bt341.2.2.toList == bt344.2.2.toList))) l0_0))) else (impl_ValidRun.j1 k1 l0_0 (l0_0.length : Int) x13_1 false l0_0)) else (impl_ValidRun.j1 k1 l0_0 (l0_0.length : Int) x13_1 false l0_0)))) else (none)) else (none))) else (some false)) = some r := H
       have A10 := Aside0.mk A100
       clear A100
       by_cases c11 : t337 = true
       ·subst c11
        have H1 : (if x13_1 = 0 then (impl_ValidRun.l0 k1 l0_0 (l0_0.length : Int) (wrap64 (x13_1 + 1)) l0_0) else (if 0 ≤ (wrap64 (x13_1 - 1)) then (if (wrap64 (x13_1 - 1)) < (l0_0.length : Int) then ((impl_Entry_compare.f k1 ((rd_T35 l0_0 (wrap64 (x13_1 - 1))).f0) ((rd_T35 l0_0 (wrap64 (x13_1 - 1))).f1) ((rd_T35 l0_0 (wrap64 (x13_1 - 1))).f2) ((rd_T35 l0_0 (wrap64 (x13_1 - 1))).f3) ((rd_T35 l0_0 (wrap64 (x13_1 - 1))).f4) ((rd_T35 l0_0 (wrap64 (x13_1 - 1))).f5) ((rd_T35 l0_0 x13_1).f0) ((rd_T35 l0_0 x13_1).f1) ((rd_T35 l0_0 x13_1).f2) ((rd_T35 l0_0 x13_1).f3) ((rd_T35 l0_0 x13_1).f4) ((rd_T35 l0_0 x13_1).f5)).bind fun t340 => (if t340 ≥ 0 then (impl_ValidRun.j1 k1 l0_0 (l0_0.length : Int) x13_1 true l0_0) else (if ((rd_T35 l0_0 (wrap64 (x13_1 - 1))).f4) = 2 then (if ((rd_T35 l0_0 x13_1).f4) = 2 then ((impl_Entry_column.f ((rd_T35 l0_0 (wrap64 (x13_1 - 1))).f0) ((rd_T35 l0_0 (wrap64 (x13_1 - 1))).f1) ((rd_T35 l0_0 (wrap64 (x13_1 - 1))).f2) ((rd_T35 l0_0 (wrap64 (x13_1 - 1))).f3) ((rd_T35 l0_0 (wrap64 (x13_1 - 1))).f4) ((rd_T35 l0_0 (wrap64 (x13_1 - 1))).f5)).bind fun bt341 => ((impl_Entry_column.f ((rd_T35 l0_0 x13_1).f0) ((rd_T35 l0_0 x13_1).f1) ((rd_T35 l0_0 x13_1).f2) ((rd_T35 l0_0 x13_1).f3) ((rd_T35 l0_0 x13_1).f4) ((rd_T35 l0_0 x13_1).f5)).bind fun bt344 => (impl_ValidRun.j1 k1 l0_0 (l0_0.length : Int) x13_1 (bt341.1.toList == bt344.1.toList && (bt341.2.1.toList == bt344.2.1.toList && (bt341.2.2.toList == bt344.2.2.toList))) l0_0))) else (impl_ValidRun.j1 k1 l0_0 (l0_0.length : Int) x13_1 false l0_0)) else (impl_ValidRun.j1 k1 l0_0 (l0_0.length : Int) x13_1 false l0_0)))) else (none)) else (none))) = some r := by rw [if_pos rfl] at H; exact H
        clear H
        have H := H1
        clear H1
        by_cases c12 : x13_1 = 0
        ·rw [if_pos c12] at H
         have c12b0 : (x13_1 == 0) = true := beq_iff_eq.mpr c12
         have c12b1 : (x13_1 != 0) = false := bne_eq_false_iff_eq.mpr c12
         clear c12
         have H' := Aside0.mk H
         clear H
         have p335 : 0 ≤ (x13_1 : Int) := of_decide_eq_true (by first | (with_reducible assumption) | assumption)
         have q335 : x13_1 < (l0_0.length : Int) := of_decide_eq_true (by first | (with_reducible assumption) | assumption)
         obtain ⟨ad335, e335, hx335_0, hx335_1, hx335_2, hx335_3, hx335_4, hx335_5⟩ := at_T35 HR0_0.out x13_1 p335 q335
         cases e335
         replace hx335_0 := (HB.out.cell (World.block_lt_of_cell? w _ hx335_0)).trans hx335_0
         replace hx335_1 := (HB.out.cell (World.block_lt_of_cell? w _ hx335_1)).trans hx335_1
         replace hx335_2 := (HB.out.cell (World.block_lt_of_cell? w _ hx335_2)).trans hx335_2
         replace hx335_3 := (HB.out.cell (World.block_lt_of_cell? w _ hx335_3)).trans hx335_3
         replace hx335_4 := (HB.out.cell (World.block_lt_of_cell? w _ hx335_4)).trans hx335_4
         replace hx335_5 := (HB.out.cell (World.block_lt_of_cell? w _ hx335_5)).trans hx335_5
         replace p335 := eq_true p335
         replace q335 := eq_true q335
         go_wp2_with (first | ((with_reducible refine gate_dst (N := 4) rfl ?_); refine box_event ?hg (N := 4) ?hd (cs := #[.string (⟨#[]⟩ : ByteArray), .string (⟨#[]⟩ : ByteArray), .string (⟨#[]⟩ : ByteArray), .int .u64 0, .int .i64 0, .string (⟨#[]⟩ : ByteArray)]) (t := 35) ?hr ?_; (case hd => rfl); (case hg => rfl); (case hr => first | (go_simp; done) | (go_simp; rfl)); intro gb336 hg w13 hbox hb; have n0_ := Aside0.mk (blk_below (g := gb334) (o := .cells #[.slice (some ad335) l0_0.length c0_0] 66 (0, 0)) (by (with_reducible repeat (first | refine blk_drewN ?_ _ | refine blk_drew ?_ | refine blk_alloc ?_ _)); exact BK334.out) hb); have n1_ := Aside0.mk (below_step (by repeat (first | (with_reducible first | exact HB.out | apply below_alloc | apply pw_below_drewN | apply below_drew1 | refine below_set ?_ GE334.out) | exact HB.out)) hb); have n2_ := Aside0.mk (hbox); have n3_ := Aside0.mk ((by rw [hg]; exact (below_size (by repeat (first | (with_reducible first | exact HB.out | apply below_alloc | apply pw_below_drewN | apply below_drew1 | refine below_set ?_ GE334.out) | exact HB.out))) : w.heap.size ≤ gb336)); have n4_ := Aside0.mk ((by rw [hg]; exact (below_size (by repeat (first | (with_reducible first | exact HB.out | apply below_alloc | apply pw_below_drewN | apply below_drew1 | refine below_set ?_ GE334.out) | exact HB.out))) : w.heap.size ≤ gb336)); have n5_ := Aside0.mk ((by rw [hg]; exact Nat.ne_of_lt (blk_lt (g := gb334) (o := .cells #[.slice (some ad335) l0_0.length c0_0] 66 (0, 0)) (by (with_reducible repeat (first | refine blk_drewN ?_ _ | refine blk_drew ?_ | refine blk_alloc ?_ _)); exact BK334.out)) : gb334 ≠ gb336)); have n6_ := Aside0.mk ((by rw [hg]; exact Nat.ne_of_gt (blk_lt (g := gb334) (o := .cells #[.slice (some ad335) l0_0.length c0_0] 66 (0, 0)) (by (with_reducible repeat (first | refine blk_drewN ?_ _ | refine blk_drew ?_ | refine blk_alloc ?_ _)); exact BK334.out)) : gb336 ≠ gb334)); clear BK334; clear HB; have BK334 := n0_; have HB := n1_; have BK336 := n2_; have GW336 := n3_; have GE336 := n4_; have NB334_336 := n5_; have NB336_334 := n6_; clear n0_ n1_ n2_ n3_ n4_ n5_ n6_; clear hb hbox hg; have hnb14 := NB336_334.out; have hnc14 := NB334_336.out; have hcz15_0 : w13.cell? ⟨gb336, 0, none⟩ = some (.string (⟨#[]⟩ : ByteArray)) := (blk_cell BK336.out 0).trans rfl; have hcz15_1 : w13.cell? ⟨gb336, 1, none⟩ = some (.string (⟨#[]⟩ : ByteArray)) := (blk_cell BK336.out 1).trans rfl; have hcz15_2 : w13.cell? ⟨gb336, 2, none⟩ = some (.string (⟨#[]⟩ : ByteArray)) := (blk_cell BK336.out 2).trans rfl; have hcz15_3 : w13.cell? ⟨gb336, 3, none⟩ = some (.int .u64 0) := (blk_cell BK336.out 3).trans rfl; have hcz15_4 : w13.cell? ⟨gb336, 4, none⟩ = some (.int .i64 0) := (blk_cell BK336.out 4).trans rfl; have hcz15_5 : w13.cell? ⟨gb336, 5, none⟩ = some (.string (⟨#[]⟩ : ByteArray)) := (blk_cell BK336.out 5).trans rfl; have hfz15_0 := blk_frozen BK336.out 0; have hfz15_1 := blk_frozen BK336.out 1; have hfz15_2 := blk_frozen BK336.out 2; have hfz15_3 := blk_frozen BK336.out 3; have hfz15_4 := blk_frozen BK336.out 4; have hfz15_5 := blk_frozen BK336.out 5) | ((with_reducible refine at_fn (f := 22) rfl ?_); refine goesL_ (some 19) rfl rfl Try.func22 (by kernel_rfl) rfl #[.agg #[.string ((rd_T35 l0_0 x13_1).f0), .string ((rd_T35 l0_0 x13_1).f1), .string ((rd_T35 l0_0 x13_1).f2), .int .u64 ((rd_T35 l0_0 x13_1).f3), .int .i64 ((rd_T35 l0_0 x13_1).f4), .string ((rd_T35 l0_0 x13_1).f5)]] rfl (by (try simp only [List.map_toArray, List.map_cons, List.map_nil]); first | done | rfl | (simp only [List.length_drop, List.length_take]; rfl)) ?_; (with_reducible refine (impl_ValidEntry.calls ((rd_T35 l0_0 x13_1).f0) ((rd_T35 l0_0 x13_1).f1) ((rd_T35 l0_0 x13_1).f2) ((rd_T35 l0_0 x13_1).f3) ((rd_T35 l0_0 x13_1).f4) ((rd_T35 l0_0 x13_1).f5) true _ A10.out).mono ?_); rintro e w16 ⟨rfl, hb⟩; refine ⟨_, rfl, ?_⟩; have n0_ := Aside0.mk (blk_below (g := gb334) (o := .cells #[.slice (some ad335) l0_0.length c0_0] 66 (0, 0)) (by (with_reducible repeat (first | refine blk_drewN ?_ _ | refine blk_drew ?_ | refine blk_alloc ?_ _)); refine blk_far ?_ NB334_336.out _; (with_reducible repeat (first | refine blk_drewN ?_ _ | refine blk_drew ?_ | refine blk_alloc ?_ _)); refine blk_far ?_ NB334_336.out _; (with_reducible repeat (first | refine blk_drewN ?_ _ | refine blk_drew ?_ | refine blk_alloc ?_ _)); refine blk_far ?_ NB334_336.out _; (with_reducible repeat (first | refine blk_drewN ?_ _ | refine blk_drew ?_ | refine blk_alloc ?_ _)); refine blk_far ?_ NB334_336.out _; (with_reducible repeat (first | refine blk_drewN ?_ _ | refine blk_drew ?_ | refine blk_alloc ?_ _)); refine blk_far ?_ NB334_336.out _; (with_reducible repeat (first | refine blk_drewN ?_ _ | refine blk_drew ?_ | refine blk_alloc ?_ _)); refine blk_far ?_ NB334_336.out _; (with_reducible repeat (first | refine blk_drewN ?_ _ | refine blk_drew ?_ | refine blk_alloc ?_ _)); exact BK334.out) hb); have n1_ := Aside0.mk (blk_below (g := gb336) (o := .cells #[.string ((rd_T35 l0_0 x13_1).f0), .string ((rd_T35 l0_0 x13_1).f1), .string ((rd_T35 l0_0 x13_1).f2), .int .u64 ((rd_T35 l0_0 x13_1).f3), .int .i64 ((rd_T35 l0_0 x13_1).f4), .string ((rd_T35 l0_0 x13_1).f5)] 35 (0, 0)) (by (with_reducible repeat (first | refine blk_drewN ?_ _ | refine blk_drew ?_ | refine blk_alloc ?_ _)); refine blk_put (cs := #[.string ((rd_T35 l0_0 x13_1).f0), .string ((rd_T35 l0_0 x13_1).f1), .string ((rd_T35 l0_0 x13_1).f2), .int .u64 ((rd_T35 l0_0 x13_1).f3), .int .i64 ((rd_T35 l0_0 x13_1).f4), .string (⟨#[]⟩ : ByteArray)]) ?_ 5 _ rfl; (with_reducible repeat (first | refine blk_drewN ?_ _ | refine blk_drew ?_ | refine blk_alloc ?_ _)); refine blk_put (cs := #[.string ((rd_T35 l0_0 x13_1).f0), .string ((rd_T35 l0_0 x13_1).f1), .string ((rd_T35 l0_0 x13_1).f2), .int .u64 ((rd_T35 l0_0 x13_1).f3), .int .i64 0, .string (⟨#[]⟩ : ByteArray)]) ?_ 4 _ rfl; (with_reducible repeat (first | refine blk_drewN ?_ _ | refine blk_drew ?_ | refine blk_alloc ?_ _)); refine blk_put (cs := #[.string ((rd_T35 l0_0 x13_1).f0), .string ((rd_T35 l0_0 x13_1).f1), .string ((rd_T35 l0_0 x13_1).f2), .int .u64 0, .int .i64 0, .string (⟨#[]⟩ : ByteArray)]) ?_ 3 _ rfl; (with_reducible repeat (first | refine blk_drewN ?_ _ | refine blk_drew ?_ | refine blk_alloc ?_ _)); refine blk_put (cs := #[.string ((rd_T35 l0_0 x13_1).f0), .string ((rd_T35 l0_0 x13_1).f1), .string (⟨#[]⟩ : ByteArray), .int .u64 0, .int .i64 0, .string (⟨#[]⟩ : ByteArray)]) ?_ 2 _ rfl; (with_reducible repeat (first | refine blk_drewN ?_ _ | refine blk_drew ?_ | refine blk_alloc ?_ _)); refine blk_put (cs := #[.string ((rd_T35 l0_0 x13_1).f0), .string (⟨#[]⟩ : ByteArray), .string (⟨#[]⟩ : ByteArray), .int .u64 0, .int .i64 0, .string (⟨#[]⟩ : ByteArray)]) ?_ 1 _ rfl; (with_reducible repeat (first | refine blk_drewN ?_ _ | refine blk_drew ?_ | refine blk_alloc ?_ _)); refine blk_put (cs := #[.string (⟨#[]⟩ : ByteArray), .string (⟨#[]⟩ : ByteArray), .string (⟨#[]⟩ : ByteArray), .int .u64 0, .int .i64 0, .string (⟨#[]⟩ : ByteArray)]) ?_ 0 _ rfl; (with_reducible repeat (first | refine blk_drewN ?_ _ | refine blk_drew ?_ | refine blk_alloc ?_ _)); exact BK336.out) hb); have n2_ := Aside0.mk (below_step (by repeat (first | (with_reducible first | exact HB.out | apply below_alloc | apply pw_below_drewN | apply below_drew1 | refine below_set ?_ GE334.out | refine below_set ?_ GE336.out) | exact HB.out)) hb); clear BK334; clear BK336; clear HB; have BK334 := n0_; have BK336 := n1_; have HB := n2_; clear n0_ n1_ n2_; (try clear hb); (try clear hb2); (try clear hk); (try clear hi)))
         go_roundg k1
         case measure => have := HK1.out; omega
         case rel => exact ⟨(wrap64 (x13_1 + 1)), (by first | rfl | (simp; done) | (simp [*]; done)), H', ⟨by have := HK1.out; omega⟩, ⟨by (with_reducible repeat (first | refine blk_drewN ?_ _ | refine blk_drew ?_ | refine blk_alloc ?_ _)); exact BK334.out⟩, ⟨by repeat (first | (with_reducible first | exact HB.out | apply below_alloc | apply pw_below_drewN | apply below_drew1 | refine below_set ?_ GE334.out | refine below_set ?_ GE336.out) | exact HB.out)⟩⟩
        ·rw [if_neg c12] at H
         have c12b0 : (x13_1 == 0) = false := beq_eq_false_iff_ne.mpr c12
         have c12b1 : (x13_1 != 0) = true := bne_iff_ne.mpr c12
         obtain ⟨ji17, hji17⟩ : ∃ j_ : Int, (wrap64 (x13_1 - 1)) = j_ := ⟨_, rfl⟩
         replace H : (if 0 ≤ (ji17) then (if (ji17) < (l0_0.length : Int) then ((impl_Entry_compare.f k1 ((rd_T35 l0_0 (ji17)).f0) ((rd_T35 l0_0 (ji17)).f1) ((rd_T35 l0_0 (ji17)).f2) ((rd_T35 l0_0 (ji17)).f3) ((rd_T35 l0_0 (ji17)).f4) ((rd_T35 l0_0 (ji17)).f5) ((rd_T35 l0_0 x13_1).f0) ((rd_T35 l0_0 x13_1).f1) ((rd_T35 l0_0 x13_1).f2) ((rd_T35 l0_0 x13_1).f3) ((rd_T35 l0_0 x13_1).f4) ((rd_T35 l0_0 x13_1).f5)).bind fun t340 => (if t340 ≥ 0 then (impl_ValidRun.j1 k1 l0_0 (l0_0.length : Int) x13_1 true l0_0) else (if ((rd_T35 l0_0 (ji17)).f4) = 2 then (if ((rd_T35 l0_0 x13_1).f4) = 2 then ((impl_Entry_column.f ((rd_T35 l0_0 (ji17)).f0) ((rd_T35 l0_0 (ji17)).f1) ((rd_T35 l0_0 (ji17)).f2) ((rd_T35 l0_0 (ji17)).f3) ((rd_T35 l0_0 (ji17)).f4) ((rd_T35 l0_0 (ji17)).f5)).bind fun bt341 => ((impl_Entry_column.f ((rd_T35 l0_0 x13_1).f0) ((rd_T35 l0_0 x13_1).f1) ((rd_T35 l0_0 x13_1).f2) ((rd_T35 l0_0 x13_1).f3) ((rd_T35 l0_0 x13_1).f4) ((rd_T35 l0_0 x13_1).f5)).bind fun bt344 => (impl_ValidRun.j1 k1 l0_0 (l0_0.length : Int) x13_1 (bt341.1.toList == bt344.1.toList && (bt341.2.1.toList == bt344.2.1.toList && (bt341.2.2.toList == bt344.2.2.toList))) l0_0))) else (impl_ValidRun.j1 k1 l0_0 (l0_0.length : Int) x13_1 false l0_0)) else (impl_ValidRun.j1 k1 l0_0 (l0_0.length : Int) x13_1 false l0_0)))) else (none)) else (none)) = some r := by first | (rw [hji17] at H; exact H) | (simp only [hji17] at H ⊢; exact H)
         (try rw [hji17] at A10)
         have hji17w : (IntKind.i64.wrap (x13_1 - 1)) = ji17 := (i64_w _).trans hji17
         by_cases c18 : 0 ≤ (ji17)
         ·rw [if_pos c18] at H
          have c18b0 : decide (0 ≤ (ji17)) = true := decide_eq_true c18
          clear c18
          by_cases c19 : (ji17) < (l0_0.length : Int)
          ·rw [if_pos c19] at H
           have c19b0 : decide ((ji17) < (l0_0.length : Int)) = true := decide_eq_true c19
           clear c19
           have HC20 := Aside0.mk H
           clear H
           have p335 : 0 ≤ (x13_1 : Int) := of_decide_eq_true (by first | (with_reducible assumption) | assumption)
           have q335 : x13_1 < (l0_0.length : Int) := of_decide_eq_true (by first | (with_reducible assumption) | assumption)
           obtain ⟨ad335, e335, hx335_0, hx335_1, hx335_2, hx335_3, hx335_4, hx335_5⟩ := at_T35 HR0_0.out x13_1 p335 q335
           cases e335
           replace hx335_0 := (HB.out.cell (World.block_lt_of_cell? w _ hx335_0)).trans hx335_0
           replace hx335_1 := (HB.out.cell (World.block_lt_of_cell? w _ hx335_1)).trans hx335_1
           replace hx335_2 := (HB.out.cell (World.block_lt_of_cell? w _ hx335_2)).trans hx335_2
           replace hx335_3 := (HB.out.cell (World.block_lt_of_cell? w _ hx335_3)).trans hx335_3
           replace hx335_4 := (HB.out.cell (World.block_lt_of_cell? w _ hx335_4)).trans hx335_4
           replace hx335_5 := (HB.out.cell (World.block_lt_of_cell? w _ hx335_5)).trans hx335_5
           replace p335 := eq_true p335
           replace q335 := eq_true q335
           go_upto_region 10 with (first | ((with_reducible refine gate_dst (N := 4) rfl ?_); refine box_event ?hg (N := 4) ?hd (cs := #[.string (⟨#[]⟩ : ByteArray), .string (⟨#[]⟩ : ByteArray), .string (⟨#[]⟩ : ByteArray), .int .u64 0, .int .i64 0, .string (⟨#[]⟩ : ByteArray)]) (t := 35) ?hr ?_; (case hd => rfl); (case hg => rfl); (case hr => first | (go_simp; done) | (go_simp; rfl)); intro gb336 hg w21 hbox hb; have n0_ := Aside0.mk (blk_below (g := gb334) (o := .cells #[.slice (some ad335) l0_0.length c0_0] 66 (0, 0)) (by (with_reducible repeat (first | refine blk_drewN ?_ _ | refine blk_drew ?_ | refine blk_alloc ?_ _)); exact BK334.out) hb); have n1_ := Aside0.mk (below_step (by repeat (first | (with_reducible first | exact HB.out | apply below_alloc | apply pw_below_drewN | apply below_drew1 | refine below_set ?_ GE334.out) | exact HB.out)) hb); have n2_ := Aside0.mk (hbox); have n3_ := Aside0.mk ((by rw [hg]; exact (below_size (by repeat (first | (with_reducible first | exact HB.out | apply below_alloc | apply pw_below_drewN | apply below_drew1 | refine below_set ?_ GE334.out) | exact HB.out))) : w.heap.size ≤ gb336)); have n4_ := Aside0.mk ((by rw [hg]; exact (below_size (by repeat (first | (with_reducible first | exact HB.out | apply below_alloc | apply pw_below_drewN | apply below_drew1 | refine below_set ?_ GE334.out) | exact HB.out))) : w.heap.size ≤ gb336)); have n5_ := Aside0.mk ((by rw [hg]; exact Nat.ne_of_lt (blk_lt (g := gb334) (o := .cells #[.slice (some ad335) l0_0.length c0_0] 66 (0, 0)) (by (with_reducible repeat (first | refine blk_drewN ?_ _ | refine blk_drew ?_ | refine blk_alloc ?_ _)); exact BK334.out)) : gb334 ≠ gb336)); have n6_ := Aside0.mk ((by rw [hg]; exact Nat.ne_of_gt (blk_lt (g := gb334) (o := .cells #[.slice (some ad335) l0_0.length c0_0] 66 (0, 0)) (by (with_reducible repeat (first | refine blk_drewN ?_ _ | refine blk_drew ?_ | refine blk_alloc ?_ _)); exact BK334.out)) : gb336 ≠ gb334)); clear BK334; clear HB; have BK334 := n0_; have HB := n1_; have BK336 := n2_; have GW336 := n3_; have GE336 := n4_; have NB334_336 := n5_; have NB336_334 := n6_; clear n0_ n1_ n2_ n3_ n4_ n5_ n6_; clear hb hbox hg; have hnb22 := NB336_334.out; have hnc22 := NB334_336.out; have hcz23_0 : w21.cell? ⟨gb336, 0, none⟩ = some (.string (⟨#[]⟩ : ByteArray)) := (blk_cell BK336.out 0).trans rfl; have hcz23_1 : w21.cell? ⟨gb336, 1, none⟩ = some (.string (⟨#[]⟩ : ByteArray)) := (blk_cell BK336.out 1).trans rfl; have hcz23_2 : w21.cell? ⟨gb336, 2, none⟩ = some (.string (⟨#[]⟩ : ByteArray)) := (blk_cell BK336.out 2).trans rfl; have hcz23_3 : w21.cell? ⟨gb336, 3, none⟩ = some (.int .u64 0) := (blk_cell BK336.out 3).trans rfl; have hcz23_4 : w21.cell? ⟨gb336, 4, none⟩ = some (.int .i64 0) := (blk_cell BK336.out 4).trans rfl; have hcz23_5 : w21.cell? ⟨gb336, 5, none⟩ = some (.string (⟨#[]⟩ : ByteArray)) := (blk_cell BK336.out 5).trans rfl; have hfz23_0 := blk_frozen BK336.out 0; have hfz23_1 := blk_frozen BK336.out 1; have hfz23_2 := blk_frozen BK336.out 2; have hfz23_3 := blk_frozen BK336.out 3; have hfz23_4 := blk_frozen BK336.out 4; have hfz23_5 := blk_frozen BK336.out 5) | ((with_reducible refine at_fn (f := 22) rfl ?_); refine goesL_ (some 19) rfl rfl Try.func22 (by kernel_rfl) rfl #[.agg #[.string ((rd_T35 l0_0 x13_1).f0), .string ((rd_T35 l0_0 x13_1).f1), .string ((rd_T35 l0_0 x13_1).f2), .int .u64 ((rd_T35 l0_0 x13_1).f3), .int .i64 ((rd_T35 l0_0 x13_1).f4), .string ((rd_T35 l0_0 x13_1).f5)]] rfl (by (try simp only [List.map_toArray, List.map_cons, List.map_nil]); first | done | rfl | (simp only [List.length_drop, List.length_take]; rfl)) ?_; (with_reducible refine (impl_ValidEntry.calls ((rd_T35 l0_0 x13_1).f0) ((rd_T35 l0_0 x13_1).f1) ((rd_T35 l0_0 x13_1).f2) ((rd_T35 l0_0 x13_1).f3) ((rd_T35 l0_0 x13_1).f4) ((rd_T35 l0_0 x13_1).f5) true _ A10.out).mono ?_); rintro e w24 ⟨rfl, hb⟩; refine ⟨_, rfl, ?_⟩; have n0_ := Aside0.mk (blk_below (g := gb334) (o := .cells #[.slice (some ad335) l0_0.length c0_0] 66 (0, 0)) (by (with_reducible repeat (first | refine blk_drewN ?_ _ | refine blk_drew ?_ | refine blk_alloc ?_ _)); refine blk_far ?_ NB334_336.out _; (with_reducible repeat (first | refine blk_drewN ?_ _ | refine blk_drew ?_ | refine blk_alloc ?_ _)); refine blk_far ?_ NB334_336.out _; (with_reducible repeat (first | refine blk_drewN ?_ _ | refine blk_drew ?_ | refine blk_alloc ?_ _)); refine blk_far ?_ NB334_336.out _; (with_reducible repeat (first | refine blk_drewN ?_ _ | refine blk_drew ?_ | refine blk_alloc ?_ _)); refine blk_far ?_ NB334_336.out _; (with_reducible repeat (first | refine blk_drewN ?_ _ | refine blk_drew ?_ | refine blk_alloc ?_ _)); refine blk_far ?_ NB334_336.out _; (with_reducible repeat (first | refine blk_drewN ?_ _ | refine blk_drew ?_ | refine blk_alloc ?_ _)); refine blk_far ?_ NB334_336.out _; (with_reducible repeat (first | refine blk_drewN ?_ _ | refine blk_drew ?_ | refine blk_alloc ?_ _)); exact BK334.out) hb); have n1_ := Aside0.mk (blk_below (g := gb336) (o := .cells #[.string ((rd_T35 l0_0 x13_1).f0), .string ((rd_T35 l0_0 x13_1).f1), .string ((rd_T35 l0_0 x13_1).f2), .int .u64 ((rd_T35 l0_0 x13_1).f3), .int .i64 ((rd_T35 l0_0 x13_1).f4), .string ((rd_T35 l0_0 x13_1).f5)] 35 (0, 0)) (by (with_reducible repeat (first | refine blk_drewN ?_ _ | refine blk_drew ?_ | refine blk_alloc ?_ _)); refine blk_put (cs := #[.string ((rd_T35 l0_0 x13_1).f0), .string ((rd_T35 l0_0 x13_1).f1), .string ((rd_T35 l0_0 x13_1).f2), .int .u64 ((rd_T35 l0_0 x13_1).f3), .int .i64 ((rd_T35 l0_0 x13_1).f4), .string (⟨#[]⟩ : ByteArray)]) ?_ 5 _ rfl; (with_reducible repeat (first | refine blk_drewN ?_ _ | refine blk_drew ?_ | refine blk_alloc ?_ _)); refine blk_put (cs := #[.string ((rd_T35 l0_0 x13_1).f0), .string ((rd_T35 l0_0 x13_1).f1), .string ((rd_T35 l0_0 x13_1).f2), .int .u64 ((rd_T35 l0_0 x13_1).f3), .int .i64 0, .string (⟨#[]⟩ : ByteArray)]) ?_ 4 _ rfl; (with_reducible repeat (first | refine blk_drewN ?_ _ | refine blk_drew ?_ | refine blk_alloc ?_ _)); refine blk_put (cs := #[.string ((rd_T35 l0_0 x13_1).f0), .string ((rd_T35 l0_0 x13_1).f1), .string ((rd_T35 l0_0 x13_1).f2), .int .u64 0, .int .i64 0, .string (⟨#[]⟩ : ByteArray)]) ?_ 3 _ rfl; (with_reducible repeat (first | refine blk_drewN ?_ _ | refine blk_drew ?_ | refine blk_alloc ?_ _)); refine blk_put (cs := #[.string ((rd_T35 l0_0 x13_1).f0), .string ((rd_T35 l0_0 x13_1).f1), .string (⟨#[]⟩ : ByteArray), .int .u64 0, .int .i64 0, .string (⟨#[]⟩ : ByteArray)]) ?_ 2 _ rfl; (with_reducible repeat (first | refine blk_drewN ?_ _ | refine blk_drew ?_ | refine blk_alloc ?_ _)); refine blk_put (cs := #[.string ((rd_T35 l0_0 x13_1).f0), .string (⟨#[]⟩ : ByteArray), .string (⟨#[]⟩ : ByteArray), .int .u64 0, .int .i64 0, .string (⟨#[]⟩ : ByteArray)]) ?_ 1 _ rfl; (with_reducible repeat (first | refine blk_drewN ?_ _ | refine blk_drew ?_ | refine blk_alloc ?_ _)); refine blk_put (cs := #[.string (⟨#[]⟩ : ByteArray), .string (⟨#[]⟩ : ByteArray), .string (⟨#[]⟩ : ByteArray), .int .u64 0, .int .i64 0, .string (⟨#[]⟩ : ByteArray)]) ?_ 0 _ rfl; (with_reducible repeat (first | refine blk_drewN ?_ _ | refine blk_drew ?_ | refine blk_alloc ?_ _)); exact BK336.out) hb); have n2_ := Aside0.mk (below_step (by repeat (first | (with_reducible first | exact HB.out | apply below_alloc | apply pw_below_drewN | apply below_drew1 | refine below_set ?_ GE334.out | refine below_set ?_ GE336.out) | exact HB.out)) hb); clear BK334; clear BK336; clear HB; have BK334 := n0_; have BK336 := n1_; have HB := n2_; clear n0_ n1_ n2_; (try clear hb); (try clear hb2); (try clear hk); (try clear hi); have hcz25_0 : w24.cell? ⟨gb334, 0, none⟩ = some (.slice (some ad335) l0_0.length c0_0) := (blk_cell BK334.out 0).trans rfl; have hfz25_0 := blk_frozen BK334.out 0; have p338 : 0 ≤ ((ji17) : Int) := of_decide_eq_true (by first | (with_reducible assumption) | assumption); have q338 : (ji17) < (l0_0.length : Int) := of_decide_eq_true (by first | (with_reducible assumption) | assumption); obtain ⟨ad338, e338, hx338_0, hx338_1, hx338_2, hx338_3, hx338_4, hx338_5⟩ := at_T35 HR0_0.out (ji17) p338 q338; obtain rfl : ad335 = ad338 := (by injection e338); replace hx338_0 := (HB.out.cell (World.block_lt_of_cell? w _ hx338_0)).trans hx338_0; replace hx338_1 := (HB.out.cell (World.block_lt_of_cell? w _ hx338_1)).trans hx338_1; replace hx338_2 := (HB.out.cell (World.block_lt_of_cell? w _ hx338_2)).trans hx338_2; replace hx338_3 := (HB.out.cell (World.block_lt_of_cell? w _ hx338_3)).trans hx338_3; replace hx338_4 := (HB.out.cell (World.block_lt_of_cell? w _ hx338_4)).trans hx338_4; replace hx338_5 := (HB.out.cell (World.block_lt_of_cell? w _ hx338_5)).trans hx338_5; replace p338 := eq_true p338; replace q338 := eq_true q338) | ((with_reducible refine gate_dst (N := 5) rfl ?_); refine box_event ?hg (N := 5) ?hd (cs := #[.string (⟨#[]⟩ : ByteArray), .string (⟨#[]⟩ : ByteArray), .string (⟨#[]⟩ : ByteArray), .int .u64 0, .int .i64 0, .string (⟨#[]⟩ : ByteArray)]) (t := 35) ?hr ?_; (case hd => rfl); (case hg => rfl); (case hr => first | (go_simp; done) | (go_simp; rfl)); intro gb339 hg w26 hbox hb; have n0_ := Aside0.mk (blk_below (g := gb334) (o := .cells #[.slice (some ad335) l0_0.length c0_0] 66 (0, 0)) (by (with_reducible repeat (first | refine blk_drewN ?_ _ | refine blk_drew ?_ | refine blk_alloc ?_ _)); exact BK334.out) hb); have n1_ := Aside0.mk (blk_below (g := gb336) (o := .cells #[.string ((rd_T35 l0_0 x13_1).f0), .string ((rd_T35 l0_0 x13_1).f1), .string ((rd_T35 l0_0 x13_1).f2), .int .u64 ((rd_T35 l0_0 x13_1).f3), .int .i64 ((rd_T35 l0_0 x13_1).f4), .string ((rd_T35 l0_0 x13_1).f5)] 35 (0, 0)) (by (with_reducible repeat (first | refine blk_drewN ?_ _ | refine blk_drew ?_ | refine blk_alloc ?_ _)); exact BK336.out) hb); have n2_ := Aside0.mk (below_step (by repeat (first | (with_reducible first | exact HB.out | apply below_alloc | apply pw_below_drewN | apply below_drew1 | refine below_set ?_ GE334.out | refine below_set ?_ GE336.out) | exact HB.out)) hb); have n3_ := Aside0.mk (hbox); have n4_ := Aside0.mk ((by rw [hg]; exact (below_size (by repeat (first | (with_reducible first | exact HB.out | apply below_alloc | apply pw_below_drewN | apply below_drew1 | refine below_set ?_ GE334.out | refine below_set ?_ GE336.out) | exact HB.out))) : w.heap.size ≤ gb339)); have n5_ := Aside0.mk ((by rw [hg]; exact (below_size (by repeat (first | (with_reducible first | exact HB.out | apply below_alloc | apply pw_below_drewN | apply below_drew1 | refine below_set ?_ GE334.out | refine below_set ?_ GE336.out) | exact HB.out))) : w.heap.size ≤ gb339)); have n6_ := Aside0.mk ((by rw [hg]; exact Nat.ne_of_lt (blk_lt (g := gb334) (o := .cells #[.slice (some ad335) l0_0.length c0_0] 66 (0, 0)) (by (with_reducible repeat (first | refine blk_drewN ?_ _ | refine blk_drew ?_ | refine blk_alloc ?_ _)); exact BK334.out)) : gb334 ≠ gb339)); have n7_ := Aside0.mk ((by rw [hg]; exact Nat.ne_of_gt (blk_lt (g := gb334) (o := .cells #[.slice (some ad335) l0_0.length c0_0] 66 (0, 0)) (by (with_reducible repeat (first | refine blk_drewN ?_ _ | refine blk_drew ?_ | refine blk_alloc ?_ _)); exact BK334.out)) : gb339 ≠ gb334)); have n8_ := Aside0.mk ((by rw [hg]; exact Nat.ne_of_lt (blk_lt (g := gb336) (o := .cells #[.string ((rd_T35 l0_0 x13_1).f0), .string ((rd_T35 l0_0 x13_1).f1), .string ((rd_T35 l0_0 x13_1).f2), .int .u64 ((rd_T35 l0_0 x13_1).f3), .int .i64 ((rd_T35 l0_0 x13_1).f4), .string ((rd_T35 l0_0 x13_1).f5)] 35 (0, 0)) (by (with_reducible repeat (first | refine blk_drewN ?_ _ | refine blk_drew ?_ | refine blk_alloc ?_ _)); exact BK336.out)) : gb336 ≠ gb339)); have n9_ := Aside0.mk ((by rw [hg]; exact Nat.ne_of_gt (blk_lt (g := gb336) (o := .cells #[.string ((rd_T35 l0_0 x13_1).f0), .string ((rd_T35 l0_0 x13_1).f1), .string ((rd_T35 l0_0 x13_1).f2), .int .u64 ((rd_T35 l0_0 x13_1).f3), .int .i64 ((rd_T35 l0_0 x13_1).f4), .string ((rd_T35 l0_0 x13_1).f5)] 35 (0, 0)) (by (with_reducible repeat (first | refine blk_drewN ?_ _ | refine blk_drew ?_ | refine blk_alloc ?_ _)); exact BK336.out)) : gb339 ≠ gb336)); clear BK334; clear BK336; clear HB; have BK334 := n0_; have BK336 := n1_; have HB := n2_; have BK339 := n3_; have GW339 := n4_; have GE339 := n5_; have NB334_339 := n6_; have NB339_334 := n7_; have NB336_339 := n8_; have NB339_336 := n9_; clear n0_ n1_ n2_ n3_ n4_ n5_ n6_ n7_ n8_ n9_; clear hb hbox hg; have hnb27 := NB339_334.out; have hnc27 := NB334_339.out; have hnb28 := NB339_336.out; have hnc28 := NB336_339.out; have hcz29_0 : w26.cell? ⟨gb339, 0, none⟩ = some (.string (⟨#[]⟩ : ByteArray)) := (blk_cell BK339.out 0).trans rfl; have hcz29_1 : w26.cell? ⟨gb339, 1, none⟩ = some (.string (⟨#[]⟩ : ByteArray)) := (blk_cell BK339.out 1).trans rfl; have hcz29_2 : w26.cell? ⟨gb339, 2, none⟩ = some (.string (⟨#[]⟩ : ByteArray)) := (blk_cell BK339.out 2).trans rfl; have hcz29_3 : w26.cell? ⟨gb339, 3, none⟩ = some (.int .u64 0) := (blk_cell BK339.out 3).trans rfl; have hcz29_4 : w26.cell? ⟨gb339, 4, none⟩ = some (.int .i64 0) := (blk_cell BK339.out 4).trans rfl; have hcz29_5 : w26.cell? ⟨gb339, 5, none⟩ = some (.string (⟨#[]⟩ : ByteArray)) := (blk_cell BK339.out 5).trans rfl; have hfz29_0 := blk_frozen BK339.out 0; have hfz29_1 := blk_frozen BK339.out 1; have hfz29_2 := blk_frozen BK339.out 2; have hfz29_3 := blk_frozen BK339.out 3; have hfz29_4 := blk_frozen BK339.out 4; have hfz29_5 := blk_frozen BK339.out 5))
           (try simp only [Act.put, List.setIfInBounds_toArray, List.set_cons_zero, List.set_cons_succ])
           go_cut [49] (fun v49 wc => ∃ (kq : Nat) (x49_19 : Bool), v49 = .bool x49_19 ∧ Aside0 (impl_ValidRun.j1 kq l0_0 (l0_0.length : Int) x13_1 x49_19 l0_0 = some r) ∧ Aside0 (kq ≤ k1) ∧ Aside0 (wc.heap[gb334]? = some (.cells #[(.slice (some ad335) l0_0.length c0_0)] 66 (0, 0))) ∧ Aside0 (wc.heap[gb336]? = some (.cells #[.string ((rd_T35 l0_0 x13_1).f0), .string ((rd_T35 l0_0 x13_1).f1), .string ((rd_T35 l0_0 x13_1).f2), .int .u64 ((rd_T35 l0_0 x13_1).f3), .int .i64 ((rd_T35 l0_0 x13_1).f4), .string ((rd_T35 l0_0 x13_1).f5)] 35 (0, 0))) ∧ Aside0 (wc.heap[gb339]? = some (.cells #[.string ((rd_T35 l0_0 (ji17)).f0), .string ((rd_T35 l0_0 (ji17)).f1), .string ((rd_T35 l0_0 (ji17)).f2), .int .u64 ((rd_T35 l0_0 (ji17)).f3), .int .i64 ((rd_T35 l0_0 (ji17)).f4), .string ((rd_T35 l0_0 (ji17)).f5)] 35 (0, 0))) ∧ Aside0 (Below w.heap.size w wc))
           case first =>
            have H := HC20.out
            clear HC20
            replace H := Option.bind_eq_some_iff.mp H
            obtain ⟨t340, A300, H⟩ := H
            replace H : (if t340 ≥ 0 then (impl_ValidRun.j1 k1 l0_0 (l0_0.length : Int) x13_1 true l0_0) else (if ((rd_T35 l0_0 (ji17)).f4) = 2 then (if ((rd_T35 l0_0 x13_1).f4) = 2 then ((impl_Entry_column.f ((rd_T35 l0_0 (ji17)).f0) ((rd_T35 l0_0 (ji17)).f1) ((rd_T35 l0_0 (ji17)).f2) ((rd_T35 l0_0 (ji17)).f3) ((rd_T35 l0_0 (ji17)).f4) ((rd_T35 l0_0 (ji17)).f5)).bind fun bt341 => ((impl_Entry_column.f ((rd_T35 l0_0 x13_1).f0) ((rd_T35 l0_0 x13_1).f1) ((rd_T35 l0_0 x13_1).f2) ((rd_T35 l0_0 x13_1).f3) ((rd_T35 l0_0 x13_1).f4) ((rd_T35 l0_0 x13_1).f5)).bind fun bt344 => (impl_ValidRun.j1 k1 l0_0 (l0_0.length : Int) x13_1 (bt341.1.toList == bt344.1.toList && (bt341.2.1.toList == bt344.2.1.toList && (bt341.2.2.toList == bt344.2.2.toList))) l0_0))) else (impl_ValidRun.j1 k1 l0_0 (l0_0.length : Int) x13_1 false l0_0)) else (impl_ValidRun.j1 k1 l0_0 (l0_0.length : Int) x13_1 false l0_0))) = some r := H
            have A30 := Aside0.mk A300
            clear A300
            by_cases c31 : t340 ≥ 0
            ·rw [if_pos c31] at H
             have c31b0 : decide (0 ≤ t340) = true := decide_eq_true c31
             clear c31
             (first | rw [c31b0] | (simp only [i64_w, i32_w]; rw [c31b0]) | skip)
             have H' := Aside0.mk H
             clear H
             try go_wp2
             have n0_ : Aside0 (((((((w26.setCell ⟨gb339, 0, none⟩ (.string ((rd_T35 l0_0 (ji17)).f0))).setCell ⟨gb339, 1, none⟩ (.string ((rd_T35 l0_0 (ji17)).f1))).setCell ⟨gb339, 2, none⟩ (.string ((rd_T35 l0_0 (ji17)).f2))).setCell ⟨gb339, 3, none⟩ (.int .u64 ((rd_T35 l0_0 (ji17)).f3))).setCell ⟨gb339, 4, none⟩ (.int .i64 ((rd_T35 l0_0 (ji17)).f4))).setCell ⟨gb339, 5, none⟩ (.string ((rd_T35 l0_0 (ji17)).f5))).heap[gb334]? = some (.cells #[.slice (some ad335) l0_0.length c0_0] 66 (0, 0))) := ⟨by (with_reducible repeat (first | refine blk_drewN ?_ _ | refine blk_drew ?_ | refine blk_alloc ?_ _)); refine blk_far ?_ NB334_339.out _; (with_reducible repeat (first | refine blk_drewN ?_ _ | refine blk_drew ?_ | refine blk_alloc ?_ _)); refine blk_far ?_ NB334_339.out _; (with_reducible repeat (first | refine blk_drewN ?_ _ | refine blk_drew ?_ | refine blk_alloc ?_ _)); refine blk_far ?_ NB334_339.out _; (with_reducible repeat (first | refine blk_drewN ?_ _ | refine blk_drew ?_ | refine blk_alloc ?_ _)); refine blk_far ?_ NB334_339.out _; (with_reducible repeat (first | refine blk_drewN ?_ _ | refine blk_drew ?_ | refine blk_alloc ?_ _)); refine blk_far ?_ NB334_339.out _; (with_reducible repeat (first | refine blk_drewN ?_ _ | refine blk_drew ?_ | refine blk_alloc ?_ _)); refine blk_far ?_ NB334_339.out _; (with_reducible repeat (first | refine blk_drewN ?_ _ | refine blk_drew ?_ | refine blk_alloc ?_ _)); exact BK334.out⟩
             have n1_ : Aside0 (((((((w26.setCell ⟨gb339, 0, none⟩ (.string ((rd_T35 l0_0 (ji17)).f0))).setCell ⟨gb339, 1, none⟩ (.string ((rd_T35 l0_0 (ji17)).f1))).setCell ⟨gb339, 2, none⟩ (.string ((rd_T35 l0_0 (ji17)).f2))).setCell ⟨gb339, 3, none⟩ (.int .u64 ((rd_T35 l0_0 (ji17)).f3))).setCell ⟨gb339, 4, none⟩ (.int .i64 ((rd_T35 l0_0 (ji17)).f4))).setCell ⟨gb339, 5, none⟩ (.string ((rd_T35 l0_0 (ji17)).f5))).heap[gb336]? = some (.cells #[.string ((rd_T35 l0_0 x13_1).f0), .string ((rd_T35 l0_0 x13_1).f1), .string ((rd_T35 l0_0 x13_1).f2), .int .u64 ((rd_T35 l0_0 x13_1).f3), .int .i64 ((rd_T35 l0_0 x13_1).f4), .string ((rd_T35 l0_0 x13_1).f5)] 35 (0, 0))) := ⟨by (with_reducible repeat (first | refine blk_drewN ?_ _ | refine blk_drew ?_ | refine blk_alloc ?_ _)); refine blk_far ?_ NB336_339.out _; (with_reducible repeat (first | refine blk_drewN ?_ _ | refine blk_drew ?_ | refine blk_alloc ?_ _)); refine blk_far ?_ NB336_339.out _; (with_reducible repeat (first | refine blk_drewN ?_ _ | refine blk_drew ?_ | refine blk_alloc ?_ _)); refine blk_far ?_ NB336_339.out _; (with_reducible repeat (first | refine blk_drewN ?_ _ | refine blk_drew ?_ | refine blk_alloc ?_ _)); refine blk_far ?_ NB336_339.out _; (with_reducible repeat (first | refine blk_drewN ?_ _ | refine blk_drew ?_ | refine blk_alloc ?_ _)); refine blk_far ?_ NB336_339.out _; (with_reducible repeat (first | refine blk_drewN ?_ _ | refine blk_drew ?_ | refine blk_alloc ?_ _)); refine blk_far ?_ NB336_339.out _; (with_reducible repeat (first | refine blk_drewN ?_ _ | refine blk_drew ?_ | refine blk_alloc ?_ _)); exact BK336.out⟩
             have n2_ : Aside0 (((((((w26.setCell ⟨gb339, 0, none⟩ (.string ((rd_T35 l0_0 (ji17)).f0))).setCell ⟨gb339, 1, none⟩ (.string ((rd_T35 l0_0 (ji17)).f1))).setCell ⟨gb339, 2, none⟩ (.string ((rd_T35 l0_0 (ji17)).f2))).setCell ⟨gb339, 3, none⟩ (.int .u64 ((rd_T35 l0_0 (ji17)).f3))).setCell ⟨gb339, 4, none⟩ (.int .i64 ((rd_T35 l0_0 (ji17)).f4))).setCell ⟨gb339, 5, none⟩ (.string ((rd_T35 l0_0 (ji17)).f5))).heap[gb339]? = some (.cells #[.string ((rd_T35 l0_0 (ji17)).f0), .string ((rd_T35 l0_0 (ji17)).f1), .string ((rd_T35 l0_0 (ji17)).f2), .int .u64 ((rd_T35 l0_0 (ji17)).f3), .int .i64 ((rd_T35 l0_0 (ji17)).f4), .string ((rd_T35 l0_0 (ji17)).f5)] 35 (0, 0))) := ⟨by (with_reducible repeat (first | refine blk_drewN ?_ _ | refine blk_drew ?_ | refine blk_alloc ?_ _)); refine blk_put (cs := #[.string ((rd_T35 l0_0 (ji17)).f0), .string ((rd_T35 l0_0 (ji17)).f1), .string ((rd_T35 l0_0 (ji17)).f2), .int .u64 ((rd_T35 l0_0 (ji17)).f3), .int .i64 ((rd_T35 l0_0 (ji17)).f4), .string (⟨#[]⟩ : ByteArray)]) ?_ 5 _ rfl; (with_reducible repeat (first | refine blk_drewN ?_ _ | refine blk_drew ?_ | refine blk_alloc ?_ _)); refine blk_put (cs := #[.string ((rd_T35 l0_0 (ji17)).f0), .string ((rd_T35 l0_0 (ji17)).f1), .string ((rd_T35 l0_0 (ji17)).f2), .int .u64 ((rd_T35 l0_0 (ji17)).f3), .int .i64 0, .string (⟨#[]⟩ : ByteArray)]) ?_ 4 _ rfl; (with_reducible repeat (first | refine blk_drewN ?_ _ | refine blk_drew ?_ | refine blk_alloc ?_ _)); refine blk_put (cs := #[.string ((rd_T35 l0_0 (ji17)).f0), .string ((rd_T35 l0_0 (ji17)).f1), .string ((rd_T35 l0_0 (ji17)).f2), .int .u64 0, .int .i64 0, .string (⟨#[]⟩ : ByteArray)]) ?_ 3 _ rfl; (with_reducible repeat (first | refine blk_drewN ?_ _ | refine blk_drew ?_ | refine blk_alloc ?_ _)); refine blk_put (cs := #[.string ((rd_T35 l0_0 (ji17)).f0), .string ((rd_T35 l0_0 (ji17)).f1), .string (⟨#[]⟩ : ByteArray), .int .u64 0, .int .i64 0, .string (⟨#[]⟩ : ByteArray)]) ?_ 2 _ rfl; (with_reducible repeat (first | refine blk_drewN ?_ _ | refine blk_drew ?_ | refine blk_alloc ?_ _)); refine blk_put (cs := #[.string ((rd_T35 l0_0 (ji17)).f0), .string (⟨#[]⟩ : ByteArray), .string (⟨#[]⟩ : ByteArray), .int .u64 0, .int .i64 0, .string (⟨#[]⟩ : ByteArray)]) ?_ 1 _ rfl; (with_reducible repeat (first | refine blk_drewN ?_ _ | refine blk_drew ?_ | refine blk_alloc ?_ _)); refine blk_put (cs := #[.string (⟨#[]⟩ : ByteArray), .string (⟨#[]⟩ : ByteArray), .string (⟨#[]⟩ : ByteArray), .int .u64 0, .int .i64 0, .string (⟨#[]⟩ : ByteArray)]) ?_ 0 _ rfl; (with_reducible repeat (first | refine blk_drewN ?_ _ | refine blk_drew ?_ | refine blk_alloc ?_ _)); exact BK339.out⟩
             have n3_ : Aside0 (Below w.heap.size w ((((((w26.setCell ⟨gb339, 0, none⟩ (.string ((rd_T35 l0_0 (ji17)).f0))).setCell ⟨gb339, 1, none⟩ (.string ((rd_T35 l0_0 (ji17)).f1))).setCell ⟨gb339, 2, none⟩ (.string ((rd_T35 l0_0 (ji17)).f2))).setCell ⟨gb339, 3, none⟩ (.int .u64 ((rd_T35 l0_0 (ji17)).f3))).setCell ⟨gb339, 4, none⟩ (.int .i64 ((rd_T35 l0_0 (ji17)).f4))).setCell ⟨gb339, 5, none⟩ (.string ((rd_T35 l0_0 (ji17)).f5)))) := ⟨by repeat (first | (with_reducible first | exact HB.out | apply below_alloc | apply pw_below_drewN | apply below_drew1 | refine below_set ?_ GE334.out | refine below_set ?_ GE336.out | refine below_set ?_ GE339.out) | exact HB.out)⟩
             (try clear BK334)
             (try clear BK336)
             (try clear BK339)
             (try clear HB)
             generalize ((((((w26.setCell ⟨gb339, 0, none⟩ (.string ((rd_T35 l0_0 (ji17)).f0))).setCell ⟨gb339, 1, none⟩ (.string ((rd_T35 l0_0 (ji17)).f1))).setCell ⟨gb339, 2, none⟩ (.string ((rd_T35 l0_0 (ji17)).f2))).setCell ⟨gb339, 3, none⟩ (.int .u64 ((rd_T35 l0_0 (ji17)).f3))).setCell ⟨gb339, 4, none⟩ (.int .i64 ((rd_T35 l0_0 (ji17)).f4))).setCell ⟨gb339, 5, none⟩ (.string ((rd_T35 l0_0 (ji17)).f5))) = w32 at n0_ n1_ n2_ n3_ ⊢
             have BK334 := n0_
             have BK336 := n1_
             have BK339 := n2_
             have HB := n3_
             clear n0_ n1_ n2_ n3_
             have n0_ := Aside0.mk (blk_drew BK334.out)
             have n1_ := Aside0.mk (blk_drew BK336.out)
             have n2_ := Aside0.mk (blk_drew BK339.out)
             have n3_ := Aside0.mk (below_drew1 HB.out)
             clear BK334
             clear BK336
             clear BK339
             clear HB
             have BK334 := n0_
             have BK336 := n1_
             have BK339 := n2_
             have HB := n3_
             clear n0_ n1_ n2_ n3_
             refine start_ (n := 21) (S := fun w' => w'.cell? ⟨gb339, 0, none⟩ = some (.string ((rd_T35 l0_0 (ji17)).f0)) ∧ w'.cell? ⟨gb339, 1, none⟩ = some (.string ((rd_T35 l0_0 (ji17)).f1)) ∧ w'.cell? ⟨gb339, 2, none⟩ = some (.string ((rd_T35 l0_0 (ji17)).f2)) ∧ w'.cell? ⟨gb339, 3, none⟩ = some (.int .u64 ((rd_T35 l0_0 (ji17)).f3)) ∧ w'.cell? ⟨gb339, 4, none⟩ = some (.int .i64 ((rd_T35 l0_0 (ji17)).f4)) ∧ w'.cell? ⟨gb339, 5, none⟩ = some (.string ((rd_T35 l0_0 (ji17)).f5)) ∧ w'.cell? ⟨gb336, 0, none⟩ = some (.string ((rd_T35 l0_0 x13_1).f0)) ∧ w'.cell? ⟨gb336, 1, none⟩ = some (.string ((rd_T35 l0_0 x13_1).f1)) ∧ w'.cell? ⟨gb336, 2, none⟩ = some (.string ((rd_T35 l0_0 x13_1).f2)) ∧ w'.cell? ⟨gb336, 3, none⟩ = some (.int .u64 ((rd_T35 l0_0 x13_1).f3)) ∧ w'.cell? ⟨gb336, 4, none⟩ = some (.int .i64 ((rd_T35 l0_0 x13_1).f4)) ∧ w'.cell? ⟨gb336, 5, none⟩ = some (.string ((rd_T35 l0_0 x13_1).f5))) (ds := []) #[false, false, false, false, false, false, false, false, false, false, false, false, false, false, false, false, false, false, false, false, false] (by kernel_rfl) rfl rfl ⟨(blk_cell BK339.out 0).trans rfl, (blk_cell BK339.out 1).trans rfl, (blk_cell BK339.out 2).trans rfl, (blk_cell BK339.out 3).trans rfl, (blk_cell BK339.out 4).trans rfl, (blk_cell BK339.out 5).trans rfl, (blk_cell BK336.out 0).trans rfl, (blk_cell BK336.out 1).trans rfl, (blk_cell BK336.out 2).trans rfl, (blk_cell BK336.out 3).trans rfl, (blk_cell BK336.out 4).trans rfl, (blk_cell BK336.out 5).trans rfl⟩ (fun hHeld => ?_); refine with_tabW impl_ValidRun.tab10 impl_ValidRun.bits10 (fun HT_ HW_ => ?_)
             generalize w32.drew = w33 at BK334 BK336 BK339 HB hHeld ⊢
             refine take_ (i := 0) (N := some 29) (v := ?_) (a' := ?_) #[true, false, false, false, false, false, false, false, false, false, false, false, false, false, false, false, false, false, false, false, false] rfl rfl (take_ofW HT_.out HW_.out (by kernel_rfl)) (fun _ _ _ h => h) (Or.inl ⟨by rfl, ?_⟩) hHeld ?_ ?_
             rotate_left
             ·rintro w' ⟨s0, s1, s2, s3, s4, s5, s6, s7, s8, s9, s10, s11⟩
              go_simp
              with_reducible rfl
             rotate_left
             ·simp only [Act.put, List.setIfInBounds_toArray, List.set_cons_zero, List.set_cons_succ, i64_w, i32_w]
              rfl
             refine take_ (i := 1) (N := some 30) (v := ?_) (a' := ?_) #[true, true, false, false, false, false, false, false, false, false, false, false, false, false, false, false, false, false, false, false, false] rfl rfl (take_ofW HT_.out HW_.out (by kernel_rfl)) (fun _ _ _ h => h) (Or.inl ⟨by rfl, ?_⟩) hHeld ?_ ?_
             rotate_left
             ·rintro w' ⟨s0, s1, s2, s3, s4, s5, s6, s7, s8, s9, s10, s11⟩
              go_simp
              with_reducible rfl
             rotate_left
             ·simp only [Act.put, List.setIfInBounds_toArray, List.set_cons_zero, List.set_cons_succ, i64_w, i32_w]
              rfl
             refine one_ (i := 2) (N := some 31) #[true, true, true, false, false, false, false, false, false, false, false, false, false, false, false, false, false, false, false, false, false] rfl rfl (one_of HT_.out (by kernel_rfl)) (by decide) (fun K hK => ?_)
             refine goes_ Try.func62 (by kernel_rfl) rfl #[.agg #[.string ((rd_T35 l0_0 (ji17)).f0), .string ((rd_T35 l0_0 (ji17)).f1), .string ((rd_T35 l0_0 (ji17)).f2), .int .u64 ((rd_T35 l0_0 (ji17)).f3), .int .i64 ((rd_T35 l0_0 (ji17)).f4), .string ((rd_T35 l0_0 (ji17)).f5)], .agg #[.string ((rd_T35 l0_0 x13_1).f0), .string ((rd_T35 l0_0 x13_1).f1), .string ((rd_T35 l0_0 x13_1).f2), .int .u64 ((rd_T35 l0_0 x13_1).f3), .int .i64 ((rd_T35 l0_0 x13_1).f4), .string ((rd_T35 l0_0 x13_1).f5)]] (by rfl) rfl rfl (by (try simp only [List.map_toArray, List.map_cons, List.map_nil]); first | done | (simp only [hji17]; rfl) | rfl | (simp only [List.length_drop, List.length_take]; rfl)) ?_
             with_reducible refine (impl_Entry_compare.calls k1 ((rd_T35 l0_0 (ji17)).f0) ((rd_T35 l0_0 (ji17)).f1) ((rd_T35 l0_0 (ji17)).f2) ((rd_T35 l0_0 (ji17)).f3) ((rd_T35 l0_0 (ji17)).f4) ((rd_T35 l0_0 (ji17)).f5) ((rd_T35 l0_0 x13_1).f0) ((rd_T35 l0_0 x13_1).f1) ((rd_T35 l0_0 x13_1).f2) ((rd_T35 l0_0 x13_1).f3) ((rd_T35 l0_0 x13_1).f4) ((rd_T35 l0_0 x13_1).f5) t340 _ A30.out).mono ?_
             rintro e w34 ⟨rfl, hb⟩
             refine ⟨_, rfl, ?_⟩
             have n0_ := Aside0.mk (blk_below (g := gb334) (o := .cells #[.slice (some ad335) l0_0.length c0_0] 66 (0, 0)) (by (with_reducible repeat (first | refine blk_drewN ?_ _ | refine blk_drew ?_ | refine blk_alloc ?_ _)); exact BK334.out) hb)
             have n1_ := Aside0.mk (blk_below (g := gb336) (o := .cells #[.string ((rd_T35 l0_0 x13_1).f0), .string ((rd_T35 l0_0 x13_1).f1), .string ((rd_T35 l0_0 x13_1).f2), .int .u64 ((rd_T35 l0_0 x13_1).f3), .int .i64 ((rd_T35 l0_0 x13_1).f4), .string ((rd_T35 l0_0 x13_1).f5)] 35 (0, 0)) (by (with_reducible repeat (first | refine blk_drewN ?_ _ | refine blk_drew ?_ | refine blk_alloc ?_ _)); exact BK336.out) hb)
             have n2_ := Aside0.mk (blk_below (g := gb339) (o := .cells #[.string ((rd_T35 l0_0 (ji17)).f0), .string ((rd_T35 l0_0 (ji17)).f1), .string ((rd_T35 l0_0 (ji17)).f2), .int .u64 ((rd_T35 l0_0 (ji17)).f3), .int .i64 ((rd_T35 l0_0 (ji17)).f4), .string ((rd_T35 l0_0 (ji17)).f5)] 35 (0, 0)) (by (with_reducible repeat (first | refine blk_drewN ?_ _ | refine blk_drew ?_ | refine blk_alloc ?_ _)); exact BK339.out) hb)
             have n3_ := Aside0.mk (below_step (by repeat (first | (with_reducible first | exact HB.out | apply below_alloc | apply pw_below_drewN | apply below_drew1 | refine below_set ?_ GE334.out | refine below_set ?_ GE336.out | refine below_set ?_ GE339.out) | exact HB.out)) hb)
             clear BK334
             clear BK336
             clear BK339
             clear HB
             have BK334 := n0_
             have BK336 := n1_
             have BK339 := n2_
             have HB := n3_
             clear n0_ n1_ n2_ n3_
             (try clear hb)
             (try clear hb2)
             (try clear hk)
             (try clear hi)
             refine hK.out _ _ ⟨(blk_cell BK339.out 0).trans rfl, (blk_cell BK339.out 1).trans rfl, (blk_cell BK339.out 2).trans rfl, (blk_cell BK339.out 3).trans rfl, (blk_cell BK339.out 4).trans rfl, (blk_cell BK339.out 5).trans rfl, (blk_cell BK336.out 0).trans rfl, (blk_cell BK336.out 1).trans rfl, (blk_cell BK336.out 2).trans rfl, (blk_cell BK336.out 3).trans rfl, (blk_cell BK336.out 4).trans rfl, (blk_cell BK336.out 5).trans rfl⟩ (fun hHeld => ?_)
             clear hK K
             refine norm_ (a' := ?_) ?_ ?_
             rotate_left
             ·show Act.put _ (some 31) _ = _
              simp only [Act.put, List.setIfInBounds_toArray, List.set_cons_zero, List.set_cons_succ, i64_w, i32_w]
              rfl
             refine pure_ (i := 3) (N := some 32) (v := ?_) (a' := ?_) #[true, true, true, true, false, false, false, false, false, false, false, false, false, false, false, false, false, false, false, false, false] rfl rfl (any_of HT_.out (by kernel_rfl)) (fun _ _ _ h => h) (Or.inl ⟨by rfl, ?_⟩) ?_ ?_
             rotate_left
             ·intro w'
              go_simp
              with_reducible rfl
             rotate_left
             ·simp only [Act.put, List.setIfInBounds_toArray, List.set_cons_zero, List.set_cons_succ, i64_w, i32_w]
              rfl
             refine pure_ (i := 4) (N := some 33) (v := ?_) (a' := ?_) #[true, true, true, true, true, false, false, false, false, false, false, false, false, false, false, false, false, false, false, false, false] rfl rfl (any_of HT_.out (by kernel_rfl)) (fun _ _ _ h => h) (Or.inl ⟨by rfl, ?_⟩) ?_ ?_
             rotate_left
             ·intro w'
              go_simp
              with_reducible rfl
             rotate_left
             ·simp only [Act.put, List.setIfInBounds_toArray, List.set_cons_zero, List.set_cons_succ, i64_w, i32_w]
              rfl
             refine pure_ (i := 5) (N := some 34) (v := undef) (a' := ?_) #[true, true, true, true, true, true, false, false, false, false, false, false, false, false, false, false, false, false, false, false, false] rfl rfl (any_of HT_.out (by kernel_rfl)) (fun _ _ _ h => h) (Or.inr ⟨by rfl, rfl⟩) ?_ ?_
             rotate_left
             ·simp only [Act.put, List.setIfInBounds_toArray, List.set_cons_zero, List.set_cons_succ, i64_w, i32_w]
              rfl
             refine pure_ (i := 6) (N := some 35) (v := undef) (a' := ?_) #[true, true, true, true, true, true, true, false, false, false, false, false, false, false, false, false, false, false, false, false, false] rfl rfl (any_of HT_.out (by kernel_rfl)) (fun _ _ _ h => h) (Or.inr ⟨by rfl, rfl⟩) ?_ ?_
             rotate_left
             ·simp only [Act.put, List.setIfInBounds_toArray, List.set_cons_zero, List.set_cons_succ, i64_w, i32_w]
              rfl
             refine pure_ (i := 7) (N := some 36) (v := undef) (a' := ?_) #[true, true, true, true, true, true, true, true, false, false, false, false, false, false, false, false, false, false, false, false, false] rfl rfl (any_of HT_.out (by kernel_rfl)) (fun _ _ _ h => h) (Or.inr ⟨by rfl, rfl⟩) ?_ ?_
             rotate_left
             ·simp only [Act.put, List.setIfInBounds_toArray, List.set_cons_zero, List.set_cons_succ, i64_w, i32_w]
              rfl
             refine pure_ (i := 8) (N := some 37) (v := undef) (a' := ?_) #[true, true, true, true, true, true, true, true, true, false, false, false, false, false, false, false, false, false, false, false, false] rfl rfl (any_of HT_.out (by kernel_rfl)) (fun _ _ _ h => h) (Or.inr ⟨by rfl, rfl⟩) ?_ ?_
             rotate_left
             ·simp only [Act.put, List.setIfInBounds_toArray, List.set_cons_zero, List.set_cons_succ, i64_w, i32_w]
              rfl
             refine pure_ (i := 9) (N := some 38) (v := undef) (a' := ?_) #[true, true, true, true, true, true, true, true, true, true, false, false, false, false, false, false, false, false, false, false, false] rfl rfl (any_of HT_.out (by kernel_rfl)) (fun _ _ _ h => h) (Or.inr ⟨by rfl, rfl⟩) ?_ ?_
             rotate_left
             ·simp only [Act.put, List.setIfInBounds_toArray, List.set_cons_zero, List.set_cons_succ, i64_w, i32_w]
              rfl
             refine pure_ (i := 10) (N := some 39) (v := undef) (a' := ?_) #[true, true, true, true, true, true, true, true, true, true, true, false, false, false, false, false, false, false, false, false, false] rfl rfl (any_of HT_.out (by kernel_rfl)) (fun _ _ _ h => h) (Or.inr ⟨by rfl, rfl⟩) ?_ ?_
             rotate_left
             ·simp only [Act.put, List.setIfInBounds_toArray, List.set_cons_zero, List.set_cons_succ, i64_w, i32_w]
              rfl
             refine pure_ (i := 11) (N := some 40) (v := undef) (a' := ?_) #[true, true, true, true, true, true, true, true, true, true, true, true, false, false, false, false, false, false, false, false, false] rfl rfl (any_of HT_.out (by kernel_rfl)) (fun _ _ _ h => h) (Or.inr ⟨by rfl, rfl⟩) ?_ ?_
             rotate_left
             ·simp only [Act.put, List.setIfInBounds_toArray, List.set_cons_zero, List.set_cons_succ, i64_w, i32_w]
              rfl
             refine pure_ (i := 12) (N := some 41) (v := undef) (a' := ?_) #[true, true, true, true, true, true, true, true, true, true, true, true, true, false, false, false, false, false, false, false, false] rfl rfl (any_of HT_.out (by kernel_rfl)) (fun _ _ _ h => h) (Or.inr ⟨by rfl, rfl⟩) ?_ ?_
             rotate_left
             ·simp only [Act.put, List.setIfInBounds_toArray, List.set_cons_zero, List.set_cons_succ, i64_w, i32_w]
              rfl
             refine pure_ (i := 13) (N := some 42) (v := undef) (a' := ?_) #[true, true, true, true, true, true, true, true, true, true, true, true, true, true, false, false, false, false, false, false, false] rfl rfl (any_of HT_.out (by kernel_rfl)) (fun _ _ _ h => h) (Or.inr ⟨by rfl, rfl⟩) ?_ ?_
             rotate_left
             ·simp only [Act.put, List.setIfInBounds_toArray, List.set_cons_zero, List.set_cons_succ, i64_w, i32_w]
              rfl
             refine pure_ (i := 14) (N := some 43) (v := undef) (a' := ?_) #[true, true, true, true, true, true, true, true, true, true, true, true, true, true, true, false, false, false, false, false, false] rfl rfl (any_of HT_.out (by kernel_rfl)) (fun _ _ _ h => h) (Or.inr ⟨by rfl, rfl⟩) ?_ ?_
             rotate_left
             ·simp only [Act.put, List.setIfInBounds_toArray, List.set_cons_zero, List.set_cons_succ, i64_w, i32_w]
              rfl
             refine pure_ (i := 15) (N := some 44) (v := undef) (a' := ?_) #[true, true, true, true, true, true, true, true, true, true, true, true, true, true, true, true, false, false, false, false, false] rfl rfl (any_of HT_.out (by kernel_rfl)) (fun _ _ _ h => h) (Or.inr ⟨by rfl, rfl⟩) ?_ ?_
             rotate_left
             ·simp only [Act.put, List.setIfInBounds_toArray, List.set_cons_zero, List.set_cons_succ, i64_w, i32_w]
              rfl
             refine pure_ (i := 16) (N := some 45) (v := undef) (a' := ?_) #[true, true, true, true, true, true, true, true, true, true, true, true, true, true, true, true, true, false, false, false, false] rfl rfl (any_of HT_.out (by kernel_rfl)) (fun _ _ _ h => h) (Or.inr ⟨by rfl, rfl⟩) ?_ ?_
             rotate_left
             ·simp only [Act.put, List.setIfInBounds_toArray, List.set_cons_zero, List.set_cons_succ, i64_w, i32_w]
              rfl
             refine pure_ (i := 17) (N := some 46) (v := undef) (a' := ?_) #[true, true, true, true, true, true, true, true, true, true, true, true, true, true, true, true, true, true, false, false, false] rfl rfl (any_of HT_.out (by kernel_rfl)) (fun _ _ _ h => h) (Or.inr ⟨by rfl, rfl⟩) ?_ ?_
             rotate_left
             ·simp only [Act.put, List.setIfInBounds_toArray, List.set_cons_zero, List.set_cons_succ, i64_w, i32_w]
              rfl
             refine pure_ (i := 18) (N := some 47) (v := undef) (a' := ?_) #[true, true, true, true, true, true, true, true, true, true, true, true, true, true, true, true, true, true, true, false, false] rfl rfl (any_of HT_.out (by kernel_rfl)) (fun _ _ _ h => h) (Or.inr ⟨by rfl, rfl⟩) ?_ ?_
             rotate_left
             ·simp only [Act.put, List.setIfInBounds_toArray, List.set_cons_zero, List.set_cons_succ, i64_w, i32_w]
              rfl
             refine pure_ (i := 19) (N := some 48) (v := undef) (a' := ?_) #[true, true, true, true, true, true, true, true, true, true, true, true, true, true, true, true, true, true, true, true, false] rfl rfl (any_of HT_.out (by kernel_rfl)) (fun _ _ _ h => h) (Or.inr ⟨by rfl, rfl⟩) ?_ ?_
             rotate_left
             ·simp only [Act.put, List.setIfInBounds_toArray, List.set_cons_zero, List.set_cons_succ, i64_w, i32_w]
              rfl
             refine pure_ (i := 20) (N := some 49) (v := ?_) (a' := ?_) #[true, true, true, true, true, true, true, true, true, true, true, true, true, true, true, true, true, true, true, true, true] rfl rfl (any_of HT_.out (by kernel_rfl)) (fun _ _ _ h => h) (Or.inl ⟨by rfl, ?_⟩) ?_ ?_
             rotate_left
             ·intro w'
              go_simp
              with_reducible rfl
             rotate_left
             ·simp only [Act.put, List.setIfInBounds_toArray, List.set_cons_zero, List.set_cons_succ, i64_w, i32_w]
              rfl
             refine done_ (done_of HT_.out (by kernel_rfl)) ?_
             try go_wp2
             go_meet
             case rel => exact ⟨_, (true), (by first | rfl | (simp; done) | (simp [*]; done)), H', ⟨by have := HK1.out; first | omega | exact Nat.le_refl _⟩, ⟨by (with_reducible repeat (first | refine blk_drewN ?_ _ | refine blk_drew ?_ | refine blk_alloc ?_ _)); exact BK334.out⟩, ⟨by (with_reducible repeat (first | refine blk_drewN ?_ _ | refine blk_drew ?_ | refine blk_alloc ?_ _)); exact BK336.out⟩, ⟨by (with_reducible repeat (first | refine blk_drewN ?_ _ | refine blk_drew ?_ | refine blk_alloc ?_ _)); exact BK339.out⟩, ⟨by repeat (first | (with_reducible first | exact HB.out | apply below_alloc | apply pw_below_drewN | apply below_drew1 | refine below_set ?_ GE334.out | refine below_set ?_ GE336.out | refine below_set ?_ GE339.out) | exact HB.out)⟩⟩
            ·rw [if_neg c31] at H
             have c31b0 : decide (0 ≤ t340) = false := decide_eq_false c31
             clear c31
             (first | rw [c31b0] | (simp only [i64_w, i32_w]; rw [c31b0]) | skip)
             by_cases c35 : ((rd_T35 l0_0 (ji17)).f4) = 2
             ·rw [if_pos c35] at H
              have c35b0 : (((rd_T35 l0_0 (ji17)).f4) == 2) = true := beq_iff_eq.mpr c35
              have c35b1 : (((rd_T35 l0_0 (ji17)).f4) != 2) = false := bne_eq_false_iff_eq.mpr c35
              clear c35
              by_cases c36 : ((rd_T35 l0_0 x13_1).f4) = 2
              ·rw [if_pos c36] at H
               have c36b0 : (((rd_T35 l0_0 x13_1).f4) == 2) = true := beq_iff_eq.mpr c36
               have c36b1 : (((rd_T35 l0_0 x13_1).f4) != 2) = false := bne_eq_false_iff_eq.mpr c36
               clear c36
               replace H := Option.bind_eq_some_iff.mp H
               obtain ⟨⟨t341, t342, t343⟩, A370, H⟩ := H
               replace H : ((impl_Entry_column.f ((rd_T35 l0_0 x13_1).f0) ((rd_T35 l0_0 x13_1).f1) ((rd_T35 l0_0 x13_1).f2) ((rd_T35 l0_0 x13_1).f3) ((rd_T35 l0_0 x13_1).f4) ((rd_T35 l0_0 x13_1).f5)).bind fun bt344 => (impl_ValidRun.j1 k1 l0_0 (l0_0.length : Int) x13_1 (t341.toList == bt344.1.toList && (t342.toList == bt344.2.1.toList && (t343.toList == bt344.2.2.toList))) l0_0)) = some r := H
               have A37 := Aside0.mk A370
               clear A370
               replace H := Option.bind_eq_some_iff.mp H
               obtain ⟨⟨t344, t345, t346⟩, A380, H⟩ := H
               replace H : (impl_ValidRun.j1 k1 l0_0 (l0_0.length : Int) x13_1 (t341.toList == t344.toList && (t342.toList == t345.toList && (t343.toList == t346.toList))) l0_0) = some r := H
               have A38 := Aside0.mk A380
               clear A380
               have H' := Aside0.mk H
               clear H
               try go_wp2
               have n0_ : Aside0 (((((((w26.setCell ⟨gb339, 0, none⟩ (.string ((rd_T35 l0_0 (ji17)).f0))).setCell ⟨gb339, 1, none⟩ (.string ((rd_T35 l0_0 (ji17)).f1))).setCell ⟨gb339, 2, none⟩ (.string ((rd_T35 l0_0 (ji17)).f2))).setCell ⟨gb339, 3, none⟩ (.int .u64 ((rd_T35 l0_0 (ji17)).f3))).setCell ⟨gb339, 4, none⟩ (.int .i64 ((rd_T35 l0_0 (ji17)).f4))).setCell ⟨gb339, 5, none⟩ (.string ((rd_T35 l0_0 (ji17)).f5))).heap[gb334]? = some (.cells #[.slice (some ad335) l0_0.length c0_0] 66 (0, 0))) := ⟨by (with_reducible repeat (first | refine blk_drewN ?_ _ | refine blk_drew ?_ | refine blk_alloc ?_ _)); refine blk_far ?_ NB334_339.out _; (with_reducible repeat (first | refine blk_drewN ?_ _ | refine blk_drew ?_ | refine blk_alloc ?_ _)); refine blk_far ?_ NB334_339.out _; (with_reducible repeat (first | refine blk_drewN ?_ _ | refine blk_drew ?_ | refine blk_alloc ?_ _)); refine blk_far ?_ NB334_339.out _; (with_reducible repeat (first | refine blk_drewN ?_ _ | refine blk_drew ?_ | refine blk_alloc ?_ _)); refine blk_far ?_ NB334_339.out _; (with_reducible repeat (first | refine blk_drewN ?_ _ | refine blk_drew ?_ | refine blk_alloc ?_ _)); refine blk_far ?_ NB334_339.out _; (with_reducible repeat (first | refine blk_drewN ?_ _ | refine blk_drew ?_ | refine blk_alloc ?_ _)); refine blk_far ?_ NB334_339.out _; (with_reducible repeat (first | refine blk_drewN ?_ _ | refine blk_drew ?_ | refine blk_alloc ?_ _)); exact BK334.out⟩
               have n1_ : Aside0 (((((((w26.setCell ⟨gb339, 0, none⟩ (.string ((rd_T35 l0_0 (ji17)).f0))).setCell ⟨gb339, 1, none⟩ (.string ((rd_T35 l0_0 (ji17)).f1))).setCell ⟨gb339, 2, none⟩ (.string ((rd_T35 l0_0 (ji17)).f2))).setCell ⟨gb339, 3, none⟩ (.int .u64 ((rd_T35 l0_0 (ji17)).f3))).setCell ⟨gb339, 4, none⟩ (.int .i64 ((rd_T35 l0_0 (ji17)).f4))).setCell ⟨gb339, 5, none⟩ (.string ((rd_T35 l0_0 (ji17)).f5))).heap[gb336]? = some (.cells #[.string ((rd_T35 l0_0 x13_1).f0), .string ((rd_T35 l0_0 x13_1).f1), .string ((rd_T35 l0_0 x13_1).f2), .int .u64 ((rd_T35 l0_0 x13_1).f3), .int .i64 ((rd_T35 l0_0 x13_1).f4), .string ((rd_T35 l0_0 x13_1).f5)] 35 (0, 0))) := ⟨by (with_reducible repeat (first | refine blk_drewN ?_ _ | refine blk_drew ?_ | refine blk_alloc ?_ _)); refine blk_far ?_ NB336_339.out _; (with_reducible repeat (first | refine blk_drewN ?_ _ | refine blk_drew ?_ | refine blk_alloc ?_ _)); refine blk_far ?_ NB336_339.out _; (with_reducible repeat (first | refine blk_drewN ?_ _ | refine blk_drew ?_ | refine blk_alloc ?_ _)); refine blk_far ?_ NB336_339.out _; (with_reducible repeat (first | refine blk_drewN ?_ _ | refine blk_drew ?_ | refine blk_alloc ?_ _)); refine blk_far ?_ NB336_339.out _; (with_reducible repeat (first | refine blk_drewN ?_ _ | refine blk_drew ?_ | refine blk_alloc ?_ _)); refine blk_far ?_ NB336_339.out _; (with_reducible repeat (first | refine blk_drewN ?_ _ | refine blk_drew ?_ | refine blk_alloc ?_ _)); refine blk_far ?_ NB336_339.out _; (with_reducible repeat (first | refine blk_drewN ?_ _ | refine blk_drew ?_ | refine blk_alloc ?_ _)); exact BK336.out⟩
               have n2_ : Aside0 (((((((w26.setCell ⟨gb339, 0, none⟩ (.string ((rd_T35 l0_0 (ji17)).f0))).setCell ⟨gb339, 1, none⟩ (.string ((rd_T35 l0_0 (ji17)).f1))).setCell ⟨gb339, 2, none⟩ (.string ((rd_T35 l0_0 (ji17)).f2))).setCell ⟨gb339, 3, none⟩ (.int .u64 ((rd_T35 l0_0 (ji17)).f3))).setCell ⟨gb339, 4, none⟩ (.int .i64 ((rd_T35 l0_0 (ji17)).f4))).setCell ⟨gb339, 5, none⟩ (.string ((rd_T35 l0_0 (ji17)).f5))).heap[gb339]? = some (.cells #[.string ((rd_T35 l0_0 (ji17)).f0), .string ((rd_T35 l0_0 (ji17)).f1), .string ((rd_T35 l0_0 (ji17)).f2), .int .u64 ((rd_T35 l0_0 (ji17)).f3), .int .i64 ((rd_T35 l0_0 (ji17)).f4), .string ((rd_T35 l0_0 (ji17)).f5)] 35 (0, 0))) := ⟨by (with_reducible repeat (first | refine blk_drewN ?_ _ | refine blk_drew ?_ | refine blk_alloc ?_ _)); refine blk_put (cs := #[.string ((rd_T35 l0_0 (ji17)).f0), .string ((rd_T35 l0_0 (ji17)).f1), .string ((rd_T35 l0_0 (ji17)).f2), .int .u64 ((rd_T35 l0_0 (ji17)).f3), .int .i64 ((rd_T35 l0_0 (ji17)).f4), .string (⟨#[]⟩ : ByteArray)]) ?_ 5 _ rfl; (with_reducible repeat (first | refine blk_drewN ?_ _ | refine blk_drew ?_ | refine blk_alloc ?_ _)); refine blk_put (cs := #[.string ((rd_T35 l0_0 (ji17)).f0), .string ((rd_T35 l0_0 (ji17)).f1), .string ((rd_T35 l0_0 (ji17)).f2), .int .u64 ((rd_T35 l0_0 (ji17)).f3), .int .i64 0, .string (⟨#[]⟩ : ByteArray)]) ?_ 4 _ rfl; (with_reducible repeat (first | refine blk_drewN ?_ _ | refine blk_drew ?_ | refine blk_alloc ?_ _)); refine blk_put (cs := #[.string ((rd_T35 l0_0 (ji17)).f0), .string ((rd_T35 l0_0 (ji17)).f1), .string ((rd_T35 l0_0 (ji17)).f2), .int .u64 0, .int .i64 0, .string (⟨#[]⟩ : ByteArray)]) ?_ 3 _ rfl; (with_reducible repeat (first | refine blk_drewN ?_ _ | refine blk_drew ?_ | refine blk_alloc ?_ _)); refine blk_put (cs := #[.string ((rd_T35 l0_0 (ji17)).f0), .string ((rd_T35 l0_0 (ji17)).f1), .string (⟨#[]⟩ : ByteArray), .int .u64 0, .int .i64 0, .string (⟨#[]⟩ : ByteArray)]) ?_ 2 _ rfl; (with_reducible repeat (first | refine blk_drewN ?_ _ | refine blk_drew ?_ | refine blk_alloc ?_ _)); refine blk_put (cs := #[.string ((rd_T35 l0_0 (ji17)).f0), .string (⟨#[]⟩ : ByteArray), .string (⟨#[]⟩ : ByteArray), .int .u64 0, .int .i64 0, .string (⟨#[]⟩ : ByteArray)]) ?_ 1 _ rfl; (with_reducible repeat (first | refine blk_drewN ?_ _ | refine blk_drew ?_ | refine blk_alloc ?_ _)); refine blk_put (cs := #[.string (⟨#[]⟩ : ByteArray), .string (⟨#[]⟩ : ByteArray), .string (⟨#[]⟩ : ByteArray), .int .u64 0, .int .i64 0, .string (⟨#[]⟩ : ByteArray)]) ?_ 0 _ rfl; (with_reducible repeat (first | refine blk_drewN ?_ _ | refine blk_drew ?_ | refine blk_alloc ?_ _)); exact BK339.out⟩
               have n3_ : Aside0 (Below w.heap.size w ((((((w26.setCell ⟨gb339, 0, none⟩ (.string ((rd_T35 l0_0 (ji17)).f0))).setCell ⟨gb339, 1, none⟩ (.string ((rd_T35 l0_0 (ji17)).f1))).setCell ⟨gb339, 2, none⟩ (.string ((rd_T35 l0_0 (ji17)).f2))).setCell ⟨gb339, 3, none⟩ (.int .u64 ((rd_T35 l0_0 (ji17)).f3))).setCell ⟨gb339, 4, none⟩ (.int .i64 ((rd_T35 l0_0 (ji17)).f4))).setCell ⟨gb339, 5, none⟩ (.string ((rd_T35 l0_0 (ji17)).f5)))) := ⟨by repeat (first | (with_reducible first | exact HB.out | apply below_alloc | apply pw_below_drewN | apply below_drew1 | refine below_set ?_ GE334.out | refine below_set ?_ GE336.out | refine below_set ?_ GE339.out) | exact HB.out)⟩
               (try clear BK334)
               (try clear BK336)
               (try clear BK339)
               (try clear HB)
               generalize ((((((w26.setCell ⟨gb339, 0, none⟩ (.string ((rd_T35 l0_0 (ji17)).f0))).setCell ⟨gb339, 1, none⟩ (.string ((rd_T35 l0_0 (ji17)).f1))).setCell ⟨gb339, 2, none⟩ (.string ((rd_T35 l0_0 (ji17)).f2))).setCell ⟨gb339, 3, none⟩ (.int .u64 ((rd_T35 l0_0 (ji17)).f3))).setCell ⟨gb339, 4, none⟩ (.int .i64 ((rd_T35 l0_0 (ji17)).f4))).setCell ⟨gb339, 5, none⟩ (.string ((rd_T35 l0_0 (ji17)).f5))) = w39 at n0_ n1_ n2_ n3_ ⊢
               have BK334 := n0_
               have BK336 := n1_
               have BK339 := n2_
               have HB := n3_
               clear n0_ n1_ n2_ n3_
               have n0_ := Aside0.mk (blk_drew BK334.out)
               have n1_ := Aside0.mk (blk_drew BK336.out)
               have n2_ := Aside0.mk (blk_drew BK339.out)
               have n3_ := Aside0.mk (below_drew1 HB.out)
               clear BK334
               clear BK336
               clear BK339
               clear HB
               have BK334 := n0_
               have BK336 := n1_
               have BK339 := n2_
               have HB := n3_
               clear n0_ n1_ n2_ n3_
               refine start_ (n := 21) (S := fun w' => w'.cell? ⟨gb339, 0, none⟩ = some (.string ((rd_T35 l0_0 (ji17)).f0)) ∧ w'.cell? ⟨gb339, 1, none⟩ = some (.string ((rd_T35 l0_0 (ji17)).f1)) ∧ w'.cell? ⟨gb339, 2, none⟩ = some (.string ((rd_T35 l0_0 (ji17)).f2)) ∧ w'.cell? ⟨gb339, 3, none⟩ = some (.int .u64 ((rd_T35 l0_0 (ji17)).f3)) ∧ w'.cell? ⟨gb339, 4, none⟩ = some (.int .i64 ((rd_T35 l0_0 (ji17)).f4)) ∧ w'.cell? ⟨gb339, 5, none⟩ = some (.string ((rd_T35 l0_0 (ji17)).f5)) ∧ w'.cell? ⟨gb336, 0, none⟩ = some (.string ((rd_T35 l0_0 x13_1).f0)) ∧ w'.cell? ⟨gb336, 1, none⟩ = some (.string ((rd_T35 l0_0 x13_1).f1)) ∧ w'.cell? ⟨gb336, 2, none⟩ = some (.string ((rd_T35 l0_0 x13_1).f2)) ∧ w'.cell? ⟨gb336, 3, none⟩ = some (.int .u64 ((rd_T35 l0_0 x13_1).f3)) ∧ w'.cell? ⟨gb336, 4, none⟩ = some (.int .i64 ((rd_T35 l0_0 x13_1).f4)) ∧ w'.cell? ⟨gb336, 5, none⟩ = some (.string ((rd_T35 l0_0 x13_1).f5))) (ds := []) #[false, false, false, false, false, false, false, false, false, false, false, false, false, false, false, false, false, false, false, false, false] (by kernel_rfl) rfl rfl ⟨(blk_cell BK339.out 0).trans rfl, (blk_cell BK339.out 1).trans rfl, (blk_cell BK339.out 2).trans rfl, (blk_cell BK339.out 3).trans rfl, (blk_cell BK339.out 4).trans rfl, (blk_cell BK339.out 5).trans rfl, (blk_cell BK336.out 0).trans rfl, (blk_cell BK336.out 1).trans rfl, (blk_cell BK336.out 2).trans rfl, (blk_cell BK336.out 3).trans rfl, (blk_cell BK336.out 4).trans rfl, (blk_cell BK336.out 5).trans rfl⟩ (fun hHeld => ?_); refine with_tabW impl_ValidRun.tab10 impl_ValidRun.bits10 (fun HT_ HW_ => ?_)
               generalize w39.drew = w40 at BK334 BK336 BK339 HB hHeld ⊢
               refine take_ (i := 0) (N := some 29) (v := ?_) (a' := ?_) #[true, false, false, false, false, false, false, false, false, false, false, false, false, false, false, false, false, false, false, false, false] rfl rfl (take_ofW HT_.out HW_.out (by kernel_rfl)) (fun _ _ _ h => h) (Or.inl ⟨by rfl, ?_⟩) hHeld ?_ ?_
               rotate_left
               ·rintro w' ⟨s0, s1, s2, s3, s4, s5, s6, s7, s8, s9, s10, s11⟩
                go_simp
                with_reducible rfl
               rotate_left
               ·simp only [Act.put, List.setIfInBounds_toArray, List.set_cons_zero, List.set_cons_succ, i64_w, i32_w]
                rfl
               refine take_ (i := 1) (N := some 30) (v := ?_) (a' := ?_) #[true, true, false, false, false, false, false, false, false, false, false, false, false, false, false, false, false, false, false, false, false] rfl rfl (take_ofW HT_.out HW_.out (by kernel_rfl)) (fun _ _ _ h => h) (Or.inl ⟨by rfl, ?_⟩) hHeld ?_ ?_
               rotate_left
               ·rintro w' ⟨s0, s1, s2, s3, s4, s5, s6, s7, s8, s9, s10, s11⟩
                go_simp
                with_reducible rfl
               rotate_left
               ·simp only [Act.put, List.setIfInBounds_toArray, List.set_cons_zero, List.set_cons_succ, i64_w, i32_w]
                rfl
               refine one_ (i := 2) (N := some 31) #[true, true, true, false, false, false, false, false, false, false, false, false, false, false, false, false, false, false, false, false, false] rfl rfl (one_of HT_.out (by kernel_rfl)) (by decide) (fun K hK => ?_)
               refine goes_ Try.func62 (by kernel_rfl) rfl #[.agg #[.string ((rd_T35 l0_0 (ji17)).f0), .string ((rd_T35 l0_0 (ji17)).f1), .string ((rd_T35 l0_0 (ji17)).f2), .int .u64 ((rd_T35 l0_0 (ji17)).f3), .int .i64 ((rd_T35 l0_0 (ji17)).f4), .string ((rd_T35 l0_0 (ji17)).f5)], .agg #[.string ((rd_T35 l0_0 x13_1).f0), .string ((rd_T35 l0_0 x13_1).f1), .string ((rd_T35 l0_0 x13_1).f2), .int .u64 ((rd_T35 l0_0 x13_1).f3), .int .i64 ((rd_T35 l0_0 x13_1).f4), .string ((rd_T35 l0_0 x13_1).f5)]] (by rfl) rfl rfl (by (try simp only [List.map_toArray, List.map_cons, List.map_nil]); first | done | (simp only [hji17]; rfl) | rfl | (simp only [List.length_drop, List.length_take]; rfl)) ?_
               with_reducible refine (impl_Entry_compare.calls k1 ((rd_T35 l0_0 (ji17)).f0) ((rd_T35 l0_0 (ji17)).f1) ((rd_T35 l0_0 (ji17)).f2) ((rd_T35 l0_0 (ji17)).f3) ((rd_T35 l0_0 (ji17)).f4) ((rd_T35 l0_0 (ji17)).f5) ((rd_T35 l0_0 x13_1).f0) ((rd_T35 l0_0 x13_1).f1) ((rd_T35 l0_0 x13_1).f2) ((rd_T35 l0_0 x13_1).f3) ((rd_T35 l0_0 x13_1).f4) ((rd_T35 l0_0 x13_1).f5) t340 _ A30.out).mono ?_
               rintro e w41 ⟨rfl, hb⟩
               refine ⟨_, rfl, ?_⟩
               have n0_ := Aside0.mk (blk_below (g := gb334) (o := .cells #[.slice (some ad335) l0_0.length c0_0] 66 (0, 0)) (by (with_reducible repeat (first | refine blk_drewN ?_ _ | refine blk_drew ?_ | refine blk_alloc ?_ _)); exact BK334.out) hb)
               have n1_ := Aside0.mk (blk_below (g := gb336) (o := .cells #[.string ((rd_T35 l0_0 x13_1).f0), .string ((rd_T35 l0_0 x13_1).f1), .string ((rd_T35 l0_0 x13_1).f2), .int .u64 ((rd_T35 l0_0 x13_1).f3), .int .i64 ((rd_T35 l0_0 x13_1).f4), .string ((rd_T35 l0_0 x13_1).f5)] 35 (0, 0)) (by (with_reducible repeat (first | refine blk_drewN ?_ _ | refine blk_drew ?_ | refine blk_alloc ?_ _)); exact BK336.out) hb)
               have n2_ := Aside0.mk (blk_below (g := gb339) (o := .cells #[.string ((rd_T35 l0_0 (ji17)).f0), .string ((rd_T35 l0_0 (ji17)).f1), .string ((rd_T35 l0_0 (ji17)).f2), .int .u64 ((rd_T35 l0_0 (ji17)).f3), .int .i64 ((rd_T35 l0_0 (ji17)).f4), .string ((rd_T35 l0_0 (ji17)).f5)] 35 (0, 0)) (by (with_reducible repeat (first | refine blk_drewN ?_ _ | refine blk_drew ?_ | refine blk_alloc ?_ _)); exact BK339.out) hb)
               have n3_ := Aside0.mk (below_step (by repeat (first | (with_reducible first | exact HB.out | apply below_alloc | apply pw_below_drewN | apply below_drew1 | refine below_set ?_ GE334.out | refine below_set ?_ GE336.out | refine below_set ?_ GE339.out) | exact HB.out)) hb)
               clear BK334
               clear BK336
               clear BK339
               clear HB
               have BK334 := n0_
               have BK336 := n1_
               have BK339 := n2_
               have HB := n3_
               clear n0_ n1_ n2_ n3_
               (try clear hb)
               (try clear hb2)
               (try clear hk)
               (try clear hi)
               refine hK.out _ _ ⟨(blk_cell BK339.out 0).trans rfl, (blk_cell BK339.out 1).trans rfl, (blk_cell BK339.out 2).trans rfl, (blk_cell BK339.out 3).trans rfl, (blk_cell BK339.out 4).trans rfl, (blk_cell BK339.out 5).trans rfl, (blk_cell BK336.out 0).trans rfl, (blk_cell BK336.out 1).trans rfl, (blk_cell BK336.out 2).trans rfl, (blk_cell BK336.out 3).trans rfl, (blk_cell BK336.out 4).trans rfl, (blk_cell BK336.out 5).trans rfl⟩ (fun hHeld => ?_)
               clear hK K
               refine norm_ (a' := ?_) ?_ ?_
               rotate_left
               ·show Act.put _ (some 31) _ = _
                simp only [Act.put, List.setIfInBounds_toArray, List.set_cons_zero, List.set_cons_succ, i64_w, i32_w]
                rfl
               refine pure_ (i := 3) (N := some 32) (v := ?_) (a' := ?_) #[true, true, true, true, false, false, false, false, false, false, false, false, false, false, false, false, false, false, false, false, false] rfl rfl (any_of HT_.out (by kernel_rfl)) (fun _ _ _ h => h) (Or.inl ⟨by rfl, ?_⟩) ?_ ?_
               rotate_left
               ·intro w'
                go_simp
                with_reducible rfl
               rotate_left
               ·simp only [Act.put, List.setIfInBounds_toArray, List.set_cons_zero, List.set_cons_succ, i64_w, i32_w]
                rfl
               refine pure_ (i := 4) (N := some 33) (v := ?_) (a' := ?_) #[true, true, true, true, true, false, false, false, false, false, false, false, false, false, false, false, false, false, false, false, false] rfl rfl (any_of HT_.out (by kernel_rfl)) (fun _ _ _ h => h) (Or.inl ⟨by rfl, ?_⟩) ?_ ?_
               rotate_left
               ·intro w'
                go_simp
                with_reducible rfl
               rotate_left
               ·simp only [Act.put, List.setIfInBounds_toArray, List.set_cons_zero, List.set_cons_succ, i64_w, i32_w]
                rfl
               refine pure_ (i := 5) (N := some 34) (v := ?_) (a' := ?_) #[true, true, true, true, true, true, false, false, false, false, false, false, false, false, false, false, false, false, false, false, false] rfl rfl (any_of HT_.out (by kernel_rfl)) (fun _ _ _ h => h) (Or.inl ⟨by rfl, ?_⟩) ?_ ?_
               rotate_left
               ·intro w'
                go_simp
                with_reducible rfl
               rotate_left
               ·simp only [Act.put, List.setIfInBounds_toArray, List.set_cons_zero, List.set_cons_succ, i64_w, i32_w]
                rfl
               refine take_ (i := 6) (N := some 35) (v := ?_) (a' := ?_) #[true, true, true, true, true, true, true, false, false, false, false, false, false, false, false, false, false, false, false, false, false] rfl rfl (take_ofW HT_.out HW_.out (by kernel_rfl)) (fun _ _ _ h => h) (Or.inl ⟨by rfl, ?_⟩) hHeld ?_ ?_
               rotate_left
               ·rintro w' ⟨s0, s1, s2, s3, s4, s5, s6, s7, s8, s9, s10, s11⟩
                go_simp
                with_reducible rfl
               rotate_left
               ·simp only [Act.put, List.setIfInBounds_toArray, List.set_cons_zero, List.set_cons_succ, i64_w, i32_w]
                rfl
               refine pure_ (i := 7) (N := some 36) (v := ?_) (a' := ?_) #[true, true, true, true, true, true, true, true, false, false, false, false, false, false, false, false, false, false, false, false, false] rfl rfl (any_of HT_.out (by kernel_rfl)) (fun _ _ _ h => h) (Or.inl ⟨by rfl, ?_⟩) ?_ ?_
               rotate_left
               ·intro w'
                go_simp
                with_reducible rfl
               rotate_left
               ·simp only [Act.put, List.setIfInBounds_toArray, List.set_cons_zero, List.set_cons_succ, i64_w, i32_w]
                rfl
               refine pure_ (i := 8) (N := some 37) (v := ?_) (a' := ?_) #[true, true, true, true, true, true, true, true, true, false, false, false, false, false, false, false, false, false, false, false, false] rfl rfl (any_of HT_.out (by kernel_rfl)) (fun _ _ _ h => h) (Or.inl ⟨by rfl, ?_⟩) ?_ ?_
               rotate_left
               ·intro w'
                go_simp
                with_reducible rfl
               rotate_left
               ·simp only [Act.put, List.setIfInBounds_toArray, List.set_cons_zero, List.set_cons_succ, i64_w, i32_w]
                rfl
               refine pure_ (i := 9) (N := some 38) (v := ?_) (a' := ?_) #[true, true, true, true, true, true, true, true, true, true, false, false, false, false, false, false, false, false, false, false, false] rfl rfl (any_of HT_.out (by kernel_rfl)) (fun _ _ _ h => h) (Or.inl ⟨by rfl, ?_⟩) ?_ ?_
               rotate_left
               ·intro w'
                go_simp
                with_reducible rfl
               rotate_left
               ·simp only [Act.put, List.setIfInBounds_toArray, List.set_cons_zero, List.set_cons_succ, i64_w, i32_w]
                rfl
               refine take_ (i := 10) (N := some 39) (v := ?_) (a' := ?_) #[true, true, true, true, true, true, true, true, true, true, true, false, false, false, false, false, false, false, false, false, false] rfl rfl (take_ofW HT_.out HW_.out (by kernel_rfl)) (fun _ _ _ h => h) (Or.inl ⟨by rfl, ?_⟩) hHeld ?_ ?_
               rotate_left
               ·rintro w' ⟨s0, s1, s2, s3, s4, s5, s6, s7, s8, s9, s10, s11⟩
                go_simp
                with_reducible rfl
               rotate_left
               ·simp only [Act.put, List.setIfInBounds_toArray, List.set_cons_zero, List.set_cons_succ, i64_w, i32_w]
                rfl
               refine pure_ (i := 11) (N := some 40) (v := ?_) (a' := ?_) #[true, true, true, true, true, true, true, true, true, true, true, true, false, false, false, false, false, false, false, false, false] rfl rfl (any_of HT_.out (by kernel_rfl)) (fun _ _ _ h => h) (Or.inl ⟨by rfl, ?_⟩) ?_ ?_
               rotate_left
               ·intro w'
                go_simp
                with_reducible rfl
               rotate_left
               ·simp only [Act.put, List.setIfInBounds_toArray, List.set_cons_zero, List.set_cons_succ, i64_w, i32_w]
                rfl
               refine pure_ (i := 12) (N := some 41) (v := ?_) (a' := ?_) #[true, true, true, true, true, true, true, true, true, true, true, true, true, false, false, false, false, false, false, false, false] rfl rfl (any_of HT_.out (by kernel_rfl)) (fun _ _ _ h => h) (Or.inl ⟨by rfl, ?_⟩) ?_ ?_
               rotate_left
               ·intro w'
                go_simp
                with_reducible rfl
               rotate_left
               ·simp only [Act.put, List.setIfInBounds_toArray, List.set_cons_zero, List.set_cons_succ, i64_w, i32_w]
                rfl
               refine pure_ (i := 13) (N := some 42) (v := ?_) (a' := ?_) #[true, true, true, true, true, true, true, true, true, true, true, true, true, true, false, false, false, false, false, false, false] rfl rfl (any_of HT_.out (by kernel_rfl)) (fun _ _ _ h => h) (Or.inl ⟨by rfl, ?_⟩) ?_ ?_
               rotate_left
               ·intro w'
                go_simp
                with_reducible rfl
               rotate_left
               ·simp only [Act.put, List.setIfInBounds_toArray, List.set_cons_zero, List.set_cons_succ, i64_w, i32_w]
                rfl
               refine take_ (i := 14) (N := some 43) (v := ?_) (a' := ?_) #[true, true, true, true, true, true, true, true, true, true, true, true, true, true, true, false, false, false, false, false, false] rfl rfl (take_ofW HT_.out HW_.out (by kernel_rfl)) (fun _ _ _ h => h) (Or.inl ⟨by rfl, ?_⟩) hHeld ?_ ?_
               rotate_left
               ·rintro w' ⟨s0, s1, s2, s3, s4, s5, s6, s7, s8, s9, s10, s11⟩
                go_simp
                with_reducible rfl
               rotate_left
               ·simp only [Act.put, List.setIfInBounds_toArray, List.set_cons_zero, List.set_cons_succ, i64_w, i32_w]
                rfl
               refine take_ (i := 16) (N := some 45) (v := ?_) (a' := ?_) #[true, true, true, true, true, true, true, true, true, true, true, true, true, true, true, false, true, false, false, false, false] rfl rfl (take_ofW HT_.out HW_.out (by kernel_rfl)) (fun _ _ _ h => h) (Or.inl ⟨by rfl, ?_⟩) hHeld ?_ ?_
               rotate_left
               ·rintro w' ⟨s0, s1, s2, s3, s4, s5, s6, s7, s8, s9, s10, s11⟩
                go_simp
                with_reducible rfl
               rotate_left
               ·simp only [Act.put, List.setIfInBounds_toArray, List.set_cons_zero, List.set_cons_succ, i64_w, i32_w]
                rfl
               refine one_ (i := 15) (N := some 44) #[true, true, true, true, true, true, true, true, true, true, true, true, true, true, true, true, true, false, false, false, false] rfl rfl (one_of HT_.out (by kernel_rfl)) (by decide) (fun K hK => ?_)
               refine goes_ Try.func74 (by kernel_rfl) rfl #[.agg #[.string ((rd_T35 l0_0 (ji17)).f0), .string ((rd_T35 l0_0 (ji17)).f1), .string ((rd_T35 l0_0 (ji17)).f2), .int .u64 ((rd_T35 l0_0 (ji17)).f3), .int .i64 ((rd_T35 l0_0 (ji17)).f4), .string ((rd_T35 l0_0 (ji17)).f5)]] (by rfl) rfl rfl (by (try simp only [List.map_toArray, List.map_cons, List.map_nil]); first | done | (simp only [hji17]; rfl) | rfl | (simp only [List.length_drop, List.length_take]; rfl)) ?_
               with_reducible refine (impl_Entry_column.calls ((rd_T35 l0_0 (ji17)).f0) ((rd_T35 l0_0 (ji17)).f1) ((rd_T35 l0_0 (ji17)).f2) ((rd_T35 l0_0 (ji17)).f3) ((rd_T35 l0_0 (ji17)).f4) ((rd_T35 l0_0 (ji17)).f5) t341 t342 t343 _ A37.out).mono ?_
               rintro e w42 ⟨rfl, hb⟩
               refine ⟨_, rfl, ?_⟩
               have n0_ := Aside0.mk (blk_below (g := gb334) (o := .cells #[.slice (some ad335) l0_0.length c0_0] 66 (0, 0)) (by (with_reducible repeat (first | refine blk_drewN ?_ _ | refine blk_drew ?_ | refine blk_alloc ?_ _)); exact BK334.out) hb)
               have n1_ := Aside0.mk (blk_below (g := gb336) (o := .cells #[.string ((rd_T35 l0_0 x13_1).f0), .string ((rd_T35 l0_0 x13_1).f1), .string ((rd_T35 l0_0 x13_1).f2), .int .u64 ((rd_T35 l0_0 x13_1).f3), .int .i64 ((rd_T35 l0_0 x13_1).f4), .string ((rd_T35 l0_0 x13_1).f5)] 35 (0, 0)) (by (with_reducible repeat (first | refine blk_drewN ?_ _ | refine blk_drew ?_ | refine blk_alloc ?_ _)); exact BK336.out) hb)
               have n2_ := Aside0.mk (blk_below (g := gb339) (o := .cells #[.string ((rd_T35 l0_0 (ji17)).f0), .string ((rd_T35 l0_0 (ji17)).f1), .string ((rd_T35 l0_0 (ji17)).f2), .int .u64 ((rd_T35 l0_0 (ji17)).f3), .int .i64 ((rd_T35 l0_0 (ji17)).f4), .string ((rd_T35 l0_0 (ji17)).f5)] 35 (0, 0)) (by (with_reducible repeat (first | refine blk_drewN ?_ _ | refine blk_drew ?_ | refine blk_alloc ?_ _)); exact BK339.out) hb)
               have n3_ := Aside0.mk (below_step (by repeat (first | (with_reducible first | exact HB.out | apply below_alloc | apply pw_below_drewN | apply below_drew1 | refine below_set ?_ GE334.out | refine below_set ?_ GE336.out | refine below_set ?_ GE339.out) | exact HB.out)) hb)
               clear BK334
               clear BK336
               clear BK339
               clear HB
               have BK334 := n0_
               have BK336 := n1_
               have BK339 := n2_
               have HB := n3_
               clear n0_ n1_ n2_ n3_
               (try clear hb)
               (try clear hb2)
               (try clear hk)
               (try clear hi)
               refine hK.out _ _ ⟨(blk_cell BK339.out 0).trans rfl, (blk_cell BK339.out 1).trans rfl, (blk_cell BK339.out 2).trans rfl, (blk_cell BK339.out 3).trans rfl, (blk_cell BK339.out 4).trans rfl, (blk_cell BK339.out 5).trans rfl, (blk_cell BK336.out 0).trans rfl, (blk_cell BK336.out 1).trans rfl, (blk_cell BK336.out 2).trans rfl, (blk_cell BK336.out 3).trans rfl, (blk_cell BK336.out 4).trans rfl, (blk_cell BK336.out 5).trans rfl⟩ (fun hHeld => ?_)
               clear hK K
               refine norm_ (a' := ?_) ?_ ?_
               rotate_left
               ·show Act.put _ (some 44) _ = _
                simp only [Act.put, List.setIfInBounds_toArray, List.set_cons_zero, List.set_cons_succ, i64_w, i32_w]
                rfl
               refine one_ (i := 17) (N := some 46) #[true, true, true, true, true, true, true, true, true, true, true, true, true, true, true, true, true, true, false, false, false] rfl rfl (one_of HT_.out (by kernel_rfl)) (by decide) (fun K hK => ?_)
               refine goes_ Try.func74 (by kernel_rfl) rfl #[.agg #[.string ((rd_T35 l0_0 x13_1).f0), .string ((rd_T35 l0_0 x13_1).f1), .string ((rd_T35 l0_0 x13_1).f2), .int .u64 ((rd_T35 l0_0 x13_1).f3), .int .i64 ((rd_T35 l0_0 x13_1).f4), .string ((rd_T35 l0_0 x13_1).f5)]] (by rfl) rfl rfl (by (try simp only [List.map_toArray, List.map_cons, List.map_nil]); first | done | rfl | (simp only [List.length_drop, List.length_take]; rfl)) ?_
               with_reducible refine (impl_Entry_column.calls ((rd_T35 l0_0 x13_1).f0) ((rd_T35 l0_0 x13_1).f1) ((rd_T35 l0_0 x13_1).f2) ((rd_T35 l0_0 x13_1).f3) ((rd_T35 l0_0 x13_1).f4) ((rd_T35 l0_0 x13_1).f5) t344 t345 t346 _ A38.out).mono ?_
               rintro e w43 ⟨rfl, hb⟩
               refine ⟨_, rfl, ?_⟩
               have n0_ := Aside0.mk (blk_below (g := gb334) (o := .cells #[.slice (some ad335) l0_0.length c0_0] 66 (0, 0)) (by (with_reducible repeat (first | refine blk_drewN ?_ _ | refine blk_drew ?_ | refine blk_alloc ?_ _)); exact BK334.out) hb)
               have n1_ := Aside0.mk (blk_below (g := gb336) (o := .cells #[.string ((rd_T35 l0_0 x13_1).f0), .string ((rd_T35 l0_0 x13_1).f1), .string ((rd_T35 l0_0 x13_1).f2), .int .u64 ((rd_T35 l0_0 x13_1).f3), .int .i64 ((rd_T35 l0_0 x13_1).f4), .string ((rd_T35 l0_0 x13_1).f5)] 35 (0, 0)) (by (with_reducible repeat (first | refine blk_drewN ?_ _ | refine blk_drew ?_ | refine blk_alloc ?_ _)); exact BK336.out) hb)
               have n2_ := Aside0.mk (blk_below (g := gb339) (o := .cells #[.string ((rd_T35 l0_0 (ji17)).f0), .string ((rd_T35 l0_0 (ji17)).f1), .string ((rd_T35 l0_0 (ji17)).f2), .int .u64 ((rd_T35 l0_0 (ji17)).f3), .int .i64 ((rd_T35 l0_0 (ji17)).f4), .string ((rd_T35 l0_0 (ji17)).f5)] 35 (0, 0)) (by (with_reducible repeat (first | refine blk_drewN ?_ _ | refine blk_drew ?_ | refine blk_alloc ?_ _)); exact BK339.out) hb)
               have n3_ := Aside0.mk (below_step (by repeat (first | (with_reducible first | exact HB.out | apply below_alloc | apply pw_below_drewN | apply below_drew1 | refine below_set ?_ GE334.out | refine below_set ?_ GE336.out | refine below_set ?_ GE339.out) | exact HB.out)) hb)
               clear BK334
               clear BK336
               clear BK339
               clear HB
               have BK334 := n0_
               have BK336 := n1_
               have BK339 := n2_
               have HB := n3_
               clear n0_ n1_ n2_ n3_
               (try clear hb)
               (try clear hb2)
               (try clear hk)
               (try clear hi)
               refine hK.out _ _ ⟨(blk_cell BK339.out 0).trans rfl, (blk_cell BK339.out 1).trans rfl, (blk_cell BK339.out 2).trans rfl, (blk_cell BK339.out 3).trans rfl, (blk_cell BK339.out 4).trans rfl, (blk_cell BK339.out 5).trans rfl, (blk_cell BK336.out 0).trans rfl, (blk_cell BK336.out 1).trans rfl, (blk_cell BK336.out 2).trans rfl, (blk_cell BK336.out 3).trans rfl, (blk_cell BK336.out 4).trans rfl, (blk_cell BK336.out 5).trans rfl⟩ (fun hHeld => ?_)
               clear hK K
               refine norm_ (a' := ?_) ?_ ?_
               rotate_left
               ·show Act.put _ (some 46) _ = _
                simp only [Act.put, List.setIfInBounds_toArray, List.set_cons_zero, List.set_cons_succ, i64_w, i32_w]
                rfl
               refine pure_ (i := 18) (N := some 47) (v := ?_) (a' := ?_) #[true, true, true, true, true, true, true, true, true, true, true, true, true, true, true, true, true, true, true, false, false] rfl rfl (any_of HT_.out (by kernel_rfl)) (fun _ _ _ h => h) (Or.inl ⟨by rfl, ?_⟩) ?_ ?_
               rotate_left
               ·intro w'
                go_simp
                with_reducible rfl
               rotate_left
               ·simp only [Act.put, List.setIfInBounds_toArray, List.set_cons_zero, List.set_cons_succ, i64_w, i32_w]
                rfl
               refine pure_ (i := 19) (N := some 48) (v := ?_) (a' := ?_) #[true, true, true, true, true, true, true, true, true, true, true, true, true, true, true, true, true, true, true, true, false] rfl rfl (any_of HT_.out (by kernel_rfl)) (fun _ _ _ h => h) (Or.inl ⟨by rfl, ?_⟩) ?_ ?_
               rotate_left
               ·intro w'
                go_simp
                with_reducible rfl
               rotate_left
               ·simp only [Act.put, List.setIfInBounds_toArray, List.set_cons_zero, List.set_cons_succ, i64_w, i32_w]
                rfl
               refine pure_ (i := 20) (N := some 49) (v := ?_) (a' := ?_) #[true, true, true, true, true, true, true, true, true, true, true, true, true, true, true, true, true, true, true, true, true] rfl rfl (any_of HT_.out (by kernel_rfl)) (fun _ _ _ h => h) (Or.inl ⟨by rfl, ?_⟩) ?_ ?_
               rotate_left
               ·intro w'
                go_simp
                with_reducible rfl
               rotate_left
               ·simp only [Act.put, List.setIfInBounds_toArray, List.set_cons_zero, List.set_cons_succ, i64_w, i32_w]
                rfl
               refine done_ (done_of HT_.out (by kernel_rfl)) ?_
               try go_wp2
               go_meet
               case rel => exact ⟨_, ((t341.toList == t344.toList && (t342.toList == t345.toList && (t343.toList == t346.toList)))), (by first | rfl | (simp; done) | (simp [*]; done)), H', ⟨by have := HK1.out; first | omega | exact Nat.le_refl _⟩, ⟨by (with_reducible repeat (first | refine blk_drewN ?_ _ | refine blk_drew ?_ | refine blk_alloc ?_ _)); exact BK334.out⟩, ⟨by (with_reducible repeat (first | refine blk_drewN ?_ _ | refine blk_drew ?_ | refine blk_alloc ?_ _)); exact BK336.out⟩, ⟨by (with_reducible repeat (first | refine blk_drewN ?_ _ | refine blk_drew ?_ | refine blk_alloc ?_ _)); exact BK339.out⟩, ⟨by repeat (first | (with_reducible first | exact HB.out | apply below_alloc | apply pw_below_drewN | apply below_drew1 | refine below_set ?_ GE334.out | refine below_set ?_ GE336.out | refine below_set ?_ GE339.out) | exact HB.out)⟩⟩
              ·rw [if_neg c36] at H
               have c36b0 : (((rd_T35 l0_0 x13_1).f4) == 2) = false := beq_eq_false_iff_ne.mpr c36
               have c36b1 : (((rd_T35 l0_0 x13_1).f4) != 2) = true := bne_iff_ne.mpr c36
               have H' := Aside0.mk H
               clear H
               try go_wp2
               have n0_ : Aside0 (((((((w26.setCell ⟨gb339, 0, none⟩ (.string ((rd_T35 l0_0 (ji17)).f0))).setCell ⟨gb339, 1, none⟩ (.string ((rd_T35 l0_0 (ji17)).f1))).setCell ⟨gb339, 2, none⟩ (.string ((rd_T35 l0_0 (ji17)).f2))).setCell ⟨gb339, 3, none⟩ (.int .u64 ((rd_T35 l0_0 (ji17)).f3))).setCell ⟨gb339, 4, none⟩ (.int .i64 ((rd_T35 l0_0 (ji17)).f4))).setCell ⟨gb339, 5, none⟩ (.string ((rd_T35 l0_0 (ji17)).f5))).heap[gb334]? = some (.cells #[.slice (some ad335) l0_0.length c0_0] 66 (0, 0))) := ⟨by (with_reducible repeat (first | refine blk_drewN ?_ _ | refine blk_drew ?_ | refine blk_alloc ?_ _)); refine blk_far ?_ NB334_339.out _; (with_reducible repeat (first | refine blk_drewN ?_ _ | refine blk_drew ?_ | refine blk_alloc ?_ _)); refine blk_far ?_ NB334_339.out _; (with_reducible repeat (first | refine blk_drewN ?_ _ | refine blk_drew ?_ | refine blk_alloc ?_ _)); refine blk_far ?_ NB334_339.out _; (with_reducible repeat (first | refine blk_drewN ?_ _ | refine blk_drew ?_ | refine blk_alloc ?_ _)); refine blk_far ?_ NB334_339.out _; (with_reducible repeat (first | refine blk_drewN ?_ _ | refine blk_drew ?_ | refine blk_alloc ?_ _)); refine blk_far ?_ NB334_339.out _; (with_reducible repeat (first | refine blk_drewN ?_ _ | refine blk_drew ?_ | refine blk_alloc ?_ _)); refine blk_far ?_ NB334_339.out _; (with_reducible repeat (first | refine blk_drewN ?_ _ | refine blk_drew ?_ | refine blk_alloc ?_ _)); exact BK334.out⟩
               have n1_ : Aside0 (((((((w26.setCell ⟨gb339, 0, none⟩ (.string ((rd_T35 l0_0 (ji17)).f0))).setCell ⟨gb339, 1, none⟩ (.string ((rd_T35 l0_0 (ji17)).f1))).setCell ⟨gb339, 2, none⟩ (.string ((rd_T35 l0_0 (ji17)).f2))).setCell ⟨gb339, 3, none⟩ (.int .u64 ((rd_T35 l0_0 (ji17)).f3))).setCell ⟨gb339, 4, none⟩ (.int .i64 ((rd_T35 l0_0 (ji17)).f4))).setCell ⟨gb339, 5, none⟩ (.string ((rd_T35 l0_0 (ji17)).f5))).heap[gb336]? = some (.cells #[.string ((rd_T35 l0_0 x13_1).f0), .string ((rd_T35 l0_0 x13_1).f1), .string ((rd_T35 l0_0 x13_1).f2), .int .u64 ((rd_T35 l0_0 x13_1).f3), .int .i64 ((rd_T35 l0_0 x13_1).f4), .string ((rd_T35 l0_0 x13_1).f5)] 35 (0, 0))) := ⟨by (with_reducible repeat (first | refine blk_drewN ?_ _ | refine blk_drew ?_ | refine blk_alloc ?_ _)); refine blk_far ?_ NB336_339.out _; (with_reducible repeat (first | refine blk_drewN ?_ _ | refine blk_drew ?_ | refine blk_alloc ?_ _)); refine blk_far ?_ NB336_339.out _; (with_reducible repeat (first | refine blk_drewN ?_ _ | refine blk_drew ?_ | refine blk_alloc ?_ _)); refine blk_far ?_ NB336_339.out _; (with_reducible repeat (first | refine blk_drewN ?_ _ | refine blk_drew ?_ | refine blk_alloc ?_ _)); refine blk_far ?_ NB336_339.out _; (with_reducible repeat (first | refine blk_drewN ?_ _ | refine blk_drew ?_ | refine blk_alloc ?_ _)); refine blk_far ?_ NB336_339.out _; (with_reducible repeat (first | refine blk_drewN ?_ _ | refine blk_drew ?_ | refine blk_alloc ?_ _)); refine blk_far ?_ NB336_339.out _; (with_reducible repeat (first | refine blk_drewN ?_ _ | refine blk_drew ?_ | refine blk_alloc ?_ _)); exact BK336.out⟩
               have n2_ : Aside0 (((((((w26.setCell ⟨gb339, 0, none⟩ (.string ((rd_T35 l0_0 (ji17)).f0))).setCell ⟨gb339, 1, none⟩ (.string ((rd_T35 l0_0 (ji17)).f1))).setCell ⟨gb339, 2, none⟩ (.string ((rd_T35 l0_0 (ji17)).f2))).setCell ⟨gb339, 3, none⟩ (.int .u64 ((rd_T35 l0_0 (ji17)).f3))).setCell ⟨gb339, 4, none⟩ (.int .i64 ((rd_T35 l0_0 (ji17)).f4))).setCell ⟨gb339, 5, none⟩ (.string ((rd_T35 l0_0 (ji17)).f5))).heap[gb339]? = some (.cells #[.string ((rd_T35 l0_0 (ji17)).f0), .string ((rd_T35 l0_0 (ji17)).f1), .string ((rd_T35 l0_0 (ji17)).f2), .int .u64 ((rd_T35 l0_0 (ji17)).f3), .int .i64 ((rd_T35 l0_0 (ji17)).f4), .string ((rd_T35 l0_0 (ji17)).f5)] 35 (0, 0))) := ⟨by (with_reducible repeat (first | refine blk_drewN ?_ _ | refine blk_drew ?_ | refine blk_alloc ?_ _)); refine blk_put (cs := #[.string ((rd_T35 l0_0 (ji17)).f0), .string ((rd_T35 l0_0 (ji17)).f1), .string ((rd_T35 l0_0 (ji17)).f2), .int .u64 ((rd_T35 l0_0 (ji17)).f3), .int .i64 ((rd_T35 l0_0 (ji17)).f4), .string (⟨#[]⟩ : ByteArray)]) ?_ 5 _ rfl; (with_reducible repeat (first | refine blk_drewN ?_ _ | refine blk_drew ?_ | refine blk_alloc ?_ _)); refine blk_put (cs := #[.string ((rd_T35 l0_0 (ji17)).f0), .string ((rd_T35 l0_0 (ji17)).f1), .string ((rd_T35 l0_0 (ji17)).f2), .int .u64 ((rd_T35 l0_0 (ji17)).f3), .int .i64 0, .string (⟨#[]⟩ : ByteArray)]) ?_ 4 _ rfl; (with_reducible repeat (first | refine blk_drewN ?_ _ | refine blk_drew ?_ | refine blk_alloc ?_ _)); refine blk_put (cs := #[.string ((rd_T35 l0_0 (ji17)).f0), .string ((rd_T35 l0_0 (ji17)).f1), .string ((rd_T35 l0_0 (ji17)).f2), .int .u64 0, .int .i64 0, .string (⟨#[]⟩ : ByteArray)]) ?_ 3 _ rfl; (with_reducible repeat (first | refine blk_drewN ?_ _ | refine blk_drew ?_ | refine blk_alloc ?_ _)); refine blk_put (cs := #[.string ((rd_T35 l0_0 (ji17)).f0), .string ((rd_T35 l0_0 (ji17)).f1), .string (⟨#[]⟩ : ByteArray), .int .u64 0, .int .i64 0, .string (⟨#[]⟩ : ByteArray)]) ?_ 2 _ rfl; (with_reducible repeat (first | refine blk_drewN ?_ _ | refine blk_drew ?_ | refine blk_alloc ?_ _)); refine blk_put (cs := #[.string ((rd_T35 l0_0 (ji17)).f0), .string (⟨#[]⟩ : ByteArray), .string (⟨#[]⟩ : ByteArray), .int .u64 0, .int .i64 0, .string (⟨#[]⟩ : ByteArray)]) ?_ 1 _ rfl; (with_reducible repeat (first | refine blk_drewN ?_ _ | refine blk_drew ?_ | refine blk_alloc ?_ _)); refine blk_put (cs := #[.string (⟨#[]⟩ : ByteArray), .string (⟨#[]⟩ : ByteArray), .string (⟨#[]⟩ : ByteArray), .int .u64 0, .int .i64 0, .string (⟨#[]⟩ : ByteArray)]) ?_ 0 _ rfl; (with_reducible repeat (first | refine blk_drewN ?_ _ | refine blk_drew ?_ | refine blk_alloc ?_ _)); exact BK339.out⟩
               have n3_ : Aside0 (Below w.heap.size w ((((((w26.setCell ⟨gb339, 0, none⟩ (.string ((rd_T35 l0_0 (ji17)).f0))).setCell ⟨gb339, 1, none⟩ (.string ((rd_T35 l0_0 (ji17)).f1))).setCell ⟨gb339, 2, none⟩ (.string ((rd_T35 l0_0 (ji17)).f2))).setCell ⟨gb339, 3, none⟩ (.int .u64 ((rd_T35 l0_0 (ji17)).f3))).setCell ⟨gb339, 4, none⟩ (.int .i64 ((rd_T35 l0_0 (ji17)).f4))).setCell ⟨gb339, 5, none⟩ (.string ((rd_T35 l0_0 (ji17)).f5)))) := ⟨by repeat (first | (with_reducible first | exact HB.out | apply below_alloc | apply pw_below_drewN | apply below_drew1 | refine below_set ?_ GE334.out | refine below_set ?_ GE336.out | refine below_set ?_ GE339.out) | exact HB.out)⟩
               (try clear BK334)
               (try clear BK336)
               (try clear BK339)
               (try clear HB)
               generalize ((((((w26.setCell ⟨gb339, 0, none⟩ (.string ((rd_T35 l0_0 (ji17)).f0))).setCell ⟨gb339, 1, none⟩ (.string ((rd_T35 l0_0 (ji17)).f1))).setCell ⟨gb339, 2, none⟩ (.string ((rd_T35 l0_0 (ji17)).f2))).setCell ⟨gb339, 3, none⟩ (.int .u64 ((rd_T35 l0_0 (ji17)).f3))).setCell ⟨gb339, 4, none⟩ (.int .i64 ((rd_T35 l0_0 (ji17)).f4))).setCell ⟨gb339, 5, none⟩ (.string ((rd_T35 l0_0 (ji17)).f5))) = w44 at n0_ n1_ n2_ n3_ ⊢
               have BK334 := n0_
               have BK336 := n1_
               have BK339 := n2_
               have HB := n3_
               clear n0_ n1_ n2_ n3_
               have n0_ := Aside0.mk (blk_drew BK334.out)
               have n1_ := Aside0.mk (blk_drew BK336.out)
               have n2_ := Aside0.mk (blk_drew BK339.out)
               have n3_ := Aside0.mk (below_drew1 HB.out)
               clear BK334
               clear BK336
               clear BK339
               clear HB
               have BK334 := n0_
               have BK336 := n1_
               have BK339 := n2_
               have HB := n3_
               clear n0_ n1_ n2_ n3_
               refine start_ (n := 21) (S := fun w' => w'.cell? ⟨gb339, 0, none⟩ = some (.string ((rd_T35 l0_0 (ji17)).f0)) ∧ w'.cell? ⟨gb339, 1, none⟩ = some (.string ((rd_T35 l0_0 (ji17)).f1)) ∧ w'.cell? ⟨gb339, 2, none⟩ = some (.string ((rd_T35 l0_0 (ji17)).f2)) ∧ w'.cell? ⟨gb339, 3, none⟩ = some (.int .u64 ((rd_T35 l0_0 (ji17)).f3)) ∧ w'.cell? ⟨gb339, 4, none⟩ = some (.int .i64 ((rd_T35 l0_0 (ji17)).f4)) ∧ w'.cell? ⟨gb339, 5, none⟩ = some (.string ((rd_T35 l0_0 (ji17)).f5)) ∧ w'.cell? ⟨gb336, 0, none⟩ = some (.string ((rd_T35 l0_0 x13_1).f0)) ∧ w'.cell? ⟨gb336, 1, none⟩ = some (.string ((rd_T35 l0_0 x13_1).f1)) ∧ w'.cell? ⟨gb336, 2, none⟩ = some (.string ((rd_T35 l0_0 x13_1).f2)) ∧ w'.cell? ⟨gb336, 3, none⟩ = some (.int .u64 ((rd_T35 l0_0 x13_1).f3)) ∧ w'.cell? ⟨gb336, 4, none⟩ = some (.int .i64 ((rd_T35 l0_0 x13_1).f4)) ∧ w'.cell? ⟨gb336, 5, none⟩ = some (.string ((rd_T35 l0_0 x13_1).f5))) (ds := []) #[false, false, false, false, false, false, false, false, false, false, false, false, false, false, false, false, false, false, false, false, false] (by kernel_rfl) rfl rfl ⟨(blk_cell BK339.out 0).trans rfl, (blk_cell BK339.out 1).trans rfl, (blk_cell BK339.out 2).trans rfl, (blk_cell BK339.out 3).trans rfl, (blk_cell BK339.out 4).trans rfl, (blk_cell BK339.out 5).trans rfl, (blk_cell BK336.out 0).trans rfl, (blk_cell BK336.out 1).trans rfl, (blk_cell BK336.out 2).trans rfl, (blk_cell BK336.out 3).trans rfl, (blk_cell BK336.out 4).trans rfl, (blk_cell BK336.out 5).trans rfl⟩ (fun hHeld => ?_); refine with_tabW impl_ValidRun.tab10 impl_ValidRun.bits10 (fun HT_ HW_ => ?_)
               generalize w44.drew = w45 at BK334 BK336 BK339 HB hHeld ⊢
               refine take_ (i := 0) (N := some 29) (v := ?_) (a' := ?_) #[true, false, false, false, false, false, false, false, false, false, false, false, false, false, false, false, false, false, false, false, false] rfl rfl (take_ofW HT_.out HW_.out (by kernel_rfl)) (fun _ _ _ h => h) (Or.inl ⟨by rfl, ?_⟩) hHeld ?_ ?_
               rotate_left
               ·rintro w' ⟨s0, s1, s2, s3, s4, s5, s6, s7, s8, s9, s10, s11⟩
                go_simp
                with_reducible rfl
               rotate_left
               ·simp only [Act.put, List.setIfInBounds_toArray, List.set_cons_zero, List.set_cons_succ, i64_w, i32_w]
                rfl
               refine take_ (i := 1) (N := some 30) (v := ?_) (a' := ?_) #[true, true, false, false, false, false, false, false, false, false, false, false, false, false, false, false, false, false, false, false, false] rfl rfl (take_ofW HT_.out HW_.out (by kernel_rfl)) (fun _ _ _ h => h) (Or.inl ⟨by rfl, ?_⟩) hHeld ?_ ?_
               rotate_left
               ·rintro w' ⟨s0, s1, s2, s3, s4, s5, s6, s7, s8, s9, s10, s11⟩
                go_simp
                with_reducible rfl
               rotate_left
               ·simp only [Act.put, List.setIfInBounds_toArray, List.set_cons_zero, List.set_cons_succ, i64_w, i32_w]
                rfl
               refine one_ (i := 2) (N := some 31) #[true, true, true, false, false, false, false, false, false, false, false, false, false, false, false, false, false, false, false, false, false] rfl rfl (one_of HT_.out (by kernel_rfl)) (by decide) (fun K hK => ?_)
               refine goes_ Try.func62 (by kernel_rfl) rfl #[.agg #[.string ((rd_T35 l0_0 (ji17)).f0), .string ((rd_T35 l0_0 (ji17)).f1), .string ((rd_T35 l0_0 (ji17)).f2), .int .u64 ((rd_T35 l0_0 (ji17)).f3), .int .i64 ((rd_T35 l0_0 (ji17)).f4), .string ((rd_T35 l0_0 (ji17)).f5)], .agg #[.string ((rd_T35 l0_0 x13_1).f0), .string ((rd_T35 l0_0 x13_1).f1), .string ((rd_T35 l0_0 x13_1).f2), .int .u64 ((rd_T35 l0_0 x13_1).f3), .int .i64 ((rd_T35 l0_0 x13_1).f4), .string ((rd_T35 l0_0 x13_1).f5)]] (by rfl) rfl rfl (by (try simp only [List.map_toArray, List.map_cons, List.map_nil]); first | done | (simp only [hji17]; rfl) | rfl | (simp only [List.length_drop, List.length_take]; rfl)) ?_
               with_reducible refine (impl_Entry_compare.calls k1 ((rd_T35 l0_0 (ji17)).f0) ((rd_T35 l0_0 (ji17)).f1) ((rd_T35 l0_0 (ji17)).f2) ((rd_T35 l0_0 (ji17)).f3) ((rd_T35 l0_0 (ji17)).f4) ((rd_T35 l0_0 (ji17)).f5) ((rd_T35 l0_0 x13_1).f0) ((rd_T35 l0_0 x13_1).f1) ((rd_T35 l0_0 x13_1).f2) ((rd_T35 l0_0 x13_1).f3) ((rd_T35 l0_0 x13_1).f4) ((rd_T35 l0_0 x13_1).f5) t340 _ A30.out).mono ?_
               rintro e w46 ⟨rfl, hb⟩
               refine ⟨_, rfl, ?_⟩
               have n0_ := Aside0.mk (blk_below (g := gb334) (o := .cells #[.slice (some ad335) l0_0.length c0_0] 66 (0, 0)) (by (with_reducible repeat (first | refine blk_drewN ?_ _ | refine blk_drew ?_ | refine blk_alloc ?_ _)); exact BK334.out) hb)
               have n1_ := Aside0.mk (blk_below (g := gb336) (o := .cells #[.string ((rd_T35 l0_0 x13_1).f0), .string ((rd_T35 l0_0 x13_1).f1), .string ((rd_T35 l0_0 x13_1).f2), .int .u64 ((rd_T35 l0_0 x13_1).f3), .int .i64 ((rd_T35 l0_0 x13_1).f4), .string ((rd_T35 l0_0 x13_1).f5)] 35 (0, 0)) (by (with_reducible repeat (first | refine blk_drewN ?_ _ | refine blk_drew ?_ | refine blk_alloc ?_ _)); exact BK336.out) hb)
               have n2_ := Aside0.mk (blk_below (g := gb339) (o := .cells #[.string ((rd_T35 l0_0 (ji17)).f0), .string ((rd_T35 l0_0 (ji17)).f1), .string ((rd_T35 l0_0 (ji17)).f2), .int .u64 ((rd_T35 l0_0 (ji17)).f3), .int .i64 ((rd_T35 l0_0 (ji17)).f4), .string ((rd_T35 l0_0 (ji17)).f5)] 35 (0, 0)) (by (with_reducible repeat (first | refine blk_drewN ?_ _ | refine blk_drew ?_ | refine blk_alloc ?_ _)); exact BK339.out) hb)
               have n3_ := Aside0.mk (below_step (by repeat (first | (with_reducible first | exact HB.out | apply below_alloc | apply pw_below_drewN | apply below_drew1 | refine below_set ?_ GE334.out | refine below_set ?_ GE336.out | refine below_set ?_ GE339.out) | exact HB.out)) hb)
               clear BK334
               clear BK336
               clear BK339
               clear HB
               have BK334 := n0_
               have BK336 := n1_
               have BK339 := n2_
               have HB := n3_
               clear n0_ n1_ n2_ n3_
               (try clear hb)
               (try clear hb2)
               (try clear hk)
               (try clear hi)
               refine hK.out _ _ ⟨(blk_cell BK339.out 0).trans rfl, (blk_cell BK339.out 1).trans rfl, (blk_cell BK339.out 2).trans rfl, (blk_cell BK339.out 3).trans rfl, (blk_cell BK339.out 4).trans rfl, (blk_cell BK339.out 5).trans rfl, (blk_cell BK336.out 0).trans rfl, (blk_cell BK336.out 1).trans rfl, (blk_cell BK336.out 2).trans rfl, (blk_cell BK336.out 3).trans rfl, (blk_cell BK336.out 4).trans rfl, (blk_cell BK336.out 5).trans rfl⟩ (fun hHeld => ?_)
               clear hK K
               refine norm_ (a' := ?_) ?_ ?_
               rotate_left
               ·show Act.put _ (some 31) _ = _
                simp only [Act.put, List.setIfInBounds_toArray, List.set_cons_zero, List.set_cons_succ, i64_w, i32_w]
                rfl
               refine pure_ (i := 3) (N := some 32) (v := ?_) (a' := ?_) #[true, true, true, true, false, false, false, false, false, false, false, false, false, false, false, false, false, false, false, false, false] rfl rfl (any_of HT_.out (by kernel_rfl)) (fun _ _ _ h => h) (Or.inl ⟨by rfl, ?_⟩) ?_ ?_
               rotate_left
               ·intro w'
                go_simp
                with_reducible rfl
               rotate_left
               ·simp only [Act.put, List.setIfInBounds_toArray, List.set_cons_zero, List.set_cons_succ, i64_w, i32_w]
                rfl
               refine pure_ (i := 4) (N := some 33) (v := ?_) (a' := ?_) #[true, true, true, true, true, false, false, false, false, false, false, false, false, false, false, false, false, false, false, false, false] rfl rfl (any_of HT_.out (by kernel_rfl)) (fun _ _ _ h => h) (Or.inl ⟨by rfl, ?_⟩) ?_ ?_
               rotate_left
               ·intro w'
                go_simp
                with_reducible rfl
               rotate_left
               ·simp only [Act.put, List.setIfInBounds_toArray, List.set_cons_zero, List.set_cons_succ, i64_w, i32_w]
                rfl
               refine pure_ (i := 5) (N := some 34) (v := ?_) (a' := ?_) #[true, true, true, true, true, true, false, false, false, false, false, false, false, false, false, false, false, false, false, false, false] rfl rfl (any_of HT_.out (by kernel_rfl)) (fun _ _ _ h => h) (Or.inl ⟨by rfl, ?_⟩) ?_ ?_
               rotate_left
               ·intro w'
                go_simp
                with_reducible rfl
               rotate_left
               ·simp only [Act.put, List.setIfInBounds_toArray, List.set_cons_zero, List.set_cons_succ, i64_w, i32_w]
                rfl
               refine take_ (i := 6) (N := some 35) (v := ?_) (a' := ?_) #[true, true, true, true, true, true, true, false, false, false, false, false, false, false, false, false, false, false, false, false, false] rfl rfl (take_ofW HT_.out HW_.out (by kernel_rfl)) (fun _ _ _ h => h) (Or.inl ⟨by rfl, ?_⟩) hHeld ?_ ?_
               rotate_left
               ·rintro w' ⟨s0, s1, s2, s3, s4, s5, s6, s7, s8, s9, s10, s11⟩
                go_simp
                with_reducible rfl
               rotate_left
               ·simp only [Act.put, List.setIfInBounds_toArray, List.set_cons_zero, List.set_cons_succ, i64_w, i32_w]
                rfl
               refine pure_ (i := 7) (N := some 36) (v := ?_) (a' := ?_) #[true, true, true, true, true, true, true, true, false, false, false, false, false, false, false, false, false, false, false, false, false] rfl rfl (any_of HT_.out (by kernel_rfl)) (fun _ _ _ h => h) (Or.inl ⟨by rfl, ?_⟩) ?_ ?_
               rotate_left
               ·intro w'
                go_simp
                with_reducible rfl
               rotate_left
               ·simp only [Act.put, List.setIfInBounds_toArray, List.set_cons_zero, List.set_cons_succ, i64_w, i32_w]
                rfl
               refine pure_ (i := 8) (N := some 37) (v := ?_) (a' := ?_) #[true, true, true, true, true, true, true, true, true, false, false, false, false, false, false, false, false, false, false, false, false] rfl rfl (any_of HT_.out (by kernel_rfl)) (fun _ _ _ h => h) (Or.inl ⟨by rfl, ?_⟩) ?_ ?_
               rotate_left
               ·intro w'
                go_simp
                with_reducible rfl
               rotate_left
               ·simp only [Act.put, List.setIfInBounds_toArray, List.set_cons_zero, List.set_cons_succ, i64_w, i32_w]
                rfl
               refine pure_ (i := 9) (N := some 38) (v := ?_) (a' := ?_) #[true, true, true, true, true, true, true, true, true, true, false, false, false, false, false, false, false, false, false, false, false] rfl rfl (any_of HT_.out (by kernel_rfl)) (fun _ _ _ h => h) (Or.inl ⟨by rfl, ?_⟩) ?_ ?_
               rotate_left
               ·intro w'
                go_simp
                with_reducible rfl
               rotate_left
               ·simp only [Act.put, List.setIfInBounds_toArray, List.set_cons_zero, List.set_cons_succ, i64_w, i32_w]
                rfl
               refine take_ (i := 10) (N := some 39) (v := ?_) (a' := ?_) #[true, true, true, true, true, true, true, true, true, true, true, false, false, false, false, false, false, false, false, false, false] rfl rfl (take_ofW HT_.out HW_.out (by kernel_rfl)) (fun _ _ _ h => h) (Or.inl ⟨by rfl, ?_⟩) hHeld ?_ ?_
               rotate_left
               ·rintro w' ⟨s0, s1, s2, s3, s4, s5, s6, s7, s8, s9, s10, s11⟩
                go_simp
                with_reducible rfl
               rotate_left
               ·simp only [Act.put, List.setIfInBounds_toArray, List.set_cons_zero, List.set_cons_succ, i64_w, i32_w]
                rfl
               refine pure_ (i := 11) (N := some 40) (v := ?_) (a' := ?_) #[true, true, true, true, true, true, true, true, true, true, true, true, false, false, false, false, false, false, false, false, false] rfl rfl (any_of HT_.out (by kernel_rfl)) (fun _ _ _ h => h) (Or.inl ⟨by rfl, ?_⟩) ?_ ?_
               rotate_left
               ·intro w'
                go_simp
                with_reducible rfl
               rotate_left
               ·simp only [Act.put, List.setIfInBounds_toArray, List.set_cons_zero, List.set_cons_succ, i64_w, i32_w]
                rfl
               refine pure_ (i := 12) (N := some 41) (v := ?_) (a' := ?_) #[true, true, true, true, true, true, true, true, true, true, true, true, true, false, false, false, false, false, false, false, false] rfl rfl (any_of HT_.out (by kernel_rfl)) (fun _ _ _ h => h) (Or.inl ⟨by rfl, ?_⟩) ?_ ?_
               rotate_left
               ·intro w'
                go_simp
                with_reducible rfl
               rotate_left
               ·simp only [Act.put, List.setIfInBounds_toArray, List.set_cons_zero, List.set_cons_succ, i64_w, i32_w]
                rfl
               refine pure_ (i := 13) (N := some 42) (v := ?_) (a' := ?_) #[true, true, true, true, true, true, true, true, true, true, true, true, true, true, false, false, false, false, false, false, false] rfl rfl (any_of HT_.out (by kernel_rfl)) (fun _ _ _ h => h) (Or.inl ⟨by rfl, ?_⟩) ?_ ?_
               rotate_left
               ·intro w'
                go_simp
                with_reducible rfl
               rotate_left
               ·simp only [Act.put, List.setIfInBounds_toArray, List.set_cons_zero, List.set_cons_succ, i64_w, i32_w]
                rfl
               refine pure_ (i := 14) (N := some 43) (v := undef) (a' := ?_) #[true, true, true, true, true, true, true, true, true, true, true, true, true, true, true, false, false, false, false, false, false] rfl rfl (any_of HT_.out (by kernel_rfl)) (fun _ _ _ h => h) (Or.inr ⟨by rfl, rfl⟩) ?_ ?_
               rotate_left
               ·simp only [Act.put, List.setIfInBounds_toArray, List.set_cons_zero, List.set_cons_succ, i64_w, i32_w]
                rfl
               refine pure_ (i := 15) (N := some 44) (v := undef) (a' := ?_) #[true, true, true, true, true, true, true, true, true, true, true, true, true, true, true, true, false, false, false, false, false] rfl rfl (any_of HT_.out (by kernel_rfl)) (fun _ _ _ h => h) (Or.inr ⟨by rfl, rfl⟩) ?_ ?_
               rotate_left
               ·simp only [Act.put, List.setIfInBounds_toArray, List.set_cons_zero, List.set_cons_succ, i64_w, i32_w]
                rfl
               refine pure_ (i := 16) (N := some 45) (v := undef) (a' := ?_) #[true, true, true, true, true, true, true, true, true, true, true, true, true, true, true, true, true, false, false, false, false] rfl rfl (any_of HT_.out (by kernel_rfl)) (fun _ _ _ h => h) (Or.inr ⟨by rfl, rfl⟩) ?_ ?_
               rotate_left
               ·simp only [Act.put, List.setIfInBounds_toArray, List.set_cons_zero, List.set_cons_succ, i64_w, i32_w]
                rfl
               refine pure_ (i := 17) (N := some 46) (v := undef) (a' := ?_) #[true, true, true, true, true, true, true, true, true, true, true, true, true, true, true, true, true, true, false, false, false] rfl rfl (any_of HT_.out (by kernel_rfl)) (fun _ _ _ h => h) (Or.inr ⟨by rfl, rfl⟩) ?_ ?_
               rotate_left
               ·simp only [Act.put, List.setIfInBounds_toArray, List.set_cons_zero, List.set_cons_succ, i64_w, i32_w]
                rfl
               refine pure_ (i := 18) (N := some 47) (v := undef) (a' := ?_) #[true, true, true, true, true, true, true, true, true, true, true, true, true, true, true, true, true, true, true, false, false] rfl rfl (any_of HT_.out (by kernel_rfl)) (fun _ _ _ h => h) (Or.inr ⟨by rfl, rfl⟩) ?_ ?_
               rotate_left
               ·simp only [Act.put, List.setIfInBounds_toArray, List.set_cons_zero, List.set_cons_succ, i64_w, i32_w]
                rfl
               refine pure_ (i := 19) (N := some 48) (v := ?_) (a' := ?_) #[true, true, true, true, true, true, true, true, true, true, true, true, true, true, true, true, true, true, true, true, false] rfl rfl (any_of HT_.out (by kernel_rfl)) (fun _ _ _ h => h) (Or.inl ⟨by rfl, ?_⟩) ?_ ?_
               rotate_left
               ·intro w'
                go_simp
                with_reducible rfl
               rotate_left
               ·simp only [Act.put, List.setIfInBounds_toArray, List.set_cons_zero, List.set_cons_succ, i64_w, i32_w]
                rfl
               refine pure_ (i := 20) (N := some 49) (v := ?_) (a' := ?_) #[true, true, true, true, true, true, true, true, true, true, true, true, true, true, true, true, true, true, true, true, true] rfl rfl (any_of HT_.out (by kernel_rfl)) (fun _ _ _ h => h) (Or.inl ⟨by rfl, ?_⟩) ?_ ?_
               rotate_left
               ·intro w'
                go_simp
                with_reducible rfl
               rotate_left
               ·simp only [Act.put, List.setIfInBounds_toArray, List.set_cons_zero, List.set_cons_succ, i64_w, i32_w]
                rfl
               refine done_ (done_of HT_.out (by kernel_rfl)) ?_
               try go_wp2
               go_meet
               case rel => exact ⟨_, (false), (by first | rfl | (simp; done) | (simp [*]; done)), H', ⟨by have := HK1.out; first | omega | exact Nat.le_refl _⟩, ⟨by (with_reducible repeat (first | refine blk_drewN ?_ _ | refine blk_drew ?_ | refine blk_alloc ?_ _)); exact BK334.out⟩, ⟨by (with_reducible repeat (first | refine blk_drewN ?_ _ | refine blk_drew ?_ | refine blk_alloc ?_ _)); exact BK336.out⟩, ⟨by (with_reducible repeat (first | refine blk_drewN ?_ _ | refine blk_drew ?_ | refine blk_alloc ?_ _)); exact BK339.out⟩, ⟨by repeat (first | (with_reducible first | exact HB.out | apply below_alloc | apply pw_below_drewN | apply below_drew1 | refine below_set ?_ GE334.out | refine below_set ?_ GE336.out | refine below_set ?_ GE339.out) | exact HB.out)⟩⟩
             ·rw [if_neg c35] at H
              have c35b0 : (((rd_T35 l0_0 (ji17)).f4) == 2) = false := beq_eq_false_iff_ne.mpr c35
              have c35b1 : (((rd_T35 l0_0 (ji17)).f4) != 2) = true := bne_iff_ne.mpr c35
              have H' := Aside0.mk H
              clear H
              try go_wp2
              have n0_ : Aside0 (((((((w26.setCell ⟨gb339, 0, none⟩ (.string ((rd_T35 l0_0 (ji17)).f0))).setCell ⟨gb339, 1, none⟩ (.string ((rd_T35 l0_0 (ji17)).f1))).setCell ⟨gb339, 2, none⟩ (.string ((rd_T35 l0_0 (ji17)).f2))).setCell ⟨gb339, 3, none⟩ (.int .u64 ((rd_T35 l0_0 (ji17)).f3))).setCell ⟨gb339, 4, none⟩ (.int .i64 ((rd_T35 l0_0 (ji17)).f4))).setCell ⟨gb339, 5, none⟩ (.string ((rd_T35 l0_0 (ji17)).f5))).heap[gb334]? = some (.cells #[.slice (some ad335) l0_0.length c0_0] 66 (0, 0))) := ⟨by (with_reducible repeat (first | refine blk_drewN ?_ _ | refine blk_drew ?_ | refine blk_alloc ?_ _)); refine blk_far ?_ NB334_339.out _; (with_reducible repeat (first | refine blk_drewN ?_ _ | refine blk_drew ?_ | refine blk_alloc ?_ _)); refine blk_far ?_ NB334_339.out _; (with_reducible repeat (first | refine blk_drewN ?_ _ | refine blk_drew ?_ | refine blk_alloc ?_ _)); refine blk_far ?_ NB334_339.out _; (with_reducible repeat (first | refine blk_drewN ?_ _ | refine blk_drew ?_ | refine blk_alloc ?_ _)); refine blk_far ?_ NB334_339.out _; (with_reducible repeat (first | refine blk_drewN ?_ _ | refine blk_drew ?_ | refine blk_alloc ?_ _)); refine blk_far ?_ NB334_339.out _; (with_reducible repeat (first | refine blk_drewN ?_ _ | refine blk_drew ?_ | refine blk_alloc ?_ _)); refine blk_far ?_ NB334_339.out _; (with_reducible repeat (first | refine blk_drewN ?_ _ | refine blk_drew ?_ | refine blk_alloc ?_ _)); exact BK334.out⟩
              have n1_ : Aside0 (((((((w26.setCell ⟨gb339, 0, none⟩ (.string ((rd_T35 l0_0 (ji17)).f0))).setCell ⟨gb339, 1, none⟩ (.string ((rd_T35 l0_0 (ji17)).f1))).setCell ⟨gb339, 2, none⟩ (.string ((rd_T35 l0_0 (ji17)).f2))).setCell ⟨gb339, 3, none⟩ (.int .u64 ((rd_T35 l0_0 (ji17)).f3))).setCell ⟨gb339, 4, none⟩ (.int .i64 ((rd_T35 l0_0 (ji17)).f4))).setCell ⟨gb339, 5, none⟩ (.string ((rd_T35 l0_0 (ji17)).f5))).heap[gb336]? = some (.cells #[.string ((rd_T35 l0_0 x13_1).f0), .string ((rd_T35 l0_0 x13_1).f1), .string ((rd_T35 l0_0 x13_1).f2), .int .u64 ((rd_T35 l0_0 x13_1).f3), .int .i64 ((rd_T35 l0_0 x13_1).f4), .string ((rd_T35 l0_0 x13_1).f5)] 35 (0, 0))) := ⟨by (with_reducible repeat (first | refine blk_drewN ?_ _ | refine blk_drew ?_ | refine blk_alloc ?_ _)); refine blk_far ?_ NB336_339.out _; (with_reducible repeat (first | refine blk_drewN ?_ _ | refine blk_drew ?_ | refine blk_alloc ?_ _)); refine blk_far ?_ NB336_339.out _; (with_reducible repeat (first | refine blk_drewN ?_ _ | refine blk_drew ?_ | refine blk_alloc ?_ _)); refine blk_far ?_ NB336_339.out _; (with_reducible repeat (first | refine blk_drewN ?_ _ | refine blk_drew ?_ | refine blk_alloc ?_ _)); refine blk_far ?_ NB336_339.out _; (with_reducible repeat (first | refine blk_drewN ?_ _ | refine blk_drew ?_ | refine blk_alloc ?_ _)); refine blk_far ?_ NB336_339.out _; (with_reducible repeat (first | refine blk_drewN ?_ _ | refine blk_drew ?_ | refine blk_alloc ?_ _)); refine blk_far ?_ NB336_339.out _; (with_reducible repeat (first | refine blk_drewN ?_ _ | refine blk_drew ?_ | refine blk_alloc ?_ _)); exact BK336.out⟩
              have n2_ : Aside0 (((((((w26.setCell ⟨gb339, 0, none⟩ (.string ((rd_T35 l0_0 (ji17)).f0))).setCell ⟨gb339, 1, none⟩ (.string ((rd_T35 l0_0 (ji17)).f1))).setCell ⟨gb339, 2, none⟩ (.string ((rd_T35 l0_0 (ji17)).f2))).setCell ⟨gb339, 3, none⟩ (.int .u64 ((rd_T35 l0_0 (ji17)).f3))).setCell ⟨gb339, 4, none⟩ (.int .i64 ((rd_T35 l0_0 (ji17)).f4))).setCell ⟨gb339, 5, none⟩ (.string ((rd_T35 l0_0 (ji17)).f5))).heap[gb339]? = some (.cells #[.string ((rd_T35 l0_0 (ji17)).f0), .string ((rd_T35 l0_0 (ji17)).f1), .string ((rd_T35 l0_0 (ji17)).f2), .int .u64 ((rd_T35 l0_0 (ji17)).f3), .int .i64 ((rd_T35 l0_0 (ji17)).f4), .string ((rd_T35 l0_0 (ji17)).f5)] 35 (0, 0))) := ⟨by (with_reducible repeat (first | refine blk_drewN ?_ _ | refine blk_drew ?_ | refine blk_alloc ?_ _)); refine blk_put (cs := #[.string ((rd_T35 l0_0 (ji17)).f0), .string ((rd_T35 l0_0 (ji17)).f1), .string ((rd_T35 l0_0 (ji17)).f2), .int .u64 ((rd_T35 l0_0 (ji17)).f3), .int .i64 ((rd_T35 l0_0 (ji17)).f4), .string (⟨#[]⟩ : ByteArray)]) ?_ 5 _ rfl; (with_reducible repeat (first | refine blk_drewN ?_ _ | refine blk_drew ?_ | refine blk_alloc ?_ _)); refine blk_put (cs := #[.string ((rd_T35 l0_0 (ji17)).f0), .string ((rd_T35 l0_0 (ji17)).f1), .string ((rd_T35 l0_0 (ji17)).f2), .int .u64 ((rd_T35 l0_0 (ji17)).f3), .int .i64 0, .string (⟨#[]⟩ : ByteArray)]) ?_ 4 _ rfl; (with_reducible repeat (first | refine blk_drewN ?_ _ | refine blk_drew ?_ | refine blk_alloc ?_ _)); refine blk_put (cs := #[.string ((rd_T35 l0_0 (ji17)).f0), .string ((rd_T35 l0_0 (ji17)).f1), .string ((rd_T35 l0_0 (ji17)).f2), .int .u64 0, .int .i64 0, .string (⟨#[]⟩ : ByteArray)]) ?_ 3 _ rfl; (with_reducible repeat (first | refine blk_drewN ?_ _ | refine blk_drew ?_ | refine blk_alloc ?_ _)); refine blk_put (cs := #[.string ((rd_T35 l0_0 (ji17)).f0), .string ((rd_T35 l0_0 (ji17)).f1), .string (⟨#[]⟩ : ByteArray), .int .u64 0, .int .i64 0, .string (⟨#[]⟩ : ByteArray)]) ?_ 2 _ rfl; (with_reducible repeat (first | refine blk_drewN ?_ _ | refine blk_drew ?_ | refine blk_alloc ?_ _)); refine blk_put (cs := #[.string ((rd_T35 l0_0 (ji17)).f0), .string (⟨#[]⟩ : ByteArray), .string (⟨#[]⟩ : ByteArray), .int .u64 0, .int .i64 0, .string (⟨#[]⟩ : ByteArray)]) ?_ 1 _ rfl; (with_reducible repeat (first | refine blk_drewN ?_ _ | refine blk_drew ?_ | refine blk_alloc ?_ _)); refine blk_put (cs := #[.string (⟨#[]⟩ : ByteArray), .string (⟨#[]⟩ : ByteArray), .string (⟨#[]⟩ : ByteArray), .int .u64 0, .int .i64 0, .string (⟨#[]⟩ : ByteArray)]) ?_ 0 _ rfl; (with_reducible repeat (first | refine blk_drewN ?_ _ | refine blk_drew ?_ | refine blk_alloc ?_ _)); exact BK339.out⟩
              have n3_ : Aside0 (Below w.heap.size w ((((((w26.setCell ⟨gb339, 0, none⟩ (.string ((rd_T35 l0_0 (ji17)).f0))).setCell ⟨gb339, 1, none⟩ (.string ((rd_T35 l0_0 (ji17)).f1))).setCell ⟨gb339, 2, none⟩ (.string ((rd_T35 l0_0 (ji17)).f2))).setCell ⟨gb339, 3, none⟩ (.int .u64 ((rd_T35 l0_0 (ji17)).f3))).setCell ⟨gb339, 4, none⟩ (.int .i64 ((rd_T35 l0_0 (ji17)).f4))).setCell ⟨gb339, 5, none⟩ (.string ((rd_T35 l0_0 (ji17)).f5)))) := ⟨by repeat (first | (with_reducible first | exact HB.out | apply below_alloc | apply pw_below_drewN | apply below_drew1 | refine below_set ?_ GE334.out | refine below_set ?_ GE336.out | refine below_set ?_ GE339.out) | exact HB.out)⟩
              (try clear BK334)
              (try clear BK336)
              (try clear BK339)
              (try clear HB)
              generalize ((((((w26.setCell ⟨gb339, 0, none⟩ (.string ((rd_T35 l0_0 (ji17)).f0))).setCell ⟨gb339, 1, none⟩ (.string ((rd_T35 l0_0 (ji17)).f1))).setCell ⟨gb339, 2, none⟩ (.string ((rd_T35 l0_0 (ji17)).f2))).setCell ⟨gb339, 3, none⟩ (.int .u64 ((rd_T35 l0_0 (ji17)).f3))).setCell ⟨gb339, 4, none⟩ (.int .i64 ((rd_T35 l0_0 (ji17)).f4))).setCell ⟨gb339, 5, none⟩ (.string ((rd_T35 l0_0 (ji17)).f5))) = w47 at n0_ n1_ n2_ n3_ ⊢
              have BK334 := n0_
              have BK336 := n1_
              have BK339 := n2_
              have HB := n3_
              clear n0_ n1_ n2_ n3_
              have n0_ := Aside0.mk (blk_drew BK334.out)
              have n1_ := Aside0.mk (blk_drew BK336.out)
              have n2_ := Aside0.mk (blk_drew BK339.out)
              have n3_ := Aside0.mk (below_drew1 HB.out)
              clear BK334
              clear BK336
              clear BK339
              clear HB
              have BK334 := n0_
              have BK336 := n1_
              have BK339 := n2_
              have HB := n3_
              clear n0_ n1_ n2_ n3_
              refine start_ (n := 21) (S := fun w' => w'.cell? ⟨gb339, 0, none⟩ = some (.string ((rd_T35 l0_0 (ji17)).f0)) ∧ w'.cell? ⟨gb339, 1, none⟩ = some (.string ((rd_T35 l0_0 (ji17)).f1)) ∧ w'.cell? ⟨gb339, 2, none⟩ = some (.string ((rd_T35 l0_0 (ji17)).f2)) ∧ w'.cell? ⟨gb339, 3, none⟩ = some (.int .u64 ((rd_T35 l0_0 (ji17)).f3)) ∧ w'.cell? ⟨gb339, 4, none⟩ = some (.int .i64 ((rd_T35 l0_0 (ji17)).f4)) ∧ w'.cell? ⟨gb339, 5, none⟩ = some (.string ((rd_T35 l0_0 (ji17)).f5)) ∧ w'.cell? ⟨gb336, 0, none⟩ = some (.string ((rd_T35 l0_0 x13_1).f0)) ∧ w'.cell? ⟨gb336, 1, none⟩ = some (.string ((rd_T35 l0_0 x13_1).f1)) ∧ w'.cell? ⟨gb336, 2, none⟩ = some (.string ((rd_T35 l0_0 x13_1).f2)) ∧ w'.cell? ⟨gb336, 3, none⟩ = some (.int .u64 ((rd_T35 l0_0 x13_1).f3)) ∧ w'.cell? ⟨gb336, 4, none⟩ = some (.int .i64 ((rd_T35 l0_0 x13_1).f4)) ∧ w'.cell? ⟨gb336, 5, none⟩ = some (.string ((rd_T35 l0_0 x13_1).f5))) (ds := []) #[false, false, false, false, false, false, false, false, false, false, false, false, false, false, false, false, false, false, false, false, false] (by kernel_rfl) rfl rfl ⟨(blk_cell BK339.out 0).trans rfl, (blk_cell BK339.out 1).trans rfl, (blk_cell BK339.out 2).trans rfl, (blk_cell BK339.out 3).trans rfl, (blk_cell BK339.out 4).trans rfl, (blk_cell BK339.out 5).trans rfl, (blk_cell BK336.out 0).trans rfl, (blk_cell BK336.out 1).trans rfl, (blk_cell BK336.out 2).trans rfl, (blk_cell BK336.out 3).trans rfl, (blk_cell BK336.out 4).trans rfl, (blk_cell BK336.out 5).trans rfl⟩ (fun hHeld => ?_); refine with_tabW impl_ValidRun.tab10 impl_ValidRun.bits10 (fun HT_ HW_ => ?_)
              generalize w47.drew = w48 at BK334 BK336 BK339 HB hHeld ⊢
              refine take_ (i := 0) (N := some 29) (v := ?_) (a' := ?_) #[true, false, false, false, false, false, false, false, false, false, false, false, false, false, false, false, false, false, false, false, false] rfl rfl (take_ofW HT_.out HW_.out (by kernel_rfl)) (fun _ _ _ h => h) (Or.inl ⟨by rfl, ?_⟩) hHeld ?_ ?_
              rotate_left
              ·rintro w' ⟨s0, s1, s2, s3, s4, s5, s6, s7, s8, s9, s10, s11⟩
               go_simp
               with_reducible rfl
              rotate_left
              ·simp only [Act.put, List.setIfInBounds_toArray, List.set_cons_zero, List.set_cons_succ, i64_w, i32_w]
               rfl
              refine take_ (i := 1) (N := some 30) (v := ?_) (a' := ?_) #[true, true, false, false, false, false, false, false, false, false, false, false, false, false, false, false, false, false, false, false, false] rfl rfl (take_ofW HT_.out HW_.out (by kernel_rfl)) (fun _ _ _ h => h) (Or.inl ⟨by rfl, ?_⟩) hHeld ?_ ?_
              rotate_left
              ·rintro w' ⟨s0, s1, s2, s3, s4, s5, s6, s7, s8, s9, s10, s11⟩
               go_simp
               with_reducible rfl
              rotate_left
              ·simp only [Act.put, List.setIfInBounds_toArray, List.set_cons_zero, List.set_cons_succ, i64_w, i32_w]
               rfl
              refine one_ (i := 2) (N := some 31) #[true, true, true, false, false, false, false, false, false, false, false, false, false, false, false, false, false, false, false, false, false] rfl rfl (one_of HT_.out (by kernel_rfl)) (by decide) (fun K hK => ?_)
              refine goes_ Try.func62 (by kernel_rfl) rfl #[.agg #[.string ((rd_T35 l0_0 (ji17)).f0), .string ((rd_T35 l0_0 (ji17)).f1), .string ((rd_T35 l0_0 (ji17)).f2), .int .u64 ((rd_T35 l0_0 (ji17)).f3), .int .i64 ((rd_T35 l0_0 (ji17)).f4), .string ((rd_T35 l0_0 (ji17)).f5)], .agg #[.string ((rd_T35 l0_0 x13_1).f0), .string ((rd_T35 l0_0 x13_1).f1), .string ((rd_T35 l0_0 x13_1).f2), .int .u64 ((rd_T35 l0_0 x13_1).f3), .int .i64 ((rd_T35 l0_0 x13_1).f4), .string ((rd_T35 l0_0 x13_1).f5)]] (by rfl) rfl rfl (by (try simp only [List.map_toArray, List.map_cons, List.map_nil]); first | done | (simp only [hji17]; rfl) | rfl | (simp only [List.length_drop, List.length_take]; rfl)) ?_
              with_reducible refine (impl_Entry_compare.calls k1 ((rd_T35 l0_0 (ji17)).f0) ((rd_T35 l0_0 (ji17)).f1) ((rd_T35 l0_0 (ji17)).f2) ((rd_T35 l0_0 (ji17)).f3) ((rd_T35 l0_0 (ji17)).f4) ((rd_T35 l0_0 (ji17)).f5) ((rd_T35 l0_0 x13_1).f0) ((rd_T35 l0_0 x13_1).f1) ((rd_T35 l0_0 x13_1).f2) ((rd_T35 l0_0 x13_1).f3) ((rd_T35 l0_0 x13_1).f4) ((rd_T35 l0_0 x13_1).f5) t340 _ A30.out).mono ?_
              rintro e w49 ⟨rfl, hb⟩
              refine ⟨_, rfl, ?_⟩
              have n0_ := Aside0.mk (blk_below (g := gb334) (o := .cells #[.slice (some ad335) l0_0.length c0_0] 66 (0, 0)) (by (with_reducible repeat (first | refine blk_drewN ?_ _ | refine blk_drew ?_ | refine blk_alloc ?_ _)); exact BK334.out) hb)
              have n1_ := Aside0.mk (blk_below (g := gb336) (o := .cells #[.string ((rd_T35 l0_0 x13_1).f0), .string ((rd_T35 l0_0 x13_1).f1), .string ((rd_T35 l0_0 x13_1).f2), .int .u64 ((rd_T35 l0_0 x13_1).f3), .int .i64 ((rd_T35 l0_0 x13_1).f4), .string ((rd_T35 l0_0 x13_1).f5)] 35 (0, 0)) (by (with_reducible repeat (first | refine blk_drewN ?_ _ | refine blk_drew ?_ | refine blk_alloc ?_ _)); exact BK336.out) hb)
              have n2_ := Aside0.mk (blk_below (g := gb339) (o := .cells #[.string ((rd_T35 l0_0 (ji17)).f0), .string ((rd_T35 l0_0 (ji17)).f1), .string ((rd_T35 l0_0 (ji17)).f2), .int .u64 ((rd_T35 l0_0 (ji17)).f3), .int .i64 ((rd_T35 l0_0 (ji17)).f4), .string ((rd_T35 l0_0 (ji17)).f5)] 35 (0, 0)) (by (with_reducible repeat (first | refine blk_drewN ?_ _ | refine blk_drew ?_ | refine blk_alloc ?_ _)); exact BK339.out) hb)
              have n3_ := Aside0.mk (below_step (by repeat (first | (with_reducible first | exact HB.out | apply below_alloc | apply pw_below_drewN | apply below_drew1 | refine below_set ?_ GE334.out | refine below_set ?_ GE336.out | refine below_set ?_ GE339.out) | exact HB.out)) hb)
              clear BK334
              clear BK336
              clear BK339
              clear HB
              have BK334 := n0_
              have BK336 := n1_
              have BK339 := n2_
              have HB := n3_
              clear n0_ n1_ n2_ n3_
              (try clear hb)
              (try clear hb2)
              (try clear hk)
              (try clear hi)
              refine hK.out _ _ ⟨(blk_cell BK339.out 0).trans rfl, (blk_cell BK339.out 1).trans rfl, (blk_cell BK339.out 2).trans rfl, (blk_cell BK339.out 3).trans rfl, (blk_cell BK339.out 4).trans rfl, (blk_cell BK339.out 5).trans rfl, (blk_cell BK336.out 0).trans rfl, (blk_cell BK336.out 1).trans rfl, (blk_cell BK336.out 2).trans rfl, (blk_cell BK336.out 3).trans rfl, (blk_cell BK336.out 4).trans rfl, (blk_cell BK336.out 5).trans rfl⟩ (fun hHeld => ?_)
              clear hK K
              refine norm_ (a' := ?_) ?_ ?_
              rotate_left
              ·show Act.put _ (some 31) _ = _
               simp only [Act.put, List.setIfInBounds_toArray, List.set_cons_zero, List.set_cons_succ, i64_w, i32_w]
               rfl
              refine pure_ (i := 3) (N := some 32) (v := ?_) (a' := ?_) #[true, true, true, true, false, false, false, false, false, false, false, false, false, false, false, false, false, false, false, false, false] rfl rfl (any_of HT_.out (by kernel_rfl)) (fun _ _ _ h => h) (Or.inl ⟨by rfl, ?_⟩) ?_ ?_
              rotate_left
              ·intro w'
               go_simp
               with_reducible rfl
              rotate_left
              ·simp only [Act.put, List.setIfInBounds_toArray, List.set_cons_zero, List.set_cons_succ, i64_w, i32_w]
               rfl
              refine pure_ (i := 4) (N := some 33) (v := ?_) (a' := ?_) #[true, true, true, true, true, false, false, false, false, false, false, false, false, false, false, false, false, false, false, false, false] rfl rfl (any_of HT_.out (by kernel_rfl)) (fun _ _ _ h => h) (Or.inl ⟨by rfl, ?_⟩) ?_ ?_
              rotate_left
              ·intro w'
               go_simp
               with_reducible rfl
              rotate_left
              ·simp only [Act.put, List.setIfInBounds_toArray, List.set_cons_zero, List.set_cons_succ, i64_w, i32_w]
               rfl
              refine pure_ (i := 5) (N := some 34) (v := ?_) (a' := ?_) #[true, true, true, true, true, true, false, false, false, false, false, false, false, false, false, false, false, false, false, false, false] rfl rfl (any_of HT_.out (by kernel_rfl)) (fun _ _ _ h => h) (Or.inl ⟨by rfl, ?_⟩) ?_ ?_
              rotate_left
              ·intro w'
               go_simp
               with_reducible rfl
              rotate_left
              ·simp only [Act.put, List.setIfInBounds_toArray, List.set_cons_zero, List.set_cons_succ, i64_w, i32_w]
               rfl
              refine take_ (i := 6) (N := some 35) (v := ?_) (a' := ?_) #[true, true, true, true, true, true, true, false, false, false, false, false, false, false, false, false, false, false, false, false, false] rfl rfl (take_ofW HT_.out HW_.out (by kernel_rfl)) (fun _ _ _ h => h) (Or.inl ⟨by rfl, ?_⟩) hHeld ?_ ?_
              rotate_left
              ·rintro w' ⟨s0, s1, s2, s3, s4, s5, s6, s7, s8, s9, s10, s11⟩
               go_simp
               with_reducible rfl
              rotate_left
              ·simp only [Act.put, List.setIfInBounds_toArray, List.set_cons_zero, List.set_cons_succ, i64_w, i32_w]
               rfl
              refine pure_ (i := 7) (N := some 36) (v := ?_) (a' := ?_) #[true, true, true, true, true, true, true, true, false, false, false, false, false, false, false, false, false, false, false, false, false] rfl rfl (any_of HT_.out (by kernel_rfl)) (fun _ _ _ h => h) (Or.inl ⟨by rfl, ?_⟩) ?_ ?_
              rotate_left
              ·intro w'
               go_simp
               with_reducible rfl
              rotate_left
              ·simp only [Act.put, List.setIfInBounds_toArray, List.set_cons_zero, List.set_cons_succ, i64_w, i32_w]
               rfl
              refine pure_ (i := 8) (N := some 37) (v := ?_) (a' := ?_) #[true, true, true, true, true, true, true, true, true, false, false, false, false, false, false, false, false, false, false, false, false] rfl rfl (any_of HT_.out (by kernel_rfl)) (fun _ _ _ h => h) (Or.inl ⟨by rfl, ?_⟩) ?_ ?_
              rotate_left
              ·intro w'
               go_simp
               with_reducible rfl
              rotate_left
              ·simp only [Act.put, List.setIfInBounds_toArray, List.set_cons_zero, List.set_cons_succ, i64_w, i32_w]
               rfl
              refine pure_ (i := 9) (N := some 38) (v := undef) (a' := ?_) #[true, true, true, true, true, true, true, true, true, true, false, false, false, false, false, false, false, false, false, false, false] rfl rfl (any_of HT_.out (by kernel_rfl)) (fun _ _ _ h => h) (Or.inr ⟨by rfl, rfl⟩) ?_ ?_
              rotate_left
              ·simp only [Act.put, List.setIfInBounds_toArray, List.set_cons_zero, List.set_cons_succ, i64_w, i32_w]
               rfl
              refine pure_ (i := 10) (N := some 39) (v := undef) (a' := ?_) #[true, true, true, true, true, true, true, true, true, true, true, false, false, false, false, false, false, false, false, false, false] rfl rfl (any_of HT_.out (by kernel_rfl)) (fun _ _ _ h => h) (Or.inr ⟨by rfl, rfl⟩) ?_ ?_
              rotate_left
              ·simp only [Act.put, List.setIfInBounds_toArray, List.set_cons_zero, List.set_cons_succ, i64_w, i32_w]
               rfl
              refine pure_ (i := 11) (N := some 40) (v := undef) (a' := ?_) #[true, true, true, true, true, true, true, true, true, true, true, true, false, false, false, false, false, false, false, false, false] rfl rfl (any_of HT_.out (by kernel_rfl)) (fun _ _ _ h => h) (Or.inr ⟨by rfl, rfl⟩) ?_ ?_
              rotate_left
              ·simp only [Act.put, List.setIfInBounds_toArray, List.set_cons_zero, List.set_cons_succ, i64_w, i32_w]
               rfl
              refine pure_ (i := 12) (N := some 41) (v := ?_) (a' := ?_) #[true, true, true, true, true, true, true, true, true, true, true, true, true, false, false, false, false, false, false, false, false] rfl rfl (any_of HT_.out (by kernel_rfl)) (fun _ _ _ h => h) (Or.inl ⟨by rfl, ?_⟩) ?_ ?_
              rotate_left
              ·intro w'
               go_simp
               with_reducible rfl
              rotate_left
              ·simp only [Act.put, List.setIfInBounds_toArray, List.set_cons_zero, List.set_cons_succ, i64_w, i32_w]
               rfl
              refine pure_ (i := 13) (N := some 42) (v := ?_) (a' := ?_) #[true, true, true, true, true, true, true, true, true, true, true, true, true, true, false, false, false, false, false, false, false] rfl rfl (any_of HT_.out (by kernel_rfl)) (fun _ _ _ h => h) (Or.inl ⟨by rfl, ?_⟩) ?_ ?_
              rotate_left
              ·intro w'
               go_simp
               with_reducible rfl
              rotate_left
              ·simp only [Act.put, List.setIfInBounds_toArray, List.set_cons_zero, List.set_cons_succ, i64_w, i32_w]
               rfl
              refine pure_ (i := 14) (N := some 43) (v := undef) (a' := ?_) #[true, true, true, true, true, true, true, true, true, true, true, true, true, true, true, false, false, false, false, false, false] rfl rfl (any_of HT_.out (by kernel_rfl)) (fun _ _ _ h => h) (Or.inr ⟨by rfl, rfl⟩) ?_ ?_
              rotate_left
              ·simp only [Act.put, List.setIfInBounds_toArray, List.set_cons_zero, List.set_cons_succ, i64_w, i32_w]
               rfl
              refine pure_ (i := 15) (N := some 44) (v := undef) (a' := ?_) #[true, true, true, true, true, true, true, true, true, true, true, true, true, true, true, true, false, false, false, false, false] rfl rfl (any_of HT_.out (by kernel_rfl)) (fun _ _ _ h => h) (Or.inr ⟨by rfl, rfl⟩) ?_ ?_
              rotate_left
              ·simp only [Act.put, List.setIfInBounds_toArray, List.set_cons_zero, List.set_cons_succ, i64_w, i32_w]
               rfl
              refine pure_ (i := 16) (N := some 45) (v := undef) (a' := ?_) #[true, true, true, true, true, true, true, true, true, true, true, true, true, true, true, true, true, false, false, false, false] rfl rfl (any_of HT_.out (by kernel_rfl)) (fun _ _ _ h => h) (Or.inr ⟨by rfl, rfl⟩) ?_ ?_
              rotate_left
              ·simp only [Act.put, List.setIfInBounds_toArray, List.set_cons_zero, List.set_cons_succ, i64_w, i32_w]
               rfl
              refine pure_ (i := 17) (N := some 46) (v := undef) (a' := ?_) #[true, true, true, true, true, true, true, true, true, true, true, true, true, true, true, true, true, true, false, false, false] rfl rfl (any_of HT_.out (by kernel_rfl)) (fun _ _ _ h => h) (Or.inr ⟨by rfl, rfl⟩) ?_ ?_
              rotate_left
              ·simp only [Act.put, List.setIfInBounds_toArray, List.set_cons_zero, List.set_cons_succ, i64_w, i32_w]
               rfl
              refine pure_ (i := 18) (N := some 47) (v := undef) (a' := ?_) #[true, true, true, true, true, true, true, true, true, true, true, true, true, true, true, true, true, true, true, false, false] rfl rfl (any_of HT_.out (by kernel_rfl)) (fun _ _ _ h => h) (Or.inr ⟨by rfl, rfl⟩) ?_ ?_
              rotate_left
              ·simp only [Act.put, List.setIfInBounds_toArray, List.set_cons_zero, List.set_cons_succ, i64_w, i32_w]
               rfl
              refine pure_ (i := 19) (N := some 48) (v := ?_) (a' := ?_) #[true, true, true, true, true, true, true, true, true, true, true, true, true, true, true, true, true, true, true, true, false] rfl rfl (any_of HT_.out (by kernel_rfl)) (fun _ _ _ h => h) (Or.inl ⟨by rfl, ?_⟩) ?_ ?_
              rotate_left
              ·intro w'
               go_simp
               with_reducible rfl
              rotate_left
              ·simp only [Act.put, List.setIfInBounds_toArray, List.set_cons_zero, List.set_cons_succ, i64_w, i32_w]
               rfl
              refine pure_ (i := 20) (N := some 49) (v := ?_) (a' := ?_) #[true, true, true, true, true, true, true, true, true, true, true, true, true, true, true, true, true, true, true, true, true] rfl rfl (any_of HT_.out (by kernel_rfl)) (fun _ _ _ h => h) (Or.inl ⟨by rfl, ?_⟩) ?_ ?_
              rotate_left
              ·intro w'
               go_simp
               with_reducible rfl
              rotate_left
              ·simp only [Act.put, List.setIfInBounds_toArray, List.set_cons_zero, List.set_cons_succ, i64_w, i32_w]
               rfl
              refine done_ (done_of HT_.out (by kernel_rfl)) ?_
              try go_wp2
              go_meet
              case rel => exact ⟨_, (false), (by first | rfl | (simp; done) | (simp [*]; done)), H', ⟨by have := HK1.out; first | omega | exact Nat.le_refl _⟩, ⟨by (with_reducible repeat (first | refine blk_drewN ?_ _ | refine blk_drew ?_ | refine blk_alloc ?_ _)); exact BK334.out⟩, ⟨by (with_reducible repeat (first | refine blk_drewN ?_ _ | refine blk_drew ?_ | refine blk_alloc ?_ _)); exact BK336.out⟩, ⟨by (with_reducible repeat (first | refine blk_drewN ?_ _ | refine blk_drew ?_ | refine blk_alloc ?_ _)); exact BK339.out⟩, ⟨by repeat (first | (with_reducible first | exact HB.out | apply below_alloc | apply pw_below_drewN | apply below_drew1 | refine below_set ?_ GE334.out | refine below_set ?_ GE336.out | refine below_set ?_ GE339.out) | exact HB.out)⟩⟩
           case rest =>
            clear HC20
            try clear p2
            try clear c3
            try clear c6
            try clear c7
            try clear c35
            try clear c35b0
            try clear c35b1
            try clear c36
            try clear c36b0
            try clear c36b1
            obtain ⟨kq, x49_19, rfl, HA, HJ19, BK334, BK336, BK339, HB⟩ := hcut
            cases kq with
            | zero => exact absurd HA.out (by simp [impl_ValidRun.j1])
            | succ kj19 =>
             have H := HA.out
             clear HA
             simp only [impl_ValidRun.j1] at H
             by_cases c50 : x49_19 = true
             ·subst c50
              have H1 : (some false) = some r := by rw [if_pos rfl] at H; exact H
              clear H
              have H := H1
              clear H1
              obtain rfl := Option.some.inj H
              go_wp2
              go_ret
              exact ⟨by first | rfl | (simp [errW_none, errW_some] <;> rfl) | (simp only [← hji17]; first | rfl | (simp [errW_none, errW_some] <;> rfl)) | (simp [*, errW_none, errW_some] <;> rfl), by repeat (first | (with_reducible first | exact HB.out | apply below_alloc | apply pw_below_drewN | apply below_drew1 | refine below_set ?_ GE334.out | refine below_set ?_ GE336.out | refine below_set ?_ GE339.out) | exact HB.out)⟩
             ·replace c50 := Bool.eq_false_iff.mpr c50
              subst c50
              have H1 : (impl_ValidRun.l0 kj19 l0_0 (l0_0.length : Int) (wrap64 (x13_1 + 1)) l0_0) = some r := by rw [if_neg (show ¬ (false = true) by decide)] at H; exact H
              clear H
              have H := H1
              clear H1
              have H' := Aside0.mk H
              clear H
              go_wp2
              go_roundg kj19
              case measure => have := HK1.out; have := HJ19.out; omega
              case rel => exact ⟨(wrap64 (x13_1 + 1)), (by first | rfl | (simp; done) | (simp [*]; done)), H', ⟨by have := HK1.out; have := HJ19.out; omega⟩, ⟨by (with_reducible repeat (first | refine blk_drewN ?_ _ | refine blk_drew ?_ | refine blk_alloc ?_ _)); exact BK334.out⟩, ⟨by repeat (first | (with_reducible first | exact HB.out | apply below_alloc | apply pw_below_drewN | apply below_drew1 | refine below_set ?_ GE334.out | refine below_set ?_ GE336.out | refine below_set ?_ GE339.out) | exact HB.out)⟩⟩
          ·rw [if_neg c19] at H
           exact absurd H (by simp)
         ·rw [if_neg c18] at H
          exact absurd H (by simp)
       ·replace c11 := Bool.eq_false_iff.mpr c11
        subst c11
        have H1 : (some false) = some r := by rw [if_neg (show ¬ (false = true) by decide)] at H; exact H
        clear H
        have H := H1
        clear H1
        obtain rfl := Option.some.inj H
        have p335 : 0 ≤ (x13_1 : Int) := of_decide_eq_true (by first | (with_reducible assumption) | assumption)
        have q335 : x13_1 < (l0_0.length : Int) := of_decide_eq_true (by first | (with_reducible assumption) | assumption)
        obtain ⟨ad335, e335, hx335_0, hx335_1, hx335_2, hx335_3, hx335_4, hx335_5⟩ := at_T35 HR0_0.out x13_1 p335 q335
        cases e335
        replace hx335_0 := (HB.out.cell (World.block_lt_of_cell? w _ hx335_0)).trans hx335_0
        replace hx335_1 := (HB.out.cell (World.block_lt_of_cell? w _ hx335_1)).trans hx335_1
        replace hx335_2 := (HB.out.cell (World.block_lt_of_cell? w _ hx335_2)).trans hx335_2
        replace hx335_3 := (HB.out.cell (World.block_lt_of_cell? w _ hx335_3)).trans hx335_3
        replace hx335_4 := (HB.out.cell (World.block_lt_of_cell? w _ hx335_4)).trans hx335_4
        replace hx335_5 := (HB.out.cell (World.block_lt_of_cell? w _ hx335_5)).trans hx335_5
        replace p335 := eq_true p335
        replace q335 := eq_true q335
        go_wp2_with (first | ((with_reducible refine gate_dst (N := 4) rfl ?_); refine box_event ?hg (N := 4) ?hd (cs := #[.string (⟨#[]⟩ : ByteArray), .string (⟨#[]⟩ : ByteArray), .string (⟨#[]⟩ : ByteArray), .int .u64 0, .int .i64 0, .string (⟨#[]⟩ : ByteArray)]) (t := 35) ?hr ?_; (case hd => rfl); (case hg => rfl); (case hr => first | (go_simp; done) | (go_simp; rfl)); intro gb336 hg w51 hbox hb; have n0_ := Aside0.mk (blk_below (g := gb334) (o := .cells #[.slice (some ad335) l0_0.length c0_0] 66 (0, 0)) (by (with_reducible repeat (first | refine blk_drewN ?_ _ | refine blk_drew ?_ | refine blk_alloc ?_ _)); exact BK334.out) hb); have n1_ := Aside0.mk (below_step (by repeat (first | (with_reducible first | exact HB.out | apply below_alloc | apply pw_below_drewN | apply below_drew1 | refine below_set ?_ GE334.out) | exact HB.out)) hb); have n2_ := Aside0.mk (hbox); have n3_ := Aside0.mk ((by rw [hg]; exact (below_size (by repeat (first | (with_reducible first | exact HB.out | apply below_alloc | apply pw_below_drewN | apply below_drew1 | refine below_set ?_ GE334.out) | exact HB.out))) : w.heap.size ≤ gb336)); have n4_ := Aside0.mk ((by rw [hg]; exact (below_size (by repeat (first | (with_reducible first | exact HB.out | apply below_alloc | apply pw_below_drewN | apply below_drew1 | refine below_set ?_ GE334.out) | exact HB.out))) : w.heap.size ≤ gb336)); have n5_ := Aside0.mk ((by rw [hg]; exact Nat.ne_of_lt (blk_lt (g := gb334) (o := .cells #[.slice (some ad335) l0_0.length c0_0] 66 (0, 0)) (by (with_reducible repeat (first | refine blk_drewN ?_ _ | refine blk_drew ?_ | refine blk_alloc ?_ _)); exact BK334.out)) : gb334 ≠ gb336)); have n6_ := Aside0.mk ((by rw [hg]; exact Nat.ne_of_gt (blk_lt (g := gb334) (o := .cells #[.slice (some ad335) l0_0.length c0_0] 66 (0, 0)) (by (with_reducible repeat (first | refine blk_drewN ?_ _ | refine blk_drew ?_ | refine blk_alloc ?_ _)); exact BK334.out)) : gb336 ≠ gb334)); clear BK334; clear HB; have BK334 := n0_; have HB := n1_; have BK336 := n2_; have GW336 := n3_; have GE336 := n4_; have NB334_336 := n5_; have NB336_334 := n6_; clear n0_ n1_ n2_ n3_ n4_ n5_ n6_; clear hb hbox hg; have hnb52 := NB336_334.out; have hnc52 := NB334_336.out; have hcz53_0 : w51.cell? ⟨gb336, 0, none⟩ = some (.string (⟨#[]⟩ : ByteArray)) := (blk_cell BK336.out 0).trans rfl; have hcz53_1 : w51.cell? ⟨gb336, 1, none⟩ = some (.string (⟨#[]⟩ : ByteArray)) := (blk_cell BK336.out 1).trans rfl; have hcz53_2 : w51.cell? ⟨gb336, 2, none⟩ = some (.string (⟨#[]⟩ : ByteArray)) := (blk_cell BK336.out 2).trans rfl; have hcz53_3 : w51.cell? ⟨gb336, 3, none⟩ = some (.int .u64 0) := (blk_cell BK336.out 3).trans rfl; have hcz53_4 : w51.cell? ⟨gb336, 4, none⟩ = some (.int .i64 0) := (blk_cell BK336.out 4).trans rfl; have hcz53_5 : w51.cell? ⟨gb336, 5, none⟩ = some (.string (⟨#[]⟩ : ByteArray)) := (blk_cell BK336.out 5).trans rfl; have hfz53_0 := blk_frozen BK336.out 0; have hfz53_1 := blk_frozen BK336.out 1; have hfz53_2 := blk_frozen BK336.out 2; have hfz53_3 := blk_frozen BK336.out 3; have hfz53_4 := blk_frozen BK336.out 4; have hfz53_5 := blk_frozen BK336.out 5) | ((with_reducible refine at_fn (f := 22) rfl ?_); refine goesL_ (some 19) rfl rfl Try.func22 (by kernel_rfl) rfl #[.agg #[.string ((rd_T35 l0_0 x13_1).f0), .string ((rd_T35 l0_0 x13_1).f1), .string ((rd_T35 l0_0 x13_1).f2), .int .u64 ((rd_T35 l0_0 x13_1).f3), .int .i64 ((rd_T35 l0_0 x13_1).f4), .string ((rd_T35 l0_0 x13_1).f5)]] rfl (by (try simp only [List.map_toArray, List.map_cons, List.map_nil]); first | done | rfl | (simp only [List.length_drop, List.length_take]; rfl)) ?_; (with_reducible refine (impl_ValidEntry.calls ((rd_T35 l0_0 x13_1).f0) ((rd_T35 l0_0 x13_1).f1) ((rd_T35 l0_0 x13_1).f2) ((rd_T35 l0_0 x13_1).f3) ((rd_T35 l0_0 x13_1).f4) ((rd_T35 l0_0 x13_1).f5) false _ A10.out).mono ?_); rintro e w54 ⟨rfl, hb⟩; refine ⟨_, rfl, ?_⟩; have n0_ := Aside0.mk (blk_below (g := gb334) (o := .cells #[.slice (some ad335) l0_0.length c0_0] 66 (0, 0)) (by (with_reducible repeat (first | refine blk_drewN ?_ _ | refine blk_drew ?_ | refine blk_alloc ?_ _)); refine blk_far ?_ NB334_336.out _; (with_reducible repeat (first | refine blk_drewN ?_ _ | refine blk_drew ?_ | refine blk_alloc ?_ _)); refine blk_far ?_ NB334_336.out _; (with_reducible repeat (first | refine blk_drewN ?_ _ | refine blk_drew ?_ | refine blk_alloc ?_ _)); refine blk_far ?_ NB334_336.out _; (with_reducible repeat (first | refine blk_drewN ?_ _ | refine blk_drew ?_ | refine blk_alloc ?_ _)); refine blk_far ?_ NB334_336.out _; (with_reducible repeat (first | refine blk_drewN ?_ _ | refine blk_drew ?_ | refine blk_alloc ?_ _)); refine blk_far ?_ NB334_336.out _; (with_reducible repeat (first | refine blk_drewN ?_ _ | refine blk_drew ?_ | refine blk_alloc ?_ _)); refine blk_far ?_ NB334_336.out _; (with_reducible repeat (first | refine blk_drewN ?_ _ | refine blk_drew ?_ | refine blk_alloc ?_ _)); exact BK334.out) hb); have n1_ := Aside0.mk (blk_below (g := gb336) (o := .cells #[.string ((rd_T35 l0_0 x13_1).f0), .string ((rd_T35 l0_0 x13_1).f1), .string ((rd_T35 l0_0 x13_1).f2), .int .u64 ((rd_T35 l0_0 x13_1).f3), .int .i64 ((rd_T35 l0_0 x13_1).f4), .string ((rd_T35 l0_0 x13_1).f5)] 35 (0, 0)) (by (with_reducible repeat (first | refine blk_drewN ?_ _ | refine blk_drew ?_ | refine blk_alloc ?_ _)); refine blk_put (cs := #[.string ((rd_T35 l0_0 x13_1).f0), .string ((rd_T35 l0_0 x13_1).f1), .string ((rd_T35 l0_0 x13_1).f2), .int .u64 ((rd_T35 l0_0 x13_1).f3), .int .i64 ((rd_T35 l0_0 x13_1).f4), .string (⟨#[]⟩ : ByteArray)]) ?_ 5 _ rfl; (with_reducible repeat (first | refine blk_drewN ?_ _ | refine blk_drew ?_ | refine blk_alloc ?_ _)); refine blk_put (cs := #[.string ((rd_T35 l0_0 x13_1).f0), .string ((rd_T35 l0_0 x13_1).f1), .string ((rd_T35 l0_0 x13_1).f2), .int .u64 ((rd_T35 l0_0 x13_1).f3), .int .i64 0, .string (⟨#[]⟩ : ByteArray)]) ?_ 4 _ rfl; (with_reducible repeat (first | refine blk_drewN ?_ _ | refine blk_drew ?_ | refine blk_alloc ?_ _)); refine blk_put (cs := #[.string ((rd_T35 l0_0 x13_1).f0), .string ((rd_T35 l0_0 x13_1).f1), .string ((rd_T35 l0_0 x13_1).f2), .int .u64 0, .int .i64 0, .string (⟨#[]⟩ : ByteArray)]) ?_ 3 _ rfl; (with_reducible repeat (first | refine blk_drewN ?_ _ | refine blk_drew ?_ | refine blk_alloc ?_ _)); refine blk_put (cs := #[.string ((rd_T35 l0_0 x13_1).f0), .string ((rd_T35 l0_0 x13_1).f1), .string (⟨#[]⟩ : ByteArray), .int .u64 0, .int .i64 0, .string (⟨#[]⟩ : ByteArray)]) ?_ 2 _ rfl; (with_reducible repeat (first | refine blk_drewN ?_ _ | refine blk_drew ?_ | refine blk_alloc ?_ _)); refine blk_put (cs := #[.string ((rd_T35 l0_0 x13_1).f0), .string (⟨#[]⟩ : ByteArray), .string (⟨#[]⟩ : ByteArray), .int .u64 0, .int .i64 0, .string (⟨#[]⟩ : ByteArray)]) ?_ 1 _ rfl; (with_reducible repeat (first | refine blk_drewN ?_ _ | refine blk_drew ?_ | refine blk_alloc ?_ _)); refine blk_put (cs := #[.string (⟨#[]⟩ : ByteArray), .string (⟨#[]⟩ : ByteArray), .string (⟨#[]⟩ : ByteArray), .int .u64 0, .int .i64 0, .string (⟨#[]⟩ : ByteArray)]) ?_ 0 _ rfl; (with_reducible repeat (first | refine blk_drewN ?_ _ | refine blk_drew ?_ | refine blk_alloc ?_ _)); exact BK336.out) hb); have n2_ := Aside0.mk (below_step (by repeat (first | (with_reducible first | exact HB.out | apply below_alloc | apply pw_below_drewN | apply below_drew1 | refine below_set ?_ GE334.out | refine below_set ?_ GE336.out) | exact HB.out)) hb); clear BK334; clear BK336; clear HB; have BK334 := n0_; have BK336 := n1_; have HB := n2_; clear n0_ n1_ n2_; (try clear hb); (try clear hb2); (try clear hk); (try clear hi)))
        go_ret
        exact ⟨by first | rfl | (simp [errW_none, errW_some] <;> rfl) | (simp [*, errW_none, errW_some] <;> rfl), by repeat (first | (with_reducible first | exact HB.out | apply below_alloc | apply pw_below_drewN | apply below_drew1 | refine below_set ?_ GE334.out | refine below_set ?_ GE336.out) | exact HB.out)⟩
      ·rw [if_neg c9] at H
       exact absurd H (by simp)
     ·rw [if_neg c8] at H
      exact absurd H (by simp)
    ·rw [if_neg c7] at H
     have c7b0 : decide (x13_1 < (l0_0.length : Int)) = false := decide_eq_false c7
     clear c7
     obtain rfl := Option.some.inj H
     go_wp2
     go_ret
     exact ⟨by first | rfl | (simp [errW_none, errW_some] <;> rfl) | (simp [*, errW_none, errW_some] <;> rfl), by repeat (first | (with_reducible first | exact HB.out | apply below_alloc | apply pw_below_drewN | apply below_drew1 | refine below_set ?_ GE334.out) | exact HB.out)⟩

end Go.Proofs.Ytdknjbadnbangaa.Q

namespace Go.Proofs.Ytdknjbadnbangaa.Q
open Go.RowKit Go.Proofs.YtdknjbadnbangaaW.PrintWords Go.Proofs.YtdknjbadnbangaaW.PrintLast Go.Proofs.YtdknjbadnbangaaW.PrintMore
set_option linter.unusedVariables false
set_option linter.unusedSimpArgs false

/-! ### impl_goodRuns: function 86 -/
def impl_goodRuns.l0 : Nat → List (S66) → Int → Int → Option (Bool)
 | 0, _, _, _ => none
 | k + 1, x8, x9, x10 => if x10 < x9 then (if 0 ≤ x10 then (if x10 < (x8.length : Int) then ((impl_ValidRun.f k ((rd_T66 x8 x10).f0)).bind fun t533 => (if t533 = true then (impl_goodRuns.l0 k x8 x9 (wrap64 (x10 + 1))) else (some false))) else (none)) else (none)) else (some true)
def impl_goodRuns.f (k : Nat) (l0 : List (S66)) : Option (Bool) := if (l0.length : Int) > 50 then (some false) else (impl_goodRuns.l0 k l0 (l0.length : Int) 0)
set_option maxHeartbeats 8000000 in
set_option maxRecDepth 100000 in
theorem impl_goodRuns.calls (k : Nat) (A0 : Option Addr) (c0 : Nat) (l0 : List (S66)) (r : Bool) (w : World) (hr0 : Kd.C k66 w A0 l0.length l0) (hc0 : l0.length ≤ c0) (h : impl_goodRuns.f k l0 = some r) :
  Calls Try.prog 86 #[.slice A0 l0.length c0] w fun e w' => e = .returned (.bool r) ∧ Below w.heap.size w w' := by
 have hu66 := Try.underlying66
 have HR0 := Aside0.mk hr0
 have HC0 := Aside0.mk hc0
 clear hr0 hc0
 have HB := Aside0.mk (Below.refl w.heap.size w)
 have H : (if (l0.length : Int) > 50 then (some false) else (impl_goodRuns.l0 k l0 (l0.length : Int) 0)) = some r := h
 clear h
 by_cases c2 : (l0.length : Int) > 50
 ·rw [if_pos c2] at H
  have c2b0 : decide (50 < (l0.length : Int)) = true := decide_eq_true c2
  have c2b1 : decide (50 < l0.length) = true := decide_eq_true (by omega)
  clear c2
  obtain rfl := Option.some.inj H
  go_enter Try.func86, Try.ntmps86
  go_wp2
  go_ret
  exact ⟨by first | rfl | (simp [errW_none, errW_some] <;> rfl) | (simp [*, errW_none, errW_some] <;> rfl), by repeat (first | (with_reducible first | exact HB.out | apply below_alloc | apply pw_below_drewN | apply below_drew1) | exact HB.out)⟩
 ·rw [if_neg c2] at H
  have c2b0 : decide (50 < (l0.length : Int)) = false := decide_eq_false c2
  have c2b1 : decide (50 < l0.length) = false := decide_eq_false (by omega)
  clear c2
  have H' := Aside0.mk H
  clear H
  go_enter Try.func86, Try.ntmps86
  go_wp2
  go_loopg [10] k (fun kq v10 w' => ∃ (x10_1 : Int), v10 = .int .i64 x10_1 ∧ Aside0 (impl_goodRuns.l0 kq l0 (l0.length : Int) x10_1 = some r) ∧ Aside0 (kq ≤ k) ∧ Aside0 (Below w.heap.size w w'))
  case atStart => exact ⟨(0), (by first | rfl | (simp; done) | (simp [*]; done)), H', ⟨Nat.le_refl _⟩, ⟨by repeat (first | (with_reducible first | exact HB.out | apply below_alloc | apply pw_below_drewN | apply below_drew1) | exact HB.out)⟩⟩
  case round =>
   clear H'
   try clear c2
   try clear c2b0
   try clear c2b1
   try clear p2
   obtain ⟨x10_1, rfl, HA, HK1, HB⟩ := hrel
   cases gk with
   | zero => exact absurd HA.out (by simp [impl_goodRuns.l0])
   | succ k1 =>
    have H := HA.out
    clear HA
    simp only [impl_goodRuns.l0] at H
    by_cases c3 : x10_1 < (l0.length : Int)
    ·rw [if_pos c3] at H
     have c3b0 : decide (x10_1 < (l0.length : Int)) = true := decide_eq_true c3
     clear c3
     by_cases c4 : 0 ≤ x10_1
     ·rw [if_pos c4] at H
      have c4b0 : decide (0 ≤ x10_1) = true := decide_eq_true c4
      clear c4
      by_cases c5 : x10_1 < (l0.length : Int)
      ·rw [if_pos c5] at H
       have c5b0 : decide (x10_1 < (l0.length : Int)) = true := decide_eq_true c5
       clear c5
       replace H := Option.bind_eq_some_iff.mp H
       obtain ⟨t533, A60, H⟩ := H
       replace H : (if t533 = true then (impl_goodRuns.l0 k1 l0 (l0.length : Int) (wrap64 (x10_1 + 1))) else (some false)) = some r := H
       have A6 := Aside0.mk A60
       clear A60
       by_cases c7 : t533 = true
       ·subst c7
        have H1 : (impl_goodRuns.l0 k1 l0 (l0.length : Int) (wrap64 (x10_1 + 1))) = some r := by rw [if_pos rfl] at H; exact H
        clear H
        have H := H1
        clear H1
        have H' := Aside0.mk H
        clear H
        have p531 : 0 ≤ (x10_1 : Int) := of_decide_eq_true (by first | (with_reducible assumption) | assumption)
        have q531 : x10_1 < (l0.length : Int) := of_decide_eq_true (by first | (with_reducible assumption) | assumption)
        obtain ⟨ad531, A531_0, c531_0, e531, hx531_0, hl531_0, hi531_0⟩ := at_T66 HR0.out x10_1 p531 q531
        cases e531
        replace hx531_0 := (HB.out.cell (World.block_lt_of_cell? w _ hx531_0)).trans hx531_0
        have HR531_0 := Aside0.mk hi531_0
        have HC531_0 := Aside0.mk hl531_0
        clear hi531_0 hl531_0
        replace p531 := eq_true p531
        replace q531 := eq_true q531
        go_wp2_with (first | ((with_reducible refine gate_dst (N := 4) rfl ?_); refine box_event ?hg (N := 4) ?hd (cs := #[.slice none 0 0]) (t := 66) ?hr ?_; (case hd => rfl); (case hg => rfl); (case hr => first | (go_simp; done) | (go_simp; rfl)); intro gb532 hg w8 hbox hb; have n0_ := Aside0.mk (below_step (by repeat (first | (with_reducible first | exact HB.out | apply below_alloc | apply pw_below_drewN | apply below_drew1) | exact HB.out)) hb); have n1_ := Aside0.mk (hbox); have n2_ := Aside0.mk ((by rw [hg]; exact (below_size (by repeat (first | (with_reducible first | exact HB.out | apply below_alloc | apply pw_below_drewN | apply below_drew1) | exact HB.out))) : w.heap.size ≤ gb532)); have n3_ := Aside0.mk ((by rw [hg]; exact (below_size (by repeat (first | (with_reducible first | exact HB.out | apply below_alloc | apply pw_below_drewN | apply below_drew1) | exact HB.out))) : w.heap.size ≤ gb532)); clear HB; have HB := n0_; have BK532 := n1_; have GW532 := n2_; have GE532 := n3_; clear n0_ n1_ n2_ n3_; clear hb hbox hg; have hcz9_0 : w8.cell? ⟨gb532, 0, none⟩ = some (.slice none 0 0) := (blk_cell BK532.out 0).trans rfl; have hfz9_0 := blk_frozen BK532.out 0) | ((with_reducible refine at_fn (f := 42) rfl ?_); refine goesL_ (some 15) rfl rfl Try.func42 (by kernel_rfl) rfl #[.agg #[.slice A531_0 ((rd_T66 l0 x10_1).f0).length c531_0]] rfl (by (try simp only [List.map_toArray, List.map_cons, List.map_nil]); first | done | rfl | (simp only [List.length_drop, List.length_take]; rfl)) ?_; (with_reducible refine (impl_ValidRun.calls k1 _ _ ((rd_T66 l0 x10_1).f0) true _ ?side1 ?side2 A6.out).mono ?_); (case side1 => exact Kd.C_below HR531_0.out (by repeat (first | (with_reducible first | exact HB.out | apply below_alloc | apply pw_below_drewN | apply below_drew1 | refine below_set ?_ GE532.out) | exact HB.out))); (case side2 => exact HC531_0.out); rintro e w10 ⟨rfl, hb⟩; refine ⟨_, rfl, ?_⟩; have n0_ := Aside0.mk (blk_below (g := gb532) (o := .cells #[.slice A531_0 ((rd_T66 l0 x10_1).f0).length c531_0] 66 (0, 0)) (by (with_reducible repeat (first | refine blk_drewN ?_ _ | refine blk_drew ?_ | refine blk_alloc ?_ _)); refine blk_put (cs := #[.slice none 0 0]) ?_ 0 _ rfl; (with_reducible repeat (first | refine blk_drewN ?_ _ | refine blk_drew ?_ | refine blk_alloc ?_ _)); exact BK532.out) hb); have n1_ := Aside0.mk (below_step (by repeat (first | (with_reducible first | exact HB.out | apply below_alloc | apply pw_below_drewN | apply below_drew1 | refine below_set ?_ GE532.out) | exact HB.out)) hb); clear BK532; clear HB; have BK532 := n0_; have HB := n1_; clear n0_ n1_; (try clear hb); (try clear hb2); (try clear hk); (try clear hi)))
        go_roundg k1
        case measure => have := HK1.out; omega
        case rel => exact ⟨(wrap64 (x10_1 + 1)), (by first | rfl | (simp; done) | (simp [*]; done)), H', ⟨by have := HK1.out; omega⟩, ⟨by repeat (first | (with_reducible first | exact HB.out | apply below_alloc | apply pw_below_drewN | apply below_drew1 | refine below_set ?_ GE532.out) | exact HB.out)⟩⟩
       ·replace c7 := Bool.eq_false_iff.mpr c7
        subst c7
        have H1 : (some false) = some r := by rw [if_neg (show ¬ (false = true) by decide)] at H; exact H
        clear H
        have H := H1
        clear H1
        obtain rfl := Option.some.inj H
        have p531 : 0 ≤ (x10_1 : Int) := of_decide_eq_true (by first | (with_reducible assumption) | assumption)
        have q531 : x10_1 < (l0.length : Int) := of_decide_eq_true (by first | (with_reducible assumption) | assumption)
        obtain ⟨ad531, A531_0, c531_0, e531, hx531_0, hl531_0, hi531_0⟩ := at_T66 HR0.out x10_1 p531 q531
        cases e531
        replace hx531_0 := (HB.out.cell (World.block_lt_of_cell? w _ hx531_0)).trans hx531_0
        have HR531_0 := Aside0.mk hi531_0
        have HC531_0 := Aside0.mk hl531_0
        clear hi531_0 hl531_0
        replace p531 := eq_true p531
        replace q531 := eq_true q531
        go_wp2_with (first | ((with_reducible refine gate_dst (N := 4) rfl ?_); refine box_event ?hg (N := 4) ?hd (cs := #[.slice none 0 0]) (t := 66) ?hr ?_; (case hd => rfl); (case hg => rfl); (case hr => first | (go_simp; done) | (go_simp; rfl)); intro gb532 hg w11 hbox hb; have n0_ := Aside0.mk (below_step (by repeat (first | (with_reducible first | exact HB.out | apply below_alloc | apply pw_below_drewN | apply below_drew1) | exact HB.out)) hb); have n1_ := Aside0.mk (hbox); have n2_ := Aside0.mk ((by rw [hg]; exact (below_size (by repeat (first | (with_reducible first | exact HB.out | apply below_alloc | apply pw_below_drewN | apply below_drew1) | exact HB.out))) : w.heap.size ≤ gb532)); have n3_ := Aside0.mk ((by rw [hg]; exact (below_size (by repeat (first | (with_reducible first | exact HB.out | apply below_alloc | apply pw_below_drewN | apply below_drew1) | exact HB.out))) : w.heap.size ≤ gb532)); clear HB; have HB := n0_; have BK532 := n1_; have GW532 := n2_; have GE532 := n3_; clear n0_ n1_ n2_ n3_; clear hb hbox hg; have hcz12_0 : w11.cell? ⟨gb532, 0, none⟩ = some (.slice none 0 0) := (blk_cell BK532.out 0).trans rfl; have hfz12_0 := blk_frozen BK532.out 0) | ((with_reducible refine at_fn (f := 42) rfl ?_); refine goesL_ (some 15) rfl rfl Try.func42 (by kernel_rfl) rfl #[.agg #[.slice A531_0 ((rd_T66 l0 x10_1).f0).length c531_0]] rfl (by (try simp only [List.map_toArray, List.map_cons, List.map_nil]); first | done | rfl | (simp only [List.length_drop, List.length_take]; rfl)) ?_; (with_reducible refine (impl_ValidRun.calls k1 _ _ ((rd_T66 l0 x10_1).f0) false _ ?side1 ?side2 A6.out).mono ?_); (case side1 => exact Kd.C_below HR531_0.out (by repeat (first | (with_reducible first | exact HB.out | apply below_alloc | apply pw_below_drewN | apply below_drew1 | refine below_set ?_ GE532.out) | exact HB.out))); (case side2 => exact HC531_0.out); rintro e w13 ⟨rfl, hb⟩; refine ⟨_, rfl, ?_⟩; have n0_ := Aside0.mk (blk_below (g := gb532) (o := .cells #[.slice A531_0 ((rd_T66 l0 x10_1).f0).length c531_0] 66 (0, 0)) (by (with_reducible repeat (first | refine blk_drewN ?_ _ | refine blk_drew ?_ | refine blk_alloc ?_ _)); refine blk_put (cs := #[.slice none 0 0]) ?_ 0 _ rfl; (with_reducible repeat (first | refine blk_drewN ?_ _ | refine blk_drew ?_ | refine blk_alloc ?_ _)); exact BK532.out) hb); have n1_ := Aside0.mk (below_step (by repeat (first | (with_reducible first | exact HB.out | apply below_alloc | apply pw_below_drewN | apply below_drew1 | refine below_set ?_ GE532.out) | exact HB.out)) hb); clear BK532; clear HB; have BK532 := n0_; have HB := n1_; clear n0_ n1_; (try clear hb); (try clear hb2); (try clear hk); (try clear hi)))
        go_ret
        exact ⟨by first | rfl | (simp [errW_none, errW_some] <;> rfl) | (simp [*, errW_none, errW_some] <;> rfl), by repeat (first | (with_reducible first | exact HB.out | apply below_alloc | apply pw_below_drewN | apply below_drew1 | refine below_set ?_ GE532.out) | exact HB.out)⟩
      ·rw [if_neg c5] at H
       exact absurd H (by simp)
     ·rw [if_neg c4] at H
      exact absurd H (by simp)
    ·rw [if_neg c3] at H
     have c3b0 : decide (x10_1 < (l0.length : Int)) = false := decide_eq_false c3
     clear c3
     obtain rfl := Option.some.inj H
     go_wp2
     go_ret
     exact ⟨by first | rfl | (simp [errW_none, errW_some] <;> rfl) | (simp [*, errW_none, errW_some] <;> rfl), by repeat (first | (with_reducible first | exact HB.out | apply below_alloc | apply pw_below_drewN | apply below_drew1) | exact HB.out)⟩

end Go.Proofs.Ytdknjbadnbangaa.Q

namespace Go.Proofs.Ytdknjbadnbangaa.Q
open Go.RowKit Go.Proofs.YtdknjbadnbangaaW.PrintWords Go.Proofs.YtdknjbadnbangaaW.PrintLast Go.Proofs.YtdknjbadnbangaaW.PrintMore
set_option linter.unusedVariables false
set_option linter.unusedSimpArgs false

/-! ### impl_Store_rows: function 87 -/
def impl_Store_rows.f (l0_0 : List (S98)) (a1 : Int) : Option (ByteArray × Bool × ByteArray) := if 0 ≤ a1 then (if a1 < (l0_0.length : Int) then (if (wrap64 (a1 + 1)) < (l0_0.length : Int) then (if 0 ≤ (wrap64 (a1 + 1)) then (some ((rd_T98 l0_0 a1).f0, true, (rd_T98 l0_0 (wrap64 (a1 + 1))).f0)) else (none)) else (some ((rd_T98 l0_0 a1).f0, false, (⟨#[]⟩ : ByteArray)))) else (none)) else (none)
def impl_Store_rows.T3 : Bool × List (List Nat × List Nat) := (true, [([], []), ([0], [0]), ([], []), ([2], [2]), ([1, 3], [1, 3]), ([4], [4]), ([5], [5]), ([], []), ([7], [7]), ([0, 1, 2, 3, 4, 5, 6, 7, 8], []), ([9, 6, 8, 0, 1, 2, 3, 4, 5, 6, 7, 8], [6, 9])])
def impl_Store_rows.B3 : List Nat := [0, 1, 0, 4, 15, 31, 63, 0, 128, 511, 1023]
theorem impl_Store_rows.tab3 : rtab .any (opsOf Try.f87 3) = impl_Store_rows.T3 := by kernel_rfl
theorem impl_Store_rows.bits3 : waitsOk impl_Store_rows.T3.2 impl_Store_rows.B3 = true := by kernel_rfl
set_option maxHeartbeats 8000000 in
set_option maxRecDepth 100000 in
theorem impl_Store_rows.calls (A0_0 : Option Addr) (c0_0 : Nat) (l0_0 : List (S98)) (a1 : Int) (r1 : ByteArray) (r2 : Bool) (r3 : ByteArray) (w : World) (hr0_0 : Kd.C k98 w A0_0 l0_0.length l0_0) (hc0_0 : l0_0.length ≤ c0_0) (h : impl_Store_rows.f l0_0 a1 = some (r1, r2, r3)) :
  Calls Try.prog 87 #[.agg #[.slice A0_0 l0_0.length c0_0], .int .i64 a1] w fun e w' => e = .returned (.agg #[.string r1, .bool r2, .string r3]) ∧ Below w.heap.size w w' := by
 have hu48 := Try.underlying48
 have hu27 := Try.underlying27
 have HR0_0 := Aside0.mk hr0_0
 have HC0_0 := Aside0.mk hc0_0
 clear hr0_0 hc0_0
 have HB := Aside0.mk (Below.refl w.heap.size w)
 have H : (if 0 ≤ a1 then (if a1 < (l0_0.length : Int) then (if (wrap64 (a1 + 1)) < (l0_0.length : Int) then (if 0 ≤ (wrap64 (a1 + 1)) then (some ((rd_T98 l0_0 a1).f0, true, (rd_T98 l0_0 (wrap64 (a1 + 1))).f0)) else (none)) else (some ((rd_T98 l0_0 a1).f0, false, (⟨#[]⟩ : ByteArray)))) else (none)) else (none)) = some (r1, r2, r3) := h
 clear h
 by_cases c3 : 0 ≤ a1
 ·rw [if_pos c3] at H
  have c3b0 : decide (0 ≤ a1) = true := decide_eq_true c3
  clear c3
  by_cases c4 : a1 < (l0_0.length : Int)
  ·rw [if_pos c4] at H
   have c4b0 : decide (a1 < (l0_0.length : Int)) = true := decide_eq_true c4
   clear c4
   by_cases c5 : (wrap64 (a1 + 1)) < (l0_0.length : Int)
   ·rw [if_pos c5] at H
    have c5b0 : decide ((wrap64 (a1 + 1)) < (l0_0.length : Int)) = true := decide_eq_true c5
    clear c5
    obtain ⟨ji6, hji6⟩ : ∃ j_ : Int, (wrap64 (a1 + 1)) = j_ := ⟨_, rfl⟩
    replace H : (if 0 ≤ (ji6) then (some ((rd_T98 l0_0 a1).f0, true, (rd_T98 l0_0 (ji6)).f0)) else (none)) = some (r1, r2, r3) := by first | (rw [hji6] at H; exact H) | (simp only [hji6] at H ⊢; exact H)
    (try rw [hji6] at c5b0)
    have hji6w : (IntKind.i64.wrap (a1 + 1)) = ji6 := (i64_w _).trans hji6
    by_cases c7 : 0 ≤ (ji6)
    ·rw [if_pos c7] at H
     have c7b0 : decide (0 ≤ (ji6)) = true := decide_eq_true c7
     clear c7
     simp only [Option.some.injEq, Prod.mk.injEq] at H
     obtain ⟨rfl, rfl, rfl⟩ := H
     go_enter Try.func87, Try.ntmps87
     try go_wp2_with (first | ((with_reducible refine gate_dst (N := 2) rfl ?_); refine box_event ?hg (N := 2) ?hd (cs := #[.slice A0_0 l0_0.length c0_0]) (t := 48) ?hr ?_; (case hd => rfl); (case hg => rfl); (case hr => first | (go_simp; done) | (go_simp; rfl)); intro gb534 hg w8 hbox hb; have n0_ := Aside0.mk (below_step (by repeat (first | (with_reducible first | exact HB.out | apply below_alloc | apply pw_below_drewN | apply below_drew1) | exact HB.out)) hb); have n1_ := Aside0.mk (hbox); have n2_ := Aside0.mk ((by rw [hg]; exact (below_size (by repeat (first | (with_reducible first | exact HB.out | apply below_alloc | apply pw_below_drewN | apply below_drew1) | exact HB.out))) : w.heap.size ≤ gb534)); have n3_ := Aside0.mk ((by rw [hg]; exact (below_size (by repeat (first | (with_reducible first | exact HB.out | apply below_alloc | apply pw_below_drewN | apply below_drew1) | exact HB.out))) : w.heap.size ≤ gb534)); clear HB; have HB := n0_; have BK534 := n1_; have GW534 := n2_; have GE534 := n3_; clear n0_ n1_ n2_ n3_; clear hb hbox hg) | ((with_reducible refine gate_dst (N := 4) rfl ?_); refine box_event ?hg (N := 4) ?hd (cs := #[.string (⟨#[]⟩ : ByteArray), .bool false, .string (⟨#[]⟩ : ByteArray)]) (t := 27) ?hr ?_; (case hd => rfl); (case hg => rfl); (case hr => first | (go_simp; done) | (go_simp; rfl)); intro gb535 hg w9 hbox hb; have n0_ := Aside0.mk (blk_below (g := gb534) (o := .cells #[.slice A0_0 l0_0.length c0_0] 48 (0, 0)) (by (with_reducible repeat (first | refine blk_drewN ?_ _ | refine blk_drew ?_ | refine blk_alloc ?_ _)); exact BK534.out) hb); have n1_ := Aside0.mk (below_step (by repeat (first | (with_reducible first | exact HB.out | apply below_alloc | apply pw_below_drewN | apply below_drew1 | refine below_set ?_ GE534.out) | exact HB.out)) hb); have n2_ := Aside0.mk (hbox); have n3_ := Aside0.mk ((by rw [hg]; exact (below_size (by repeat (first | (with_reducible first | exact HB.out | apply below_alloc | apply pw_below_drewN | apply below_drew1 | refine below_set ?_ GE534.out) | exact HB.out))) : w.heap.size ≤ gb535)); have n4_ := Aside0.mk ((by rw [hg]; exact (below_size (by repeat (first | (with_reducible first | exact HB.out | apply below_alloc | apply pw_below_drewN | apply below_drew1 | refine below_set ?_ GE534.out) | exact HB.out))) : w.heap.size ≤ gb535)); have n5_ := Aside0.mk ((by rw [hg]; exact Nat.ne_of_lt (blk_lt (g := gb534) (o := .cells #[.slice A0_0 l0_0.length c0_0] 48 (0, 0)) (by (with_reducible repeat (first | refine blk_drewN ?_ _ | refine blk_drew ?_ | refine blk_alloc ?_ _)); exact BK534.out)) : gb534 ≠ gb535)); have n6_ := Aside0.mk ((by rw [hg]; exact Nat.ne_of_gt (blk_lt (g := gb534) (o := .cells #[.slice A0_0 l0_0.length c0_0] 48 (0, 0)) (by (with_reducible repeat (first | refine blk_drewN ?_ _ | refine blk_drew ?_ | refine blk_alloc ?_ _)); exact BK534.out)) : gb535 ≠ gb534)); clear BK534; clear HB; have BK534 := n0_; have HB := n1_; have BK535 := n2_; have GW535 := n3_; have GE535 := n4_; have NB534_535 := n5_; have NB535_534 := n6_; clear n0_ n1_ n2_ n3_ n4_ n5_ n6_; clear hb hbox hg; have hnb10 := NB534_535.out; have hnc10 := NB535_534.out; have hcz11_0 : w9.cell? ⟨gb534, 0, none⟩ = some (.slice A0_0 l0_0.length c0_0) := (blk_cell BK534.out 0).trans rfl; have hfz11_0 := blk_frozen BK534.out 0; have p536 : 0 ≤ (a1 : Int) := of_decide_eq_true (by first | (with_reducible assumption) | assumption); have q536 : a1 < (l0_0.length : Int) := of_decide_eq_true (by first | (with_reducible assumption) | assumption); obtain ⟨ad536, A536_1, c536_1, e536, hx536_0, hx536_1, hl536_1, hi536_1⟩ := at_T98 HR0_0.out a1 p536 q536; cases e536; replace hx536_0 := (HB.out.cell (World.block_lt_of_cell? w _ hx536_0)).trans hx536_0; replace hx536_1 := (HB.out.cell (World.block_lt_of_cell? w _ hx536_1)).trans hx536_1; have HR536_1 := Aside0.mk hi536_1; have HC536_1 := Aside0.mk hl536_1; clear hi536_1 hl536_1; replace p536 := eq_true p536; replace q536 := eq_true q536) | ((with_reducible refine gate_dst (N := 5) rfl ?_); refine box_event ?hg (N := 5) ?hd (cs := #[.string (⟨#[]⟩ : ByteArray), .bool false, .string (⟨#[]⟩ : ByteArray)]) (t := 27) ?hr ?_; (case hd => rfl); (case hg => rfl); (case hr => first | (go_simp; done) | (go_simp; rfl)); intro gb537 hg w12 hbox hb; have n0_ := Aside0.mk (blk_below (g := gb534) (o := .cells #[.slice (some ad536) l0_0.length c0_0] 48 (0, 0)) (by (with_reducible repeat (first | refine blk_drewN ?_ _ | refine blk_drew ?_ | refine blk_alloc ?_ _)); exact BK534.out) hb); have n1_ := Aside0.mk (blk_below (g := gb535) (o := .cells #[.string (⟨#[]⟩ : ByteArray), .bool false, .string (⟨#[]⟩ : ByteArray)] 27 (0, 0)) (by (with_reducible repeat (first | refine blk_drewN ?_ _ | refine blk_drew ?_ | refine blk_alloc ?_ _)); exact BK535.out) hb); have n2_ := Aside0.mk (below_step (by repeat (first | (with_reducible first | exact HB.out | apply below_alloc | apply pw_below_drewN | apply below_drew1 | refine below_set ?_ GE534.out | refine below_set ?_ GE535.out) | exact HB.out)) hb); have n3_ := Aside0.mk (hbox); have n4_ := Aside0.mk ((by rw [hg]; exact (below_size (by repeat (first | (with_reducible first | exact HB.out | apply below_alloc | apply pw_below_drewN | apply below_drew1 | refine below_set ?_ GE534.out | refine below_set ?_ GE535.out) | exact HB.out))) : w.heap.size ≤ gb537)); have n5_ := Aside0.mk ((by rw [hg]; exact (below_size (by repeat (first | (with_reducible first | exact HB.out | apply below_alloc | apply pw_below_drewN | apply below_drew1 | refine below_set ?_ GE534.out | refine below_set ?_ GE535.out) | exact HB.out))) : w.heap.size ≤ gb537)); have n6_ := Aside0.mk ((by rw [hg]; exact Nat.ne_of_lt (blk_lt (g := gb534) (o := .cells #[.slice (some ad536) l0_0.length c0_0] 48 (0, 0)) (by (with_reducible repeat (first | refine blk_drewN ?_ _ | refine blk_drew ?_ | refine blk_alloc ?_ _)); exact BK534.out)) : gb534 ≠ gb537)); have n7_ := Aside0.mk ((by rw [hg]; exact Nat.ne_of_gt (blk_lt (g := gb534) (o := .cells #[.slice (some ad536) l0_0.length c0_0] 48 (0, 0)) (by (with_reducible repeat (first | refine blk_drewN ?_ _ | refine blk_drew ?_ | refine blk_alloc ?_ _)); exact BK534.out)) : gb537 ≠ gb534)); have n8_ := Aside0.mk ((by rw [hg]; exact Nat.ne_of_lt (blk_lt (g := gb535) (o := .cells #[.string (⟨#[]⟩ : ByteArray), .bool false, .string (⟨#[]⟩ : ByteArray)] 27 (0, 0)) (by (with_reducible repeat (first | refine blk_drewN ?_ _ | refine blk_drew ?_ | refine blk_alloc ?_ _)); exact BK535.out)) : gb535 ≠ gb537)); have n9_ := Aside0.mk ((by rw [hg]; exact Nat.ne_of_gt (blk_lt (g := gb535) (o := .cells #[.string (⟨#[]⟩ : ByteArray), .bool false, .string (⟨#[]⟩ : ByteArray)] 27 (0, 0)) (by (with_reducible repeat (first | refine blk_drewN ?_ _ | refine blk_drew ?_ | refine blk_alloc ?_ _)); exact BK535.out)) : gb537 ≠ gb535)); clear BK534; clear BK535; clear HB; have BK534 := n0_; have BK535 := n1_; have HB := n2_; have BK537 := n3_; have GW537 := n4_; have GE537 := n5_; have NB534_537 := n6_; have NB537_534 := n7_; have NB535_537 := n8_; have NB537_535 := n9_; clear n0_ n1_ n2_ n3_ n4_ n5_ n6_ n7_ n8_ n9_; clear hb hbox hg; have hnb13 := NB537_534.out; have hnc13 := NB534_537.out; have hnb14 := NB537_535.out; have hnc14 := NB535_537.out; have hcz15_0 : w12.cell? ⟨gb537, 0, none⟩ = some (.string (⟨#[]⟩ : ByteArray)) := (blk_cell BK537.out 0).trans rfl; have hcz15_1 : w12.cell? ⟨gb537, 1, none⟩ = some (.bool false) := (blk_cell BK537.out 1).trans rfl; have hcz15_2 : w12.cell? ⟨gb537, 2, none⟩ = some (.string (⟨#[]⟩ : ByteArray)) := (blk_cell BK537.out 2).trans rfl; have hfz15_0 := blk_frozen BK537.out 0; have hfz15_1 := blk_frozen BK537.out 1; have hfz15_2 := blk_frozen BK537.out 2; have hcz16_0 : w12.cell? ⟨gb534, 0, none⟩ = some (.slice (some ad536) l0_0.length c0_0) := (blk_cell BK534.out 0).trans rfl; have hfz16_0 := blk_frozen BK534.out 0))
     have n0_ : Aside0 ((((w12.setCell ⟨gb537, 0, none⟩ (.string ((rd_T98 l0_0 a1).f0))).setCell ⟨gb537, 1, none⟩ (.bool false)).setCell ⟨gb537, 2, none⟩ (.string (⟨#[]⟩ : ByteArray))).heap[gb534]? = some (.cells #[.slice (some ad536) l0_0.length c0_0] 48 (0, 0))) := ⟨by (with_reducible repeat (first | refine blk_drewN ?_ _ | refine blk_drew ?_ | refine blk_alloc ?_ _)); refine blk_far ?_ NB534_537.out _; (with_reducible repeat (first | refine blk_drewN ?_ _ | refine blk_drew ?_ | refine blk_alloc ?_ _)); refine blk_far ?_ NB534_537.out _; (with_reducible repeat (first | refine blk_drewN ?_ _ | refine blk_drew ?_ | refine blk_alloc ?_ _)); refine blk_far ?_ NB534_537.out _; (with_reducible repeat (first | refine blk_drewN ?_ _ | refine blk_drew ?_ | refine blk_alloc ?_ _)); exact BK534.out⟩
     have n1_ : Aside0 ((((w12.setCell ⟨gb537, 0, none⟩ (.string ((rd_T98 l0_0 a1).f0))).setCell ⟨gb537, 1, none⟩ (.bool false)).setCell ⟨gb537, 2, none⟩ (.string (⟨#[]⟩ : ByteArray))).heap[gb535]? = some (.cells #[.string (⟨#[]⟩ : ByteArray), .bool false, .string (⟨#[]⟩ : ByteArray)] 27 (0, 0))) := ⟨by (with_reducible repeat (first | refine blk_drewN ?_ _ | refine blk_drew ?_ | refine blk_alloc ?_ _)); refine blk_far ?_ NB535_537.out _; (with_reducible repeat (first | refine blk_drewN ?_ _ | refine blk_drew ?_ | refine blk_alloc ?_ _)); refine blk_far ?_ NB535_537.out _; (with_reducible repeat (first | refine blk_drewN ?_ _ | refine blk_drew ?_ | refine blk_alloc ?_ _)); refine blk_far ?_ NB535_537.out _; (with_reducible repeat (first | refine blk_drewN ?_ _ | refine blk_drew ?_ | refine blk_alloc ?_ _)); exact BK535.out⟩
     have n2_ : Aside0 ((((w12.setCell ⟨gb537, 0, none⟩ (.string ((rd_T98 l0_0 a1).f0))).setCell ⟨gb537, 1, none⟩ (.bool false)).setCell ⟨gb537, 2, none⟩ (.string (⟨#[]⟩ : ByteArray))).heap[gb537]? = some (.cells #[.string ((rd_T98 l0_0 a1).f0), .bool false, .string (⟨#[]⟩ : ByteArray)] 27 (0, 0))) := ⟨by (with_reducible repeat (first | refine blk_drewN ?_ _ | refine blk_drew ?_ | refine blk_alloc ?_ _)); refine blk_put (cs := #[.string ((rd_T98 l0_0 a1).f0), .bool false, .string (⟨#[]⟩ : ByteArray)]) ?_ 2 _ rfl; (with_reducible repeat (first | refine blk_drewN ?_ _ | refine blk_drew ?_ | refine blk_alloc ?_ _)); refine blk_put (cs := #[.string ((rd_T98 l0_0 a1).f0), .bool false, .string (⟨#[]⟩ : ByteArray)]) ?_ 1 _ rfl; (with_reducible repeat (first | refine blk_drewN ?_ _ | refine blk_drew ?_ | refine blk_alloc ?_ _)); refine blk_put (cs := #[.string (⟨#[]⟩ : ByteArray), .bool false, .string (⟨#[]⟩ : ByteArray)]) ?_ 0 _ rfl; (with_reducible repeat (first | refine blk_drewN ?_ _ | refine blk_drew ?_ | refine blk_alloc ?_ _)); exact BK537.out⟩
     have n3_ : Aside0 (Below w.heap.size w (((w12.setCell ⟨gb537, 0, none⟩ (.string ((rd_T98 l0_0 a1).f0))).setCell ⟨gb537, 1, none⟩ (.bool false)).setCell ⟨gb537, 2, none⟩ (.string (⟨#[]⟩ : ByteArray)))) := ⟨by repeat (first | (with_reducible first | exact HB.out | apply below_alloc | apply pw_below_drewN | apply below_drew1 | refine below_set ?_ GE534.out | refine below_set ?_ GE535.out | refine below_set ?_ GE537.out) | exact HB.out)⟩
     (try clear BK534)
     (try clear BK535)
     (try clear BK537)
     (try clear HB)
     generalize (((w12.setCell ⟨gb537, 0, none⟩ (.string ((rd_T98 l0_0 a1).f0))).setCell ⟨gb537, 1, none⟩ (.bool false)).setCell ⟨gb537, 2, none⟩ (.string (⟨#[]⟩ : ByteArray))) = w17 at n0_ n1_ n2_ n3_ ⊢
     have BK534 := n0_
     have BK535 := n1_
     have BK537 := n2_
     have HB := n3_
     clear n0_ n1_ n2_ n3_
     have n0_ := Aside0.mk (blk_drew BK534.out)
     have n1_ := Aside0.mk (blk_drew BK535.out)
     have n2_ := Aside0.mk (blk_drew BK537.out)
     have n3_ := Aside0.mk (below_drew1 HB.out)
     clear BK534
     clear BK535
     clear BK537
     clear HB
     have BK534 := n0_
     have BK535 := n1_
     have BK537 := n2_
     have HB := n3_
     clear n0_ n1_ n2_ n3_
     have p538 : 0 ≤ ((ji6) : Int) := of_decide_eq_true (by first | (with_reducible assumption) | assumption)
     have q538 : (ji6) < (l0_0.length : Int) := of_decide_eq_true (by first | (with_reducible assumption) | assumption)
     obtain ⟨ad538, A538_1, c538_1, e538, hx538_0, hx538_1, hl538_1, hi538_1⟩ := at_T98 HR0_0.out (ji6) p538 q538
     have hw538_1 := hx538_1
     have hw538_0 := hx538_0
     obtain rfl : ad536 = ad538 := (by injection e538)
     replace hx538_0 := (HB.out.cell (World.block_lt_of_cell? w _ hx538_0)).trans hx538_0
     replace hx538_1 := (HB.out.cell (World.block_lt_of_cell? w _ hx538_1)).trans hx538_1
     have HR538_1 := Aside0.mk hi538_1
     have HC538_1 := Aside0.mk hl538_1
     clear hi538_1 hl538_1
     replace p538 := eq_true p538
     replace q538 := eq_true q538
     refine start_ (n := 11) (S := fun w' => w'.cell? ⟨gb534, 0, none⟩ = some (.slice (some ad536) l0_0.length c0_0) ∧ w'.cell? (ad536.add (((ji6)).toNat * 2)) = some (.string ((rd_T98 l0_0 (ji6)).f0)) ∧ w'.cell? ⟨(ad536.add (((ji6)).toNat * 2)).block, (ad536.add (((ji6)).toNat * 2)).off + 1, none⟩ = some (.slice A538_1 ((rd_T98 l0_0 (ji6)).f1).length c538_1)) (ds := []) #[false, false, false, false, false, false, false, false, false, false, false] (by kernel_rfl) rfl rfl ⟨(blk_cell BK534.out 0).trans rfl, ((HB.out.cell (World.block_lt_of_cell? w _ hw538_0)).trans hw538_0), ((HB.out.cell (World.block_lt_of_cell? w _ hw538_1)).trans hw538_1)⟩ (fun hHeld => ?_); refine with_tabW impl_Store_rows.tab3 impl_Store_rows.bits3 (fun HT_ HW_ => ?_)
     generalize w17.drew = w18 at BK534 BK535 BK537 HB HR538_1 hx538_0 hx538_1 hHeld ⊢
     refine pure_ (i := 0) (N := some 19) (v := ?_) (a' := ?_) #[true, false, false, false, false, false, false, false, false, false, false] rfl rfl (any_of HT_.out (by kernel_rfl)) (fun _ _ _ h => h) (Or.inl ⟨by rfl, ?_⟩) ?_ ?_
     rotate_left
     ·intro w'
      go_simp
      with_reducible rfl
     rotate_left
     ·simp only [Act.put, List.setIfInBounds_toArray, List.set_cons_zero, List.set_cons_succ, i64_w, i32_w]
      rfl
     refine pure_ (i := 2) (N := some 21) (v := ?_) (a' := ?_) #[true, false, true, false, false, false, false, false, false, false, false] rfl rfl (any_of HT_.out (by kernel_rfl)) (fun _ _ _ h => h) (Or.inl ⟨by rfl, ?_⟩) ?_ ?_
     rotate_left
     ·intro w'
      go_simp
      with_reducible rfl
     rotate_left
     ·simp only [Act.put, List.setIfInBounds_toArray, List.set_cons_zero, List.set_cons_succ, i64_w, i32_w]
      rfl
     refine pure_ (i := 3) (N := some 22) (v := ?_) (a' := ?_) #[true, false, true, true, false, false, false, false, false, false, false] rfl rfl (any_of HT_.out (by kernel_rfl)) (fun _ _ _ h => h) (Or.inl ⟨by rfl, ?_⟩) ?_ ?_
     rotate_left
     ·intro w'
      go_simp
      with_reducible rfl
     rotate_left
     ·simp only [Act.put, List.setIfInBounds_toArray, List.set_cons_zero, List.set_cons_succ, i64_w, i32_w]
      rfl
     refine pure_ (i := 7) (N := some 26) (v := ?_) (a' := ?_) #[true, false, true, true, false, false, false, true, false, false, false] rfl rfl (any_of HT_.out (by kernel_rfl)) (fun _ _ _ h => h) (Or.inl ⟨by rfl, ?_⟩) ?_ ?_
     rotate_left
     ·intro w'
      go_simp
      with_reducible rfl
     rotate_left
     ·simp only [Act.put, List.setIfInBounds_toArray, List.set_cons_zero, List.set_cons_succ, i64_w, i32_w]
      rfl
     refine take_ (i := 1) (N := some 20) (v := ?_) (a' := ?_) #[true, true, true, true, false, false, false, true, false, false, false] rfl rfl (take_ofW HT_.out HW_.out (by kernel_rfl)) (fun _ _ _ h => h) (Or.inl ⟨by rfl, ?_⟩) hHeld ?_ ?_
     rotate_left
     ·rintro w' ⟨s0, s1, s2⟩
      go_simp
      with_reducible rfl
     rotate_left
     ·simp only [Act.put, List.setIfInBounds_toArray, List.set_cons_zero, List.set_cons_succ, i64_w, i32_w]
      rfl
     refine pure_ (i := 4) (N := some 23) (v := ?_) (a' := ?_) #[true, true, true, true, true, false, false, true, false, false, false] rfl rfl (any_of HT_.out (by kernel_rfl)) (fun _ _ _ h => h) (Or.inl ⟨by rfl, ?_⟩) ?_ ?_
     rotate_left
     ·intro w'
      go_simp
      with_reducible rfl
     rotate_left
     ·simp only [Act.put, List.setIfInBounds_toArray, List.set_cons_zero, List.set_cons_succ, i64_w, i32_w]
      rfl
     refine pure_ (i := 5) (N := some 24) (v := ?_) (a' := ?_) #[true, true, true, true, true, true, false, true, false, false, false] rfl rfl (any_of HT_.out (by kernel_rfl)) (fun _ _ _ h => h) (Or.inl ⟨by rfl, ?_⟩) ?_ ?_
     rotate_left
     ·intro w'
      go_simp
      with_reducible rfl
     rotate_left
     ·simp only [Act.put, List.setIfInBounds_toArray, List.set_cons_zero, List.set_cons_succ, i64_w, i32_w]
      rfl
     refine take_ (i := 6) (N := some 25) (v := ?_) (a' := ?_) #[true, true, true, true, true, true, true, true, false, false, false] rfl rfl (take_ofW HT_.out HW_.out (by kernel_rfl)) (fun _ _ _ h => h) (Or.inl ⟨by rfl, ?_⟩) hHeld ?_ ?_
     rotate_left
     ·rintro w' ⟨s0, s1, s2⟩
      go_simp
      with_reducible rfl
     rotate_left
     ·simp only [Act.put, List.setIfInBounds_toArray, List.set_cons_zero, List.set_cons_succ, i64_w, i32_w]
      rfl
     refine one_ (i := 8) (N := none) #[true, true, true, true, true, true, true, true, true, false, false] rfl rfl (one_of HT_.out (by kernel_rfl)) (by decide) (fun K hK => ?_)
     have hs19 : w18.cell? ⟨gb537, 1, none⟩ = some (.bool false) := (blk_cell BK537.out 1).trans rfl
     have hfs19 := blk_frozen BK537.out 1
     have hns19_0 := NB534_537.out
     have hns19_1 := NB535_537.out
     have hms19_0 := NB537_534.out
     have hms19_1 := NB537_535.out
     refine skip_ (w1 := ?_) (by rfl) rfl ?_ ?_
     rotate_left
     ·go_simp
      rfl
     refine hK.out _ _ ⟨((cell_far (p := ⟨gb537, _, none⟩) NB534_537.out _).trans (hHeld.1)), ((cell_far (p := ⟨gb537, _, none⟩) (by first | exact Nat.ne_of_lt (Nat.lt_of_lt_of_le (by have := World.block_lt_of_cell? _ _ hw538_0; first | rwa [add_block] at this | exact this) GW537.out) | (rw [add_block]; exact Nat.ne_of_lt (Nat.lt_of_lt_of_le (by have := World.block_lt_of_cell? _ _ hw538_0; first | rwa [add_block] at this | exact this) GW537.out)) | (show (Addr.add _ _).block ≠ _; rw [add_block]; exact Nat.ne_of_lt (Nat.lt_of_lt_of_le (by have := World.block_lt_of_cell? _ _ hw538_0; first | rwa [add_block] at this | exact this) GW537.out)) | (dsimp only; exact Nat.ne_of_lt (Nat.lt_of_lt_of_le (by have := World.block_lt_of_cell? _ _ hw538_0; first | rwa [add_block] at this | exact this) GW537.out))) _).trans (hHeld.2.1)), ((cell_far (p := ⟨gb537, _, none⟩) (by first | exact Nat.ne_of_lt (Nat.lt_of_lt_of_le (by have := World.block_lt_of_cell? _ _ hw538_1; first | rwa [add_block] at this | exact this) GW537.out) | (rw [add_block]; exact Nat.ne_of_lt (Nat.lt_of_lt_of_le (by have := World.block_lt_of_cell? _ _ hw538_1; first | rwa [add_block] at this | exact this) GW537.out)) | (show (Addr.add _ _).block ≠ _; rw [add_block]; exact Nat.ne_of_lt (Nat.lt_of_lt_of_le (by have := World.block_lt_of_cell? _ _ hw538_1; first | rwa [add_block] at this | exact this) GW537.out)) | (dsimp only; exact Nat.ne_of_lt (Nat.lt_of_lt_of_le (by have := World.block_lt_of_cell? _ _ hw538_1; first | rwa [add_block] at this | exact this) GW537.out))) _).trans (hHeld.2.2))⟩ (fun hHeld => ?_)
     clear hK K
     refine pure_ (i := 9) (N := some 27) (v := ?_) (a' := ?_) #[true, true, true, true, true, true, true, true, true, true, false] rfl rfl (any_of HT_.out (by kernel_rfl)) (fun _ _ _ h => h) (Or.inl ⟨by rfl, ?_⟩) ?_ ?_
     rotate_left
     ·intro w'
      go_simp
      with_reducible rfl
     rotate_left
     ·simp only [Act.put, List.setIfInBounds_toArray, List.set_cons_zero, List.set_cons_succ, i64_w, i32_w]
      rfl
     refine one_ (i := 10) (N := none) #[true, true, true, true, true, true, true, true, true, true, true] rfl rfl (one_of HT_.out (by kernel_rfl)) (by decide) (fun K hK => ?_)
     have hs20 : w18.cell? ⟨gb537, 2, none⟩ = some (.string (⟨#[]⟩ : ByteArray)) := (blk_cell BK537.out 2).trans rfl
     have hfs20 := blk_frozen BK537.out 2
     have hns20_0 := NB534_537.out
     have hns20_1 := NB535_537.out
     have hms20_0 := NB537_534.out
     have hms20_1 := NB537_535.out
     refine skip_ (w1 := ?_) (by rfl) rfl ?_ ?_
     rotate_left
     ·go_simp
      rfl
     refine hK.out _ _ ⟨((cell_far (p := ⟨gb537, _, none⟩) NB534_537.out _).trans (hHeld.1)), ((cell_far (p := ⟨gb537, _, none⟩) (by first | exact Nat.ne_of_lt (Nat.lt_of_lt_of_le (by have := World.block_lt_of_cell? _ _ hw538_0; first | rwa [add_block] at this | exact this) GW537.out) | (rw [add_block]; exact Nat.ne_of_lt (Nat.lt_of_lt_of_le (by have := World.block_lt_of_cell? _ _ hw538_0; first | rwa [add_block] at this | exact this) GW537.out)) | (show (Addr.add _ _).block ≠ _; rw [add_block]; exact Nat.ne_of_lt (Nat.lt_of_lt_of_le (by have := World.block_lt_of_cell? _ _ hw538_0; first | rwa [add_block] at this | exact this) GW537.out)) | (dsimp only; exact Nat.ne_of_lt (Nat.lt_of_lt_of_le (by have := World.block_lt_of_cell? _ _ hw538_0; first | rwa [add_block] at this | exact this) GW537.out))) _).trans (hHeld.2.1)), ((cell_far (p := ⟨gb537, _, none⟩) (by first | exact Nat.ne_of_lt (Nat.lt_of_lt_of_le (by have := World.block_lt_of_cell? _ _ hw538_1; first | rwa [add_block] at this | exact this) GW537.out) | (rw [add_block]; exact Nat.ne_of_lt (Nat.lt_of_lt_of_le (by have := World.block_lt_of_cell? _ _ hw538_1; first | rwa [add_block] at this | exact this) GW537.out)) | (show (Addr.add _ _).block ≠ _; rw [add_block]; exact Nat.ne_of_lt (Nat.lt_of_lt_of_le (by have := World.block_lt_of_cell? _ _ hw538_1; first | rwa [add_block] at this | exact this) GW537.out)) | (dsimp only; exact Nat.ne_of_lt (Nat.lt_of_lt_of_le (by have := World.block_lt_of_cell? _ _ hw538_1; first | rwa [add_block] at this | exact this) GW537.out))) _).trans (hHeld.2.2))⟩ (fun hHeld => ?_)
     clear hK K
     refine done_ (done_of HT_.out (by kernel_rfl)) ?_
     have hcz21_0 : w18.cell? ⟨gb537, 0, none⟩ = some (.string ((rd_T98 l0_0 a1).f0)) := (blk_cell BK537.out 0).trans rfl
     have hcz21_1 : w18.cell? ⟨gb537, 1, none⟩ = some (.bool false) := (blk_cell BK537.out 1).trans rfl
     have hcz21_2 : w18.cell? ⟨gb537, 2, none⟩ = some (.string (⟨#[]⟩ : ByteArray)) := (blk_cell BK537.out 2).trans rfl
     have hfz21_0 := blk_frozen BK537.out 0
     have hfz21_1 := blk_frozen BK537.out 1
     have hfz21_2 := blk_frozen BK537.out 2
     have hcz22_0 : w18.cell? ⟨gb535, 0, none⟩ = some (.string (⟨#[]⟩ : ByteArray)) := (blk_cell BK535.out 0).trans rfl
     have hcz22_1 : w18.cell? ⟨gb535, 1, none⟩ = some (.bool false) := (blk_cell BK535.out 1).trans rfl
     have hcz22_2 : w18.cell? ⟨gb535, 2, none⟩ = some (.string (⟨#[]⟩ : ByteArray)) := (blk_cell BK535.out 2).trans rfl
     have hfz22_0 := blk_frozen BK535.out 0
     have hfz22_1 := blk_frozen BK535.out 1
     have hfz22_2 := blk_frozen BK535.out 2
     try go_wp2
     refine bodyPost_ret (results_cell_row rfl _ _ gb535 27 #[.string ((rd_T98 l0_0 a1).f0), .bool true, .string ((rd_T98 l0_0 (ji6)).f0)] (0, 0) _ rfl (by (with_reducible repeat (first | refine blk_drewN ?_ _ | refine blk_drew ?_ | refine blk_alloc ?_ _)); refine blk_put (cs := #[.string ((rd_T98 l0_0 a1).f0), .bool true, .string (⟨#[]⟩ : ByteArray)]) ?_ 2 _ rfl; (with_reducible repeat (first | refine blk_drewN ?_ _ | refine blk_drew ?_ | refine blk_alloc ?_ _)); refine blk_put (cs := #[.string ((rd_T98 l0_0 a1).f0), .bool false, .string (⟨#[]⟩ : ByteArray)]) ?_ 1 _ rfl; (with_reducible repeat (first | refine blk_drewN ?_ _ | refine blk_drew ?_ | refine blk_alloc ?_ _)); refine blk_put (cs := #[.string (⟨#[]⟩ : ByteArray), .bool false, .string (⟨#[]⟩ : ByteArray)]) ?_ 0 _ rfl; (with_reducible repeat (first | refine blk_drewN ?_ _ | refine blk_drew ?_ | refine blk_alloc ?_ _)); refine blk_far ?_ NB535_537.out _; (with_reducible repeat (first | refine blk_drewN ?_ _ | refine blk_drew ?_ | refine blk_alloc ?_ _)); refine blk_far ?_ NB535_537.out _; (with_reducible repeat (first | refine blk_drewN ?_ _ | refine blk_drew ?_ | refine blk_alloc ?_ _)); exact BK535.out) Try.underlying27 rfl (by kernel_rfl)) rfl ?_
     exact ⟨by first | rfl | (simp [errW_none, errW_some] <;> rfl) | (simp only [← hji6]; first | rfl | (simp [errW_none, errW_some] <;> rfl)) | (simp [*, errW_none, errW_some] <;> rfl), by repeat (first | (with_reducible first | exact HB.out | apply below_alloc | apply pw_below_drewN | apply below_drew1 | refine below_set ?_ GE534.out | refine below_set ?_ GE535.out | refine below_set ?_ GE537.out) | exact HB.out)⟩
    ·rw [if_neg c7] at H
     exact absurd H (by simp)
   ·rw [if_neg c5] at H
    have c5b0 : decide ((wrap64 (a1 + 1)) < (l0_0.length : Int)) = false := decide_eq_false c5
    clear c5
    simp only [Option.some.injEq, Prod.mk.injEq] at H
    obtain ⟨rfl, rfl, rfl⟩ := H
    go_enter Try.func87, Try.ntmps87
    go_wp2_with (first | ((with_reducible refine gate_dst (N := 2) rfl ?_); refine box_event ?hg (N := 2) ?hd (cs := #[.slice A0_0 l0_0.length c0_0]) (t := 48) ?hr ?_; (case hd => rfl); (case hg => rfl); (case hr => first | (go_simp; done) | (go_simp; rfl)); intro gb534 hg w23 hbox hb; have n0_ := Aside0.mk (below_step (by repeat (first | (with_reducible first | exact HB.out | apply below_alloc | apply pw_below_drewN | apply below_drew1) | exact HB.out)) hb); have n1_ := Aside0.mk (hbox); have n2_ := Aside0.mk ((by rw [hg]; exact (below_size (by repeat (first | (with_reducible first | exact HB.out | apply below_alloc | apply pw_below_drewN | apply below_drew1) | exact HB.out))) : w.heap.size ≤ gb534)); have n3_ := Aside0.mk ((by rw [hg]; exact (below_size (by repeat (first | (with_reducible first | exact HB.out | apply below_alloc | apply pw_below_drewN | apply below_drew1) | exact HB.out))) : w.heap.size ≤ gb534)); clear HB; have HB := n0_; have BK534 := n1_; have GW534 := n2_; have GE534 := n3_; clear n0_ n1_ n2_ n3_; clear hb hbox hg) | ((with_reducible refine gate_dst (N := 4) rfl ?_); refine box_event ?hg (N := 4) ?hd (cs := #[.string (⟨#[]⟩ : ByteArray), .bool false, .string (⟨#[]⟩ : ByteArray)]) (t := 27) ?hr ?_; (case hd => rfl); (case hg => rfl); (case hr => first | (go_simp; done) | (go_simp; rfl)); intro gb535 hg w24 hbox hb; have n0_ := Aside0.mk (blk_below (g := gb534) (o := .cells #[.slice A0_0 l0_0.length c0_0] 48 (0, 0)) (by (with_reducible repeat (first | refine blk_drewN ?_ _ | refine blk_drew ?_ | refine blk_alloc ?_ _)); exact BK534.out) hb); have n1_ := Aside0.mk (below_step (by repeat (first | (with_reducible first | exact HB.out | apply below_alloc | apply pw_below_drewN | apply below_drew1 | refine below_set ?_ GE534.out) | exact HB.out)) hb); have n2_ := Aside0.mk (hbox); have n3_ := Aside0.mk ((by rw [hg]; exact (below_size (by repeat (first | (with_reducible first | exact HB.out | apply below_alloc | apply pw_below_drewN | apply below_drew1 | refine below_set ?_ GE534.out) | exact HB.out))) : w.heap.size ≤ gb535)); have n4_ := Aside0.mk ((by rw [hg]; exact (below_size (by repeat (first | (with_reducible first | exact HB.out | apply below_alloc | apply pw_below_drewN | apply below_drew1 | refine below_set ?_ GE534.out) | exact HB.out))) : w.heap.size ≤ gb535)); have n5_ := Aside0.mk ((by rw [hg]; exact Nat.ne_of_lt (blk_lt (g := gb534) (o := .cells #[.slice A0_0 l0_0.length c0_0] 48 (0, 0)) (by (with_reducible repeat (first | refine blk_drewN ?_ _ | refine blk_drew ?_ | refine blk_alloc ?_ _)); exact BK534.out)) : gb534 ≠ gb535)); have n6_ := Aside0.mk ((by rw [hg]; exact Nat.ne_of_gt (blk_lt (g := gb534) (o := .cells #[.slice A0_0 l0_0.length c0_0] 48 (0, 0)) (by (with_reducible repeat (first | refine blk_drewN ?_ _ | refine blk_drew ?_ | refine blk_alloc ?_ _)); exact BK534.out)) : gb535 ≠ gb534)); clear BK534; clear HB; have BK534 := n0_; have HB := n1_; have BK535 := n2_; have GW535 := n3_; have GE535 := n4_; have NB534_535 := n5_; have NB535_534 := n6_; clear n0_ n1_ n2_ n3_ n4_ n5_ n6_; clear hb hbox hg; have hnb25 := NB534_535.out; have hnc25 := NB535_534.out; have hcz26_0 : w24.cell? ⟨gb534, 0, none⟩ = some (.slice A0_0 l0_0.length c0_0) := (blk_cell BK534.out 0).trans rfl; have hfz26_0 := blk_frozen BK534.out 0; have p536 : 0 ≤ (a1 : Int) := of_decide_eq_true (by first | (with_reducible assumption) | assumption); have q536 : a1 < (l0_0.length : Int) := of_decide_eq_true (by first | (with_reducible assumption) | assumption); obtain ⟨ad536, A536_1, c536_1, e536, hx536_0, hx536_1, hl536_1, hi536_1⟩ := at_T98 HR0_0.out a1 p536 q536; cases e536; replace hx536_0 := (HB.out.cell (World.block_lt_of_cell? w _ hx536_0)).trans hx536_0; replace hx536_1 := (HB.out.cell (World.block_lt_of_cell? w _ hx536_1)).trans hx536_1; have HR536_1 := Aside0.mk hi536_1; have HC536_1 := Aside0.mk hl536_1; clear hi536_1 hl536_1; replace p536 := eq_true p536; replace q536 := eq_true q536) | ((with_reducible refine gate_dst (N := 5) rfl ?_); refine box_event ?hg (N := 5) ?hd (cs := #[.string (⟨#[]⟩ : ByteArray), .bool false, .string (⟨#[]⟩ : ByteArray)]) (t := 27) ?hr ?_; (case hd => rfl); (case hg => rfl); (case hr => first | (go_simp; done) | (go_simp; rfl)); intro gb537 hg w27 hbox hb; have n0_ := Aside0.mk (blk_below (g := gb534) (o := .cells #[.slice (some ad536) l0_0.length c0_0] 48 (0, 0)) (by (with_reducible repeat (first | refine blk_drewN ?_ _ | refine blk_drew ?_ | refine blk_alloc ?_ _)); exact BK534.out) hb); have n1_ := Aside0.mk (blk_below (g := gb535) (o := .cells #[.string (⟨#[]⟩ : ByteArray), .bool false, .string (⟨#[]⟩ : ByteArray)] 27 (0, 0)) (by (with_reducible repeat (first | refine blk_drewN ?_ _ | refine blk_drew ?_ | refine blk_alloc ?_ _)); exact BK535.out) hb); have n2_ := Aside0.mk (below_step (by repeat (first | (with_reducible first | exact HB.out | apply below_alloc | apply pw_below_drewN | apply below_drew1 | refine below_set ?_ GE534.out | refine below_set ?_ GE535.out) | exact HB.out)) hb); have n3_ := Aside0.mk (hbox); have n4_ := Aside0.mk ((by rw [hg]; exact (below_size (by repeat (first | (with_reducible first | exact HB.out | apply below_alloc | apply pw_below_drewN | apply below_drew1 | refine below_set ?_ GE534.out | refine below_set ?_ GE535.out) | exact HB.out))) : w.heap.size ≤ gb537)); have n5_ := Aside0.mk ((by rw [hg]; exact (below_size (by repeat (first | (with_reducible first | exact HB.out | apply below_alloc | apply pw_below_drewN | apply below_drew1 | refine below_set ?_ GE534.out | refine below_set ?_ GE535.out) | exact HB.out))) : w.heap.size ≤ gb537)); have n6_ := Aside0.mk ((by rw [hg]; exact Nat.ne_of_lt (blk_lt (g := gb534) (o := .cells #[.slice (some ad536) l0_0.length c0_0] 48 (0, 0)) (by (with_reducible repeat (first | refine blk_drewN ?_ _ | refine blk_drew ?_ | refine blk_alloc ?_ _)); exact BK534.out)) : gb534 ≠ gb537)); have n7_ := Aside0.mk ((by rw [hg]; exact Nat.ne_of_gt (blk_lt (g := gb534) (o := .cells #[.slice (some ad536) l0_0.length c0_0] 48 (0, 0)) (by (with_reducible repeat (first | refine blk_drewN ?_ _ | refine blk_drew ?_ | refine blk_alloc ?_ _)); exact BK534.out)) : gb537 ≠ gb534)); have n8_ := Aside0.mk ((by rw [hg]; exact Nat.ne_of_lt (blk_lt (g := gb535) (o := .cells #[.string (⟨#[]⟩ : ByteArray), .bool false, .string (⟨#[]⟩ : ByteArray)] 27 (0, 0)) (by (with_reducible repeat (first | refine blk_drewN ?_ _ | refine blk_drew ?_ | refine blk_alloc ?_ _)); exact BK535.out)) : gb535 ≠ gb537)); have n9_ := Aside0.mk ((by rw [hg]; exact Nat.ne_of_gt (blk_lt (g := gb535) (o := .cells #[.string (⟨#[]⟩ : ByteArray), .bool false, .string (⟨#[]⟩ : ByteArray)] 27 (0, 0)) (by (with_reducible repeat (first | refine blk_drewN ?_ _ | refine blk_drew ?_ | refine blk_alloc ?_ _)); exact BK535.out)) : gb537 ≠ gb535)); clear BK534; clear BK535; clear HB; have BK534 := n0_; have BK535 := n1_; have HB := n2_; have BK537 := n3_; have GW537 := n4_; have GE537 := n5_; have NB534_537 := n6_; have NB537_534 := n7_; have NB535_537 := n8_; have NB537_535 := n9_; clear n0_ n1_ n2_ n3_ n4_ n5_ n6_ n7_ n8_ n9_; clear hb hbox hg; have hnb28 := NB537_534.out; have hnc28 := NB534_537.out; have hnb29 := NB537_535.out; have hnc29 := NB535_537.out; have hcz30_0 : w27.cell? ⟨gb537, 0, none⟩ = some (.string (⟨#[]⟩ : ByteArray)) := (blk_cell BK537.out 0).trans rfl; have hcz30_1 : w27.cell? ⟨gb537, 1, none⟩ = some (.bool false) := (blk_cell BK537.out 1).trans rfl; have hcz30_2 : w27.cell? ⟨gb537, 2, none⟩ = some (.string (⟨#[]⟩ : ByteArray)) := (blk_cell BK537.out 2).trans rfl; have hfz30_0 := blk_frozen BK537.out 0; have hfz30_1 := blk_frozen BK537.out 1; have hfz30_2 := blk_frozen BK537.out 2; have hcz31_0 : w27.cell? ⟨gb534, 0, none⟩ = some (.slice (some ad536) l0_0.length c0_0) := (blk_cell BK534.out 0).trans rfl; have hfz31_0 := blk_frozen BK534.out 0; have hcz32_0 : w27.cell? ⟨gb535, 0, none⟩ = some (.string (⟨#[]⟩ : ByteArray)) := (blk_cell BK535.out 0).trans rfl; have hcz32_1 : w27.cell? ⟨gb535, 1, none⟩ = some (.bool false) := (blk_cell BK535.out 1).trans rfl; have hcz32_2 : w27.cell? ⟨gb535, 2, none⟩ = some (.string (⟨#[]⟩ : ByteArray)) := (blk_cell BK535.out 2).trans rfl; have hfz32_0 := blk_frozen BK535.out 0; have hfz32_1 := blk_frozen BK535.out 1; have hfz32_2 := blk_frozen BK535.out 2))
    refine bodyPost_ret (results_cell_row rfl _ _ gb535 27 #[.string ((rd_T98 l0_0 a1).f0), .bool false, .string (⟨#[]⟩ : ByteArray)] (0, 0) _ rfl (by (with_reducible repeat (first | refine blk_drewN ?_ _ | refine blk_drew ?_ | refine blk_alloc ?_ _)); refine blk_put (cs := #[.string ((rd_T98 l0_0 a1).f0), .bool false, .string (⟨#[]⟩ : ByteArray)]) ?_ 2 _ rfl; (with_reducible repeat (first | refine blk_drewN ?_ _ | refine blk_drew ?_ | refine blk_alloc ?_ _)); refine blk_put (cs := #[.string ((rd_T98 l0_0 a1).f0), .bool false, .string (⟨#[]⟩ : ByteArray)]) ?_ 1 _ rfl; (with_reducible repeat (first | refine blk_drewN ?_ _ | refine blk_drew ?_ | refine blk_alloc ?_ _)); refine blk_put (cs := #[.string (⟨#[]⟩ : ByteArray), .bool false, .string (⟨#[]⟩ : ByteArray)]) ?_ 0 _ rfl; (with_reducible repeat (first | refine blk_drewN ?_ _ | refine blk_drew ?_ | refine blk_alloc ?_ _)); refine blk_far ?_ NB535_537.out _; (with_reducible repeat (first | refine blk_drewN ?_ _ | refine blk_drew ?_ | refine blk_alloc ?_ _)); refine blk_far ?_ NB535_537.out _; (with_reducible repeat (first | refine blk_drewN ?_ _ | refine blk_drew ?_ | refine blk_alloc ?_ _)); refine blk_far ?_ NB535_537.out _; (with_reducible repeat (first | refine blk_drewN ?_ _ | refine blk_drew ?_ | refine blk_alloc ?_ _)); exact BK535.out) Try.underlying27 rfl (by kernel_rfl)) rfl ?_
    exact ⟨by first | rfl | (simp [errW_none, errW_some] <;> rfl) | (simp [*, errW_none, errW_some] <;> rfl), by repeat (first | (with_reducible first | exact HB.out | apply below_alloc | apply pw_below_drewN | apply below_drew1 | refine below_set ?_ GE534.out | refine below_set ?_ GE535.out | refine below_set ?_ GE537.out) | exact HB.out)⟩
  ·rw [if_neg c4] at H
   exact absurd H (by simp)
 ·rw [if_neg c3] at H
  exact absurd H (by simp)

end Go.Proofs.Ytdknjbadnbangaa.Q

namespace Go.Proofs.Ytdknjbadnbangaa.Q
open Go.RowKit Go.Proofs.YtdknjbadnbangaaW.PrintWords Go.Proofs.YtdknjbadnbangaaW.PrintLast Go.Proofs.YtdknjbadnbangaaW.PrintMore
attribute [local go_sem high] str_gtr str_leq str_geq
set_option linter.unusedVariables false
set_option linter.unusedSimpArgs false

/-! ### impl_InRange: function 18 -/
def impl_InRange.f (a0_0 : ByteArray) (a0_1 : Bool) (a0_2 : ByteArray) (a1 : ByteArray) : Option (Bool) := if ((Op.bytesLess a1.toList a0_0.toList) = true) then (some false) else (if a0_1 = true then (some (Op.bytesLess a1.toList a0_2.toList)) else (some true))
set_option maxHeartbeats 8000000 in
set_option maxRecDepth 100000 in
theorem impl_InRange.calls (a0_0 : ByteArray) (a0_1 : Bool) (a0_2 : ByteArray) (a1 : ByteArray) (r : Bool) (w : World) (h : impl_InRange.f a0_0 a0_1 a0_2 a1 = some r) :
  Calls Try.prog 18 #[.agg #[.string a0_0, .bool a0_1, .string a0_2], .string a1] w fun e w' => e = .returned (.bool r) ∧ Below w.heap.size w w' := by
 have hu27 := Try.underlying27
 have HB := Aside0.mk (Below.refl w.heap.size w)
 have H : (if ((Op.bytesLess a1.toList a0_0.toList) = true) then (some false) else (if a0_1 = true then (some (Op.bytesLess a1.toList a0_2.toList)) else (some true))) = some r := h
 clear h
 by_cases c3 : ((Op.bytesLess a1.toList a0_0.toList) = true)
 ·rw [if_pos c3] at H
  have c3b0 : (Op.bytesLess a1.toList a0_0.toList) = true := c3
  clear c3
  obtain rfl := Option.some.inj H
  go_enter Try.func18, Try.ntmps18
  go_wp2_with (first | ((with_reducible refine gate_dst (N := 2) rfl ?_); refine box_event ?hg (N := 2) ?hd (cs := #[.string a0_0, .bool a0_1, .string a0_2]) (t := 27) ?hr ?_; (case hd => rfl); (case hg => rfl); (case hr => first | (go_simp; done) | (go_simp; rfl)); intro gb106 hg w4 hbox hb; have n0_ := Aside0.mk (below_step (by repeat (first | (with_reducible first | exact HB.out | apply below_alloc | apply pw_below_drewN | apply below_drew1) | exact HB.out)) hb); have n1_ := Aside0.mk (hbox); have n2_ := Aside0.mk ((by rw [hg]; exact (below_size (by repeat (first | (with_reducible first | exact HB.out | apply below_alloc | apply pw_below_drewN | apply below_drew1) | exact HB.out))) : w.heap.size ≤ gb106)); have n3_ := Aside0.mk ((by rw [hg]; exact (below_size (by repeat (first | (with_reducible first | exact HB.out | apply below_alloc | apply pw_below_drewN | apply below_drew1) | exact HB.out))) : w.heap.size ≤ gb106)); clear HB; have HB := n0_; have BK106 := n1_; have GW106 := n2_; have GE106 := n3_; clear n0_ n1_ n2_ n3_; clear hb hbox hg; have hcz5_0 : w4.cell? ⟨gb106, 0, none⟩ = some (.string a0_0) := (blk_cell BK106.out 0).trans rfl; have hcz5_1 : w4.cell? ⟨gb106, 1, none⟩ = some (.bool a0_1) := (blk_cell BK106.out 1).trans rfl; have hcz5_2 : w4.cell? ⟨gb106, 2, none⟩ = some (.string a0_2) := (blk_cell BK106.out 2).trans rfl; have hfz5_0 := blk_frozen BK106.out 0; have hfz5_1 := blk_frozen BK106.out 1; have hfz5_2 := blk_frozen BK106.out 2))
  go_ret
  exact ⟨by first | rfl | (simp [errW_none, errW_some] <;> rfl) | (simp [*, errW_none, errW_some] <;> rfl), by repeat (first | (with_reducible first | exact HB.out | apply below_alloc | apply pw_below_drewN | apply below_drew1 | refine below_set ?_ GE106.out) | exact HB.out)⟩
 ·rw [if_neg c3] at H
  have c3b0 : (Op.bytesLess a1.toList a0_0.toList) = false := by simpa using c3
  clear c3
  by_cases c6 : a0_1 = true
  ·subst c6
   have H1 : (some (Op.bytesLess a1.toList a0_2.toList)) = some r := by rw [if_pos rfl] at H; exact H
   clear H
   have H := H1
   clear H1
   obtain rfl := Option.some.inj H
   go_enter Try.func18, Try.ntmps18
   go_wp2_with (first | ((with_reducible refine gate_dst (N := 2) rfl ?_); refine box_event ?hg (N := 2) ?hd (cs := #[.string a0_0, .bool true, .string a0_2]) (t := 27) ?hr ?_; (case hd => rfl); (case hg => rfl); (case hr => first | (go_simp; done) | (go_simp; rfl)); intro gb106 hg w7 hbox hb; have n0_ := Aside0.mk (below_step (by repeat (first | (with_reducible first | exact HB.out | apply below_alloc | apply pw_below_drewN | apply below_drew1) | exact HB.out)) hb); have n1_ := Aside0.mk (hbox); have n2_ := Aside0.mk ((by rw [hg]; exact (below_size (by repeat (first | (with_reducible first | exact HB.out | apply below_alloc | apply pw_below_drewN | apply below_drew1) | exact HB.out))) : w.heap.size ≤ gb106)); have n3_ := Aside0.mk ((by rw [hg]; exact (below_size (by repeat (first | (with_reducible first | exact HB.out | apply below_alloc | apply pw_below_drewN | apply below_drew1) | exact HB.out))) : w.heap.size ≤ gb106)); clear HB; have HB := n0_; have BK106 := n1_; have GW106 := n2_; have GE106 := n3_; clear n0_ n1_ n2_ n3_; clear hb hbox hg; have hcz8_0 : w7.cell? ⟨gb106, 0, none⟩ = some (.string a0_0) := (blk_cell BK106.out 0).trans rfl; have hcz8_1 : w7.cell? ⟨gb106, 1, none⟩ = some (.bool true) := (blk_cell BK106.out 1).trans rfl; have hcz8_2 : w7.cell? ⟨gb106, 2, none⟩ = some (.string a0_2) := (blk_cell BK106.out 2).trans rfl; have hfz8_0 := blk_frozen BK106.out 0; have hfz8_1 := blk_frozen BK106.out 1; have hfz8_2 := blk_frozen BK106.out 2))
   go_ret
   exact ⟨by first | rfl | (simp [errW_none, errW_some] <;> rfl) | (simp [*, errW_none, errW_some] <;> rfl), by repeat (first | (with_reducible first | exact HB.out | apply below_alloc | apply pw_below_drewN | apply below_drew1 | refine below_set ?_ GE106.out) | exact HB.out)⟩
  ·replace c6 := Bool.eq_false_iff.mpr c6
   subst c6
   have H1 : (some true) = some r := by rw [if_neg (show ¬ (false = true) by decide)] at H; exact H
   clear H
   have H := H1
   clear H1
   obtain rfl := Option.some.inj H
   go_enter Try.func18, Try.ntmps18
   go_wp2_with (first | ((with_reducible refine gate_dst (N := 2) rfl ?_); refine box_event ?hg (N := 2) ?hd (cs := #[.string a0_0, .bool false, .string a0_2]) (t := 27) ?hr ?_; (case hd => rfl); (case hg => rfl); (case hr => first | (go_simp; done) | (go_simp; rfl)); intro gb106 hg w9 hbox hb; have n0_ := Aside0.mk (below_step (by repeat (first | (with_reducible first | exact HB.out | apply below_alloc | apply pw_below_drewN | apply below_drew1) | exact HB.out)) hb); have n1_ := Aside0.mk (hbox); have n2_ := Aside0.mk ((by rw [hg]; exact (below_size (by repeat (first | (with_reducible first | exact HB.out | apply below_alloc | apply pw_below_drewN | apply below_drew1) | exact HB.out))) : w.heap.size ≤ gb106)); have n3_ := Aside0.mk ((by rw [hg]; exact (below_size (by repeat (first | (with_reducible first | exact HB.out | apply below_alloc | apply pw_below_drewN | apply below_drew1) | exact HB.out))) : w.heap.size ≤ gb106)); clear HB; have HB := n0_; have BK106 := n1_; have GW106 := n2_; have GE106 := n3_; clear n0_ n1_ n2_ n3_; clear hb hbox hg; have hcz10_0 : w9.cell? ⟨gb106, 0, none⟩ = some (.string a0_0) := (blk_cell BK106.out 0).trans rfl; have hcz10_1 : w9.cell? ⟨gb106, 1, none⟩ = some (.bool false) := (blk_cell BK106.out 1).trans rfl; have hcz10_2 : w9.cell? ⟨gb106, 2, none⟩ = some (.string a0_2) := (blk_cell BK106.out 2).trans rfl; have hfz10_0 := blk_frozen BK106.out 0; have hfz10_1 := blk_frozen BK106.out 1; have hfz10_2 := blk_frozen BK106.out 2))
   go_ret
   exact ⟨by first | rfl | (simp [errW_none, errW_some] <;> rfl) | (simp [*, errW_none, errW_some] <;> rfl), by repeat (first | (with_reducible first | exact HB.out | apply below_alloc | apply pw_below_drewN | apply below_drew1 | refine below_set ?_ GE106.out) | exact HB.out)⟩

end Go.Proofs.Ytdknjbadnbangaa.Q

namespace Go.Proofs.Ytdknjbadnbangaa.Q
/-- Number i comes up now: with true it alone may (a call, a make), with false what it yields is the same in each world that meets S. -/
def planB (md : Region.Mode) (ops : Array Oper) : List (Nat × Bool) → Array Bool → Bool
  | [], l => Region.ready md ops l == []
  | (i, false) :: r, l => Region.free md ops l i && ((Region.ready md ops l).contains i && planB md ops r (l.setIfInBounds i true))
  | (i, true) :: r, l => (Region.ready md ops l == [i]) && planB md ops r (l.setIfInBounds i true)
section
variable {P : Program} {ops : Array Oper} {Q : Exit → Act → World → Prop} {md : Region.Mode} {S : World → Prop}
def Sq (P : Program) (md : Region.Mode) (ops : Array Oper) (Q : Exit → Act → World → Prop) (S : World → Prop) (r : List (Nat × Bool)) (a : Act) (w : World) : Prop :=
  S w → Region.noSelect ops = true → ∀ l, planB md ops r l = true → wpAnyH P md ops (NoPanic Q) S r.length l a w
theorem sq_region {id : Nat} {a : Act} {w : World} (r : List (Nat × Bool)) (hm : P.follows .mixedOrders = true) (hc : (Region.noSelect ops && (planB .any ops r (Array.replicate ops.size false) && (r.length == ops.size))) = true)
    (hS : S w.drew) (h : S w.drew → Sq P .any ops Q S r a w.drew) : (Code.region id ops true).wp P Q a w := by
  simp only [Bool.and_eq_true, beq_iff_eq] at hc
  refine wp_region_noPanic (wp_region_held_drew hm hS fun h1 => ?_)
  have h2 := h h1 h1 hc.1 _ hc.2.1
  rw [hc.2.2] at h2
  exact h2
theorem sq_done {a : Act} {w : World} (h : S w → Q .normal a w) : Sq P md ops Q S [] a w := fun hS _ l hl => wpAnyH_done (by simpa [planB] using hl) (NoPanic.normal (h hS)) _
theorem sq_off {i : Nat} {b : Bool} {r : List (Nat × Bool)} {d : Tmp} {op : Op} {ty : TypeId} {pos : String} {af : Array Edge} {gu : Option (Nat × Bool)} {a : Act} {w : World}
    (ho : ops[i]? = some ⟨some d, op, ty, pos, af, gu⟩) (hw : Region.wanted ⟨some d, op, ty, pos, af, gu⟩ (yielded ops a.tmps) = false) (h : Sq P md ops Q S r (a.put (some d) undef) w) : Sq P md ops Q S ((i, b) :: r) a w := by
  intro hS hs l hl
  cases b with
  | false =>
    simp only [planB, Bool.and_eq_true] at hl
    exact wpAnyH_take ho hs hl.1 hl.2.1 (fun _ _ _ h => h.elim) (.inr ⟨hw, rfl⟩) hS (h hS hs _ hl.2.2)
  | true =>
    simp only [planB, Bool.and_eq_true, beq_iff_eq] at hl
    refine wpAnyH_ready hl.1 (by simp) (AllReadyH.cons ho (fun K hK => ?_) AllReadyH.nil)
    rw [if_neg (by rw [hw]; simp)]
    exact hK.out _ _ hS fun h2 => h hS hs _ hl.2
theorem sq_on {i : Nat} {r : List (Nat × Bool)} {d : Tmp} {op : Op} {ty : TypeId} {pos : String} {af : Array Edge} {gu : Option (Nat × Bool)} {a : Act} {w : World} (v : Value)
    (ho : ops[i]? = some ⟨some d, op, ty, pos, af, gu⟩) (hw : Region.wanted ⟨some d, op, ty, pos, af, gu⟩ (yielded ops a.tmps) = true) (hv : ∀ W, S W → (execOp a.eval ⟨some d, op, ty, pos, af, gu⟩).run P W = .ok (.value v) W) (h : Sq P md ops Q S r (a.put (some d) v) w) : Sq P md ops Q S ((i, false) :: r) a w := by
  intro hS hs l hl
  simp only [planB, Bool.and_eq_true] at hl
  exact wpAnyH_take ho hs hl.1 hl.2.1 (fun _ _ _ h => h.elim) (.inl ⟨hw, hv⟩) hS (h hS hs _ hl.2.2)
theorem sq_one {i : Nat} {r : List (Nat × Bool)} {d : Option Tmp} {op : Op} {ty : TypeId} {pos : String} {af : Array Edge} {gu : Option (Nat × Bool)} {a : Act} {w : World} (ho : ops[i]? = some ⟨d, op, ty, pos, af, gu⟩) (hw : Region.wanted ⟨d, op, ty, pos, af, gu⟩ (yielded ops a.tmps) = true)
    (h : S w → ∀ K : Act → World → Prop, Shut (∀ a' w', S w' → (S w' → Sq P md ops Q S r a' w') → K a' w') → Oper.wp P ⟨d, op, ty, pos, af, gu⟩ a w K (NoPanic Q)) : Sq P md ops Q S ((i, true) :: r) a w := by
  intro hS hs l hl
  simp only [planB, Bool.and_eq_true, beq_iff_eq] at hl
  refine wpAnyH_ready hl.1 (by simp) (AllReadyH.cons ho (fun K hK => ?_) AllReadyH.nil)
  rw [if_pos hw]
  exact h hS K fun a' w' h1 h2 => hK.out a' w' h1 fun h3 => h2 h3 h3 hs _ hl.2
/-! The same by the guard's form, so that Lean sees at once which step is due. -/
variable {i j dj : Nat} {r : List (Nat × Bool)} {d : Tmp} {od od' : Option Tmp} {op op' : Op} {ty ty' : TypeId} {pos pos' : String} {af af' : Array Edge} {gu' : Option (Nat × Bool)} {g b : Bool} {T : Array Value} {D : List Deferred} {w : World}
theorem yes_n {y : Nat → Option Bool} : Region.wanted ⟨od, op, ty, pos, af, none⟩ y = true := rfl
theorem yes_g (hj : ops[j]? = some ⟨some dj, op', ty', pos', af', gu'⟩) (hd : T[dj]? = some (.bool g)) : Region.wanted ⟨od, op, ty, pos, af, some (j, g)⟩ (yielded ops T) = true := by simp [Region.wanted, yielded, hj, hd]
theorem no_g (hj : ops[j]? = some ⟨some dj, op', ty', pos', af', gu'⟩) (hd : T[dj]? = some (.bool (!g))) : Region.wanted ⟨od, op, ty, pos, af, some (j, g)⟩ (yielded ops T) = false := by simp [Region.wanted, yielded, hj, hd]
theorem no_u (hj : ops[j]? = some ⟨some dj, op', ty', pos', af', gu'⟩) (hd : T[dj]? = some undef) : Region.wanted ⟨od, op, ty, pos, af, some (j, g)⟩ (yielded ops T) = false := by simp [Region.wanted, yielded, hj, hd, undef]
theorem sq_f (T' : Array Value) (ho : ops[i]? = some ⟨some d, op, ty, pos, af, some (j, g)⟩) (hj : ops[j]? = some ⟨some dj, op', ty', pos', af', gu'⟩) (hd : T[dj]? = some (.bool (!g))) (hT : T.setIfInBounds d undef = T') (h : Sq P md ops Q S r ⟨T', D⟩ w) : Sq P md ops Q S ((i, b) :: r) ⟨T, D⟩ w := by
  subst hT; exact sq_off ho (no_g hj hd) h
theorem sq_u (T' : Array Value) (ho : ops[i]? = some ⟨some d, op, ty, pos, af, some (j, g)⟩) (hj : ops[j]? = some ⟨some dj, op', ty', pos', af', gu'⟩) (hd : T[dj]? = some undef) (hT : T.setIfInBounds d undef = T') (h : Sq P md ops Q S r ⟨T', D⟩ w) : Sq P md ops Q S ((i, b) :: r) ⟨T, D⟩ w := by
  subst hT; exact sq_off ho (no_u hj hd) h
theorem sq_n (T' : Array Value) (v : Value) (ho : ops[i]? = some ⟨some d, op, ty, pos, af, none⟩) (hv : ∀ W, S W → (execOp (Act.eval ⟨T, D⟩) ⟨some d, op, ty, pos, af, none⟩).run P W = .ok (.value v) W) (hT : T.setIfInBounds d v = T') (h : Sq P md ops Q S r ⟨T', D⟩ w) : Sq P md ops Q S ((i, false) :: r) ⟨T, D⟩ w := by
  subst hT; exact sq_on v ho yes_n hv h
theorem sq_g (T' : Array Value) (v : Value) (ho : ops[i]? = some ⟨some d, op, ty, pos, af, some (j, g)⟩) (hj : ops[j]? = some ⟨some dj, op', ty', pos', af', gu'⟩) (hd : T[dj]? = some (.bool g)) (hv : ∀ W, S W → (execOp (Act.eval ⟨T, D⟩) ⟨some d, op, ty, pos, af, some (j, g)⟩).run P W = .ok (.value v) W) (hT : T.setIfInBounds d v = T') (h : Sq P md ops Q S r ⟨T', D⟩ w) : Sq P md ops Q S ((i, false) :: r) ⟨T, D⟩ w := by
  subst hT; exact sq_on v ho (yes_g hj hd) hv h
theorem sq_1g (ho : ops[i]? = some ⟨od, op, ty, pos, af, some (j, g)⟩) (hj : ops[j]? = some ⟨some dj, op', ty', pos', af', gu'⟩) (hd : T[dj]? = some (.bool g))
    (h : S w → ∀ K : Act → World → Prop, Shut (∀ a' w', S w' → (S w' → Sq P md ops Q S r a' w') → K a' w') → Oper.wp P ⟨od, op, ty, pos, af, some (j, g)⟩ ⟨T, D⟩ w K (NoPanic Q)) : Sq P md ops Q S ((i, true) :: r) ⟨T, D⟩ w := sq_one ho (yes_g hj hd) h
end
end Go.Proofs.Ytdknjbadnbangaa.Q

namespace Go.Proofs.Ytdknjbadnbangaa.Q
open Go.RowKit Go.Proofs.YtdknjbadnbangaaW.PrintWords Go.Proofs.YtdknjbadnbangaaW.PrintLast Go.Proofs.YtdknjbadnbangaaW.PrintMore
set_option linter.unusedVariables false
set_option linter.unusedSimpArgs false
attribute [local go_sem high] str_gtr str_leq str_geq
def allO {α : Type} (f : α → Option Bool) : List α → Option Bool
  | [] => some true
  | x :: xs => (f x).bind fun b => if b then allO f xs else some false
def tabOk (k : Nat) (l : List S98) (i : Int) (t : S98) : Option Bool :=
  if (t.f0.size : Int) > 64 then some false else if 0 < i ∧ ¬ Op.bytesLess (rd_T98 l (i - 1)).f0.toList t.f0.toList = true then some false else impl_goodRuns.f k t.f1
def runOk (k : Nat) (l : List S98) (i : Int) (q : S66) : Option Bool :=
  if (q.f0.length : Int) = 0 then some false else (impl_Store_rows.f l i).bind fun b => (impl_InRange.f b.1 b.2.1 b.2.2 (rd_T35 q.f0 0).f0).bind fun t => if t then impl_InRange.f b.1 b.2.1 b.2.2 (rd_T35 q.f0 ((q.f0.length : Int) - 1)).f0 else some false
def tabsO (k : Nat) (l : List S98) : Int → List S98 → Option Bool
  | _, [] => some true
  | i, t :: ts => (tabOk k l i t).bind fun b => if b then (allO (runOk k l i) t.f1).bind fun c => if c then tabsO k l (i + 1) ts else some false else some false
def impl_ValidStore.f (k : Nat) (l : List S98) : Option Bool :=
  if (l.length : Int) < 1 then some false else if (l.length : Int) > 100 then some false else if (!(rd_T98 l 0).f0.toList.isEmpty) = true then some false else tabsO k l 0 l
set_option maxHeartbeats 4000000 in
set_option maxRecDepth 100000 in
theorem impl_ValidStore.calls (k : Nat) (A0_0 : Option Addr) (c0_0 : Nat) (l0_0 : List (S98)) (r : Bool) (w : World) (hr0_0 : Kd.C k98 w A0_0 l0_0.length l0_0) (hc0_0 : l0_0.length ≤ c0_0) (h : impl_ValidStore.f k l0_0 = some r) :
  Calls Try.prog 53 #[.agg #[.slice A0_0 l0_0.length c0_0]] w fun e w' => e = .returned (.bool r) ∧ Below w.heap.size w w' := by
  have hu_48 := Try.underlying48
  have hu_98 := Try.underlying98
  unfold impl_ValidStore.f at h
  have hmax := hr0_0.2.1
  have kr : K0 (Below w.heap.size w w) := ⟨Below.refl _ _⟩
  by_cases h1 : (l0_0.length : Int) < 1
  · rw [if_pos h1] at h
    obtain rfl := Option.some.inj h
    go_enter Try.func53, Try.ntmps53
    go_wp2
    go_ret
    exact ⟨rfl, kk⟩
  rw [if_neg h1] at h
  by_cases h2 : (l0_0.length : Int) > 100
  · rw [if_pos h2] at h
    obtain rfl := Option.some.inj h
    go_enter Try.func53, Try.ntmps53
    go_wp2
    go_ret
    exact ⟨rfl, kk⟩
  rw [if_neg h2] at h
  obtain ⟨ad, A1, c1, rfl, hx0, hx1, -⟩ := at_T98 hr0_0 0 (by omega) (by omega)
  simp only [show (0 : Int).toNat = 0 from rfl, Nat.zero_mul, Addr.add_zero'] at hx0
  replace hx0 := clk hx0
  by_cases h3 : (!(rd_T98 l0_0 0).f0.toList.isEmpty) = true
  · rw [if_pos h3] at h
    obtain rfl := Option.some.inj h
    go_enter Try.func53, Try.ntmps53
    go_wp2
    go_ret
    exact ⟨rfl, kk⟩
  rw [if_neg h3] at h
  rw [Bool.not_eq_true] at h3
  go_enter Try.func53, Try.ntmps53
  go_wp2
  have hB : Below w.heap.size w (w.alloc (.cells #[.slice (some ad) l0_0.length c0_0] 48)) := kk
  have hrb := Kd.C_alloc hr0_0 (.cells #[.slice (some ad) l0_0.length c0_0] 48)
  have hbx := cell_of_row _ w.heap.size 0 _ 48 _ (heap_alloc_new w (.cells #[.slice (some ad) l0_0.length c0_0] 48))
  have hbx : (w.alloc (.cells #[.slice (some ad) l0_0.length c0_0] 48)).cell? ⟨w.heap.size, 0, none⟩ = some (.slice (some ad) l0_0.length c0_0) := hbx
  generalize w.alloc (.cells #[.slice (some ad) l0_0.length c0_0] 48) = wb at *
  clear hx0 hx1
  have hbx := clk hbx
  go_loopw [29] (fun i W => ∃ j : Nat, j ≤ l0_0.length ∧ i = .int .i64 j ∧ tabsO k l0_0 j (l0_0.drop j) = some r ∧ Below wb.heap.size wb W) (fun i _ => l0_0.length - (intOf i).toNat)
  case atStart => exact ⟨0, by omega, rfl, h, Below.refl _ _⟩
  case round =>
    obtain ⟨j, hj, rfl, ht, hW⟩ := hrel
    have kW : K0 (Below wb.heap.size wb wr) := ⟨hW⟩
    by_cases hlt : j < l0_0.length
    · obtain ⟨ad', A1, c1, e1, hx0, hx1, hl1, hr1⟩ := at_T98 hrb (j : Int) (by omega) (by omega)
      cases e1
      rw [Int.toNat_natCast] at hx0 hx1
      have hx0 := clk hx0
      have hx1 := clk hx1
      rw [List.drop_eq_getElem_cons hlt] at ht
      have hel : l0_0[j] = rd_T98 l0_0 (j : Int) := by unfold rd_T98; rw [Int.toNat_natCast]; simp [hlt]
      rw [hel] at ht
      simp only [tabsO, tabOk] at ht
      go_wp2
      have hwt : Below wb.heap.size wb (wr.alloc (.cells #[.string (rd_T98 l0_0 (j : Int)).f0, .slice A1 (rd_T98 l0_0 (j : Int)).f1.length c1] 98)) := kk
      have hg0 : (wr.alloc (.cells #[.string (rd_T98 l0_0 (j : Int)).f0, .slice A1 (rd_T98 l0_0 (j : Int)).f1.length c1] 98)).cell? ⟨wr.heap.size, 0, none⟩ = some (.string (rd_T98 l0_0 (j : Int)).f0) := cell_of_row _ wr.heap.size 0 _ 98 _ (heap_alloc_new _ _)
      have hg1 : (wr.alloc (.cells #[.string (rd_T98 l0_0 (j : Int)).f0, .slice A1 (rd_T98 l0_0 (j : Int)).f1.length c1] 98)).cell? ⟨wr.heap.size, 1, none⟩ = some (.slice A1 (rd_T98 l0_0 (j : Int)).f1.length c1) := cell_of_row _ wr.heap.size 1 _ 98 _ (heap_alloc_new _ _)
      generalize wr.alloc (.cells #[.string (rd_T98 l0_0 (j : Int)).f0, .slice A1 (rd_T98 l0_0 (j : Int)).f1.length c1] 98) = wt at *
      have hg0 := clk hg0
      have hg1 := clk hg1
      have kt : K0 (Below wt.heap.size wt wt) := ⟨Below.refl _ _⟩
      have tr : ∀ W [K0 (Below wt.heap.size wt W)], K0 (Below wb.heap.size wb W) := fun W k => ⟨hwt.trans (k.out.mono hwt.size)⟩
      by_cases h64 : ((rd_T98 l0_0 (j : Int)).f0.size : Int) > 64
      · rw [if_pos h64] at ht
        obtain rfl := Option.some.inj ht
        have hd1 : decide ((64 : Int) < ((rd_T98 l0_0 (j : Int)).f0.size : Int)) = true := decide_eq_true h64
        have hd2 : decide (64 < (rd_T98 l0_0 (j : Int)).f0.size) = true := decide_eq_true (by omega)
        go_quiet (fail)
        go_wp2
        go_ret
        exact ⟨rfl, hB.trans (Below.mono (tr _).out hB.size)⟩
      rw [if_neg h64] at ht
      have hd1 : decide ((64 : Int) < ((rd_T98 l0_0 (j : Int)).f0.size : Int)) = false := decide_eq_false h64
      have hd2 : decide (64 < (rd_T98 l0_0 (j : Int)).f0.size) = false := decide_eq_false (by omega)
      by_cases hq : 0 < j ∧ ¬ Op.bytesLess (rd_T98 l0_0 ((j : Int) - 1)).f0.toList (rd_T98 l0_0 (j : Int)).f0.toList = true
      · rw [if_pos ⟨by omega, hq.2⟩] at ht
        obtain rfl := Option.some.inj ht
        obtain ⟨hj0, hs⟩ := hq
        obtain ⟨m, hw'⟩ : ∃ m : Nat, (j : Int) - 1 = (m : Int) := ⟨j - 1, by omega⟩
        have hd3 : decide ((0 : Int) < (j : Int)) = true := decide_eq_true (by omega)
        have hd4 : decide (0 < j) = true := decide_eq_true (by omega)
        have hw : IntKind.i64.wrap ((j : Int) - 1) = (m : Int) := by rw [IntKind.wrap_i64]; omega
        rw [hw'] at hs
        obtain ⟨ad', A2, c2, e2, hy0, -⟩ := at_T98 hrb (m : Int) (by omega) (by omega)
        cases e2
        rw [Int.toNat_natCast] at hy0
        have hy0 := clk hy0
        have hm1 : m < l0_0.length := by omega
        rw [Bool.not_eq_true] at hs
        go_quiet (fail)
        go_wp2
        go_ret
        exact ⟨rfl, hB.trans (Below.mono (tr _).out hB.size)⟩
      rw [if_neg (fun q => hq ⟨by omega, q.2⟩)] at ht
      obtain ⟨b, hgood, ht⟩ := Option.bind_eq_some_iff.mp ht
      by_cases h0 : 0 < j
      case' pos =>
        obtain ⟨m, hw'⟩ : ∃ m : Nat, (j : Int) - 1 = (m : Int) := ⟨j - 1, by omega⟩
        have hd3 : decide ((0 : Int) < (j : Int)) = true := decide_eq_true (by omega)
        have hd4 : decide (0 < j) = true := decide_eq_true (by omega)
        have hw : IntKind.i64.wrap ((j : Int) - 1) = (m : Int) := by rw [IntKind.wrap_i64]; omega
        rw [hw'] at hq
        obtain ⟨ad', A2, c2, e2, hy0, -⟩ := at_T98 hrb (m : Int) (by omega) (by omega)
        cases e2
        rw [Int.toNat_natCast] at hy0
        have hy0 := clk hy0
        have hm1 : m < l0_0.length := by omega
        have hs : Op.bytesLess (rd_T98 l0_0 (m : Int)).f0.toList (rd_T98 l0_0 (j : Int)).f0.toList = true := by cases hb : Op.bytesLess (rd_T98 l0_0 (m : Int)).f0.toList (rd_T98 l0_0 (j : Int)).f0.toList with
          | true => rfl
          | false => exact absurd ⟨h0, by rw [hb]; simp⟩ hq
        have hw4 : IntKind.i64.wrap (m : Int) = (m : Int) := by rw [IntKind.wrap_i64]; omega
        clear hq
        refine sq_region (S := fun W' => K0 (Below wt.heap.size wt W')) [(0, false), (1, false), (2, false), (3, false), (4, false), (5, false), (6, false), (7, false), (8, false), (9, false), (10, false), (11, false), (12, false), (13, false), (14, false), (15, false), (16, false), (17, false), (18, false), (19, false), (20, false), (21, false), (22, false), (23, true), (24, false), (25, false)] (by kernel_rfl) (by kernel_rfl) (by exact inferInstance) (fun hS => ?_)
        repeat (first | (refine sq_n ?_ ?_ rfl ?_ ?_ ?_; rotate_left 2; (intro W hW; go_simp; first | done | with_reducible rfl); (simp only [List.setIfInBounds_toArray, List.set_cons_zero, List.set_cons_succ]; try rfl)) | (refine sq_g ?_ ?_ rfl rfl rfl ?_ ?_ ?_; rotate_left 2; (intro W hW; go_simp; first | done | with_reducible rfl); (simp only [List.setIfInBounds_toArray, List.set_cons_zero, List.set_cons_succ]; try rfl)) | (refine sq_f ?_ rfl rfl rfl ?_ ?_; rotate_left; (simp only [List.setIfInBounds_toArray, List.set_cons_zero, List.set_cons_succ]; try rfl)) | (refine sq_u ?_ rfl rfl rfl ?_ ?_; rotate_left; (simp only [List.setIfInBounds_toArray, List.set_cons_zero, List.set_cons_succ]; try rfl)))
        refine sq_1g rfl rfl rfl (fun hS K hK => ?_)
        go_simp
        go_at_call 86
        refine (impl_goodRuns.calls k _ _ _ b _ (Kd.C_below hr1 (tr _).out) hl1 hgood).mono ?_
        rintro e w1 ⟨rfl, hb⟩
        have hk := K0.mk (below_step hS.out hb)
        go_wp2_with fail
        refine hK.out _ _ hk (fun hS => ?_)
        repeat (first | (refine sq_n ?_ ?_ rfl ?_ ?_ ?_; rotate_left 2; (intro W hW; go_simp; first | done | with_reducible rfl); (simp only [List.setIfInBounds_toArray, List.set_cons_zero, List.set_cons_succ]; try rfl)) | (refine sq_g ?_ ?_ rfl rfl rfl ?_ ?_ ?_; rotate_left 2; (intro W hW; go_simp; first | done | with_reducible rfl); (simp only [List.setIfInBounds_toArray, List.set_cons_zero, List.set_cons_succ]; try rfl)) | (refine sq_f ?_ rfl rfl rfl ?_ ?_; rotate_left; (simp only [List.setIfInBounds_toArray, List.set_cons_zero, List.set_cons_succ]; try rfl)) | (refine sq_u ?_ rfl rfl rfl ?_ ?_; rotate_left; (simp only [List.setIfInBounds_toArray, List.set_cons_zero, List.set_cons_succ]; try rfl)))
        refine sq_done (fun hS => ?_)
      case' neg =>
        have hd3 : decide ((0 : Int) < (j : Int)) = false := decide_eq_false (by omega)
        have hd4 : decide (0 < j) = false := decide_eq_false (by omega)
        clear h0 hq
        refine sq_region (S := fun W' => K0 (Below wt.heap.size wt W')) [(0, false), (1, false), (2, false), (3, false), (4, false), (5, false), (6, false), (7, false), (8, false), (9, false), (10, false), (11, false), (12, false), (13, false), (14, false), (15, false), (16, false), (17, false), (18, false), (19, false), (20, false), (21, false), (22, false), (23, true), (24, false), (25, false)] (by kernel_rfl) (by kernel_rfl) (by exact inferInstance) (fun hS => ?_)
        repeat (first | (refine sq_n ?_ ?_ rfl ?_ ?_ ?_; rotate_left 2; (intro W hW; go_simp; first | done | with_reducible rfl); (simp only [List.setIfInBounds_toArray, List.set_cons_zero, List.set_cons_succ]; try rfl)) | (refine sq_g ?_ ?_ rfl rfl rfl ?_ ?_ ?_; rotate_left 2; (intro W hW; go_simp; first | done | with_reducible rfl); (simp only [List.setIfInBounds_toArray, List.set_cons_zero, List.set_cons_succ]; try rfl)) | (refine sq_f ?_ rfl rfl rfl ?_ ?_; rotate_left; (simp only [List.setIfInBounds_toArray, List.set_cons_zero, List.set_cons_succ]; try rfl)) | (refine sq_u ?_ rfl rfl rfl ?_ ?_; rotate_left; (simp only [List.setIfInBounds_toArray, List.set_cons_zero, List.set_cons_succ]; try rfl)))
        refine sq_1g rfl rfl rfl (fun hS K hK => ?_)
        go_simp
        go_at_call 86
        refine (impl_goodRuns.calls k _ _ _ b _ (Kd.C_below hr1 (tr _).out) hl1 hgood).mono ?_
        rintro e w1 ⟨rfl, hb⟩
        have hk := K0.mk (below_step hS.out hb)
        go_wp2_with fail
        refine hK.out _ _ hk (fun hS => ?_)
        repeat (first | (refine sq_n ?_ ?_ rfl ?_ ?_ ?_; rotate_left 2; (intro W hW; go_simp; first | done | with_reducible rfl); (simp only [List.setIfInBounds_toArray, List.set_cons_zero, List.set_cons_succ]; try rfl)) | (refine sq_g ?_ ?_ rfl rfl rfl ?_ ?_ ?_; rotate_left 2; (intro W hW; go_simp; first | done | with_reducible rfl); (simp only [List.setIfInBounds_toArray, List.set_cons_zero, List.set_cons_succ]; try rfl)) | (refine sq_f ?_ rfl rfl rfl ?_ ?_; rotate_left; (simp only [List.setIfInBounds_toArray, List.set_cons_zero, List.set_cons_succ]; try rfl)) | (refine sq_u ?_ rfl rfl rfl ?_ ?_; rotate_left; (simp only [List.setIfInBounds_toArray, List.set_cons_zero, List.set_cons_succ]; try rfl)))
        refine sq_done (fun hS => ?_)
      all_goals
        cases b
        case false =>
          simp only [Bool.false_eq_true, if_false] at ht
          obtain rfl := Option.some.inj ht
          go_wp2
          go_ret
          exact ⟨rfl, hB.trans (Below.mono (tr _).out hB.size)⟩
        simp only [if_true] at ht
        go_wp2
        go_loopw [63] (fun i W => ∃ q : Nat, q ≤ (rd_T98 l0_0 (j : Int)).f1.length ∧ i = .int .i64 q ∧ ((allO (runOk k l0_0 j) ((rd_T98 l0_0 (j : Int)).f1.drop q)).bind fun c => if c = true then tabsO k l0_0 (j + 1) (l0_0.drop (j + 1)) else some false) = some r ∧ K0 (Below wt.heap.size wt W)) (fun i _ => (rd_T98 l0_0 (j : Int)).f1.length - (intOf i).toNat)
        case atStart => exact ⟨0, by omega, rfl, ht, hk⟩
        case round =>
          clear hk ht
          obtain ⟨q, hq, rfl, ht, hk⟩ := hrel
          by_cases hlq : q < (rd_T98 l0_0 (j : Int)).f1.length
          · obtain ⟨adr, A3, c3, e3, hz0, hl3, hr3⟩ := at_T66 hr1 (q : Int) (by omega) (by omega)
            cases e3
            rw [Int.toNat_natCast] at hz0
            have hz0 := clk hz0
            rw [List.drop_eq_getElem_cons hlq] at ht
            have heq : (rd_T98 l0_0 (j : Int)).f1[q] = rd_T66 (rd_T98 l0_0 (j : Int)).f1 (q : Int) := by unfold rd_T66; rw [Int.toNat_natCast]; simp [hlq]
            rw [heq] at ht
            simp only [allO, runOk] at ht
            go_wp2
            have hwu : Below wt.heap.size wt (wr.alloc (.cells #[.slice A3 (rd_T66 (rd_T98 l0_0 (j : Int)).f1 (q : Int)).f0.length c3] 66)) := kk
            have hg2 : (wr.alloc (.cells #[.slice A3 (rd_T66 (rd_T98 l0_0 (j : Int)).f1 (q : Int)).f0.length c3] 66)).cell? ⟨wr.heap.size, 0, none⟩ = some (.slice A3 (rd_T66 (rd_T98 l0_0 (j : Int)).f1 (q : Int)).f0.length c3) := cell_of_row _ wr.heap.size 0 _ 66 _ (heap_alloc_new _ _)
            generalize wr.alloc (.cells #[.slice A3 (rd_T66 (rd_T98 l0_0 (j : Int)).f1 (q : Int)).f0.length c3] 66) = wu at *
            have hg2 := clk hg2
            have ku : K0 (Below wu.heap.size wu wu) := ⟨Below.refl _ _⟩
            have tr2 : ∀ W [K0 (Below wu.heap.size wu W)], K0 (Below wt.heap.size wt W) := fun W k => ⟨hwu.trans (k.out.mono hwu.size)⟩
            clear hk
            by_cases hn : (rd_T66 (rd_T98 l0_0 (j : Int)).f1 (q : Int)).f0 = []
            · rw [hn] at ht
              simp only [List.length_nil, Int.natCast_zero, if_true, Option.bind_some, Bool.false_eq_true, if_false] at ht
              obtain rfl := Option.some.inj ht
              have hn1 : decide ((rd_T66 (rd_T98 l0_0 (j : Int)).f1 (q : Int)).f0 = []) = true := decide_eq_true hn
              refine sq_region (S := fun W' => K0 (Below wu.heap.size wu W')) [(0, false), (1, false), (2, false), (3, false), (4, false), (6, false), (7, false), (8, false), (9, false), (10, false), (5, true), (11, true), (12, false), (13, false), (14, false), (15, false), (16, false), (18, false), (19, false), (20, false), (21, false), (22, false), (23, false), (24, false), (17, true), (25, true), (26, false), (27, false)] (by kernel_rfl) (by kernel_rfl) (by exact inferInstance) (fun hS => ?_)
              repeat (first | (refine sq_n ?_ ?_ rfl ?_ ?_ ?_; rotate_left 2; (intro W hW; go_simp; first | done | with_reducible rfl); (simp only [List.setIfInBounds_toArray, List.set_cons_zero, List.set_cons_succ]; try rfl)) | (refine sq_g ?_ ?_ rfl rfl rfl ?_ ?_ ?_; rotate_left 2; (intro W hW; go_simp; first | done | with_reducible rfl); (simp only [List.setIfInBounds_toArray, List.set_cons_zero, List.set_cons_succ]; try rfl)) | (refine sq_f ?_ rfl rfl rfl ?_ ?_; rotate_left; (simp only [List.setIfInBounds_toArray, List.set_cons_zero, List.set_cons_succ]; try rfl)) | (refine sq_u ?_ rfl rfl rfl ?_ ?_; rotate_left; (simp only [List.setIfInBounds_toArray, List.set_cons_zero, List.set_cons_succ]; try rfl)))
              refine sq_done (fun hS => ?_)
              go_wp2
              go_ret
              exact ⟨rfl, hB.trans (Below.mono (@tr _ (tr2 _)).out hB.size)⟩
            obtain ⟨m, hm⟩ : ∃ m : Nat, (rd_T66 (rd_T98 l0_0 (j : Int)).f1 (q : Int)).f0.length = m + 1 := ⟨(rd_T66 (rd_T98 l0_0 (j : Int)).f1 (q : Int)).f0.length - 1, by have := List.length_pos_iff.mpr hn; omega⟩
            have hmm : (rd_T66 (rd_T98 l0_0 (j : Int)).f1 (q : Int)).f0.length ≤ 9223372036854775807 := hr3.2.1
            obtain ⟨ad', rfl, hy0, -⟩ := at_T35 hr3 0 (by omega) (by omega)
            simp only [show (0 : Int).toNat = 0 from rfl, Nat.zero_mul, Addr.add_zero'] at hy0
            have hy0 := clk hy0
            obtain ⟨ad2, e2, hy1, -⟩ := at_T35 hr3 (m : Int) (by omega) (by omega)
            cases e2
            rw [Int.toNat_natCast] at hy1
            have hy1 := clk hy1
            rw [if_neg (by omega), show ((((rd_T66 (rd_T98 l0_0 (j : Int)).f1 (q : Int)).f0.length : Nat) : Int) - 1) = (m : Int) by omega] at ht
            obtain ⟨c, hc, ht⟩ := Option.bind_eq_some_iff.mp ht
            obtain ⟨t1, hc1, hc⟩ := Option.bind_eq_some_iff.mp hc
            obtain ⟨⟨p1, p2, p3⟩, hB1, hc1⟩ := Option.bind_eq_some_iff.mp hc1
            obtain ⟨b1, hB2, ht2⟩ := Option.bind_eq_some_iff.mp hc1
            clear hc1
            have hn1 : decide ((rd_T66 (rd_T98 l0_0 (j : Int)).f1 (q : Int)).f0 = []) = false := decide_eq_false hn
            have hw1 : IntKind.i64.wrap ((((rd_T66 (rd_T98 l0_0 (j : Int)).f1 (q : Int)).f0.length : Nat) : Int) - 1) = (m : Int) := by rw [IntKind.wrap_i64]; omega
            have hw2 : IntKind.i64.wrap (m : Int) = (m : Int) := by rw [IntKind.wrap_i64]; omega
            have hw3 : (((rd_T66 (rd_T98 l0_0 (j : Int)).f1 (q : Int)).f0.length : Nat) : Int) - 1 = (m : Int) := by omega
            have hw4 : m < (rd_T66 (rd_T98 l0_0 (j : Int)).f1 (q : Int)).f0.length := by omega
            have hw5 : 0 < (rd_T66 (rd_T98 l0_0 (j : Int)).f1 (q : Int)).f0.length := by omega
            have hn2 : ((((rd_T66 (rd_T98 l0_0 (j : Int)).f1 (q : Int)).f0.length : Nat) : Int) == 0) = false := beq_eq_false_iff_ne.mpr (by omega)
            clear hm hmm
            refine sq_region (S := fun W' => K0 (Below wu.heap.size wu W')) [(0, false), (1, false), (2, false), (3, false), (4, false), (6, false), (7, false), (8, false), (9, false), (10, false), (5, true), (11, true), (12, false), (13, false), (14, false), (15, false), (16, false), (18, false), (19, false), (20, false), (21, false), (22, false), (23, false), (24, false), (17, true), (25, true), (26, false), (27, false)] (by kernel_rfl) (by kernel_rfl) (by exact inferInstance) (fun hS => ?_)
            repeat (first | (refine sq_n ?_ ?_ rfl ?_ ?_ ?_; rotate_left 2; (intro W hW; go_simp; first | done | with_reducible rfl); (simp only [List.setIfInBounds_toArray, List.set_cons_zero, List.set_cons_succ]; try rfl)) | (refine sq_g ?_ ?_ rfl rfl rfl ?_ ?_ ?_; rotate_left 2; (intro W hW; go_simp; first | done | with_reducible rfl); (simp only [List.setIfInBounds_toArray, List.set_cons_zero, List.set_cons_succ]; try rfl)) | (refine sq_f ?_ rfl rfl rfl ?_ ?_; rotate_left; (simp only [List.setIfInBounds_toArray, List.set_cons_zero, List.set_cons_succ]; try rfl)) | (refine sq_u ?_ rfl rfl rfl ?_ ?_; rotate_left; (simp only [List.setIfInBounds_toArray, List.set_cons_zero, List.set_cons_succ]; try rfl)))
            refine sq_1g rfl rfl rfl (fun hS K hK => ?_)
            go_simp
            go_at_call 87
            refine (impl_Store_rows.calls _ _ _ _ _ _ _ _ (Kd.C_below hrb (@tr _ (tr2 _)).out) hc0_0 hB1).mono ?_
            rintro e w1 ⟨rfl, hb⟩
            have hk := K0.mk (below_step hS.out hb)
            go_wp2_with fail
            refine hK.out _ _ hk (fun hS => ?_)
            repeat (first | (refine sq_n ?_ ?_ rfl ?_ ?_ ?_; rotate_left 2; (intro W hW; go_simp; first | done | with_reducible rfl); (simp only [List.setIfInBounds_toArray, List.set_cons_zero, List.set_cons_succ]; try rfl)) | (refine sq_g ?_ ?_ rfl rfl rfl ?_ ?_ ?_; rotate_left 2; (intro W hW; go_simp; first | done | with_reducible rfl); (simp only [List.setIfInBounds_toArray, List.set_cons_zero, List.set_cons_succ]; try rfl)) | (refine sq_f ?_ rfl rfl rfl ?_ ?_; rotate_left; (simp only [List.setIfInBounds_toArray, List.set_cons_zero, List.set_cons_succ]; try rfl)) | (refine sq_u ?_ rfl rfl rfl ?_ ?_; rotate_left; (simp only [List.setIfInBounds_toArray, List.set_cons_zero, List.set_cons_succ]; try rfl)))
            refine sq_1g rfl rfl rfl (fun hS K hK => ?_)
            go_simp
            go_at_call 18
            refine (impl_InRange.calls _ _ _ _ b1 _ hB2).mono ?_
            rintro e w1 ⟨rfl, hb⟩
            have hk := K0.mk (below_step hS.out hb)
            go_wp2_with fail
            refine hK.out _ _ hk (fun hS => ?_)
            repeat (first | (refine sq_n ?_ ?_ rfl ?_ ?_ ?_; rotate_left 2; (intro W hW; go_simp; first | done | with_reducible rfl); (simp only [List.setIfInBounds_toArray, List.set_cons_zero, List.set_cons_succ]; try rfl)) | (refine sq_g ?_ ?_ rfl rfl rfl ?_ ?_ ?_; rotate_left 2; (intro W hW; go_simp; first | done | with_reducible rfl); (simp only [List.setIfInBounds_toArray, List.set_cons_zero, List.set_cons_succ]; try rfl)) | (refine sq_f ?_ rfl rfl rfl ?_ ?_; rotate_left; (simp only [List.setIfInBounds_toArray, List.set_cons_zero, List.set_cons_succ]; try rfl)) | (refine sq_u ?_ rfl rfl rfl ?_ ?_; rotate_left; (simp only [List.setIfInBounds_toArray, List.set_cons_zero, List.set_cons_succ]; try rfl)))
            cases b1
            · simp only [Bool.false_eq_true, if_false] at ht2
              obtain rfl := Option.some.inj ht2
              simp only [Bool.false_eq_true, if_false] at hc
              obtain rfl := Option.some.inj hc
              simp only [Bool.false_eq_true, if_false] at ht
              obtain rfl := Option.some.inj ht
              repeat (first | (refine sq_n ?_ ?_ rfl ?_ ?_ ?_; rotate_left 2; (intro W hW; go_simp; first | done | with_reducible rfl); (simp only [List.setIfInBounds_toArray, List.set_cons_zero, List.set_cons_succ]; try rfl)) | (refine sq_g ?_ ?_ rfl rfl rfl ?_ ?_ ?_; rotate_left 2; (intro W hW; go_simp; first | done | with_reducible rfl); (simp only [List.setIfInBounds_toArray, List.set_cons_zero, List.set_cons_succ]; try rfl)) | (refine sq_f ?_ rfl rfl rfl ?_ ?_; rotate_left; (simp only [List.setIfInBounds_toArray, List.set_cons_zero, List.set_cons_succ]; try rfl)) | (refine sq_u ?_ rfl rfl rfl ?_ ?_; rotate_left; (simp only [List.setIfInBounds_toArray, List.set_cons_zero, List.set_cons_succ]; try rfl)))
              refine sq_done (fun hS => ?_)
              go_wp2
              go_ret
              exact ⟨rfl, hB.trans (Below.mono (@tr _ (tr2 _)).out hB.size)⟩
            simp only [if_true] at ht2
            repeat (first | (refine sq_n ?_ ?_ rfl ?_ ?_ ?_; rotate_left 2; (intro W hW; go_simp; first | done | with_reducible rfl); (simp only [List.setIfInBounds_toArray, List.set_cons_zero, List.set_cons_succ]; try rfl)) | (refine sq_g ?_ ?_ rfl rfl rfl ?_ ?_ ?_; rotate_left 2; (intro W hW; go_simp; first | done | with_reducible rfl); (simp only [List.setIfInBounds_toArray, List.set_cons_zero, List.set_cons_succ]; try rfl)) | (refine sq_f ?_ rfl rfl rfl ?_ ?_; rotate_left; (simp only [List.setIfInBounds_toArray, List.set_cons_zero, List.set_cons_succ]; try rfl)) | (refine sq_u ?_ rfl rfl rfl ?_ ?_; rotate_left; (simp only [List.setIfInBounds_toArray, List.set_cons_zero, List.set_cons_succ]; try rfl)))
            refine sq_1g rfl rfl rfl (fun hS K hK => ?_)
            go_simp
            go_at_call 87
            refine (impl_Store_rows.calls _ _ _ _ _ _ _ _ (Kd.C_below hrb (@tr _ (tr2 _)).out) hc0_0 hB1).mono ?_
            rintro e w1 ⟨rfl, hb⟩
            have hk := K0.mk (below_step hS.out hb)
            go_wp2_with fail
            refine hK.out _ _ hk (fun hS => ?_)
            repeat (first | (refine sq_n ?_ ?_ rfl ?_ ?_ ?_; rotate_left 2; (intro W hW; go_simp; first | done | with_reducible rfl); (simp only [List.setIfInBounds_toArray, List.set_cons_zero, List.set_cons_succ]; try rfl)) | (refine sq_g ?_ ?_ rfl rfl rfl ?_ ?_ ?_; rotate_left 2; (intro W hW; go_simp; first | done | with_reducible rfl); (simp only [List.setIfInBounds_toArray, List.set_cons_zero, List.set_cons_succ]; try rfl)) | (refine sq_f ?_ rfl rfl rfl ?_ ?_; rotate_left; (simp only [List.setIfInBounds_toArray, List.set_cons_zero, List.set_cons_succ]; try rfl)) | (refine sq_u ?_ rfl rfl rfl ?_ ?_; rotate_left; (simp only [List.setIfInBounds_toArray, List.set_cons_zero, List.set_cons_succ]; try rfl)))
            refine sq_1g rfl rfl rfl (fun hS K hK => ?_)
            go_simp
            go_at_call 18
            refine (impl_InRange.calls _ _ _ _ t1 _ ht2).mono ?_
            rintro e w1 ⟨rfl, hb⟩
            have hk := K0.mk (below_step hS.out hb)
            go_wp2_with fail
            refine hK.out _ _ hk (fun hS => ?_)
            repeat (first | (refine sq_n ?_ ?_ rfl ?_ ?_ ?_; rotate_left 2; (intro W hW; go_simp; first | done | with_reducible rfl); (simp only [List.setIfInBounds_toArray, List.set_cons_zero, List.set_cons_succ]; try rfl)) | (refine sq_g ?_ ?_ rfl rfl rfl ?_ ?_ ?_; rotate_left 2; (intro W hW; go_simp; first | done | with_reducible rfl); (simp only [List.setIfInBounds_toArray, List.set_cons_zero, List.set_cons_succ]; try rfl)) | (refine sq_f ?_ rfl rfl rfl ?_ ?_; rotate_left; (simp only [List.setIfInBounds_toArray, List.set_cons_zero, List.set_cons_succ]; try rfl)) | (refine sq_u ?_ rfl rfl rfl ?_ ?_; rotate_left; (simp only [List.setIfInBounds_toArray, List.set_cons_zero, List.set_cons_succ]; try rfl)))
            cases t1
            · simp only [Bool.false_eq_true, if_false] at hc
              obtain rfl := Option.some.inj hc
              simp only [Bool.false_eq_true, if_false] at ht
              obtain rfl := Option.some.inj ht
              repeat (first | (refine sq_n ?_ ?_ rfl ?_ ?_ ?_; rotate_left 2; (intro W hW; go_simp; first | done | with_reducible rfl); (simp only [List.setIfInBounds_toArray, List.set_cons_zero, List.set_cons_succ]; try rfl)) | (refine sq_g ?_ ?_ rfl rfl rfl ?_ ?_ ?_; rotate_left 2; (intro W hW; go_simp; first | done | with_reducible rfl); (simp only [List.setIfInBounds_toArray, List.set_cons_zero, List.set_cons_succ]; try rfl)) | (refine sq_f ?_ rfl rfl rfl ?_ ?_; rotate_left; (simp only [List.setIfInBounds_toArray, List.set_cons_zero, List.set_cons_succ]; try rfl)) | (refine sq_u ?_ rfl rfl rfl ?_ ?_; rotate_left; (simp only [List.setIfInBounds_toArray, List.set_cons_zero, List.set_cons_succ]; try rfl)))
              refine sq_done (fun hS => ?_)
              go_wp2
              go_ret
              exact ⟨rfl, hB.trans (Below.mono (@tr _ (tr2 _)).out hB.size)⟩
            simp only [if_true] at hc
            repeat (first | (refine sq_n ?_ ?_ rfl ?_ ?_ ?_; rotate_left 2; (intro W hW; go_simp; first | done | with_reducible rfl); (simp only [List.setIfInBounds_toArray, List.set_cons_zero, List.set_cons_succ]; try rfl)) | (refine sq_g ?_ ?_ rfl rfl rfl ?_ ?_ ?_; rotate_left 2; (intro W hW; go_simp; first | done | with_reducible rfl); (simp only [List.setIfInBounds_toArray, List.set_cons_zero, List.set_cons_succ]; try rfl)) | (refine sq_f ?_ rfl rfl rfl ?_ ?_; rotate_left; (simp only [List.setIfInBounds_toArray, List.set_cons_zero, List.set_cons_succ]; try rfl)) | (refine sq_u ?_ rfl rfl rfl ?_ ?_; rotate_left; (simp only [List.setIfInBounds_toArray, List.set_cons_zero, List.set_cons_succ]; try rfl)))
            refine sq_done (fun hS => ?_)
            go_wp2
            have hq1 : q + 1 ≤ (rd_T98 l0_0 (j : Int)).f1.length := hlq
            have hq2 : (rd_T98 l0_0 (j : Int)).f1.length - (q + 1) < (rd_T98 l0_0 (j : Int)).f1.length - q := by omega
            have hwq : wrap64 ((q : Int) + 1) = ((q + 1 : Nat) : Int) := by have := hr1.2.1; unfold wrap64; omega
            refine ⟨?_, ?measure⟩
            (repeat apply Exists.intro)
            refine ⟨?rel, rfl⟩
            case rel => exact ⟨q + 1, hq1, by rw [hwq], by rw [hc]; exact ht, tr2 _⟩
            case measure => simp only [hwq]; exact hq2
          · obtain rfl : q = (rd_T98 l0_0 (j : Int)).f1.length := by omega
            rw [List.drop_length] at ht
            simp only [allO, Option.bind_some, if_true] at ht
            go_wp2
            have hj1 : l0_0.length - (j + 1) < l0_0.length - j := by omega
            exact ⟨⟨j + 1, hlt, rfl, ht, (tr _).out⟩, hj1⟩
    · obtain rfl : j = l0_0.length := by omega
      rw [List.drop_length] at ht
      obtain rfl := Option.some.inj ht
      go_wp2
      go_ret
      exact ⟨rfl, hB.trans (hW.mono hB.size)⟩
end Go.Proofs.Ytdknjbadnbangaa.Q
