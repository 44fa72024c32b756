/- FnExactReplay: the row of the law: its arguments opened, its walk, its statement over lists (PrFnExactReplay). No condition. -/
import Derived.Test.YtmaildoddeimbaaCFnExactReplay2
import Derived.Maps.RangeWalk
import Derived.Maps.OwnSet
import Derived.Sort.Grow
import Derived.Deep.RegionHeld3
import Derived.Shelf.Small.Bits
import Derived.Shelf.Small.Strs
import Derived.Shelf.Small.Wraps
import Derived.Shelf.Strconv.Itoa0
import Derived.Ground.Names2Prog
import Derived.Shelf.Slices.SearchI
import Derived.Test.YtmaildoddeimbaaProg
import Derived.Lib.Strings

namespace Go.Proofs.Ytmaildoddeimbaa.Q
open Go.RowKit Go.Proofs.YtmaildoddeimbaaW.PrintWords Go.Proofs.YtmaildoddeimbaaW.PrintLast Go.Proofs.YtmaildoddeimbaaW.PrintMore
set_option linter.unusedVariables false
set_option linter.unusedSimpArgs false

/-! ### spec_Replay: function 14 -/
mutual
def spec_Replay.l0 : Nat → List (S43) → List (S61) → List (S43) → Int → Option ((List (S61)))
 | 0, _, _, _, _ => none
 | k + 1, x0, x3, x4, x5 => if x5 < (x0.length : Int) then (if 0 ≤ x5 then (if ((rd_T43 x0 x5).f4) = 0 then ((spec_l1Into.f k x4 ((rd_T43 x0 x5).f0) ((rd_T43 x0 x5).f1) ((rd_T43 x0 x5).f2) ((rd_T43 x0 x5).f3) ((rd_T43 x0 x5).f4) ((rd_T43 x0 x5).f5)).bind fun t256 => (spec_Replay.l0 k x0 x3 t256 (wrap64 (x5 + 1)))) else (spec_Replay.l1 k x0 x3 x4 x5 (([] : List (S43))) 0 ((rd_T43 x0 x5).f0) ((rd_T43 x0 x5).f1) ((rd_T43 x0 x5).f2) ((rd_T43 x0 x5).f3) ((rd_T43 x0 x5).f4) ((rd_T43 x0 x5).f5))) else (none)) else (spec_Replay.l2 k x3 x4 0)
def spec_Replay.l1 : Nat → List (S43) → List (S61) → List (S43) → Int → List (S43) → Int → ByteArray → ByteArray → ByteArray → Int → Int → ByteArray → Option ((List (S61)))
 | 0, _, _, _, _, _, _, _, _, _, _, _, _ => none
 | k + 1, x0, x3, x4, x5, x7, x8, x256000, x256001, x256002, x256003, x256004, x256005 => if x8 < (x4.length : Int) then (if 0 ≤ x8 then ((spec_l1SameColumn.f ((rd_T43 x4 x8).f0) ((rd_T43 x4 x8).f1) ((rd_T43 x4 x8).f2) ((rd_T43 x4 x8).f3) ((rd_T43 x4 x8).f4) ((rd_T43 x4 x8).f5) x256000 x256001 x256002 x256003 x256004 x256005).bind fun t263 => (if t263 = true then (if ((rd_T43 x4 x8).f3) = x256003 then (spec_Replay.j2 k x0 x3 x4 x5 x7 x8 true x256000 x256001 x256002 x256003 x256004 x256005) else (if x256004 = 2 then (spec_Replay.j2 k x0 x3 x4 x5 x7 x8 (decide (((rd_T43 x4 x8).f3) ≤ x256003)) x256000 x256001 x256002 x256003 x256004 x256005) else (spec_Replay.j2 k x0 x3 x4 x5 x7 x8 false x256000 x256001 x256002 x256003 x256004 x256005))) else (spec_Replay.j2 k x0 x3 x4 x5 x7 x8 false x256000 x256001 x256002 x256003 x256004 x256005))) else (none)) else (spec_Replay.l0 k x0 x3 x7 (wrap64 (x5 + 1)))
def spec_Replay.j2 : Nat → List (S43) → List (S61) → List (S43) → Int → List (S43) → Int → Bool → ByteArray → ByteArray → ByteArray → Int → Int → ByteArray → Option ((List (S61)))
 | 0, _, _, _, _, _, _, _, _, _, _, _, _, _ => none
 | k + 1, x0, x3, x4, x5, x7, x8, x9, x256000, x256001, x256002, x256003, x256004, x256005 => if x9 = true then (spec_Replay.l1 k x0 x3 x4 x5 x7 (wrap64 (x8 + 1)) x256000 x256001 x256002 x256003 x256004 x256005) else (if 0 ≤ x8 then (if x8 < (x4.length : Int) then (if x7.length < 1759218604441 then (spec_Replay.l1 k x0 x3 x4 x5 (x7 ++ [(⟨(rd_T43 x4 x8).f0, (rd_T43 x4 x8).f1, (rd_T43 x4 x8).f2, (rd_T43 x4 x8).f3, (rd_T43 x4 x8).f4, (rd_T43 x4 x8).f5⟩ : S43)]) (wrap64 (x8 + 1)) x256000 x256001 x256002 x256003 x256004 x256005) else (none)) else (none)) else (none))
def spec_Replay.l2 : Nat → List (S61) → List (S43) → Int → Option ((List (S61)))
 | 0, _, _, _ => none
 | k + 1, x3, x4, x10 => if x10 < (x4.length : Int) then (if 0 ≤ x10 then ((spec_l1Cell.f ((rd_T43 x4 x10).f0) ((rd_T43 x4 x10).f1) ((rd_T43 x4 x10).f2) ((rd_T43 x4 x10).f3) ((rd_T43 x4 x10).f4) ((rd_T43 x4 x10).f5)).bind fun bt271 => (if x3.length < 1954687338268 then (spec_Replay.l2 k (x3 ++ [(⟨bt271.1, bt271.2.1, bt271.2.2.1, bt271.2.2.2.1, bt271.2.2.2.2⟩ : S61)]) x4 (wrap64 (x10 + 1))) else (none))) else (none)) else (some x3)
end
def spec_Replay.f (k : Nat) (l0 : List (S43)) : Option ((List (S61))) := (some (([] : List (S61)) : List (S61))).bind fun y247 => ((spec_l1GoodWrites.f k l0).bind fun t250 => (if t250 = true then (spec_Replay.l0 k l0 y247 (([] : List (S43))) 0) else (some y247)))
def spec_Replay.T15 : Bool × List (List Nat × List Nat) := (true, [([], []), ([], []), ([0, 1], [0, 1]), ([2], [2]), ([], []), ([3, 4], [3, 4]), ([5, 5], [5]), ([6], [6]), ([6], [6]), ([7, 8, 6], [6, 7, 8]), ([9, 6], [6, 9]), ([10, 6], [6, 10]), ([6], [6]), ([12, 6], [6, 12]), ([11, 13, 6], [6, 11, 13]), ([14, 6, 6], [6, 14]), ([15], [15]), ([16, 15], [15, 16]), ([17, 15], [15, 17]), ([18, 15, 15], [15, 18]), ([19], [19]), ([19], [19]), ([20, 21, 19], [19, 20, 21]), ([22, 19], [19, 22]), ([23, 19], [19, 23]), ([19], [19]), ([25, 19], [19, 25]), ([24, 26, 19], [19, 24, 26]), ([19, 27, 15], [15, 19, 27]), ([15, 28, 6], [6, 15, 28]), ([6, 29], [6, 29]), ([30, 19, 0, 1, 2, 3, 4, 5, 6, 7, 8, 9, 10, 11, 12, 13, 14, 15, 16, 17, 18, 19, 20, 21, 22, 23, 24, 25, 26, 27, 28, 29, 30], [30])])
def spec_Replay.B15 : List Nat := [0, 0, 3, 7, 0, 31, 63, 127, 127, 511, 1023, 2047, 127, 4223, 16383, 32767, 65535, 131071, 262143, 524287, 1048575, 1048575, 4194303, 8388607, 16777215, 1048575, 34603007, 134217727, 268435455, 536870911, 1073741823, 2147483647]
theorem spec_Replay.tab15 : rtab .any (opsOf Try.f14 15) = spec_Replay.T15 := by kernel_rfl
theorem spec_Replay.bits15 : waitsOk spec_Replay.T15.2 spec_Replay.B15 = true := by kernel_rfl
set_option maxHeartbeats 8000000 in
set_option maxRecDepth 100000 in
theorem spec_Replay.calls (k : Nat) (A0 : Option Addr) (c0 : Nat) (l0 : List (S43)) (r : List (S61)) (w : World) (hr0 : Kd.C k43 w A0 l0.length l0) (hc0 : l0.length ≤ c0) (h : spec_Replay.f k l0 = some r) :
  Calls Try.prog 14 #[.slice A0 l0.length c0] w fun e w' => ∃ v0_ : Value, e = .returned (v0_) ∧ Kd.R k61 61 w' w.heap.size (fun _ => True) v0_ r ∧ Below w.heap.size w w' := by
 have hu43 := Try.underlying43
 have HR0 := Aside0.mk hr0
 have HC0 := Aside0.mk hc0
 clear hr0 hc0
 have HB := Aside0.mk (Below.refl w.heap.size w)
 have H : ((some (([] : List (S61)) : List (S61))).bind fun y247 => ((spec_l1GoodWrites.f k l0).bind fun t250 => (if t250 = true then (spec_Replay.l0 k l0 y247 (([] : List (S43))) 0) else (some y247)))) = some r := h
 clear h
 obtain ⟨y247, hy247⟩ : ∃ y_ : List (S61), y_ = (([] : List (S61))) := ⟨_, rfl⟩
 replace H : ((spec_l1GoodWrites.f k l0).bind fun t250 => (if t250 = true then (spec_Replay.l0 k l0 y247 (([] : List (S43))) 0) else (some y247))) = some r := by first | (rw [hy247]; with_reducible exact H) | (have H2_ := (Option.bind_some _ _).symm.trans H; rw [hy247]; with_reducible exact H2_) | (have H2_ := (Option.bind_some _ _).symm.trans H; with_reducible exact H2_) | with_reducible exact H | (rw [hy247]; exact H) | exact H
 have Ny247 := Aside0.mk hy247
 clear hy247
 replace H := Option.bind_eq_some_iff.mp H
 obtain ⟨t250, A20, H⟩ := H
 replace H : (if t250 = true then (spec_Replay.l0 k l0 y247 (([] : List (S43))) 0) else (some y247)) = some r := H
 have A2 := Aside0.mk A20
 clear A20
 by_cases c3 : t250 = true
 ·subst c3
  have H1 : (spec_Replay.l0 k l0 y247 (([] : List (S43))) 0) = some r := by rw [if_pos rfl] at H; exact H
  clear H
  have H := H1
  clear H1
  obtain ⟨y251, hy251⟩ : ∃ y_ : List (S43), y_ = (([] : List (S43))) := ⟨_, rfl⟩
  replace H : (spec_Replay.l0 k l0 y247 y251 0) = some r := by first | (rw [hy251]; with_reducible exact H) | (have H2_ := (Option.bind_some _ _).symm.trans H; rw [hy251]; with_reducible exact H2_) | (have H2_ := (Option.bind_some _ _).symm.trans H; with_reducible exact H2_) | with_reducible exact H | (rw [hy251]; exact H) | exact H
  have Ny251 := Aside0.mk hy251
  clear hy251
  have H' := Aside0.mk H
  clear H
  go_enter Try.func14, Try.ntmps14
  go_wp2_with (first | ((with_reducible refine gate_dst (N := 11) rfl ?_); refine Kd.R_lit k61 _ 61 ?hg (N := 11) ?hd (xs := ([] : List (S61))) (inner := []) (ok := fun _ => True) (okp := fun _ => True) ?hr ?hp (fun _ hk => hk) trivial (Below.refl _ _) (Nat.le_refl _) (by simp) ?_; (case hd => rfl); (case hg => rfl); (case hr => first | (go_simp; done) | (go_simp; rfl)); (case hp => exact (Reps.none _ _)); intro v248 w4 ho5 hb hg_ hnew_; clear hg_ hnew_; (first | rw [← Ny247.out] at ho5 | (simp only [Int.reduceToNat] at ho5; rw [← Ny247.out] at ho5)); have n0_ := Aside0.mk (Kd.R_lower ho5 (below_size bw)); have n1_ := Aside0.mk (below_step bw hb); clear HB; have HO249 := n0_; have HB := n1_; clear n0_ n1_; clear hb ho5) | ((with_reducible refine at_fn (f := 20) rfl ?_); refine goesL_ (some 13) rfl rfl Try.func20 (by kernel_rfl) rfl #[.slice A0 l0.length c0] rfl (by (try simp only [List.map_toArray, List.map_cons, List.map_nil]); first | done | rfl | (simp only [List.length_drop, List.length_take]; rfl)) ?_; (with_reducible refine (spec_l1GoodWrites.calls k _ _ l0 true _ ?side1 ?side2 A2.out).mono ?_); (case side1 => repeat (first | exact (Kd.C_below HR0.out HB.out) | (with_reducible refine Kd.C_alloc ?_ _) | (with_reducible refine Kd.C_drewN ?_ _) | (with_reducible refine Kd.C_drew ?_))); (case side2 => exact HC0.out); rintro e w6 ⟨rfl, hb⟩; refine ⟨_, rfl, ?_⟩; have n0_ := Aside0.mk (Kd.R_below (lf HO249) hb); have n1_ := Aside0.mk (below_step bw hb); clear HO249; clear HB; have HO249 := n0_; have HB := n1_; clear n0_ n1_; (try clear hb); (try clear hb2); (try clear hk); (try clear hi)) | ((with_reducible refine gate_dst (N := 16) rfl ?_); refine Kd.R_lit k43 _ 43 ?hg (N := 16) ?hd (xs := ([] : List (S43))) (inner := []) (ok := fun _ => True) (okp := fun _ => True) ?hr ?hp (fun _ hk => hk) trivial (Below.refl _ _) (Nat.le_refl _) (by simp) ?_; (case hd => rfl); (case hg => rfl); (case hr => first | (go_simp; done) | (go_simp; rfl)); (case hp => exact (Reps.none _ _)); intro v252 w7 ho8 hb hg_ hnew_; clear hg_ hnew_; (first | rw [← Ny251.out] at ho8 | (simp only [Int.reduceToNat] at ho8; rw [← Ny251.out] at ho8)); have n0_ := Aside0.mk (Kd.R_below (lf HO249) hb); have n1_ := Aside0.mk (Kd.R_lower ho8 (below_size bw)); have n2_ := Aside0.mk (below_step bw hb); clear HO249; clear HB; have HO249 := n0_; have HO253 := n1_; have HB := n2_; clear n0_ n1_ n2_; clear hb ho8))
  go_loopg [4, 5] k (fun kq v4 v5 w' => ∃ (x4_1 : List (S43)) (x5_1 : Int), v5 = .int .i64 x5_1 ∧ Aside0 (spec_Replay.l0 kq l0 y247 x4_1 x5_1 = some r) ∧ Aside0 (kq ≤ k) ∧ Aside0 (Kd.R k61 61 w' w.heap.size (fun _ => True) v248 y247) ∧ Aside0 (Kd.R k43 43 w' w.heap.size (fun _ => True) v4 x4_1) ∧ Aside0 (Below w.heap.size w w'))
  case atStart => exact ⟨(y251), (0), (by first | rfl | (simp; done) | (simp [*]; done)), H', ⟨Nat.le_refl _⟩, ⟨lf HO249⟩, ⟨lf HO253⟩, ⟨bw⟩⟩
  case round =>
   clear H'
   try clear c1
   try clear c2
   try clear p2
   try clear c3
   obtain ⟨x4_1, x5_1, rfl, HA, HK1, HO_3, HO_4, HB⟩ := hrel
   cases gk with
   | zero => exact absurd HA.out (by simp [spec_Replay.l0])
   | succ k1 =>
    have H := HA.out
    clear HA
    simp only [spec_Replay.l0] at H
    by_cases c9 : x5_1 < (l0.length : Int)
    ·rw [if_pos c9] at H
     have c9b0 : decide (x5_1 < (l0.length : Int)) = true := decide_eq_true c9
     clear c9
     by_cases c10 : 0 ≤ x5_1
     ·rw [if_pos c10] at H
      have c10b0 : decide (0 ≤ x5_1) = true := decide_eq_true c10
      clear c10
      by_cases c11 : ((rd_T43 l0 x5_1).f4) = 0
      ·rw [if_pos c11] at H
       have c11b0 : (((rd_T43 l0 x5_1).f4) == 0) = true := beq_iff_eq.mpr c11
       have c11b1 : (((rd_T43 l0 x5_1).f4) != 0) = false := bne_eq_false_iff_eq.mpr c11
       clear c11
       replace H := Option.bind_eq_some_iff.mp H
       obtain ⟨t256, A120, H⟩ := H
       replace H : (spec_Replay.l0 k1 l0 y247 t256 (wrap64 (x5_1 + 1))) = some r := H
       have A12 := Aside0.mk A120
       clear A120
       have H' := Aside0.mk H
       clear H
       have p254 : 0 ≤ (x5_1 : Int) := of_decide_eq_true (by first | (with_reducible assumption) | assumption)
       have q254 : x5_1 < (l0.length : Int) := of_decide_eq_true (by first | (with_reducible assumption) | assumption)
       obtain ⟨ad254, e254, hx254_0, hx254_1, hx254_2, hx254_3, hx254_4, hx254_5⟩ := at_T43 HR0.out x5_1 p254 q254
       cases e254
       replace hx254_0 := (HB.out.cell (World.block_lt_of_cell? w _ hx254_0)).trans hx254_0
       replace hx254_1 := (HB.out.cell (World.block_lt_of_cell? w _ hx254_1)).trans hx254_1
       replace hx254_2 := (HB.out.cell (World.block_lt_of_cell? w _ hx254_2)).trans hx254_2
       replace hx254_3 := (HB.out.cell (World.block_lt_of_cell? w _ hx254_3)).trans hx254_3
       replace hx254_4 := (HB.out.cell (World.block_lt_of_cell? w _ hx254_4)).trans hx254_4
       replace hx254_5 := (HB.out.cell (World.block_lt_of_cell? w _ hx254_5)).trans hx254_5
       replace p254 := eq_true p254
       replace q254 := eq_true q254
       go_wp2_with (first | ((with_reducible refine gate_dst (N := 6) rfl ?_); refine box_event ?hg (N := 6) ?hd (cs := #[.string (⟨#[]⟩ : ByteArray), .string (⟨#[]⟩ : ByteArray), .string (⟨#[]⟩ : ByteArray), .int .u64 0, .int .i64 0, .string (⟨#[]⟩ : ByteArray)]) (t := 43) ?hr ?_; (case hd => rfl); (case hg => rfl); (case hr => first | (go_simp; done) | (go_simp; rfl)); intro gb255 hg w13 hbox hb; have n0_ := Aside0.mk (Kd.R_below (lf HO_3) hb); have n1_ := Aside0.mk (Kd.R_below (Kd.R_elderB (lf HO_4) gb255 (Nat.le_of_eq hg.symm)) hb); have n2_ := Aside0.mk (below_step bw hb); have n3_ := Aside0.mk (hbox); have n4_ := Aside0.mk ((by rw [hg]; exact (below_size bw) : w.heap.size ≤ gb255)); have n5_ := Aside0.mk ((by rw [hg]; exact (below_size bw) : w.heap.size ≤ gb255)); clear HO_3; clear HO_4; clear HB; have HO_3 := n0_; have HO_4 := n1_; have HB := n2_; have BK255 := n3_; have GW255 := n4_; have GE255 := n5_; clear n0_ n1_ n2_ n3_ n4_ n5_; clear hb hbox hg; have hcz14_0 : w13.cell? ⟨gb255, 0, none⟩ = some (.string (⟨#[]⟩ : ByteArray)) := (blk_cell BK255.out 0).trans rfl; have hcz14_1 : w13.cell? ⟨gb255, 1, none⟩ = some (.string (⟨#[]⟩ : ByteArray)) := (blk_cell BK255.out 1).trans rfl; have hcz14_2 : w13.cell? ⟨gb255, 2, none⟩ = some (.string (⟨#[]⟩ : ByteArray)) := (blk_cell BK255.out 2).trans rfl; have hcz14_3 : w13.cell? ⟨gb255, 3, none⟩ = some (.int .u64 0) := (blk_cell BK255.out 3).trans rfl; have hcz14_4 : w13.cell? ⟨gb255, 4, none⟩ = some (.int .i64 0) := (blk_cell BK255.out 4).trans rfl; have hcz14_5 : w13.cell? ⟨gb255, 5, none⟩ = some (.string (⟨#[]⟩ : ByteArray)) := (blk_cell BK255.out 5).trans rfl; have hfz14_0 := blk_frozen BK255.out 0; have hfz14_1 := blk_frozen BK255.out 1; have hfz14_2 := blk_frozen BK255.out 2; have hfz14_3 := blk_frozen BK255.out 3; have hfz14_4 := blk_frozen BK255.out 4; have hfz14_5 := blk_frozen BK255.out 5; obtain ⟨Ao15, co15, eo15⟩ := Kd.R_slice HO_4.out; subst eo15) | ((with_reducible refine at_fn (f := 22) rfl ?_); refine goesL_ (some 32) rfl rfl Try.func22 (by kernel_rfl) rfl #[.slice Ao15 x4_1.length co15, .agg #[.string ((rd_T43 l0 x5_1).f0), .string ((rd_T43 l0 x5_1).f1), .string ((rd_T43 l0 x5_1).f2), .int .u64 ((rd_T43 l0 x5_1).f3), .int .i64 ((rd_T43 l0 x5_1).f4), .string ((rd_T43 l0 x5_1).f5)]] rfl (by (try simp only [List.map_toArray, List.map_cons, List.map_nil]); first | done | rfl | (simp only [List.length_drop, List.length_take]; rfl)) ?_; (with_reducible refine (spec_l1Into.calls k1 _ _ x4_1 ((rd_T43 l0 x5_1).f0) ((rd_T43 l0 x5_1).f1) ((rd_T43 l0 x5_1).f2) ((rd_T43 l0 x5_1).f3) ((rd_T43 l0 x5_1).f4) ((rd_T43 l0 x5_1).f5) t256 _ ?side1 ?side2 A12.out).mono ?_); (case side1 => refine (Kd.R_reads' (e := 43) (base := w.heap.size) (ok := fun k_ => (True ∧ k_ ≠ gb255)) (n := x4_1.length) (c := co15) ?_).2.2; exact (by (with_reducible repeat (first | apply Kd.R_alloc | apply Kd.R_drewN | apply Kd.R_drew)); exact (Kd.R_mono (Kd.R_far (p := ⟨gb255, 5, none⟩) (Kd.R_far (p := ⟨gb255, 4, none⟩) (Kd.R_far (p := ⟨gb255, 3, none⟩) (Kd.R_far (p := ⟨gb255, 2, none⟩) (Kd.R_far (p := ⟨gb255, 1, none⟩) (Kd.R_far (p := ⟨gb255, 0, none⟩) (Kd.R_mono HO_4.out (fun k_ hk => (⟨hk, hk.2⟩ : _ ∧ k_ ≠ gb255))) (fun _ hk => hk.2) (.string ((rd_T43 l0 x5_1).f0))) (fun _ hk => hk.2) (.string ((rd_T43 l0 x5_1).f1))) (fun _ hk => hk.2) (.string ((rd_T43 l0 x5_1).f2))) (fun _ hk => hk.2) (.int .u64 ((rd_T43 l0 x5_1).f3))) (fun _ hk => hk.2) (.int .i64 ((rd_T43 l0 x5_1).f4))) (fun _ hk => hk.2) (.string ((rd_T43 l0 x5_1).f5))) (fun _ h_ => h_.1)))); (case side2 => exact (Kd.R_reads' HO_4.out).2.1); rintro e w16 ⟨v257, rfl, ho0, hb⟩; refine ⟨_, rfl, ?_⟩; have n0_ := Aside0.mk (Kd.R_below (by (with_reducible repeat (first | apply Kd.R_alloc | apply Kd.R_drewN | apply Kd.R_drew)); exact (Kd.R_mono (Kd.R_far (p := ⟨gb255, 5, none⟩) (Kd.R_far (p := ⟨gb255, 4, none⟩) (Kd.R_far (p := ⟨gb255, 3, none⟩) (Kd.R_far (p := ⟨gb255, 2, none⟩) (Kd.R_far (p := ⟨gb255, 1, none⟩) (Kd.R_far (p := ⟨gb255, 0, none⟩) (Kd.R_types HO_3.out BK255.out (by decide)) (fun _ hk => hk.2) (.string ((rd_T43 l0 x5_1).f0))) (fun _ hk => hk.2) (.string ((rd_T43 l0 x5_1).f1))) (fun _ hk => hk.2) (.string ((rd_T43 l0 x5_1).f2))) (fun _ hk => hk.2) (.int .u64 ((rd_T43 l0 x5_1).f3))) (fun _ hk => hk.2) (.int .i64 ((rd_T43 l0 x5_1).f4))) (fun _ hk => hk.2) (.string ((rd_T43 l0 x5_1).f5))) (fun _ h_ => h_.1))) hb); have n1_ := Aside0.mk (Kd.R_elder' (by (with_reducible repeat (first | apply Kd.R_alloc | apply Kd.R_drewN | apply Kd.R_drew)); exact (Kd.R_mono (Kd.R_far (p := ⟨gb255, 5, none⟩) (Kd.R_far (p := ⟨gb255, 4, none⟩) (Kd.R_far (p := ⟨gb255, 3, none⟩) (Kd.R_far (p := ⟨gb255, 2, none⟩) (Kd.R_far (p := ⟨gb255, 1, none⟩) (Kd.R_far (p := ⟨gb255, 0, none⟩) (Kd.R_mono HO_4.out (fun k_ hk => (⟨hk, hk.2⟩ : _ ∧ k_ ≠ gb255))) (fun _ hk => hk.2) (.string ((rd_T43 l0 x5_1).f0))) (fun _ hk => hk.2) (.string ((rd_T43 l0 x5_1).f1))) (fun _ hk => hk.2) (.string ((rd_T43 l0 x5_1).f2))) (fun _ hk => hk.2) (.int .u64 ((rd_T43 l0 x5_1).f3))) (fun _ hk => hk.2) (.int .i64 ((rd_T43 l0 x5_1).f4))) (fun _ hk => hk.2) (.string ((rd_T43 l0 x5_1).f5))) (fun _ h_ => h_.1))) (Kd.R_base ho0) hb); have n2_ := Aside0.mk (Kd.R_lower (Kd.R_newB (Kd.R_new' ho0 (Kd.R_lt (by (with_reducible repeat (first | apply Kd.R_alloc | apply Kd.R_drewN | apply Kd.R_drew)); exact (Kd.R_mono (Kd.R_far (p := ⟨gb255, 5, none⟩) (Kd.R_far (p := ⟨gb255, 4, none⟩) (Kd.R_far (p := ⟨gb255, 3, none⟩) (Kd.R_far (p := ⟨gb255, 2, none⟩) (Kd.R_far (p := ⟨gb255, 1, none⟩) (Kd.R_far (p := ⟨gb255, 0, none⟩) (Kd.R_mono HO_4.out (fun k_ hk => (⟨hk, hk.2⟩ : _ ∧ k_ ≠ gb255))) (fun _ hk => hk.2) (.string ((rd_T43 l0 x5_1).f0))) (fun _ hk => hk.2) (.string ((rd_T43 l0 x5_1).f1))) (fun _ hk => hk.2) (.string ((rd_T43 l0 x5_1).f2))) (fun _ hk => hk.2) (.int .u64 ((rd_T43 l0 x5_1).f3))) (fun _ hk => hk.2) (.int .i64 ((rd_T43 l0 x5_1).f4))) (fun _ hk => hk.2) (.string ((rd_T43 l0 x5_1).f5))) (fun _ h_ => h_.1))))) (g := gb255) (o := .cells #[.string ((rd_T43 l0 x5_1).f0), .string ((rd_T43 l0 x5_1).f1), .string ((rd_T43 l0 x5_1).f2), .int .u64 ((rd_T43 l0 x5_1).f3), .int .i64 ((rd_T43 l0 x5_1).f4), .string ((rd_T43 l0 x5_1).f5)] 43 (0, 0)) (by (with_reducible repeat (first | refine blk_drewN ?_ _ | refine blk_drew ?_ | refine blk_alloc ?_ _)); refine blk_put (cs := #[.string ((rd_T43 l0 x5_1).f0), .string ((rd_T43 l0 x5_1).f1), .string ((rd_T43 l0 x5_1).f2), .int .u64 ((rd_T43 l0 x5_1).f3), .int .i64 ((rd_T43 l0 x5_1).f4), .string (⟨#[]⟩ : ByteArray)]) ?_ 5 _ rfl; (with_reducible repeat (first | refine blk_drewN ?_ _ | refine blk_drew ?_ | refine blk_alloc ?_ _)); refine blk_put (cs := #[.string ((rd_T43 l0 x5_1).f0), .string ((rd_T43 l0 x5_1).f1), .string ((rd_T43 l0 x5_1).f2), .int .u64 ((rd_T43 l0 x5_1).f3), .int .i64 0, .string (⟨#[]⟩ : ByteArray)]) ?_ 4 _ rfl; (with_reducible repeat (first | refine blk_drewN ?_ _ | refine blk_drew ?_ | refine blk_alloc ?_ _)); refine blk_put (cs := #[.string ((rd_T43 l0 x5_1).f0), .string ((rd_T43 l0 x5_1).f1), .string ((rd_T43 l0 x5_1).f2), .int .u64 0, .int .i64 0, .string (⟨#[]⟩ : ByteArray)]) ?_ 3 _ rfl; (with_reducible repeat (first | refine blk_drewN ?_ _ | refine blk_drew ?_ | refine blk_alloc ?_ _)); refine blk_put (cs := #[.string ((rd_T43 l0 x5_1).f0), .string ((rd_T43 l0 x5_1).f1), .string (⟨#[]⟩ : ByteArray), .int .u64 0, .int .i64 0, .string (⟨#[]⟩ : ByteArray)]) ?_ 2 _ rfl; (with_reducible repeat (first | refine blk_drewN ?_ _ | refine blk_drew ?_ | refine blk_alloc ?_ _)); refine blk_put (cs := #[.string ((rd_T43 l0 x5_1).f0), .string (⟨#[]⟩ : ByteArray), .string (⟨#[]⟩ : ByteArray), .int .u64 0, .int .i64 0, .string (⟨#[]⟩ : ByteArray)]) ?_ 1 _ rfl; (with_reducible repeat (first | refine blk_drewN ?_ _ | refine blk_drew ?_ | refine blk_alloc ?_ _)); refine blk_put (cs := #[.string (⟨#[]⟩ : ByteArray), .string (⟨#[]⟩ : ByteArray), .string (⟨#[]⟩ : ByteArray), .int .u64 0, .int .i64 0, .string (⟨#[]⟩ : ByteArray)]) ?_ 0 _ rfl; (with_reducible repeat (first | refine blk_drewN ?_ _ | refine blk_drew ?_ | refine blk_alloc ?_ _)); exact BK255.out)) (below_size bw)); have n3_ := Aside0.mk (blk_below (g := gb255) (o := .cells #[.string ((rd_T43 l0 x5_1).f0), .string ((rd_T43 l0 x5_1).f1), .string ((rd_T43 l0 x5_1).f2), .int .u64 ((rd_T43 l0 x5_1).f3), .int .i64 ((rd_T43 l0 x5_1).f4), .string ((rd_T43 l0 x5_1).f5)] 43 (0, 0)) (by (with_reducible repeat (first | refine blk_drewN ?_ _ | refine blk_drew ?_ | refine blk_alloc ?_ _)); refine blk_put (cs := #[.string ((rd_T43 l0 x5_1).f0), .string ((rd_T43 l0 x5_1).f1), .string ((rd_T43 l0 x5_1).f2), .int .u64 ((rd_T43 l0 x5_1).f3), .int .i64 ((rd_T43 l0 x5_1).f4), .string (⟨#[]⟩ : ByteArray)]) ?_ 5 _ rfl; (with_reducible repeat (first | refine blk_drewN ?_ _ | refine blk_drew ?_ | refine blk_alloc ?_ _)); refine blk_put (cs := #[.string ((rd_T43 l0 x5_1).f0), .string ((rd_T43 l0 x5_1).f1), .string ((rd_T43 l0 x5_1).f2), .int .u64 ((rd_T43 l0 x5_1).f3), .int .i64 0, .string (⟨#[]⟩ : ByteArray)]) ?_ 4 _ rfl; (with_reducible repeat (first | refine blk_drewN ?_ _ | refine blk_drew ?_ | refine blk_alloc ?_ _)); refine blk_put (cs := #[.string ((rd_T43 l0 x5_1).f0), .string ((rd_T43 l0 x5_1).f1), .string ((rd_T43 l0 x5_1).f2), .int .u64 0, .int .i64 0, .string (⟨#[]⟩ : ByteArray)]) ?_ 3 _ rfl; (with_reducible repeat (first | refine blk_drewN ?_ _ | refine blk_drew ?_ | refine blk_alloc ?_ _)); refine blk_put (cs := #[.string ((rd_T43 l0 x5_1).f0), .string ((rd_T43 l0 x5_1).f1), .string (⟨#[]⟩ : ByteArray), .int .u64 0, .int .i64 0, .string (⟨#[]⟩ : ByteArray)]) ?_ 2 _ rfl; (with_reducible repeat (first | refine blk_drewN ?_ _ | refine blk_drew ?_ | refine blk_alloc ?_ _)); refine blk_put (cs := #[.string ((rd_T43 l0 x5_1).f0), .string (⟨#[]⟩ : ByteArray), .string (⟨#[]⟩ : ByteArray), .int .u64 0, .int .i64 0, .string (⟨#[]⟩ : ByteArray)]) ?_ 1 _ rfl; (with_reducible repeat (first | refine blk_drewN ?_ _ | refine blk_drew ?_ | refine blk_alloc ?_ _)); refine blk_put (cs := #[.string (⟨#[]⟩ : ByteArray), .string (⟨#[]⟩ : ByteArray), .string (⟨#[]⟩ : ByteArray), .int .u64 0, .int .i64 0, .string (⟨#[]⟩ : ByteArray)]) ?_ 0 _ rfl; (with_reducible repeat (first | refine blk_drewN ?_ _ | refine blk_drew ?_ | refine blk_alloc ?_ _)); exact BK255.out) hb); have n4_ := Aside0.mk (below_step bw hb); clear HO_3; clear HO_4; clear BK255; clear HB; have HO_3 := n0_; have HO_4 := n1_; have HO258 := n2_; have BK255 := n3_; have HB := n4_; clear n0_ n1_ n2_ n3_ n4_; (try clear hb); (try clear hb2); (try clear hk); (try clear hi); (try clear ho0)))
       go_roundg k1
       case measure => have := HK1.out; omega
       case rel => exact ⟨(t256), (wrap64 (x5_1 + 1)), (by first | rfl | (simp; done) | (simp [*]; done)), H', ⟨by have := HK1.out; omega⟩, ⟨lf HO_3⟩, ⟨by (with_reducible repeat (first | apply Kd.R_alloc | apply Kd.R_drewN | apply Kd.R_drew)); exact Kd.R_mono HO258.out (fun _ hk => trivial)⟩, ⟨bw⟩⟩
      ·rw [if_neg c11] at H
       have c11b0 : (((rd_T43 l0 x5_1).f4) == 0) = false := beq_eq_false_iff_ne.mpr c11
       have c11b1 : (((rd_T43 l0 x5_1).f4) != 0) = true := bne_iff_ne.mpr c11
       obtain ⟨y259, hy259⟩ : ∃ y_ : List (S43), y_ = (([] : List (S43))) := ⟨_, rfl⟩
       replace H : (spec_Replay.l1 k1 l0 y247 x4_1 x5_1 y259 0 ((rd_T43 l0 x5_1).f0) ((rd_T43 l0 x5_1).f1) ((rd_T43 l0 x5_1).f2) ((rd_T43 l0 x5_1).f3) ((rd_T43 l0 x5_1).f4) ((rd_T43 l0 x5_1).f5)) = some r := by first | (rw [hy259]; with_reducible exact H) | (have H2_ := (Option.bind_some _ _).symm.trans H; rw [hy259]; with_reducible exact H2_) | (have H2_ := (Option.bind_some _ _).symm.trans H; with_reducible exact H2_) | with_reducible exact H | (rw [hy259]; exact H) | exact H
       have Ny259 := Aside0.mk hy259
       clear hy259
       have H' := Aside0.mk H
       clear H
       have p254 : 0 ≤ (x5_1 : Int) := of_decide_eq_true (by first | (with_reducible assumption) | assumption)
       have q254 : x5_1 < (l0.length : Int) := of_decide_eq_true (by first | (with_reducible assumption) | assumption)
       obtain ⟨ad254, e254, hx254_0, hx254_1, hx254_2, hx254_3, hx254_4, hx254_5⟩ := at_T43 HR0.out x5_1 p254 q254
       cases e254
       replace hx254_0 := (HB.out.cell (World.block_lt_of_cell? w _ hx254_0)).trans hx254_0
       replace hx254_1 := (HB.out.cell (World.block_lt_of_cell? w _ hx254_1)).trans hx254_1
       replace hx254_2 := (HB.out.cell (World.block_lt_of_cell? w _ hx254_2)).trans hx254_2
       replace hx254_3 := (HB.out.cell (World.block_lt_of_cell? w _ hx254_3)).trans hx254_3
       replace hx254_4 := (HB.out.cell (World.block_lt_of_cell? w _ hx254_4)).trans hx254_4
       replace hx254_5 := (HB.out.cell (World.block_lt_of_cell? w _ hx254_5)).trans hx254_5
       replace p254 := eq_true p254
       replace q254 := eq_true q254
       go_wp2_with (first | ((with_reducible refine gate_dst (N := 6) rfl ?_); refine box_event ?hg (N := 6) ?hd (cs := #[.string (⟨#[]⟩ : ByteArray), .string (⟨#[]⟩ : ByteArray), .string (⟨#[]⟩ : ByteArray), .int .u64 0, .int .i64 0, .string (⟨#[]⟩ : ByteArray)]) (t := 43) ?hr ?_; (case hd => rfl); (case hg => rfl); (case hr => first | (go_simp; done) | (go_simp; rfl)); intro gb255 hg w17 hbox hb; have n0_ := Aside0.mk (Kd.R_below (lf HO_3) hb); have n1_ := Aside0.mk (Kd.R_below (Kd.R_elderB (lf HO_4) gb255 (Nat.le_of_eq hg.symm)) hb); have n2_ := Aside0.mk (below_step bw hb); have n3_ := Aside0.mk (hbox); have n4_ := Aside0.mk ((by rw [hg]; exact (below_size bw) : w.heap.size ≤ gb255)); have n5_ := Aside0.mk ((by rw [hg]; exact (below_size bw) : w.heap.size ≤ gb255)); clear HO_3; clear HO_4; clear HB; have HO_3 := n0_; have HO_4 := n1_; have HB := n2_; have BK255 := n3_; have GW255 := n4_; have GE255 := n5_; clear n0_ n1_ n2_ n3_ n4_ n5_; clear hb hbox hg; have hcz18_0 : w17.cell? ⟨gb255, 0, none⟩ = some (.string (⟨#[]⟩ : ByteArray)) := (blk_cell BK255.out 0).trans rfl; have hcz18_1 : w17.cell? ⟨gb255, 1, none⟩ = some (.string (⟨#[]⟩ : ByteArray)) := (blk_cell BK255.out 1).trans rfl; have hcz18_2 : w17.cell? ⟨gb255, 2, none⟩ = some (.string (⟨#[]⟩ : ByteArray)) := (blk_cell BK255.out 2).trans rfl; have hcz18_3 : w17.cell? ⟨gb255, 3, none⟩ = some (.int .u64 0) := (blk_cell BK255.out 3).trans rfl; have hcz18_4 : w17.cell? ⟨gb255, 4, none⟩ = some (.int .i64 0) := (blk_cell BK255.out 4).trans rfl; have hcz18_5 : w17.cell? ⟨gb255, 5, none⟩ = some (.string (⟨#[]⟩ : ByteArray)) := (blk_cell BK255.out 5).trans rfl; have hfz18_0 := blk_frozen BK255.out 0; have hfz18_1 := blk_frozen BK255.out 1; have hfz18_2 := blk_frozen BK255.out 2; have hfz18_3 := blk_frozen BK255.out 3; have hfz18_4 := blk_frozen BK255.out 4; have hfz18_5 := blk_frozen BK255.out 5) | ((with_reducible refine gate_dst (N := 33) rfl ?_); refine Kd.R_lit k43 _ 43 ?hg (N := 33) ?hd (xs := ([] : List (S43))) (inner := []) (ok := fun _ => True) (okp := fun _ => True) ?hr ?hp (fun _ hk => hk) trivial (Below.refl _ _) (Nat.le_refl _) (by simp) ?_; (case hd => rfl); (case hg => rfl); (case hr => first | (go_simp; done) | (go_simp; rfl)); (case hp => exact (Reps.none _ _)); intro v260 w19 ho20 hb hg_ hnew_; clear hg_ hnew_; (first | rw [← Ny259.out] at ho20 | (simp only [Int.reduceToNat] at ho20; rw [← Ny259.out] at ho20)); have n0_ := Aside0.mk (Kd.R_below (by (with_reducible repeat (first | apply Kd.R_alloc | apply Kd.R_drewN | apply Kd.R_drew)); exact (Kd.R_mono (Kd.R_far (p := ⟨gb255, 5, none⟩) (Kd.R_far (p := ⟨gb255, 4, none⟩) (Kd.R_far (p := ⟨gb255, 3, none⟩) (Kd.R_far (p := ⟨gb255, 2, none⟩) (Kd.R_far (p := ⟨gb255, 1, none⟩) (Kd.R_far (p := ⟨gb255, 0, none⟩) (Kd.R_types HO_3.out BK255.out (by decide)) (fun _ hk => hk.2) (.string ((rd_T43 l0 x5_1).f0))) (fun _ hk => hk.2) (.string ((rd_T43 l0 x5_1).f1))) (fun _ hk => hk.2) (.string ((rd_T43 l0 x5_1).f2))) (fun _ hk => hk.2) (.int .u64 ((rd_T43 l0 x5_1).f3))) (fun _ hk => hk.2) (.int .i64 ((rd_T43 l0 x5_1).f4))) (fun _ hk => hk.2) (.string ((rd_T43 l0 x5_1).f5))) (fun _ h_ => h_.1))) hb); have n1_ := Aside0.mk (Kd.R_elder' (by (with_reducible repeat (first | apply Kd.R_alloc | apply Kd.R_drewN | apply Kd.R_drew)); exact (Kd.R_mono (Kd.R_far (p := ⟨gb255, 5, none⟩) (Kd.R_far (p := ⟨gb255, 4, none⟩) (Kd.R_far (p := ⟨gb255, 3, none⟩) (Kd.R_far (p := ⟨gb255, 2, none⟩) (Kd.R_far (p := ⟨gb255, 1, none⟩) (Kd.R_far (p := ⟨gb255, 0, none⟩) (Kd.R_mono HO_4.out (fun k_ hk => (⟨hk, hk.2⟩ : _ ∧ k_ ≠ gb255))) (fun _ hk => hk.2) (.string ((rd_T43 l0 x5_1).f0))) (fun _ hk => hk.2) (.string ((rd_T43 l0 x5_1).f1))) (fun _ hk => hk.2) (.string ((rd_T43 l0 x5_1).f2))) (fun _ hk => hk.2) (.int .u64 ((rd_T43 l0 x5_1).f3))) (fun _ hk => hk.2) (.int .i64 ((rd_T43 l0 x5_1).f4))) (fun _ hk => hk.2) (.string ((rd_T43 l0 x5_1).f5))) (fun _ h_ => h_.1))) (Kd.R_base ho20) hb); have n2_ := Aside0.mk (Kd.R_lower (Kd.R_newB (Kd.R_new' ho20 (Kd.R_lt (by (with_reducible repeat (first | apply Kd.R_alloc | apply Kd.R_drewN | apply Kd.R_drew)); exact (Kd.R_mono (Kd.R_far (p := ⟨gb255, 5, none⟩) (Kd.R_far (p := ⟨gb255, 4, none⟩) (Kd.R_far (p := ⟨gb255, 3, none⟩) (Kd.R_far (p := ⟨gb255, 2, none⟩) (Kd.R_far (p := ⟨gb255, 1, none⟩) (Kd.R_far (p := ⟨gb255, 0, none⟩) (Kd.R_mono HO_4.out (fun k_ hk => (⟨hk, hk.2⟩ : _ ∧ k_ ≠ gb255))) (fun _ hk => hk.2) (.string ((rd_T43 l0 x5_1).f0))) (fun _ hk => hk.2) (.string ((rd_T43 l0 x5_1).f1))) (fun _ hk => hk.2) (.string ((rd_T43 l0 x5_1).f2))) (fun _ hk => hk.2) (.int .u64 ((rd_T43 l0 x5_1).f3))) (fun _ hk => hk.2) (.int .i64 ((rd_T43 l0 x5_1).f4))) (fun _ hk => hk.2) (.string ((rd_T43 l0 x5_1).f5))) (fun _ h_ => h_.1))))) (g := gb255) (o := .cells #[.string ((rd_T43 l0 x5_1).f0), .string ((rd_T43 l0 x5_1).f1), .string ((rd_T43 l0 x5_1).f2), .int .u64 ((rd_T43 l0 x5_1).f3), .int .i64 ((rd_T43 l0 x5_1).f4), .string ((rd_T43 l0 x5_1).f5)] 43 (0, 0)) (by (with_reducible repeat (first | refine blk_drewN ?_ _ | refine blk_drew ?_ | refine blk_alloc ?_ _)); refine blk_put (cs := #[.string ((rd_T43 l0 x5_1).f0), .string ((rd_T43 l0 x5_1).f1), .string ((rd_T43 l0 x5_1).f2), .int .u64 ((rd_T43 l0 x5_1).f3), .int .i64 ((rd_T43 l0 x5_1).f4), .string (⟨#[]⟩ : ByteArray)]) ?_ 5 _ rfl; (with_reducible repeat (first | refine blk_drewN ?_ _ | refine blk_drew ?_ | refine blk_alloc ?_ _)); refine blk_put (cs := #[.string ((rd_T43 l0 x5_1).f0), .string ((rd_T43 l0 x5_1).f1), .string ((rd_T43 l0 x5_1).f2), .int .u64 ((rd_T43 l0 x5_1).f3), .int .i64 0, .string (⟨#[]⟩ : ByteArray)]) ?_ 4 _ rfl; (with_reducible repeat (first | refine blk_drewN ?_ _ | refine blk_drew ?_ | refine blk_alloc ?_ _)); refine blk_put (cs := #[.string ((rd_T43 l0 x5_1).f0), .string ((rd_T43 l0 x5_1).f1), .string ((rd_T43 l0 x5_1).f2), .int .u64 0, .int .i64 0, .string (⟨#[]⟩ : ByteArray)]) ?_ 3 _ rfl; (with_reducible repeat (first | refine blk_drewN ?_ _ | refine blk_drew ?_ | refine blk_alloc ?_ _)); refine blk_put (cs := #[.string ((rd_T43 l0 x5_1).f0), .string ((rd_T43 l0 x5_1).f1), .string (⟨#[]⟩ : ByteArray), .int .u64 0, .int .i64 0, .string (⟨#[]⟩ : ByteArray)]) ?_ 2 _ rfl; (with_reducible repeat (first | refine blk_drewN ?_ _ | refine blk_drew ?_ | refine blk_alloc ?_ _)); refine blk_put (cs := #[.string ((rd_T43 l0 x5_1).f0), .string (⟨#[]⟩ : ByteArray), .string (⟨#[]⟩ : ByteArray), .int .u64 0, .int .i64 0, .string (⟨#[]⟩ : ByteArray)]) ?_ 1 _ rfl; (with_reducible repeat (first | refine blk_drewN ?_ _ | refine blk_drew ?_ | refine blk_alloc ?_ _)); refine blk_put (cs := #[.string (⟨#[]⟩ : ByteArray), .string (⟨#[]⟩ : ByteArray), .string (⟨#[]⟩ : ByteArray), .int .u64 0, .int .i64 0, .string (⟨#[]⟩ : ByteArray)]) ?_ 0 _ rfl; (with_reducible repeat (first | refine blk_drewN ?_ _ | refine blk_drew ?_ | refine blk_alloc ?_ _)); exact BK255.out)) (below_size bw)); have n3_ := Aside0.mk (blk_below (g := gb255) (o := .cells #[.string ((rd_T43 l0 x5_1).f0), .string ((rd_T43 l0 x5_1).f1), .string ((rd_T43 l0 x5_1).f2), .int .u64 ((rd_T43 l0 x5_1).f3), .int .i64 ((rd_T43 l0 x5_1).f4), .string ((rd_T43 l0 x5_1).f5)] 43 (0, 0)) (by (with_reducible repeat (first | refine blk_drewN ?_ _ | refine blk_drew ?_ | refine blk_alloc ?_ _)); refine blk_put (cs := #[.string ((rd_T43 l0 x5_1).f0), .string ((rd_T43 l0 x5_1).f1), .string ((rd_T43 l0 x5_1).f2), .int .u64 ((rd_T43 l0 x5_1).f3), .int .i64 ((rd_T43 l0 x5_1).f4), .string (⟨#[]⟩ : ByteArray)]) ?_ 5 _ rfl; (with_reducible repeat (first | refine blk_drewN ?_ _ | refine blk_drew ?_ | refine blk_alloc ?_ _)); refine blk_put (cs := #[.string ((rd_T43 l0 x5_1).f0), .string ((rd_T43 l0 x5_1).f1), .string ((rd_T43 l0 x5_1).f2), .int .u64 ((rd_T43 l0 x5_1).f3), .int .i64 0, .string (⟨#[]⟩ : ByteArray)]) ?_ 4 _ rfl; (with_reducible repeat (first | refine blk_drewN ?_ _ | refine blk_drew ?_ | refine blk_alloc ?_ _)); refine blk_put (cs := #[.string ((rd_T43 l0 x5_1).f0), .string ((rd_T43 l0 x5_1).f1), .string ((rd_T43 l0 x5_1).f2), .int .u64 0, .int .i64 0, .string (⟨#[]⟩ : ByteArray)]) ?_ 3 _ rfl; (with_reducible repeat (first | refine blk_drewN ?_ _ | refine blk_drew ?_ | refine blk_alloc ?_ _)); refine blk_put (cs := #[.string ((rd_T43 l0 x5_1).f0), .string ((rd_T43 l0 x5_1).f1), .string (⟨#[]⟩ : ByteArray), .int .u64 0, .int .i64 0, .string (⟨#[]⟩ : ByteArray)]) ?_ 2 _ rfl; (with_reducible repeat (first | refine blk_drewN ?_ _ | refine blk_drew ?_ | refine blk_alloc ?_ _)); refine blk_put (cs := #[.string ((rd_T43 l0 x5_1).f0), .string (⟨#[]⟩ : ByteArray), .string (⟨#[]⟩ : ByteArray), .int .u64 0, .int .i64 0, .string (⟨#[]⟩ : ByteArray)]) ?_ 1 _ rfl; (with_reducible repeat (first | refine blk_drewN ?_ _ | refine blk_drew ?_ | refine blk_alloc ?_ _)); refine blk_put (cs := #[.string (⟨#[]⟩ : ByteArray), .string (⟨#[]⟩ : ByteArray), .string (⟨#[]⟩ : ByteArray), .int .u64 0, .int .i64 0, .string (⟨#[]⟩ : ByteArray)]) ?_ 0 _ rfl; (with_reducible repeat (first | refine blk_drewN ?_ _ | refine blk_drew ?_ | refine blk_alloc ?_ _)); exact BK255.out) hb); have n4_ := Aside0.mk (below_step bw hb); clear HO_3; clear HO_4; clear BK255; clear HB; have HO_3 := n0_; have HO_4 := n1_; have HO261 := n2_; have BK255 := n3_; have HB := n4_; clear n0_ n1_ n2_ n3_ n4_; clear hb ho20))
       go_loopg [7, 8] k1 (fun kq v7 v8 w' => ∃ (x7_2 : List (S43)) (x8_2 : Int), v8 = .int .i64 x8_2 ∧ Aside0 (spec_Replay.l1 kq l0 y247 x4_1 x5_1 x7_2 x8_2 ((rd_T43 l0 x5_1).f0) ((rd_T43 l0 x5_1).f1) ((rd_T43 l0 x5_1).f2) ((rd_T43 l0 x5_1).f3) ((rd_T43 l0 x5_1).f4) ((rd_T43 l0 x5_1).f5) = some r) ∧ Aside0 (kq ≤ k1) ∧ Aside0 (Kd.R k61 61 w' w.heap.size (fun _ => True) v248 y247) ∧ Aside0 (Kd.R k43 43 w' w.heap.size (fun k_ => some k_ ≠ (v7 : Value).ownBlock ∧ k_ ≠ gb255) u4 x4_1) ∧ Aside0 (Kd.R k43 43 w' w.heap.size (fun k_ => some k_ ≠ (u4 : Value).ownBlock ∧ k_ ≠ gb255) v7 x7_2) ∧ Aside0 (w'.heap[gb255]? = some (.cells #[.string ((rd_T43 l0 x5_1).f0), .string ((rd_T43 l0 x5_1).f1), .string ((rd_T43 l0 x5_1).f2), .int .u64 ((rd_T43 l0 x5_1).f3), .int .i64 ((rd_T43 l0 x5_1).f4), .string ((rd_T43 l0 x5_1).f5)] 43 (0, 0))) ∧ Aside0 (Below w.heap.size w w'))
       case atStart => exact ⟨(y259), (0), (by first | rfl | (simp; done) | (simp [*]; done)), H', ⟨Nat.le_refl _⟩, ⟨lf HO_3⟩, ⟨by (with_reducible repeat (first | apply Kd.R_alloc | apply Kd.R_drewN | apply Kd.R_drew)); exact Kd.R_mono HO_4.out (fun _ hk => ⟨hk.2, hk.1.2⟩)⟩, ⟨by (with_reducible repeat (first | apply Kd.R_alloc | apply Kd.R_drewN | apply Kd.R_drew)); exact Kd.R_mono HO261.out (fun _ hk => ⟨hk.1.2, hk.2⟩)⟩, ⟨lb BK255⟩, ⟨bw⟩⟩
       case round =>
        clear H'
        try clear c1
        try clear c2
        try clear p2
        try clear q2
        try clear hx2
        try clear c3
        try clear p6
        try clear c9
        try clear c9b0
        try clear c10
        try clear c10b0
        try clear c11
        try clear c11b0
        try clear c11b1
        try clear c14
        try clear c20
        try clear hcz14_0
        try clear hcz14_1
        try clear hcz14_2
        try clear hcz14_3
        try clear hcz14_4
        try clear hcz14_5
        try clear hcz18_0
        try clear hcz18_1
        try clear hcz18_2
        try clear hcz18_3
        try clear hcz18_4
        try clear hcz18_5
        try clear hfz14_0
        try clear hfz14_1
        try clear hfz14_2
        try clear hfz14_3
        try clear hfz14_4
        try clear hfz14_5
        try clear hfz18_0
        try clear hfz18_1
        try clear hfz18_2
        try clear hfz18_3
        try clear hfz18_4
        try clear hfz18_5
        try clear hx254_0
        try clear hx254_1
        try clear hx254_2
        try clear hx254_3
        try clear hx254_4
        try clear hx254_5
        try clear p2
        try clear p254
        try clear q254
        obtain ⟨x7_2, x8_2, rfl, HA, HK2, HO_3, HO_4, HO_7, BK255, HB⟩ := hrel
        cases gk with
        | zero => exact absurd HA.out (by simp [spec_Replay.l1])
        | succ k2 =>
         have H := HA.out
         clear HA
         simp only [spec_Replay.l1] at H
         by_cases c21 : x8_2 < (x4_1.length : Int)
         ·rw [if_pos c21] at H
          have c21b0 : decide (x8_2 < (x4_1.length : Int)) = true := decide_eq_true c21
          clear c21
          have HC22 := Aside0.mk H
          clear H
          obtain ⟨Ao23, co23, eo23⟩ := Kd.R_slice HO_4.out
          subst eo23
          go_upto_region 15 with (fail)
          go_cut [9] (fun v9 wc => ∃ (kq : Nat) (x9_21 : Bool), v9 = .bool x9_21 ∧ Aside0 (spec_Replay.j2 kq l0 y247 x4_1 x5_1 x7_2 x8_2 x9_21 ((rd_T43 l0 x5_1).f0) ((rd_T43 l0 x5_1).f1) ((rd_T43 l0 x5_1).f2) ((rd_T43 l0 x5_1).f3) ((rd_T43 l0 x5_1).f4) ((rd_T43 l0 x5_1).f5) = some r) ∧ Aside0 (kq ≤ k2) ∧ Aside0 (Kd.R k61 61 wc w.heap.size (fun _ => True) v248 y247) ∧ Aside0 (Kd.R k43 43 wc w.heap.size (fun k_ => some k_ ≠ (u7 : Value).ownBlock ∧ k_ ≠ gb255) (.slice Ao23 x4_1.length co23) x4_1) ∧ Aside0 (Kd.R k43 43 wc w.heap.size (fun k_ => some k_ ≠ ((.slice Ao23 x4_1.length co23) : Value).ownBlock ∧ k_ ≠ gb255) u7 x7_2) ∧ Aside0 (wc.heap[gb255]? = some (.cells #[.string ((rd_T43 l0 x5_1).f0), .string ((rd_T43 l0 x5_1).f1), .string ((rd_T43 l0 x5_1).f2), .int .u64 ((rd_T43 l0 x5_1).f3), .int .i64 ((rd_T43 l0 x5_1).f4), .string ((rd_T43 l0 x5_1).f5)] 43 (0, 0))) ∧ Aside0 (Below w.heap.size w wc))
          case first =>
           have H := HC22.out
           clear HC22
           by_cases c24 : 0 ≤ x8_2
           ·rw [if_pos c24] at H
            have c24b0 : decide (0 ≤ x8_2) = true := decide_eq_true c24
            clear c24
            (first | rw [c24b0] | (simp only [i64_w, i32_w]; rw [c24b0]) | skip)
            replace H := Option.bind_eq_some_iff.mp H
            obtain ⟨t263, A250, H⟩ := H
            replace H : (if t263 = true then (if ((rd_T43 x4_1 x8_2).f3) = ((rd_T43 l0 x5_1).f3) then (spec_Replay.j2 k2 l0 y247 x4_1 x5_1 x7_2 x8_2 true ((rd_T43 l0 x5_1).f0) ((rd_T43 l0 x5_1).f1) ((rd_T43 l0 x5_1).f2) ((rd_T43 l0 x5_1).f3) ((rd_T43 l0 x5_1).f4) ((rd_T43 l0 x5_1).f5)) else (if ((rd_T43 l0 x5_1).f4) = 2 then (spec_Replay.j2 k2 l0 y247 x4_1 x5_1 x7_2 x8_2 (decide (((rd_T43 x4_1 x8_2).f3) ≤ ((rd_T43 l0 x5_1).f3))) ((rd_T43 l0 x5_1).f0) ((rd_T43 l0 x5_1).f1) ((rd_T43 l0 x5_1).f2) ((rd_T43 l0 x5_1).f3) ((rd_T43 l0 x5_1).f4) ((rd_T43 l0 x5_1).f5)) else (spec_Replay.j2 k2 l0 y247 x4_1 x5_1 x7_2 x8_2 false ((rd_T43 l0 x5_1).f0) ((rd_T43 l0 x5_1).f1) ((rd_T43 l0 x5_1).f2) ((rd_T43 l0 x5_1).f3) ((rd_T43 l0 x5_1).f4) ((rd_T43 l0 x5_1).f5)))) else (spec_Replay.j2 k2 l0 y247 x4_1 x5_1 x7_2 x8_2 false ((rd_T43 l0 x5_1).f0) ((rd_T43 l0 x5_1).f1) ((rd_T43 l0 x5_1).f2) ((rd_T43 l0 x5_1).f3) ((rd_T43 l0 x5_1).f4) ((rd_T43 l0 x5_1).f5))) = some r := H
            have A25 := Aside0.mk A250
            clear A250
            by_cases c26 : t263 = true
            ·subst c26
             have H1 : (if ((rd_T43 x4_1 x8_2).f3) = ((rd_T43 l0 x5_1).f3) then (spec_Replay.j2 k2 l0 y247 x4_1 x5_1 x7_2 x8_2 true ((rd_T43 l0 x5_1).f0) ((rd_T43 l0 x5_1).f1) ((rd_T43 l0 x5_1).f2) ((rd_T43 l0 x5_1).f3) ((rd_T43 l0 x5_1).f4) ((rd_T43 l0 x5_1).f5)) else (if ((rd_T43 l0 x5_1).f4) = 2 then (spec_Replay.j2 k2 l0 y247 x4_1 x5_1 x7_2 x8_2 (decide (((rd_T43 x4_1 x8_2).f3) ≤ ((rd_T43 l0 x5_1).f3))) ((rd_T43 l0 x5_1).f0) ((rd_T43 l0 x5_1).f1) ((rd_T43 l0 x5_1).f2) ((rd_T43 l0 x5_1).f3) ((rd_T43 l0 x5_1).f4) ((rd_T43 l0 x5_1).f5)) else (spec_Replay.j2 k2 l0 y247 x4_1 x5_1 x7_2 x8_2 false ((rd_T43 l0 x5_1).f0) ((rd_T43 l0 x5_1).f1) ((rd_T43 l0 x5_1).f2) ((rd_T43 l0 x5_1).f3) ((rd_T43 l0 x5_1).f4) ((rd_T43 l0 x5_1).f5)))) = some r := by rw [if_pos rfl] at H; exact H
             clear H
             have H := H1
             clear H1
             by_cases c27 : ((rd_T43 x4_1 x8_2).f3) = ((rd_T43 l0 x5_1).f3)
             ·rw [if_pos c27] at H
              have c27b0 : (((rd_T43 x4_1 x8_2).f3) == ((rd_T43 l0 x5_1).f3)) = true := beq_iff_eq.mpr c27
              have c27b1 : (((rd_T43 x4_1 x8_2).f3) != ((rd_T43 l0 x5_1).f3)) = false := bne_eq_false_iff_eq.mpr c27
              clear c27
              have H' := Aside0.mk H
              clear H
              try go_wp2
              have n0_ := Aside0.mk (Kd.R_drew HO_3.out)
              have n1_ := Aside0.mk (Kd.R_drew HO_4.out)
              have n2_ := Aside0.mk (Kd.R_drew HO_7.out)
              have n3_ := Aside0.mk (blk_drew BK255.out)
              have n4_ := Aside0.mk (below_drew1 HB.out)
              clear HO_3
              clear HO_4
              clear HO_7
              clear BK255
              clear HB
              have HO_3 := n0_
              have HO_4 := n1_
              have HO_7 := n2_
              have BK255 := n3_
              have HB := n4_
              clear n0_ n1_ n2_ n3_ n4_
              have p262 : 0 ≤ (x8_2 : Int) := of_decide_eq_true (by first | (with_reducible assumption) | assumption)
              have q262 : x8_2 < (x4_1.length : Int) := of_decide_eq_true (by first | (with_reducible assumption) | assumption)
              obtain ⟨ad262, e262, hx262_0, hx262_1, hx262_2, hx262_3, hx262_4, hx262_5⟩ := at_T43 (Kd.R_reads' HO_4.out).2.2 x8_2 p262 q262
              cases e262
              replace p262 := eq_true p262
              replace q262 := eq_true q262
              have p264 : 0 ≤ (x8_2 : Int) := of_decide_eq_true (by first | (with_reducible assumption) | assumption)
              have q264 : x8_2 < (x4_1.length : Int) := of_decide_eq_true (by first | (with_reducible assumption) | assumption)
              obtain ⟨ad264, e264, hx264_0, hx264_1, hx264_2, hx264_3, hx264_4, hx264_5⟩ := at_T43 (Kd.R_reads' HO_4.out).2.2 x8_2 p264 q264
              obtain rfl : ad262 = ad264 := (by injection e264)
              replace p264 := eq_true p264
              replace q264 := eq_true q264
              refine start_ (n := 32) (S := fun w' => w'.cell? ⟨gb255, 0, none⟩ = some (.string ((rd_T43 l0 x5_1).f0)) ∧ w'.cell? ⟨gb255, 1, none⟩ = some (.string ((rd_T43 l0 x5_1).f1)) ∧ w'.cell? ⟨gb255, 2, none⟩ = some (.string ((rd_T43 l0 x5_1).f2)) ∧ w'.cell? ⟨gb255, 3, none⟩ = some (.int .u64 ((rd_T43 l0 x5_1).f3)) ∧ w'.cell? ⟨gb255, 4, none⟩ = some (.int .i64 ((rd_T43 l0 x5_1).f4)) ∧ w'.cell? ⟨gb255, 5, none⟩ = some (.string ((rd_T43 l0 x5_1).f5)) ∧ w'.cell? (ad262.add ((x8_2).toNat * 6)) = some (.string ((rd_T43 x4_1 x8_2).f0)) ∧ w'.cell? ⟨(ad262.add ((x8_2).toNat * 6)).block, (ad262.add ((x8_2).toNat * 6)).off + 1, none⟩ = some (.string ((rd_T43 x4_1 x8_2).f1)) ∧ w'.cell? ⟨(ad262.add ((x8_2).toNat * 6)).block, (ad262.add ((x8_2).toNat * 6)).off + 2, none⟩ = some (.string ((rd_T43 x4_1 x8_2).f2)) ∧ w'.cell? ⟨(ad262.add ((x8_2).toNat * 6)).block, (ad262.add ((x8_2).toNat * 6)).off + 3, none⟩ = some (.int .u64 ((rd_T43 x4_1 x8_2).f3)) ∧ w'.cell? ⟨(ad262.add ((x8_2).toNat * 6)).block, (ad262.add ((x8_2).toNat * 6)).off + 4, none⟩ = some (.int .i64 ((rd_T43 x4_1 x8_2).f4)) ∧ w'.cell? ⟨(ad262.add ((x8_2).toNat * 6)).block, (ad262.add ((x8_2).toNat * 6)).off + 5, none⟩ = some (.string ((rd_T43 x4_1 x8_2).f5)) ∧ w'.cell? (ad262.add ((x8_2).toNat * 6)) = some (.string ((rd_T43 x4_1 x8_2).f0)) ∧ w'.cell? ⟨(ad262.add ((x8_2).toNat * 6)).block, (ad262.add ((x8_2).toNat * 6)).off + 1, none⟩ = some (.string ((rd_T43 x4_1 x8_2).f1)) ∧ w'.cell? ⟨(ad262.add ((x8_2).toNat * 6)).block, (ad262.add ((x8_2).toNat * 6)).off + 2, none⟩ = some (.string ((rd_T43 x4_1 x8_2).f2)) ∧ w'.cell? ⟨(ad262.add ((x8_2).toNat * 6)).block, (ad262.add ((x8_2).toNat * 6)).off + 3, none⟩ = some (.int .u64 ((rd_T43 x4_1 x8_2).f3)) ∧ w'.cell? ⟨(ad262.add ((x8_2).toNat * 6)).block, (ad262.add ((x8_2).toNat * 6)).off + 4, none⟩ = some (.int .i64 ((rd_T43 x4_1 x8_2).f4)) ∧ w'.cell? ⟨(ad262.add ((x8_2).toNat * 6)).block, (ad262.add ((x8_2).toNat * 6)).off + 5, none⟩ = some (.string ((rd_T43 x4_1 x8_2).f5))) (ds := []) #[false, false, false, false, false, false, false, false, false, false, false, false, false, false, false, false, false, false, false, false, false, false, false, false, false, false, false, false, false, false, false, false] (by kernel_rfl) rfl rfl ⟨(blk_cell BK255.out 0).trans rfl, (blk_cell BK255.out 1).trans rfl, (blk_cell BK255.out 2).trans rfl, (blk_cell BK255.out 3).trans rfl, (blk_cell BK255.out 4).trans rfl, (blk_cell BK255.out 5).trans rfl, hx262_0, hx262_1, hx262_2, hx262_3, hx262_4, hx262_5, hx264_0, hx264_1, hx264_2, hx264_3, hx264_4, hx264_5⟩ (fun hHeld => ?_); refine with_tabW spec_Replay.tab15 spec_Replay.bits15 (fun HT_ HW_ => ?_)
              generalize wr.drew = w28 at HO_3 HO_4 HO_7 BK255 HB hx262_0 hx262_1 hx262_2 hx262_3 hx262_4 hx262_5 hx264_0 hx264_1 hx264_2 hx264_3 hx264_4 hx264_5 hHeld ⊢
              refine pure_ (i := 0) (N := some 40) (v := ?_) (a' := ?_) #[true, false, false, false, false, false, false, false, false, false, false, false, false, false, false, false, false, false, false, false, false, false, false, false, false, false, false, false, false, false, false, false] rfl rfl (any_of HT_.out (by kernel_rfl)) (fun _ _ _ h => h) (Or.inl ⟨by rfl, ?_⟩) ?_ ?_
              rotate_left
              ·intro w'
               go_simp
               with_reducible rfl
              rotate_left
              ·simp only [Act.put, List.setIfInBounds_toArray, List.set_cons_zero, List.set_cons_succ, i64_w, i32_w]
               rfl
              refine pure_ (i := 1) (N := some 41) (v := ?_) (a' := ?_) #[true, true, false, false, false, false, false, false, false, false, false, false, false, false, false, false, false, false, false, false, false, false, false, false, false, false, false, false, false, false, false, false] rfl rfl (any_of HT_.out (by kernel_rfl)) (fun _ _ _ h => h) (Or.inl ⟨by rfl, ?_⟩) ?_ ?_
              rotate_left
              ·intro w'
               go_simp
               with_reducible rfl
              rotate_left
              ·simp only [Act.put, List.setIfInBounds_toArray, List.set_cons_zero, List.set_cons_succ, i64_w, i32_w]
               rfl
              refine pure_ (i := 2) (N := some 42) (v := ?_) (a' := ?_) #[true, true, true, false, false, false, false, false, false, false, false, false, false, false, false, false, false, false, false, false, false, false, false, false, false, false, false, false, false, false, false, false] rfl rfl (any_of HT_.out (by kernel_rfl)) (fun _ _ _ h => h) (Or.inl ⟨by rfl, ?_⟩) ?_ ?_
              rotate_left
              ·intro w'
               go_simp
               with_reducible rfl
              rotate_left
              ·simp only [Act.put, List.setIfInBounds_toArray, List.set_cons_zero, List.set_cons_succ, i64_w, i32_w]
               rfl
              refine take_ (i := 3) (N := some 43) (v := ?_) (a' := ?_) #[true, true, true, true, false, false, false, false, false, false, false, false, false, false, false, false, false, false, false, false, false, false, false, false, false, false, false, false, false, false, false, false] rfl rfl (take_ofW HT_.out HW_.out (by kernel_rfl)) (fun _ _ _ h => h) (Or.inl ⟨by rfl, ?_⟩) hHeld ?_ ?_
              rotate_left
              ·rintro w' ⟨s0, s1, s2, s3, s4, s5, s6, s7, s8, s9, s10, s11, s12, s13, s14, s15, s16, s17⟩
               go_simp
               with_reducible rfl
              rotate_left
              ·simp only [Act.put, List.setIfInBounds_toArray, List.set_cons_zero, List.set_cons_succ, i64_w, i32_w]
               rfl
              refine take_ (i := 4) (N := some 44) (v := ?_) (a' := ?_) #[true, true, true, true, true, false, false, false, false, false, false, false, false, false, false, false, false, false, false, false, false, false, false, false, false, false, false, false, false, false, false, false] rfl rfl (take_ofW HT_.out HW_.out (by kernel_rfl)) (fun _ _ _ h => h) (Or.inl ⟨by rfl, ?_⟩) hHeld ?_ ?_
              rotate_left
              ·rintro w' ⟨s0, s1, s2, s3, s4, s5, s6, s7, s8, s9, s10, s11, s12, s13, s14, s15, s16, s17⟩
               go_simp
               with_reducible rfl
              rotate_left
              ·simp only [Act.put, List.setIfInBounds_toArray, List.set_cons_zero, List.set_cons_succ, i64_w, i32_w]
               rfl
              refine one_ (i := 5) (N := some 45) #[true, true, true, true, true, true, false, false, false, false, false, false, false, false, false, false, false, false, false, false, false, false, false, false, false, false, false, false, false, false, false, false] rfl rfl (one_of HT_.out (by kernel_rfl)) (by decide) (fun K hK => ?_)
              refine goes_ Try.func23 (by kernel_rfl) rfl #[.agg #[.string ((rd_T43 x4_1 x8_2).f0), .string ((rd_T43 x4_1 x8_2).f1), .string ((rd_T43 x4_1 x8_2).f2), .int .u64 ((rd_T43 x4_1 x8_2).f3), .int .i64 ((rd_T43 x4_1 x8_2).f4), .string ((rd_T43 x4_1 x8_2).f5)], .agg #[.string ((rd_T43 l0 x5_1).f0), .string ((rd_T43 l0 x5_1).f1), .string ((rd_T43 l0 x5_1).f2), .int .u64 ((rd_T43 l0 x5_1).f3), .int .i64 ((rd_T43 l0 x5_1).f4), .string ((rd_T43 l0 x5_1).f5)]] (by rfl) rfl rfl (by (try simp only [List.map_toArray, List.map_cons, List.map_nil]); first | done | rfl | (simp only [List.length_drop, List.length_take]; rfl)) ?_
              with_reducible refine (spec_l1SameColumn.calls ((rd_T43 x4_1 x8_2).f0) ((rd_T43 x4_1 x8_2).f1) ((rd_T43 x4_1 x8_2).f2) ((rd_T43 x4_1 x8_2).f3) ((rd_T43 x4_1 x8_2).f4) ((rd_T43 x4_1 x8_2).f5) ((rd_T43 l0 x5_1).f0) ((rd_T43 l0 x5_1).f1) ((rd_T43 l0 x5_1).f2) ((rd_T43 l0 x5_1).f3) ((rd_T43 l0 x5_1).f4) ((rd_T43 l0 x5_1).f5) true _ A25.out).mono ?_
              rintro e w29 ⟨rfl, hb⟩
              have HS6_ := (hb.cell (World.block_lt_of_cell? _ _ (hHeld.2.2.2.2.2.2.1))).trans (hHeld.2.2.2.2.2.2.1)
              have HS7_ := (hb.cell (World.block_lt_of_cell? _ _ (hHeld.2.2.2.2.2.2.2.1))).trans (hHeld.2.2.2.2.2.2.2.1)
              have HS8_ := (hb.cell (World.block_lt_of_cell? _ _ (hHeld.2.2.2.2.2.2.2.2.1))).trans (hHeld.2.2.2.2.2.2.2.2.1)
              have HS9_ := (hb.cell (World.block_lt_of_cell? _ _ (hHeld.2.2.2.2.2.2.2.2.2.1))).trans (hHeld.2.2.2.2.2.2.2.2.2.1)
              have HS10_ := (hb.cell (World.block_lt_of_cell? _ _ (hHeld.2.2.2.2.2.2.2.2.2.2.1))).trans (hHeld.2.2.2.2.2.2.2.2.2.2.1)
              have HS11_ := (hb.cell (World.block_lt_of_cell? _ _ (hHeld.2.2.2.2.2.2.2.2.2.2.2.1))).trans (hHeld.2.2.2.2.2.2.2.2.2.2.2.1)
              have HS12_ := (hb.cell (World.block_lt_of_cell? _ _ (hHeld.2.2.2.2.2.2.2.2.2.2.2.2.1))).trans (hHeld.2.2.2.2.2.2.2.2.2.2.2.2.1)
              have HS13_ := (hb.cell (World.block_lt_of_cell? _ _ (hHeld.2.2.2.2.2.2.2.2.2.2.2.2.2.1))).trans (hHeld.2.2.2.2.2.2.2.2.2.2.2.2.2.1)
              have HS14_ := (hb.cell (World.block_lt_of_cell? _ _ (hHeld.2.2.2.2.2.2.2.2.2.2.2.2.2.2.1))).trans (hHeld.2.2.2.2.2.2.2.2.2.2.2.2.2.2.1)
              have HS15_ := (hb.cell (World.block_lt_of_cell? _ _ (hHeld.2.2.2.2.2.2.2.2.2.2.2.2.2.2.2.1))).trans (hHeld.2.2.2.2.2.2.2.2.2.2.2.2.2.2.2.1)
              have HS16_ := (hb.cell (World.block_lt_of_cell? _ _ (hHeld.2.2.2.2.2.2.2.2.2.2.2.2.2.2.2.2.1))).trans (hHeld.2.2.2.2.2.2.2.2.2.2.2.2.2.2.2.2.1)
              have HS17_ := (hb.cell (World.block_lt_of_cell? _ _ (hHeld.2.2.2.2.2.2.2.2.2.2.2.2.2.2.2.2.2))).trans (hHeld.2.2.2.2.2.2.2.2.2.2.2.2.2.2.2.2.2)
              refine ⟨_, rfl, ?_⟩
              have n0_ := Aside0.mk (Kd.R_below (lf HO_3) hb)
              have n1_ := Aside0.mk (Kd.R_below (lf HO_4) hb)
              have n2_ := Aside0.mk (Kd.R_below (lf HO_7) hb)
              have n3_ := Aside0.mk (blk_below (g := gb255) (o := .cells #[.string ((rd_T43 l0 x5_1).f0), .string ((rd_T43 l0 x5_1).f1), .string ((rd_T43 l0 x5_1).f2), .int .u64 ((rd_T43 l0 x5_1).f3), .int .i64 ((rd_T43 l0 x5_1).f4), .string ((rd_T43 l0 x5_1).f5)] 43 (0, 0)) (lb BK255) hb)
              have n4_ := Aside0.mk (below_step bw hb)
              clear HO_3
              clear HO_4
              clear HO_7
              clear BK255
              clear HB
              have HO_3 := n0_
              have HO_4 := n1_
              have HO_7 := n2_
              have BK255 := n3_
              have HB := n4_
              clear n0_ n1_ n2_ n3_ n4_
              (try clear hb)
              (try clear hb2)
              (try clear hk)
              (try clear hi)
              refine hK.out _ _ ⟨(blk_cell BK255.out 0).trans rfl, (blk_cell BK255.out 1).trans rfl, (blk_cell BK255.out 2).trans rfl, (blk_cell BK255.out 3).trans rfl, (blk_cell BK255.out 4).trans rfl, (blk_cell BK255.out 5).trans rfl, HS6_, HS7_, HS8_, HS9_, HS10_, HS11_, HS12_, HS13_, HS14_, HS15_, HS16_, HS17_⟩ (fun hHeld => ?_)
              clear hK K
              refine norm_ (a' := ?_) ?_ ?_
              rotate_left
              ·show Act.put _ (some 45) _ = _
               simp only [Act.put, List.setIfInBounds_toArray, List.set_cons_zero, List.set_cons_succ, i64_w, i32_w]
               rfl
              refine pure_ (i := 6) (N := some 46) (v := ?_) (a' := ?_) #[true, true, true, true, true, true, true, false, false, false, false, false, false, false, false, false, false, false, false, false, false, false, false, false, false, false, false, false, false, false, false, false] rfl rfl (any_of HT_.out (by kernel_rfl)) (fun _ _ _ h => h) (Or.inl ⟨by rfl, ?_⟩) ?_ ?_
              rotate_left
              ·intro w'
               go_simp
               with_reducible rfl
              rotate_left
              ·simp only [Act.put, List.setIfInBounds_toArray, List.set_cons_zero, List.set_cons_succ, i64_w, i32_w]
               rfl
              refine pure_ (i := 7) (N := some 47) (v := ?_) (a' := ?_) #[true, true, true, true, true, true, true, true, false, false, false, false, false, false, false, false, false, false, false, false, false, false, false, false, false, false, false, false, false, false, false, false] rfl rfl (any_of HT_.out (by kernel_rfl)) (fun _ _ _ h => h) (Or.inl ⟨by rfl, ?_⟩) ?_ ?_
              rotate_left
              ·intro w'
               go_simp
               with_reducible rfl
              rotate_left
              ·simp only [Act.put, List.setIfInBounds_toArray, List.set_cons_zero, List.set_cons_succ, i64_w, i32_w]
               rfl
              refine pure_ (i := 8) (N := some 48) (v := ?_) (a' := ?_) #[true, true, true, true, true, true, true, true, true, false, false, false, false, false, false, false, false, false, false, false, false, false, false, false, false, false, false, false, false, false, false, false] rfl rfl (any_of HT_.out (by kernel_rfl)) (fun _ _ _ h => h) (Or.inl ⟨by rfl, ?_⟩) ?_ ?_
              rotate_left
              ·intro w'
               go_simp
               with_reducible rfl
              rotate_left
              ·simp only [Act.put, List.setIfInBounds_toArray, List.set_cons_zero, List.set_cons_succ, i64_w, i32_w]
               rfl
              refine pure_ (i := 9) (N := some 49) (v := ?_) (a' := ?_) #[true, true, true, true, true, true, true, true, true, true, false, false, false, false, false, false, false, false, false, false, false, false, false, false, false, false, false, false, false, false, false, false] rfl rfl (any_of HT_.out (by kernel_rfl)) (fun _ _ _ h => h) (Or.inl ⟨by rfl, ?_⟩) ?_ ?_
              rotate_left
              ·intro w'
               go_simp
               with_reducible rfl
              rotate_left
              ·simp only [Act.put, List.setIfInBounds_toArray, List.set_cons_zero, List.set_cons_succ, i64_w, i32_w]
               rfl
              refine pure_ (i := 10) (N := some 50) (v := ?_) (a' := ?_) #[true, true, true, true, true, true, true, true, true, true, true, false, false, false, false, false, false, false, false, false, false, false, false, false, false, false, false, false, false, false, false, false] rfl rfl (any_of HT_.out (by kernel_rfl)) (fun _ _ _ h => h) (Or.inl ⟨by rfl, ?_⟩) ?_ ?_
              rotate_left
              ·intro w'
               go_simp
               with_reducible rfl
              rotate_left
              ·simp only [Act.put, List.setIfInBounds_toArray, List.set_cons_zero, List.set_cons_succ, i64_w, i32_w]
               rfl
              refine pure_ (i := 12) (N := some 52) (v := ?_) (a' := ?_) #[true, true, true, true, true, true, true, true, true, true, true, false, true, false, false, false, false, false, false, false, false, false, false, false, false, false, false, false, false, false, false, false] rfl rfl (any_of HT_.out (by kernel_rfl)) (fun _ _ _ h => h) (Or.inl ⟨by rfl, ?_⟩) ?_ ?_
              rotate_left
              ·intro w'
               go_simp
               with_reducible rfl
              rotate_left
              ·simp only [Act.put, List.setIfInBounds_toArray, List.set_cons_zero, List.set_cons_succ, i64_w, i32_w]
               rfl
              refine take_ (i := 11) (N := some 51) (v := ?_) (a' := ?_) #[true, true, true, true, true, true, true, true, true, true, true, true, true, false, false, false, false, false, false, false, false, false, false, false, false, false, false, false, false, false, false, false] rfl rfl (take_ofW HT_.out HW_.out (by kernel_rfl)) (fun _ _ _ h => h) (Or.inl ⟨by rfl, ?_⟩) hHeld ?_ ?_
              rotate_left
              ·rintro w' ⟨s0, s1, s2, s3, s4, s5, s6, s7, s8, s9, s10, s11, s12, s13, s14, s15, s16, s17⟩
               go_simp
               with_reducible rfl
              rotate_left
              ·simp only [Act.put, List.setIfInBounds_toArray, List.set_cons_zero, List.set_cons_succ, i64_w, i32_w]
               rfl
              refine take_ (i := 13) (N := some 53) (v := ?_) (a' := ?_) #[true, true, true, true, true, true, true, true, true, true, true, true, true, true, false, false, false, false, false, false, false, false, false, false, false, false, false, false, false, false, false, false] rfl rfl (take_ofW HT_.out HW_.out (by kernel_rfl)) (fun _ _ _ h => h) (Or.inl ⟨by rfl, ?_⟩) hHeld ?_ ?_
              rotate_left
              ·rintro w' ⟨s0, s1, s2, s3, s4, s5, s6, s7, s8, s9, s10, s11, s12, s13, s14, s15, s16, s17⟩
               go_simp
               with_reducible rfl
              rotate_left
              ·simp only [Act.put, List.setIfInBounds_toArray, List.set_cons_zero, List.set_cons_succ, i64_w, i32_w]
               rfl
              refine pure_ (i := 14) (N := some 54) (v := ?_) (a' := ?_) #[true, true, true, true, true, true, true, true, true, true, true, true, true, true, true, false, false, false, false, false, false, false, false, false, false, false, false, false, false, false, false, false] rfl rfl (any_of HT_.out (by kernel_rfl)) (fun _ _ _ h => h) (Or.inl ⟨by rfl, ?_⟩) ?_ ?_
              rotate_left
              ·intro w'
               go_simp
               with_reducible rfl
              rotate_left
              ·simp only [Act.put, List.setIfInBounds_toArray, List.set_cons_zero, List.set_cons_succ, i64_w, i32_w]
               rfl
              refine pure_ (i := 15) (N := some 55) (v := ?_) (a' := ?_) #[true, true, true, true, true, true, true, true, true, true, true, true, true, true, true, true, false, false, false, false, false, false, false, false, false, false, false, false, false, false, false, false] rfl rfl (any_of HT_.out (by kernel_rfl)) (fun _ _ _ h => h) (Or.inl ⟨by rfl, ?_⟩) ?_ ?_
              rotate_left
              ·intro w'
               go_simp
               with_reducible rfl
              rotate_left
              ·simp only [Act.put, List.setIfInBounds_toArray, List.set_cons_zero, List.set_cons_succ, i64_w, i32_w]
               rfl
              refine pure_ (i := 16) (N := some 56) (v := undef) (a' := ?_) #[true, true, true, true, true, true, true, true, true, true, true, true, true, true, true, true, true, false, false, false, false, false, false, false, false, false, false, false, false, false, false, false] rfl rfl (any_of HT_.out (by kernel_rfl)) (fun _ _ _ h => h) (Or.inr ⟨by rfl, rfl⟩) ?_ ?_
              rotate_left
              ·simp only [Act.put, List.setIfInBounds_toArray, List.set_cons_zero, List.set_cons_succ, i64_w, i32_w]
               rfl
              refine pure_ (i := 17) (N := some 57) (v := undef) (a' := ?_) #[true, true, true, true, true, true, true, true, true, true, true, true, true, true, true, true, true, true, false, false, false, false, false, false, false, false, false, false, false, false, false, false] rfl rfl (any_of HT_.out (by kernel_rfl)) (fun _ _ _ h => h) (Or.inr ⟨by rfl, rfl⟩) ?_ ?_
              rotate_left
              ·simp only [Act.put, List.setIfInBounds_toArray, List.set_cons_zero, List.set_cons_succ, i64_w, i32_w]
               rfl
              refine pure_ (i := 18) (N := some 58) (v := undef) (a' := ?_) #[true, true, true, true, true, true, true, true, true, true, true, true, true, true, true, true, true, true, true, false, false, false, false, false, false, false, false, false, false, false, false, false] rfl rfl (any_of HT_.out (by kernel_rfl)) (fun _ _ _ h => h) (Or.inr ⟨by rfl, rfl⟩) ?_ ?_
              rotate_left
              ·simp only [Act.put, List.setIfInBounds_toArray, List.set_cons_zero, List.set_cons_succ, i64_w, i32_w]
               rfl
              refine pure_ (i := 19) (N := some 59) (v := undef) (a' := ?_) #[true, true, true, true, true, true, true, true, true, true, true, true, true, true, true, true, true, true, true, true, false, false, false, false, false, false, false, false, false, false, false, false] rfl rfl (any_of HT_.out (by kernel_rfl)) (fun _ _ _ h => h) (Or.inr ⟨by rfl, rfl⟩) ?_ ?_
              rotate_left
              ·simp only [Act.put, List.setIfInBounds_toArray, List.set_cons_zero, List.set_cons_succ, i64_w, i32_w]
               rfl
              refine pure_ (i := 20) (N := some 60) (v := undef) (a' := ?_) #[true, true, true, true, true, true, true, true, true, true, true, true, true, true, true, true, true, true, true, true, true, false, false, false, false, false, false, false, false, false, false, false] rfl rfl (any_of HT_.out (by kernel_rfl)) (fun _ _ _ h => h) (Or.inr ⟨by rfl, rfl⟩) ?_ ?_
              rotate_left
              ·simp only [Act.put, List.setIfInBounds_toArray, List.set_cons_zero, List.set_cons_succ, i64_w, i32_w]
               rfl
              refine pure_ (i := 21) (N := some 61) (v := undef) (a' := ?_) #[true, true, true, true, true, true, true, true, true, true, true, true, true, true, true, true, true, true, true, true, true, true, false, false, false, false, false, false, false, false, false, false] rfl rfl (any_of HT_.out (by kernel_rfl)) (fun _ _ _ h => h) (Or.inr ⟨by rfl, rfl⟩) ?_ ?_
              rotate_left
              ·simp only [Act.put, List.setIfInBounds_toArray, List.set_cons_zero, List.set_cons_succ, i64_w, i32_w]
               rfl
              refine pure_ (i := 22) (N := some 62) (v := undef) (a' := ?_) #[true, true, true, true, true, true, true, true, true, true, true, true, true, true, true, true, true, true, true, true, true, true, true, false, false, false, false, false, false, false, false, false] rfl rfl (any_of HT_.out (by kernel_rfl)) (fun _ _ _ h => h) (Or.inr ⟨by rfl, rfl⟩) ?_ ?_
              rotate_left
              ·simp only [Act.put, List.setIfInBounds_toArray, List.set_cons_zero, List.set_cons_succ, i64_w, i32_w]
               rfl
              refine pure_ (i := 23) (N := some 63) (v := undef) (a' := ?_) #[true, true, true, true, true, true, true, true, true, true, true, true, true, true, true, true, true, true, true, true, true, true, true, true, false, false, false, false, false, false, false, false] rfl rfl (any_of HT_.out (by kernel_rfl)) (fun _ _ _ h => h) (Or.inr ⟨by rfl, rfl⟩) ?_ ?_
              rotate_left
              ·simp only [Act.put, List.setIfInBounds_toArray, List.set_cons_zero, List.set_cons_succ, i64_w, i32_w]
               rfl
              refine pure_ (i := 24) (N := some 64) (v := undef) (a' := ?_) #[true, true, true, true, true, true, true, true, true, true, true, true, true, true, true, true, true, true, true, true, true, true, true, true, true, false, false, false, false, false, false, false] rfl rfl (any_of HT_.out (by kernel_rfl)) (fun _ _ _ h => h) (Or.inr ⟨by rfl, rfl⟩) ?_ ?_
              rotate_left
              ·simp only [Act.put, List.setIfInBounds_toArray, List.set_cons_zero, List.set_cons_succ, i64_w, i32_w]
               rfl
              refine pure_ (i := 25) (N := some 65) (v := undef) (a' := ?_) #[true, true, true, true, true, true, true, true, true, true, true, true, true, true, true, true, true, true, true, true, true, true, true, true, true, true, false, false, false, false, false, false] rfl rfl (any_of HT_.out (by kernel_rfl)) (fun _ _ _ h => h) (Or.inr ⟨by rfl, rfl⟩) ?_ ?_
              rotate_left
              ·simp only [Act.put, List.setIfInBounds_toArray, List.set_cons_zero, List.set_cons_succ, i64_w, i32_w]
               rfl
              refine pure_ (i := 26) (N := some 66) (v := undef) (a' := ?_) #[true, true, true, true, true, true, true, true, true, true, true, true, true, true, true, true, true, true, true, true, true, true, true, true, true, true, true, false, false, false, false, false] rfl rfl (any_of HT_.out (by kernel_rfl)) (fun _ _ _ h => h) (Or.inr ⟨by rfl, rfl⟩) ?_ ?_
              rotate_left
              ·simp only [Act.put, List.setIfInBounds_toArray, List.set_cons_zero, List.set_cons_succ, i64_w, i32_w]
               rfl
              refine pure_ (i := 27) (N := some 67) (v := undef) (a' := ?_) #[true, true, true, true, true, true, true, true, true, true, true, true, true, true, true, true, true, true, true, true, true, true, true, true, true, true, true, true, false, false, false, false] rfl rfl (any_of HT_.out (by kernel_rfl)) (fun _ _ _ h => h) (Or.inr ⟨by rfl, rfl⟩) ?_ ?_
              rotate_left
              ·simp only [Act.put, List.setIfInBounds_toArray, List.set_cons_zero, List.set_cons_succ, i64_w, i32_w]
               rfl
              refine pure_ (i := 28) (N := some 68) (v := undef) (a' := ?_) #[true, true, true, true, true, true, true, true, true, true, true, true, true, true, true, true, true, true, true, true, true, true, true, true, true, true, true, true, true, false, false, false] rfl rfl (any_of HT_.out (by kernel_rfl)) (fun _ _ _ h => h) (Or.inr ⟨by rfl, rfl⟩) ?_ ?_
              rotate_left
              ·simp only [Act.put, List.setIfInBounds_toArray, List.set_cons_zero, List.set_cons_succ, i64_w, i32_w]
               rfl
              refine pure_ (i := 29) (N := some 69) (v := ?_) (a' := ?_) #[true, true, true, true, true, true, true, true, true, true, true, true, true, true, true, true, true, true, true, true, true, true, true, true, true, true, true, true, true, true, false, false] rfl rfl (any_of HT_.out (by kernel_rfl)) (fun _ _ _ h => h) (Or.inl ⟨by rfl, ?_⟩) ?_ ?_
              rotate_left
              ·intro w'
               go_simp
               with_reducible rfl
              rotate_left
              ·simp only [Act.put, List.setIfInBounds_toArray, List.set_cons_zero, List.set_cons_succ, i64_w, i32_w]
               rfl
              refine pure_ (i := 30) (N := some 70) (v := ?_) (a' := ?_) #[true, true, true, true, true, true, true, true, true, true, true, true, true, true, true, true, true, true, true, true, true, true, true, true, true, true, true, true, true, true, true, false] rfl rfl (any_of HT_.out (by kernel_rfl)) (fun _ _ _ h => h) (Or.inl ⟨by rfl, ?_⟩) ?_ ?_
              rotate_left
              ·intro w'
               go_simp
               with_reducible rfl
              rotate_left
              ·simp only [Act.put, List.setIfInBounds_toArray, List.set_cons_zero, List.set_cons_succ, i64_w, i32_w]
               rfl
              refine pure_ (i := 31) (N := some 9) (v := ?_) (a' := ?_) #[true, true, true, true, true, true, true, true, true, true, true, true, true, true, true, true, true, true, true, true, true, true, true, true, true, true, true, true, true, true, true, true] rfl rfl (any_of HT_.out (by kernel_rfl)) (fun _ _ _ h => h) (Or.inl ⟨by rfl, ?_⟩) ?_ ?_
              rotate_left
              ·intro w'
               go_simp
               with_reducible rfl
              rotate_left
              ·simp only [Act.put, List.setIfInBounds_toArray, List.set_cons_zero, List.set_cons_succ, i64_w, i32_w]
               rfl
              refine done_ (done_of HT_.out (by kernel_rfl)) ?_
              try go_wp2
              go_meet
              case rel => exact ⟨_, (true), (by first | rfl | (simp; done) | (simp [*]; done)), H', ⟨by have := HK1.out; have := HK2.out; first | omega | exact Nat.le_refl _⟩, ⟨lf HO_3⟩, ⟨lf HO_4⟩, ⟨lf HO_7⟩, ⟨lb BK255⟩, ⟨bw⟩⟩
             ·rw [if_neg c27] at H
              have c27b0 : (((rd_T43 x4_1 x8_2).f3) == ((rd_T43 l0 x5_1).f3)) = false := beq_eq_false_iff_ne.mpr c27
              have c27b1 : (((rd_T43 x4_1 x8_2).f3) != ((rd_T43 l0 x5_1).f3)) = true := bne_iff_ne.mpr c27
              by_cases c30 : ((rd_T43 l0 x5_1).f4) = 2
              ·rw [if_pos c30] at H
               have c30b0 : (((rd_T43 l0 x5_1).f4) == 2) = true := beq_iff_eq.mpr c30
               have c30b1 : (((rd_T43 l0 x5_1).f4) != 2) = false := bne_eq_false_iff_eq.mpr c30
               clear c30
               have H' := Aside0.mk H
               clear H
               try go_wp2
               have n0_ := Aside0.mk (Kd.R_drew HO_3.out)
               have n1_ := Aside0.mk (Kd.R_drew HO_4.out)
               have n2_ := Aside0.mk (Kd.R_drew HO_7.out)
               have n3_ := Aside0.mk (blk_drew BK255.out)
               have n4_ := Aside0.mk (below_drew1 HB.out)
               clear HO_3
               clear HO_4
               clear HO_7
               clear BK255
               clear HB
               have HO_3 := n0_
               have HO_4 := n1_
               have HO_7 := n2_
               have BK255 := n3_
               have HB := n4_
               clear n0_ n1_ n2_ n3_ n4_
               have p262 : 0 ≤ (x8_2 : Int) := of_decide_eq_true (by first | (with_reducible assumption) | assumption)
               have q262 : x8_2 < (x4_1.length : Int) := of_decide_eq_true (by first | (with_reducible assumption) | assumption)
               obtain ⟨ad262, e262, hx262_0, hx262_1, hx262_2, hx262_3, hx262_4, hx262_5⟩ := at_T43 (Kd.R_reads' HO_4.out).2.2 x8_2 p262 q262
               cases e262
               replace p262 := eq_true p262
               replace q262 := eq_true q262
               have p264 : 0 ≤ (x8_2 : Int) := of_decide_eq_true (by first | (with_reducible assumption) | assumption)
               have q264 : x8_2 < (x4_1.length : Int) := of_decide_eq_true (by first | (with_reducible assumption) | assumption)
               obtain ⟨ad264, e264, hx264_0, hx264_1, hx264_2, hx264_3, hx264_4, hx264_5⟩ := at_T43 (Kd.R_reads' HO_4.out).2.2 x8_2 p264 q264
               obtain rfl : ad262 = ad264 := (by injection e264)
               replace p264 := eq_true p264
               replace q264 := eq_true q264
               have p265 : 0 ≤ (x8_2 : Int) := of_decide_eq_true (by first | (with_reducible assumption) | assumption)
               have q265 : x8_2 < (x4_1.length : Int) := of_decide_eq_true (by first | (with_reducible assumption) | assumption)
               obtain ⟨ad265, e265, hx265_0, hx265_1, hx265_2, hx265_3, hx265_4, hx265_5⟩ := at_T43 (Kd.R_reads' HO_4.out).2.2 x8_2 p265 q265
               obtain rfl : ad262 = ad265 := (by injection e265)
               replace p265 := eq_true p265
               replace q265 := eq_true q265
               refine start_ (n := 32) (S := fun w' => w'.cell? ⟨gb255, 0, none⟩ = some (.string ((rd_T43 l0 x5_1).f0)) ∧ w'.cell? ⟨gb255, 1, none⟩ = some (.string ((rd_T43 l0 x5_1).f1)) ∧ w'.cell? ⟨gb255, 2, none⟩ = some (.string ((rd_T43 l0 x5_1).f2)) ∧ w'.cell? ⟨gb255, 3, none⟩ = some (.int .u64 ((rd_T43 l0 x5_1).f3)) ∧ w'.cell? ⟨gb255, 4, none⟩ = some (.int .i64 ((rd_T43 l0 x5_1).f4)) ∧ w'.cell? ⟨gb255, 5, none⟩ = some (.string ((rd_T43 l0 x5_1).f5)) ∧ w'.cell? (ad262.add ((x8_2).toNat * 6)) = some (.string ((rd_T43 x4_1 x8_2).f0)) ∧ w'.cell? ⟨(ad262.add ((x8_2).toNat * 6)).block, (ad262.add ((x8_2).toNat * 6)).off + 1, none⟩ = some (.string ((rd_T43 x4_1 x8_2).f1)) ∧ w'.cell? ⟨(ad262.add ((x8_2).toNat * 6)).block, (ad262.add ((x8_2).toNat * 6)).off + 2, none⟩ = some (.string ((rd_T43 x4_1 x8_2).f2)) ∧ w'.cell? ⟨(ad262.add ((x8_2).toNat * 6)).block, (ad262.add ((x8_2).toNat * 6)).off + 3, none⟩ = some (.int .u64 ((rd_T43 x4_1 x8_2).f3)) ∧ w'.cell? ⟨(ad262.add ((x8_2).toNat * 6)).block, (ad262.add ((x8_2).toNat * 6)).off + 4, none⟩ = some (.int .i64 ((rd_T43 x4_1 x8_2).f4)) ∧ w'.cell? ⟨(ad262.add ((x8_2).toNat * 6)).block, (ad262.add ((x8_2).toNat * 6)).off + 5, none⟩ = some (.string ((rd_T43 x4_1 x8_2).f5)) ∧ w'.cell? (ad262.add ((x8_2).toNat * 6)) = some (.string ((rd_T43 x4_1 x8_2).f0)) ∧ w'.cell? ⟨(ad262.add ((x8_2).toNat * 6)).block, (ad262.add ((x8_2).toNat * 6)).off + 1, none⟩ = some (.string ((rd_T43 x4_1 x8_2).f1)) ∧ w'.cell? ⟨(ad262.add ((x8_2).toNat * 6)).block, (ad262.add ((x8_2).toNat * 6)).off + 2, none⟩ = some (.string ((rd_T43 x4_1 x8_2).f2)) ∧ w'.cell? ⟨(ad262.add ((x8_2).toNat * 6)).block, (ad262.add ((x8_2).toNat * 6)).off + 3, none⟩ = some (.int .u64 ((rd_T43 x4_1 x8_2).f3)) ∧ w'.cell? ⟨(ad262.add ((x8_2).toNat * 6)).block, (ad262.add ((x8_2).toNat * 6)).off + 4, none⟩ = some (.int .i64 ((rd_T43 x4_1 x8_2).f4)) ∧ w'.cell? ⟨(ad262.add ((x8_2).toNat * 6)).block, (ad262.add ((x8_2).toNat * 6)).off + 5, none⟩ = some (.string ((rd_T43 x4_1 x8_2).f5)) ∧ w'.cell? (ad262.add ((x8_2).toNat * 6)) = some (.string ((rd_T43 x4_1 x8_2).f0)) ∧ w'.cell? ⟨(ad262.add ((x8_2).toNat * 6)).block, (ad262.add ((x8_2).toNat * 6)).off + 1, none⟩ = some (.string ((rd_T43 x4_1 x8_2).f1)) ∧ w'.cell? ⟨(ad262.add ((x8_2).toNat * 6)).block, (ad262.add ((x8_2).toNat * 6)).off + 2, none⟩ = some (.string ((rd_T43 x4_1 x8_2).f2)) ∧ w'.cell? ⟨(ad262.add ((x8_2).toNat * 6)).block, (ad262.add ((x8_2).toNat * 6)).off + 3, none⟩ = some (.int .u64 ((rd_T43 x4_1 x8_2).f3)) ∧ w'.cell? ⟨(ad262.add ((x8_2).toNat * 6)).block, (ad262.add ((x8_2).toNat * 6)).off + 4, none⟩ = some (.int .i64 ((rd_T43 x4_1 x8_2).f4)) ∧ w'.cell? ⟨(ad262.add ((x8_2).toNat * 6)).block, (ad262.add ((x8_2).toNat * 6)).off + 5, none⟩ = some (.string ((rd_T43 x4_1 x8_2).f5))) (ds := []) #[false, false, false, false, false, false, false, false, false, false, false, false, false, false, false, false, false, false, false, false, false, false, false, false, false, false, false, false, false, false, false, false] (by kernel_rfl) rfl rfl ⟨(blk_cell BK255.out 0).trans rfl, (blk_cell BK255.out 1).trans rfl, (blk_cell BK255.out 2).trans rfl, (blk_cell BK255.out 3).trans rfl, (blk_cell BK255.out 4).trans rfl, (blk_cell BK255.out 5).trans rfl, hx262_0, hx262_1, hx262_2, hx262_3, hx262_4, hx262_5, hx264_0, hx264_1, hx264_2, hx264_3, hx264_4, hx264_5, hx265_0, hx265_1, hx265_2, hx265_3, hx265_4, hx265_5⟩ (fun hHeld => ?_); refine with_tabW spec_Replay.tab15 spec_Replay.bits15 (fun HT_ HW_ => ?_)
               generalize wr.drew = w31 at HO_3 HO_4 HO_7 BK255 HB hx262_0 hx262_1 hx262_2 hx262_3 hx262_4 hx262_5 hx264_0 hx264_1 hx264_2 hx264_3 hx264_4 hx264_5 hx265_0 hx265_1 hx265_2 hx265_3 hx265_4 hx265_5 hHeld ⊢
               refine pure_ (i := 0) (N := some 40) (v := ?_) (a' := ?_) #[true, false, false, false, false, false, false, false, false, false, false, false, false, false, false, false, false, false, false, false, false, false, false, false, false, false, false, false, false, false, false, false] rfl rfl (any_of HT_.out (by kernel_rfl)) (fun _ _ _ h => h) (Or.inl ⟨by rfl, ?_⟩) ?_ ?_
               rotate_left
               ·intro w'
                go_simp
                with_reducible rfl
               rotate_left
               ·simp only [Act.put, List.setIfInBounds_toArray, List.set_cons_zero, List.set_cons_succ, i64_w, i32_w]
                rfl
               refine pure_ (i := 1) (N := some 41) (v := ?_) (a' := ?_) #[true, true, false, false, false, false, false, false, false, false, false, false, false, false, false, false, false, false, false, false, false, false, false, false, false, false, false, false, false, false, false, false] rfl rfl (any_of HT_.out (by kernel_rfl)) (fun _ _ _ h => h) (Or.inl ⟨by rfl, ?_⟩) ?_ ?_
               rotate_left
               ·intro w'
                go_simp
                with_reducible rfl
               rotate_left
               ·simp only [Act.put, List.setIfInBounds_toArray, List.set_cons_zero, List.set_cons_succ, i64_w, i32_w]
                rfl
               refine pure_ (i := 2) (N := some 42) (v := ?_) (a' := ?_) #[true, true, true, false, false, false, false, false, false, false, false, false, false, false, false, false, false, false, false, false, false, false, false, false, false, false, false, false, false, false, false, false] rfl rfl (any_of HT_.out (by kernel_rfl)) (fun _ _ _ h => h) (Or.inl ⟨by rfl, ?_⟩) ?_ ?_
               rotate_left
               ·intro w'
                go_simp
                with_reducible rfl
               rotate_left
               ·simp only [Act.put, List.setIfInBounds_toArray, List.set_cons_zero, List.set_cons_succ, i64_w, i32_w]
                rfl
               refine take_ (i := 3) (N := some 43) (v := ?_) (a' := ?_) #[true, true, true, true, false, false, false, false, false, false, false, false, false, false, false, false, false, false, false, false, false, false, false, false, false, false, false, false, false, false, false, false] rfl rfl (take_ofW HT_.out HW_.out (by kernel_rfl)) (fun _ _ _ h => h) (Or.inl ⟨by rfl, ?_⟩) hHeld ?_ ?_
               rotate_left
               ·rintro w' ⟨s0, s1, s2, s3, s4, s5, s6, s7, s8, s9, s10, s11, s12, s13, s14, s15, s16, s17, s18, s19, s20, s21, s22, s23⟩
                go_simp
                with_reducible rfl
               rotate_left
               ·simp only [Act.put, List.setIfInBounds_toArray, List.set_cons_zero, List.set_cons_succ, i64_w, i32_w]
                rfl
               refine take_ (i := 4) (N := some 44) (v := ?_) (a' := ?_) #[true, true, true, true, true, false, false, false, false, false, false, false, false, false, false, false, false, false, false, false, false, false, false, false, false, false, false, false, false, false, false, false] rfl rfl (take_ofW HT_.out HW_.out (by kernel_rfl)) (fun _ _ _ h => h) (Or.inl ⟨by rfl, ?_⟩) hHeld ?_ ?_
               rotate_left
               ·rintro w' ⟨s0, s1, s2, s3, s4, s5, s6, s7, s8, s9, s10, s11, s12, s13, s14, s15, s16, s17, s18, s19, s20, s21, s22, s23⟩
                go_simp
                with_reducible rfl
               rotate_left
               ·simp only [Act.put, List.setIfInBounds_toArray, List.set_cons_zero, List.set_cons_succ, i64_w, i32_w]
                rfl
               refine one_ (i := 5) (N := some 45) #[true, true, true, true, true, true, false, false, false, false, false, false, false, false, false, false, false, false, false, false, false, false, false, false, false, false, false, false, false, false, false, false] rfl rfl (one_of HT_.out (by kernel_rfl)) (by decide) (fun K hK => ?_)
               refine goes_ Try.func23 (by kernel_rfl) rfl #[.agg #[.string ((rd_T43 x4_1 x8_2).f0), .string ((rd_T43 x4_1 x8_2).f1), .string ((rd_T43 x4_1 x8_2).f2), .int .u64 ((rd_T43 x4_1 x8_2).f3), .int .i64 ((rd_T43 x4_1 x8_2).f4), .string ((rd_T43 x4_1 x8_2).f5)], .agg #[.string ((rd_T43 l0 x5_1).f0), .string ((rd_T43 l0 x5_1).f1), .string ((rd_T43 l0 x5_1).f2), .int .u64 ((rd_T43 l0 x5_1).f3), .int .i64 ((rd_T43 l0 x5_1).f4), .string ((rd_T43 l0 x5_1).f5)]] (by rfl) rfl rfl (by (try simp only [List.map_toArray, List.map_cons, List.map_nil]); first | done | rfl | (simp only [List.length_drop, List.length_take]; rfl)) ?_
               with_reducible refine (spec_l1SameColumn.calls ((rd_T43 x4_1 x8_2).f0) ((rd_T43 x4_1 x8_2).f1) ((rd_T43 x4_1 x8_2).f2) ((rd_T43 x4_1 x8_2).f3) ((rd_T43 x4_1 x8_2).f4) ((rd_T43 x4_1 x8_2).f5) ((rd_T43 l0 x5_1).f0) ((rd_T43 l0 x5_1).f1) ((rd_T43 l0 x5_1).f2) ((rd_T43 l0 x5_1).f3) ((rd_T43 l0 x5_1).f4) ((rd_T43 l0 x5_1).f5) true _ A25.out).mono ?_
               rintro e w32 ⟨rfl, hb⟩
               have HS6_ := (hb.cell (World.block_lt_of_cell? _ _ (hHeld.2.2.2.2.2.2.1))).trans (hHeld.2.2.2.2.2.2.1)
               have HS7_ := (hb.cell (World.block_lt_of_cell? _ _ (hHeld.2.2.2.2.2.2.2.1))).trans (hHeld.2.2.2.2.2.2.2.1)
               have HS8_ := (hb.cell (World.block_lt_of_cell? _ _ (hHeld.2.2.2.2.2.2.2.2.1))).trans (hHeld.2.2.2.2.2.2.2.2.1)
               have HS9_ := (hb.cell (World.block_lt_of_cell? _ _ (hHeld.2.2.2.2.2.2.2.2.2.1))).trans (hHeld.2.2.2.2.2.2.2.2.2.1)
               have HS10_ := (hb.cell (World.block_lt_of_cell? _ _ (hHeld.2.2.2.2.2.2.2.2.2.2.1))).trans (hHeld.2.2.2.2.2.2.2.2.2.2.1)
               have HS11_ := (hb.cell (World.block_lt_of_cell? _ _ (hHeld.2.2.2.2.2.2.2.2.2.2.2.1))).trans (hHeld.2.2.2.2.2.2.2.2.2.2.2.1)
               have HS12_ := (hb.cell (World.block_lt_of_cell? _ _ (hHeld.2.2.2.2.2.2.2.2.2.2.2.2.1))).trans (hHeld.2.2.2.2.2.2.2.2.2.2.2.2.1)
               have HS13_ := (hb.cell (World.block_lt_of_cell? _ _ (hHeld.2.2.2.2.2.2.2.2.2.2.2.2.2.1))).trans (hHeld.2.2.2.2.2.2.2.2.2.2.2.2.2.1)
               have HS14_ := (hb.cell (World.block_lt_of_cell? _ _ (hHeld.2.2.2.2.2.2.2.2.2.2.2.2.2.2.1))).trans (hHeld.2.2.2.2.2.2.2.2.2.2.2.2.2.2.1)
               have HS15_ := (hb.cell (World.block_lt_of_cell? _ _ (hHeld.2.2.2.2.2.2.2.2.2.2.2.2.2.2.2.1))).trans (hHeld.2.2.2.2.2.2.2.2.2.2.2.2.2.2.2.1)
               have HS16_ := (hb.cell (World.block_lt_of_cell? _ _ (hHeld.2.2.2.2.2.2.2.2.2.2.2.2.2.2.2.2.1))).trans (hHeld.2.2.2.2.2.2.2.2.2.2.2.2.2.2.2.2.1)
               have HS17_ := (hb.cell (World.block_lt_of_cell? _ _ (hHeld.2.2.2.2.2.2.2.2.2.2.2.2.2.2.2.2.2.1))).trans (hHeld.2.2.2.2.2.2.2.2.2.2.2.2.2.2.2.2.2.1)
               have HS18_ := (hb.cell (World.block_lt_of_cell? _ _ (hHeld.2.2.2.2.2.2.2.2.2.2.2.2.2.2.2.2.2.2.1))).trans (hHeld.2.2.2.2.2.2.2.2.2.2.2.2.2.2.2.2.2.2.1)
               have HS19_ := (hb.cell (World.block_lt_of_cell? _ _ (hHeld.2.2.2.2.2.2.2.2.2.2.2.2.2.2.2.2.2.2.2.1))).trans (hHeld.2.2.2.2.2.2.2.2.2.2.2.2.2.2.2.2.2.2.2.1)
               have HS20_ := (hb.cell (World.block_lt_of_cell? _ _ (hHeld.2.2.2.2.2.2.2.2.2.2.2.2.2.2.2.2.2.2.2.2.1))).trans (hHeld.2.2.2.2.2.2.2.2.2.2.2.2.2.2.2.2.2.2.2.2.1)
               have HS21_ := (hb.cell (World.block_lt_of_cell? _ _ (hHeld.2.2.2.2.2.2.2.2.2.2.2.2.2.2.2.2.2.2.2.2.2.1))).trans (hHeld.2.2.2.2.2.2.2.2.2.2.2.2.2.2.2.2.2.2.2.2.2.1)
               have HS22_ := (hb.cell (World.block_lt_of_cell? _ _ (hHeld.2.2.2.2.2.2.2.2.2.2.2.2.2.2.2.2.2.2.2.2.2.2.1))).trans (hHeld.2.2.2.2.2.2.2.2.2.2.2.2.2.2.2.2.2.2.2.2.2.2.1)
               have HS23_ := (hb.cell (World.block_lt_of_cell? _ _ (hHeld.2.2.2.2.2.2.2.2.2.2.2.2.2.2.2.2.2.2.2.2.2.2.2))).trans (hHeld.2.2.2.2.2.2.2.2.2.2.2.2.2.2.2.2.2.2.2.2.2.2.2)
               refine ⟨_, rfl, ?_⟩
               have n0_ := Aside0.mk (Kd.R_below (lf HO_3) hb)
               have n1_ := Aside0.mk (Kd.R_below (lf HO_4) hb)
               have n2_ := Aside0.mk (Kd.R_below (lf HO_7) hb)
               have n3_ := Aside0.mk (blk_below (g := gb255) (o := .cells #[.string ((rd_T43 l0 x5_1).f0), .string ((rd_T43 l0 x5_1).f1), .string ((rd_T43 l0 x5_1).f2), .int .u64 ((rd_T43 l0 x5_1).f3), .int .i64 ((rd_T43 l0 x5_1).f4), .string ((rd_T43 l0 x5_1).f5)] 43 (0, 0)) (lb BK255) hb)
               have n4_ := Aside0.mk (below_step bw hb)
               clear HO_3
               clear HO_4
               clear HO_7
               clear BK255
               clear HB
               have HO_3 := n0_
               have HO_4 := n1_
               have HO_7 := n2_
               have BK255 := n3_
               have HB := n4_
               clear n0_ n1_ n2_ n3_ n4_
               (try clear hb)
               (try clear hb2)
               (try clear hk)
               (try clear hi)
               refine hK.out _ _ ⟨(blk_cell BK255.out 0).trans rfl, (blk_cell BK255.out 1).trans rfl, (blk_cell BK255.out 2).trans rfl, (blk_cell BK255.out 3).trans rfl, (blk_cell BK255.out 4).trans rfl, (blk_cell BK255.out 5).trans rfl, HS6_, HS7_, HS8_, HS9_, HS10_, HS11_, HS12_, HS13_, HS14_, HS15_, HS16_, HS17_, HS18_, HS19_, HS20_, HS21_, HS22_, HS23_⟩ (fun hHeld => ?_)
               clear hK K
               refine norm_ (a' := ?_) ?_ ?_
               rotate_left
               ·show Act.put _ (some 45) _ = _
                simp only [Act.put, List.setIfInBounds_toArray, List.set_cons_zero, List.set_cons_succ, i64_w, i32_w]
                rfl
               refine pure_ (i := 6) (N := some 46) (v := ?_) (a' := ?_) #[true, true, true, true, true, true, true, false, false, false, false, false, false, false, false, false, false, false, false, false, false, false, false, false, false, false, false, false, false, false, false, false] rfl rfl (any_of HT_.out (by kernel_rfl)) (fun _ _ _ h => h) (Or.inl ⟨by rfl, ?_⟩) ?_ ?_
               rotate_left
               ·intro w'
                go_simp
                with_reducible rfl
               rotate_left
               ·simp only [Act.put, List.setIfInBounds_toArray, List.set_cons_zero, List.set_cons_succ, i64_w, i32_w]
                rfl
               refine pure_ (i := 7) (N := some 47) (v := ?_) (a' := ?_) #[true, true, true, true, true, true, true, true, false, false, false, false, false, false, false, false, false, false, false, false, false, false, false, false, false, false, false, false, false, false, false, false] rfl rfl (any_of HT_.out (by kernel_rfl)) (fun _ _ _ h => h) (Or.inl ⟨by rfl, ?_⟩) ?_ ?_
               rotate_left
               ·intro w'
                go_simp
                with_reducible rfl
               rotate_left
               ·simp only [Act.put, List.setIfInBounds_toArray, List.set_cons_zero, List.set_cons_succ, i64_w, i32_w]
                rfl
               refine pure_ (i := 8) (N := some 48) (v := ?_) (a' := ?_) #[true, true, true, true, true, true, true, true, true, false, false, false, false, false, false, false, false, false, false, false, false, false, false, false, false, false, false, false, false, false, false, false] rfl rfl (any_of HT_.out (by kernel_rfl)) (fun _ _ _ h => h) (Or.inl ⟨by rfl, ?_⟩) ?_ ?_
               rotate_left
               ·intro w'
                go_simp
                with_reducible rfl
               rotate_left
               ·simp only [Act.put, List.setIfInBounds_toArray, List.set_cons_zero, List.set_cons_succ, i64_w, i32_w]
                rfl
               refine pure_ (i := 9) (N := some 49) (v := ?_) (a' := ?_) #[true, true, true, true, true, true, true, true, true, true, false, false, false, false, false, false, false, false, false, false, false, false, false, false, false, false, false, false, false, false, false, false] rfl rfl (any_of HT_.out (by kernel_rfl)) (fun _ _ _ h => h) (Or.inl ⟨by rfl, ?_⟩) ?_ ?_
               rotate_left
               ·intro w'
                go_simp
                with_reducible rfl
               rotate_left
               ·simp only [Act.put, List.setIfInBounds_toArray, List.set_cons_zero, List.set_cons_succ, i64_w, i32_w]
                rfl
               refine pure_ (i := 10) (N := some 50) (v := ?_) (a' := ?_) #[true, true, true, true, true, true, true, true, true, true, true, false, false, false, false, false, false, false, false, false, false, false, false, false, false, false, false, false, false, false, false, false] rfl rfl (any_of HT_.out (by kernel_rfl)) (fun _ _ _ h => h) (Or.inl ⟨by rfl, ?_⟩) ?_ ?_
               rotate_left
               ·intro w'
                go_simp
                with_reducible rfl
               rotate_left
               ·simp only [Act.put, List.setIfInBounds_toArray, List.set_cons_zero, List.set_cons_succ, i64_w, i32_w]
                rfl
               refine pure_ (i := 12) (N := some 52) (v := ?_) (a' := ?_) #[true, true, true, true, true, true, true, true, true, true, true, false, true, false, false, false, false, false, false, false, false, false, false, false, false, false, false, false, false, false, false, false] rfl rfl (any_of HT_.out (by kernel_rfl)) (fun _ _ _ h => h) (Or.inl ⟨by rfl, ?_⟩) ?_ ?_
               rotate_left
               ·intro w'
                go_simp
                with_reducible rfl
               rotate_left
               ·simp only [Act.put, List.setIfInBounds_toArray, List.set_cons_zero, List.set_cons_succ, i64_w, i32_w]
                rfl
               refine take_ (i := 11) (N := some 51) (v := ?_) (a' := ?_) #[true, true, true, true, true, true, true, true, true, true, true, true, true, false, false, false, false, false, false, false, false, false, false, false, false, false, false, false, false, false, false, false] rfl rfl (take_ofW HT_.out HW_.out (by kernel_rfl)) (fun _ _ _ h => h) (Or.inl ⟨by rfl, ?_⟩) hHeld ?_ ?_
               rotate_left
               ·rintro w' ⟨s0, s1, s2, s3, s4, s5, s6, s7, s8, s9, s10, s11, s12, s13, s14, s15, s16, s17, s18, s19, s20, s21, s22, s23⟩
                go_simp
                with_reducible rfl
               rotate_left
               ·simp only [Act.put, List.setIfInBounds_toArray, List.set_cons_zero, List.set_cons_succ, i64_w, i32_w]
                rfl
               refine take_ (i := 13) (N := some 53) (v := ?_) (a' := ?_) #[true, true, true, true, true, true, true, true, true, true, true, true, true, true, false, false, false, false, false, false, false, false, false, false, false, false, false, false, false, false, false, false] rfl rfl (take_ofW HT_.out HW_.out (by kernel_rfl)) (fun _ _ _ h => h) (Or.inl ⟨by rfl, ?_⟩) hHeld ?_ ?_
               rotate_left
               ·rintro w' ⟨s0, s1, s2, s3, s4, s5, s6, s7, s8, s9, s10, s11, s12, s13, s14, s15, s16, s17, s18, s19, s20, s21, s22, s23⟩
                go_simp
                with_reducible rfl
               rotate_left
               ·simp only [Act.put, List.setIfInBounds_toArray, List.set_cons_zero, List.set_cons_succ, i64_w, i32_w]
                rfl
               refine pure_ (i := 14) (N := some 54) (v := ?_) (a' := ?_) #[true, true, true, true, true, true, true, true, true, true, true, true, true, true, true, false, false, false, false, false, false, false, false, false, false, false, false, false, false, false, false, false] rfl rfl (any_of HT_.out (by kernel_rfl)) (fun _ _ _ h => h) (Or.inl ⟨by rfl, ?_⟩) ?_ ?_
               rotate_left
               ·intro w'
                go_simp
                with_reducible rfl
               rotate_left
               ·simp only [Act.put, List.setIfInBounds_toArray, List.set_cons_zero, List.set_cons_succ, i64_w, i32_w]
                rfl
               refine pure_ (i := 15) (N := some 55) (v := ?_) (a' := ?_) #[true, true, true, true, true, true, true, true, true, true, true, true, true, true, true, true, false, false, false, false, false, false, false, false, false, false, false, false, false, false, false, false] rfl rfl (any_of HT_.out (by kernel_rfl)) (fun _ _ _ h => h) (Or.inl ⟨by rfl, ?_⟩) ?_ ?_
               rotate_left
               ·intro w'
                go_simp
                with_reducible rfl
               rotate_left
               ·simp only [Act.put, List.setIfInBounds_toArray, List.set_cons_zero, List.set_cons_succ, i64_w, i32_w]
                rfl
               refine pure_ (i := 16) (N := some 56) (v := ?_) (a' := ?_) #[true, true, true, true, true, true, true, true, true, true, true, true, true, true, true, true, true, false, false, false, false, false, false, false, false, false, false, false, false, false, false, false] rfl rfl (any_of HT_.out (by kernel_rfl)) (fun _ _ _ h => h) (Or.inl ⟨by rfl, ?_⟩) ?_ ?_
               rotate_left
               ·intro w'
                go_simp
                with_reducible rfl
               rotate_left
               ·simp only [Act.put, List.setIfInBounds_toArray, List.set_cons_zero, List.set_cons_succ, i64_w, i32_w]
                rfl
               refine take_ (i := 17) (N := some 57) (v := ?_) (a' := ?_) #[true, true, true, true, true, true, true, true, true, true, true, true, true, true, true, true, true, true, false, false, false, false, false, false, false, false, false, false, false, false, false, false] rfl rfl (take_ofW HT_.out HW_.out (by kernel_rfl)) (fun _ _ _ h => h) (Or.inl ⟨by rfl, ?_⟩) hHeld ?_ ?_
               rotate_left
               ·rintro w' ⟨s0, s1, s2, s3, s4, s5, s6, s7, s8, s9, s10, s11, s12, s13, s14, s15, s16, s17, s18, s19, s20, s21, s22, s23⟩
                go_simp
                with_reducible rfl
               rotate_left
               ·simp only [Act.put, List.setIfInBounds_toArray, List.set_cons_zero, List.set_cons_succ, i64_w, i32_w]
                rfl
               refine pure_ (i := 18) (N := some 58) (v := ?_) (a' := ?_) #[true, true, true, true, true, true, true, true, true, true, true, true, true, true, true, true, true, true, true, false, false, false, false, false, false, false, false, false, false, false, false, false] rfl rfl (any_of HT_.out (by kernel_rfl)) (fun _ _ _ h => h) (Or.inl ⟨by rfl, ?_⟩) ?_ ?_
               rotate_left
               ·intro w'
                go_simp
                with_reducible rfl
               rotate_left
               ·simp only [Act.put, List.setIfInBounds_toArray, List.set_cons_zero, List.set_cons_succ, i64_w, i32_w]
                rfl
               refine pure_ (i := 19) (N := some 59) (v := ?_) (a' := ?_) #[true, true, true, true, true, true, true, true, true, true, true, true, true, true, true, true, true, true, true, true, false, false, false, false, false, false, false, false, false, false, false, false] rfl rfl (any_of HT_.out (by kernel_rfl)) (fun _ _ _ h => h) (Or.inl ⟨by rfl, ?_⟩) ?_ ?_
               rotate_left
               ·intro w'
                go_simp
                with_reducible rfl
               rotate_left
               ·simp only [Act.put, List.setIfInBounds_toArray, List.set_cons_zero, List.set_cons_succ, i64_w, i32_w]
                rfl
               refine pure_ (i := 20) (N := some 60) (v := ?_) (a' := ?_) #[true, true, true, true, true, true, true, true, true, true, true, true, true, true, true, true, true, true, true, true, true, false, false, false, false, false, false, false, false, false, false, false] rfl rfl (any_of HT_.out (by kernel_rfl)) (fun _ _ _ h => h) (Or.inl ⟨by rfl, ?_⟩) ?_ ?_
               rotate_left
               ·intro w'
                go_simp
                with_reducible rfl
               rotate_left
               ·simp only [Act.put, List.setIfInBounds_toArray, List.set_cons_zero, List.set_cons_succ, i64_w, i32_w]
                rfl
               refine pure_ (i := 21) (N := some 61) (v := ?_) (a' := ?_) #[true, true, true, true, true, true, true, true, true, true, true, true, true, true, true, true, true, true, true, true, true, true, false, false, false, false, false, false, false, false, false, false] rfl rfl (any_of HT_.out (by kernel_rfl)) (fun _ _ _ h => h) (Or.inl ⟨by rfl, ?_⟩) ?_ ?_
               rotate_left
               ·intro w'
                go_simp
                with_reducible rfl
               rotate_left
               ·simp only [Act.put, List.setIfInBounds_toArray, List.set_cons_zero, List.set_cons_succ, i64_w, i32_w]
                rfl
               refine pure_ (i := 22) (N := some 62) (v := ?_) (a' := ?_) #[true, true, true, true, true, true, true, true, true, true, true, true, true, true, true, true, true, true, true, true, true, true, true, false, false, false, false, false, false, false, false, false] rfl rfl (any_of HT_.out (by kernel_rfl)) (fun _ _ _ h => h) (Or.inl ⟨by rfl, ?_⟩) ?_ ?_
               rotate_left
               ·intro w'
                go_simp
                with_reducible rfl
               rotate_left
               ·simp only [Act.put, List.setIfInBounds_toArray, List.set_cons_zero, List.set_cons_succ, i64_w, i32_w]
                rfl
               refine pure_ (i := 23) (N := some 63) (v := ?_) (a' := ?_) #[true, true, true, true, true, true, true, true, true, true, true, true, true, true, true, true, true, true, true, true, true, true, true, true, false, false, false, false, false, false, false, false] rfl rfl (any_of HT_.out (by kernel_rfl)) (fun _ _ _ h => h) (Or.inl ⟨by rfl, ?_⟩) ?_ ?_
               rotate_left
               ·intro w'
                go_simp
                with_reducible rfl
               rotate_left
               ·simp only [Act.put, List.setIfInBounds_toArray, List.set_cons_zero, List.set_cons_succ, i64_w, i32_w]
                rfl
               refine pure_ (i := 25) (N := some 65) (v := ?_) (a' := ?_) #[true, true, true, true, true, true, true, true, true, true, true, true, true, true, true, true, true, true, true, true, true, true, true, true, false, true, false, false, false, false, false, false] rfl rfl (any_of HT_.out (by kernel_rfl)) (fun _ _ _ h => h) (Or.inl ⟨by rfl, ?_⟩) ?_ ?_
               rotate_left
               ·intro w'
                go_simp
                with_reducible rfl
               rotate_left
               ·simp only [Act.put, List.setIfInBounds_toArray, List.set_cons_zero, List.set_cons_succ, i64_w, i32_w]
                rfl
               refine take_ (i := 24) (N := some 64) (v := ?_) (a' := ?_) #[true, true, true, true, true, true, true, true, true, true, true, true, true, true, true, true, true, true, true, true, true, true, true, true, true, true, false, false, false, false, false, false] rfl rfl (take_ofW HT_.out HW_.out (by kernel_rfl)) (fun _ _ _ h => h) (Or.inl ⟨by rfl, ?_⟩) hHeld ?_ ?_
               rotate_left
               ·rintro w' ⟨s0, s1, s2, s3, s4, s5, s6, s7, s8, s9, s10, s11, s12, s13, s14, s15, s16, s17, s18, s19, s20, s21, s22, s23⟩
                go_simp
                with_reducible rfl
               rotate_left
               ·simp only [Act.put, List.setIfInBounds_toArray, List.set_cons_zero, List.set_cons_succ, i64_w, i32_w]
                rfl
               refine take_ (i := 26) (N := some 66) (v := ?_) (a' := ?_) #[true, true, true, true, true, true, true, true, true, true, true, true, true, true, true, true, true, true, true, true, true, true, true, true, true, true, true, false, false, false, false, false] rfl rfl (take_ofW HT_.out HW_.out (by kernel_rfl)) (fun _ _ _ h => h) (Or.inl ⟨by rfl, ?_⟩) hHeld ?_ ?_
               rotate_left
               ·rintro w' ⟨s0, s1, s2, s3, s4, s5, s6, s7, s8, s9, s10, s11, s12, s13, s14, s15, s16, s17, s18, s19, s20, s21, s22, s23⟩
                go_simp
                with_reducible rfl
               rotate_left
               ·simp only [Act.put, List.setIfInBounds_toArray, List.set_cons_zero, List.set_cons_succ, i64_w, i32_w]
                rfl
               refine pure_ (i := 27) (N := some 67) (v := ?_) (a' := ?_) #[true, true, true, true, true, true, true, true, true, true, true, true, true, true, true, true, true, true, true, true, true, true, true, true, true, true, true, true, false, false, false, false] rfl rfl (any_of HT_.out (by kernel_rfl)) (fun _ _ _ h => h) (Or.inl ⟨by rfl, ?_⟩) ?_ ?_
               rotate_left
               ·intro w'
                go_simp
                with_reducible rfl
               rotate_left
               ·simp only [Act.put, List.setIfInBounds_toArray, List.set_cons_zero, List.set_cons_succ, i64_w, i32_w]
                rfl
               refine pure_ (i := 28) (N := some 68) (v := ?_) (a' := ?_) #[true, true, true, true, true, true, true, true, true, true, true, true, true, true, true, true, true, true, true, true, true, true, true, true, true, true, true, true, true, false, false, false] rfl rfl (any_of HT_.out (by kernel_rfl)) (fun _ _ _ h => h) (Or.inl ⟨by rfl, ?_⟩) ?_ ?_
               rotate_left
               ·intro w'
                go_simp
                with_reducible rfl
               rotate_left
               ·simp only [Act.put, List.setIfInBounds_toArray, List.set_cons_zero, List.set_cons_succ, i64_w, i32_w]
                rfl
               refine pure_ (i := 29) (N := some 69) (v := ?_) (a' := ?_) #[true, true, true, true, true, true, true, true, true, true, true, true, true, true, true, true, true, true, true, true, true, true, true, true, true, true, true, true, true, true, false, false] rfl rfl (any_of HT_.out (by kernel_rfl)) (fun _ _ _ h => h) (Or.inl ⟨by rfl, ?_⟩) ?_ ?_
               rotate_left
               ·intro w'
                go_simp
                with_reducible rfl
               rotate_left
               ·simp only [Act.put, List.setIfInBounds_toArray, List.set_cons_zero, List.set_cons_succ, i64_w, i32_w]
                rfl
               refine pure_ (i := 30) (N := some 70) (v := ?_) (a' := ?_) #[true, true, true, true, true, true, true, true, true, true, true, true, true, true, true, true, true, true, true, true, true, true, true, true, true, true, true, true, true, true, true, false] rfl rfl (any_of HT_.out (by kernel_rfl)) (fun _ _ _ h => h) (Or.inl ⟨by rfl, ?_⟩) ?_ ?_
               rotate_left
               ·intro w'
                go_simp
                with_reducible rfl
               rotate_left
               ·simp only [Act.put, List.setIfInBounds_toArray, List.set_cons_zero, List.set_cons_succ, i64_w, i32_w]
                rfl
               refine pure_ (i := 31) (N := some 9) (v := ?_) (a' := ?_) #[true, true, true, true, true, true, true, true, true, true, true, true, true, true, true, true, true, true, true, true, true, true, true, true, true, true, true, true, true, true, true, true] rfl rfl (any_of HT_.out (by kernel_rfl)) (fun _ _ _ h => h) (Or.inl ⟨by rfl, ?_⟩) ?_ ?_
               rotate_left
               ·intro w'
                go_simp
                with_reducible rfl
               rotate_left
               ·simp only [Act.put, List.setIfInBounds_toArray, List.set_cons_zero, List.set_cons_succ, i64_w, i32_w]
                rfl
               refine done_ (done_of HT_.out (by kernel_rfl)) ?_
               try go_wp2
               go_meet
               case rel => exact ⟨_, (decide (((rd_T43 x4_1 x8_2).f3) ≤ ((rd_T43 l0 x5_1).f3))), (by first | rfl | (simp; done) | (simp [*]; done)), H', ⟨by have := HK1.out; have := HK2.out; first | omega | exact Nat.le_refl _⟩, ⟨lf HO_3⟩, ⟨lf HO_4⟩, ⟨lf HO_7⟩, ⟨lb BK255⟩, ⟨bw⟩⟩
              ·rw [if_neg c30] at H
               have c30b0 : (((rd_T43 l0 x5_1).f4) == 2) = false := beq_eq_false_iff_ne.mpr c30
               have c30b1 : (((rd_T43 l0 x5_1).f4) != 2) = true := bne_iff_ne.mpr c30
               have H' := Aside0.mk H
               clear H
               try go_wp2
               have n0_ := Aside0.mk (Kd.R_drew HO_3.out)
               have n1_ := Aside0.mk (Kd.R_drew HO_4.out)
               have n2_ := Aside0.mk (Kd.R_drew HO_7.out)
               have n3_ := Aside0.mk (blk_drew BK255.out)
               have n4_ := Aside0.mk (below_drew1 HB.out)
               clear HO_3
               clear HO_4
               clear HO_7
               clear BK255
               clear HB
               have HO_3 := n0_
               have HO_4 := n1_
               have HO_7 := n2_
               have BK255 := n3_
               have HB := n4_
               clear n0_ n1_ n2_ n3_ n4_
               have p262 : 0 ≤ (x8_2 : Int) := of_decide_eq_true (by first | (with_reducible assumption) | assumption)
               have q262 : x8_2 < (x4_1.length : Int) := of_decide_eq_true (by first | (with_reducible assumption) | assumption)
               obtain ⟨ad262, e262, hx262_0, hx262_1, hx262_2, hx262_3, hx262_4, hx262_5⟩ := at_T43 (Kd.R_reads' HO_4.out).2.2 x8_2 p262 q262
               cases e262
               replace p262 := eq_true p262
               replace q262 := eq_true q262
               have p264 : 0 ≤ (x8_2 : Int) := of_decide_eq_true (by first | (with_reducible assumption) | assumption)
               have q264 : x8_2 < (x4_1.length : Int) := of_decide_eq_true (by first | (with_reducible assumption) | assumption)
               obtain ⟨ad264, e264, hx264_0, hx264_1, hx264_2, hx264_3, hx264_4, hx264_5⟩ := at_T43 (Kd.R_reads' HO_4.out).2.2 x8_2 p264 q264
               obtain rfl : ad262 = ad264 := (by injection e264)
               replace p264 := eq_true p264
               replace q264 := eq_true q264
               refine start_ (n := 32) (S := fun w' => w'.cell? ⟨gb255, 0, none⟩ = some (.string ((rd_T43 l0 x5_1).f0)) ∧ w'.cell? ⟨gb255, 1, none⟩ = some (.string ((rd_T43 l0 x5_1).f1)) ∧ w'.cell? ⟨gb255, 2, none⟩ = some (.string ((rd_T43 l0 x5_1).f2)) ∧ w'.cell? ⟨gb255, 3, none⟩ = some (.int .u64 ((rd_T43 l0 x5_1).f3)) ∧ w'.cell? ⟨gb255, 4, none⟩ = some (.int .i64 ((rd_T43 l0 x5_1).f4)) ∧ w'.cell? ⟨gb255, 5, none⟩ = some (.string ((rd_T43 l0 x5_1).f5)) ∧ w'.cell? (ad262.add ((x8_2).toNat * 6)) = some (.string ((rd_T43 x4_1 x8_2).f0)) ∧ w'.cell? ⟨(ad262.add ((x8_2).toNat * 6)).block, (ad262.add ((x8_2).toNat * 6)).off + 1, none⟩ = some (.string ((rd_T43 x4_1 x8_2).f1)) ∧ w'.cell? ⟨(ad262.add ((x8_2).toNat * 6)).block, (ad262.add ((x8_2).toNat * 6)).off + 2, none⟩ = some (.string ((rd_T43 x4_1 x8_2).f2)) ∧ w'.cell? ⟨(ad262.add ((x8_2).toNat * 6)).block, (ad262.add ((x8_2).toNat * 6)).off + 3, none⟩ = some (.int .u64 ((rd_T43 x4_1 x8_2).f3)) ∧ w'.cell? ⟨(ad262.add ((x8_2).toNat * 6)).block, (ad262.add ((x8_2).toNat * 6)).off + 4, none⟩ = some (.int .i64 ((rd_T43 x4_1 x8_2).f4)) ∧ w'.cell? ⟨(ad262.add ((x8_2).toNat * 6)).block, (ad262.add ((x8_2).toNat * 6)).off + 5, none⟩ = some (.string ((rd_T43 x4_1 x8_2).f5)) ∧ w'.cell? (ad262.add ((x8_2).toNat * 6)) = some (.string ((rd_T43 x4_1 x8_2).f0)) ∧ w'.cell? ⟨(ad262.add ((x8_2).toNat * 6)).block, (ad262.add ((x8_2).toNat * 6)).off + 1, none⟩ = some (.string ((rd_T43 x4_1 x8_2).f1)) ∧ w'.cell? ⟨(ad262.add ((x8_2).toNat * 6)).block, (ad262.add ((x8_2).toNat * 6)).off + 2, none⟩ = some (.string ((rd_T43 x4_1 x8_2).f2)) ∧ w'.cell? ⟨(ad262.add ((x8_2).toNat * 6)).block, (ad262.add ((x8_2).toNat * 6)).off + 3, none⟩ = some (.int .u64 ((rd_T43 x4_1 x8_2).f3)) ∧ w'.cell? ⟨(ad262.add ((x8_2).toNat * 6)).block, (ad262.add ((x8_2).toNat * 6)).off + 4, none⟩ = some (.int .i64 ((rd_T43 x4_1 x8_2).f4)) ∧ w'.cell? ⟨(ad262.add ((x8_2).toNat * 6)).block, (ad262.add ((x8_2).toNat * 6)).off + 5, none⟩ = some (.string ((rd_T43 x4_1 x8_2).f5))) (ds := []) #[false, false, false, false, false, false, false, false, false, false, false, false, false, false, false, false, false, false, false, false, false, false, false, false, false, false, false, false, false, false, false, false] (by kernel_rfl) rfl rfl ⟨(blk_cell BK255.out 0).trans rfl, (blk_cell BK255.out 1).trans rfl, (blk_cell BK255.out 2).trans rfl, (blk_cell BK255.out 3).trans rfl, (blk_cell BK255.out 4).trans rfl, (blk_cell BK255.out 5).trans rfl, hx262_0, hx262_1, hx262_2, hx262_3, hx262_4, hx262_5, hx264_0, hx264_1, hx264_2, hx264_3, hx264_4, hx264_5⟩ (fun hHeld => ?_); refine with_tabW spec_Replay.tab15 spec_Replay.bits15 (fun HT_ HW_ => ?_)
               generalize wr.drew = w33 at HO_3 HO_4 HO_7 BK255 HB hx262_0 hx262_1 hx262_2 hx262_3 hx262_4 hx262_5 hx264_0 hx264_1 hx264_2 hx264_3 hx264_4 hx264_5 hHeld ⊢
               refine pure_ (i := 0) (N := some 40) (v := ?_) (a' := ?_) #[true, false, false, false, false, false, false, false, false, false, false, false, false, false, false, false, false, false, false, false, false, false, false, false, false, false, false, false, false, false, false, false] rfl rfl (any_of HT_.out (by kernel_rfl)) (fun _ _ _ h => h) (Or.inl ⟨by rfl, ?_⟩) ?_ ?_
               rotate_left
               ·intro w'
                go_simp
                with_reducible rfl
               rotate_left
               ·simp only [Act.put, List.setIfInBounds_toArray, List.set_cons_zero, List.set_cons_succ, i64_w, i32_w]
                rfl
               refine pure_ (i := 1) (N := some 41) (v := ?_) (a' := ?_) #[true, true, false, false, false, false, false, false, false, false, false, false, false, false, false, false, false, false, false, false, false, false, false, false, false, false, false, false, false, false, false, false] rfl rfl (any_of HT_.out (by kernel_rfl)) (fun _ _ _ h => h) (Or.inl ⟨by rfl, ?_⟩) ?_ ?_
               rotate_left
               ·intro w'
                go_simp
                with_reducible rfl
               rotate_left
               ·simp only [Act.put, List.setIfInBounds_toArray, List.set_cons_zero, List.set_cons_succ, i64_w, i32_w]
                rfl
               refine pure_ (i := 2) (N := some 42) (v := ?_) (a' := ?_) #[true, true, true, false, false, false, false, false, false, false, false, false, false, false, false, false, false, false, false, false, false, false, false, false, false, false, false, false, false, false, false, false] rfl rfl (any_of HT_.out (by kernel_rfl)) (fun _ _ _ h => h) (Or.inl ⟨by rfl, ?_⟩) ?_ ?_
               rotate_left
               ·intro w'
                go_simp
                with_reducible rfl
               rotate_left
               ·simp only [Act.put, List.setIfInBounds_toArray, List.set_cons_zero, List.set_cons_succ, i64_w, i32_w]
                rfl
               refine take_ (i := 3) (N := some 43) (v := ?_) (a' := ?_) #[true, true, true, true, false, false, false, false, false, false, false, false, false, false, false, false, false, false, false, false, false, false, false, false, false, false, false, false, false, false, false, false] rfl rfl (take_ofW HT_.out HW_.out (by kernel_rfl)) (fun _ _ _ h => h) (Or.inl ⟨by rfl, ?_⟩) hHeld ?_ ?_
               rotate_left
               ·rintro w' ⟨s0, s1, s2, s3, s4, s5, s6, s7, s8, s9, s10, s11, s12, s13, s14, s15, s16, s17⟩
                go_simp
                with_reducible rfl
               rotate_left
               ·simp only [Act.put, List.setIfInBounds_toArray, List.set_cons_zero, List.set_cons_succ, i64_w, i32_w]
                rfl
               refine take_ (i := 4) (N := some 44) (v := ?_) (a' := ?_) #[true, true, true, true, true, false, false, false, false, false, false, false, false, false, false, false, false, false, false, false, false, false, false, false, false, false, false, false, false, false, false, false] rfl rfl (take_ofW HT_.out HW_.out (by kernel_rfl)) (fun _ _ _ h => h) (Or.inl ⟨by rfl, ?_⟩) hHeld ?_ ?_
               rotate_left
               ·rintro w' ⟨s0, s1, s2, s3, s4, s5, s6, s7, s8, s9, s10, s11, s12, s13, s14, s15, s16, s17⟩
                go_simp
                with_reducible rfl
               rotate_left
               ·simp only [Act.put, List.setIfInBounds_toArray, List.set_cons_zero, List.set_cons_succ, i64_w, i32_w]
                rfl
               refine one_ (i := 5) (N := some 45) #[true, true, true, true, true, true, false, false, false, false, false, false, false, false, false, false, false, false, false, false, false, false, false, false, false, false, false, false, false, false, false, false] rfl rfl (one_of HT_.out (by kernel_rfl)) (by decide) (fun K hK => ?_)
               refine goes_ Try.func23 (by kernel_rfl) rfl #[.agg #[.string ((rd_T43 x4_1 x8_2).f0), .string ((rd_T43 x4_1 x8_2).f1), .string ((rd_T43 x4_1 x8_2).f2), .int .u64 ((rd_T43 x4_1 x8_2).f3), .int .i64 ((rd_T43 x4_1 x8_2).f4), .string ((rd_T43 x4_1 x8_2).f5)], .agg #[.string ((rd_T43 l0 x5_1).f0), .string ((rd_T43 l0 x5_1).f1), .string ((rd_T43 l0 x5_1).f2), .int .u64 ((rd_T43 l0 x5_1).f3), .int .i64 ((rd_T43 l0 x5_1).f4), .string ((rd_T43 l0 x5_1).f5)]] (by rfl) rfl rfl (by (try simp only [List.map_toArray, List.map_cons, List.map_nil]); first | done | rfl | (simp only [List.length_drop, List.length_take]; rfl)) ?_
               with_reducible refine (spec_l1SameColumn.calls ((rd_T43 x4_1 x8_2).f0) ((rd_T43 x4_1 x8_2).f1) ((rd_T43 x4_1 x8_2).f2) ((rd_T43 x4_1 x8_2).f3) ((rd_T43 x4_1 x8_2).f4) ((rd_T43 x4_1 x8_2).f5) ((rd_T43 l0 x5_1).f0) ((rd_T43 l0 x5_1).f1) ((rd_T43 l0 x5_1).f2) ((rd_T43 l0 x5_1).f3) ((rd_T43 l0 x5_1).f4) ((rd_T43 l0 x5_1).f5) true _ A25.out).mono ?_
               rintro e w34 ⟨rfl, hb⟩
               have HS6_ := (hb.cell (World.block_lt_of_cell? _ _ (hHeld.2.2.2.2.2.2.1))).trans (hHeld.2.2.2.2.2.2.1)
               have HS7_ := (hb.cell (World.block_lt_of_cell? _ _ (hHeld.2.2.2.2.2.2.2.1))).trans (hHeld.2.2.2.2.2.2.2.1)
               have HS8_ := (hb.cell (World.block_lt_of_cell? _ _ (hHeld.2.2.2.2.2.2.2.2.1))).trans (hHeld.2.2.2.2.2.2.2.2.1)
               have HS9_ := (hb.cell (World.block_lt_of_cell? _ _ (hHeld.2.2.2.2.2.2.2.2.2.1))).trans (hHeld.2.2.2.2.2.2.2.2.2.1)
               have HS10_ := (hb.cell (World.block_lt_of_cell? _ _ (hHeld.2.2.2.2.2.2.2.2.2.2.1))).trans (hHeld.2.2.2.2.2.2.2.2.2.2.1)
               have HS11_ := (hb.cell (World.block_lt_of_cell? _ _ (hHeld.2.2.2.2.2.2.2.2.2.2.2.1))).trans (hHeld.2.2.2.2.2.2.2.2.2.2.2.1)
               have HS12_ := (hb.cell (World.block_lt_of_cell? _ _ (hHeld.2.2.2.2.2.2.2.2.2.2.2.2.1))).trans (hHeld.2.2.2.2.2.2.2.2.2.2.2.2.1)
               have HS13_ := (hb.cell (World.block_lt_of_cell? _ _ (hHeld.2.2.2.2.2.2.2.2.2.2.2.2.2.1))).trans (hHeld.2.2.2.2.2.2.2.2.2.2.2.2.2.1)
               have HS14_ := (hb.cell (World.block_lt_of_cell? _ _ (hHeld.2.2.2.2.2.2.2.2.2.2.2.2.2.2.1))).trans (hHeld.2.2.2.2.2.2.2.2.2.2.2.2.2.2.1)
               have HS15_ := (hb.cell (World.block_lt_of_cell? _ _ (hHeld.2.2.2.2.2.2.2.2.2.2.2.2.2.2.2.1))).trans (hHeld.2.2.2.2.2.2.2.2.2.2.2.2.2.2.2.1)
               have HS16_ := (hb.cell (World.block_lt_of_cell? _ _ (hHeld.2.2.2.2.2.2.2.2.2.2.2.2.2.2.2.2.1))).trans (hHeld.2.2.2.2.2.2.2.2.2.2.2.2.2.2.2.2.1)
               have HS17_ := (hb.cell (World.block_lt_of_cell? _ _ (hHeld.2.2.2.2.2.2.2.2.2.2.2.2.2.2.2.2.2))).trans (hHeld.2.2.2.2.2.2.2.2.2.2.2.2.2.2.2.2.2)
               refine ⟨_, rfl, ?_⟩
               have n0_ := Aside0.mk (Kd.R_below (lf HO_3) hb)
               have n1_ := Aside0.mk (Kd.R_below (lf HO_4) hb)
               have n2_ := Aside0.mk (Kd.R_below (lf HO_7) hb)
               have n3_ := Aside0.mk (blk_below (g := gb255) (o := .cells #[.string ((rd_T43 l0 x5_1).f0), .string ((rd_T43 l0 x5_1).f1), .string ((rd_T43 l0 x5_1).f2), .int .u64 ((rd_T43 l0 x5_1).f3), .int .i64 ((rd_T43 l0 x5_1).f4), .string ((rd_T43 l0 x5_1).f5)] 43 (0, 0)) (lb BK255) hb)
               have n4_ := Aside0.mk (below_step bw hb)
               clear HO_3
               clear HO_4
               clear HO_7
               clear BK255
               clear HB
               have HO_3 := n0_
               have HO_4 := n1_
               have HO_7 := n2_
               have BK255 := n3_
               have HB := n4_
               clear n0_ n1_ n2_ n3_ n4_
               (try clear hb)
               (try clear hb2)
               (try clear hk)
               (try clear hi)
               refine hK.out _ _ ⟨(blk_cell BK255.out 0).trans rfl, (blk_cell BK255.out 1).trans rfl, (blk_cell BK255.out 2).trans rfl, (blk_cell BK255.out 3).trans rfl, (blk_cell BK255.out 4).trans rfl, (blk_cell BK255.out 5).trans rfl, HS6_, HS7_, HS8_, HS9_, HS10_, HS11_, HS12_, HS13_, HS14_, HS15_, HS16_, HS17_⟩ (fun hHeld => ?_)
               clear hK K
               refine norm_ (a' := ?_) ?_ ?_
               rotate_left
               ·show Act.put _ (some 45) _ = _
                simp only [Act.put, List.setIfInBounds_toArray, List.set_cons_zero, List.set_cons_succ, i64_w, i32_w]
                rfl
               refine pure_ (i := 6) (N := some 46) (v := ?_) (a' := ?_) #[true, true, true, true, true, true, true, false, false, false, false, false, false, false, false, false, false, false, false, false, false, false, false, false, false, false, false, false, false, false, false, false] rfl rfl (any_of HT_.out (by kernel_rfl)) (fun _ _ _ h => h) (Or.inl ⟨by rfl, ?_⟩) ?_ ?_
               rotate_left
               ·intro w'
                go_simp
                with_reducible rfl
               rotate_left
               ·simp only [Act.put, List.setIfInBounds_toArray, List.set_cons_zero, List.set_cons_succ, i64_w, i32_w]
                rfl
               refine pure_ (i := 7) (N := some 47) (v := ?_) (a' := ?_) #[true, true, true, true, true, true, true, true, false, false, false, false, false, false, false, false, false, false, false, false, false, false, false, false, false, false, false, false, false, false, false, false] rfl rfl (any_of HT_.out (by kernel_rfl)) (fun _ _ _ h => h) (Or.inl ⟨by rfl, ?_⟩) ?_ ?_
               rotate_left
               ·intro w'
                go_simp
                with_reducible rfl
               rotate_left
               ·simp only [Act.put, List.setIfInBounds_toArray, List.set_cons_zero, List.set_cons_succ, i64_w, i32_w]
                rfl
               refine pure_ (i := 8) (N := some 48) (v := ?_) (a' := ?_) #[true, true, true, true, true, true, true, true, true, false, false, false, false, false, false, false, false, false, false, false, false, false, false, false, false, false, false, false, false, false, false, false] rfl rfl (any_of HT_.out (by kernel_rfl)) (fun _ _ _ h => h) (Or.inl ⟨by rfl, ?_⟩) ?_ ?_
               rotate_left
               ·intro w'
                go_simp
                with_reducible rfl
               rotate_left
               ·simp only [Act.put, List.setIfInBounds_toArray, List.set_cons_zero, List.set_cons_succ, i64_w, i32_w]
                rfl
               refine pure_ (i := 9) (N := some 49) (v := ?_) (a' := ?_) #[true, true, true, true, true, true, true, true, true, true, false, false, false, false, false, false, false, false, false, false, false, false, false, false, false, false, false, false, false, false, false, false] rfl rfl (any_of HT_.out (by kernel_rfl)) (fun _ _ _ h => h) (Or.inl ⟨by rfl, ?_⟩) ?_ ?_
               rotate_left
               ·intro w'
                go_simp
                with_reducible rfl
               rotate_left
               ·simp only [Act.put, List.setIfInBounds_toArray, List.set_cons_zero, List.set_cons_succ, i64_w, i32_w]
                rfl
               refine pure_ (i := 10) (N := some 50) (v := ?_) (a' := ?_) #[true, true, true, true, true, true, true, true, true, true, true, false, false, false, false, false, false, false, false, false, false, false, false, false, false, false, false, false, false, false, false, false] rfl rfl (any_of HT_.out (by kernel_rfl)) (fun _ _ _ h => h) (Or.inl ⟨by rfl, ?_⟩) ?_ ?_
               rotate_left
               ·intro w'
                go_simp
                with_reducible rfl
               rotate_left
               ·simp only [Act.put, List.setIfInBounds_toArray, List.set_cons_zero, List.set_cons_succ, i64_w, i32_w]
                rfl
               refine pure_ (i := 12) (N := some 52) (v := ?_) (a' := ?_) #[true, true, true, true, true, true, true, true, true, true, true, false, true, false, false, false, false, false, false, false, false, false, false, false, false, false, false, false, false, false, false, false] rfl rfl (any_of HT_.out (by kernel_rfl)) (fun _ _ _ h => h) (Or.inl ⟨by rfl, ?_⟩) ?_ ?_
               rotate_left
               ·intro w'
                go_simp
                with_reducible rfl
               rotate_left
               ·simp only [Act.put, List.setIfInBounds_toArray, List.set_cons_zero, List.set_cons_succ, i64_w, i32_w]
                rfl
               refine take_ (i := 11) (N := some 51) (v := ?_) (a' := ?_) #[true, true, true, true, true, true, true, true, true, true, true, true, true, false, false, false, false, false, false, false, false, false, false, false, false, false, false, false, false, false, false, false] rfl rfl (take_ofW HT_.out HW_.out (by kernel_rfl)) (fun _ _ _ h => h) (Or.inl ⟨by rfl, ?_⟩) hHeld ?_ ?_
               rotate_left
               ·rintro w' ⟨s0, s1, s2, s3, s4, s5, s6, s7, s8, s9, s10, s11, s12, s13, s14, s15, s16, s17⟩
                go_simp
                with_reducible rfl
               rotate_left
               ·simp only [Act.put, List.setIfInBounds_toArray, List.set_cons_zero, List.set_cons_succ, i64_w, i32_w]
                rfl
               refine take_ (i := 13) (N := some 53) (v := ?_) (a' := ?_) #[true, true, true, true, true, true, true, true, true, true, true, true, true, true, false, false, false, false, false, false, false, false, false, false, false, false, false, false, false, false, false, false] rfl rfl (take_ofW HT_.out HW_.out (by kernel_rfl)) (fun _ _ _ h => h) (Or.inl ⟨by rfl, ?_⟩) hHeld ?_ ?_
               rotate_left
               ·rintro w' ⟨s0, s1, s2, s3, s4, s5, s6, s7, s8, s9, s10, s11, s12, s13, s14, s15, s16, s17⟩
                go_simp
                with_reducible rfl
               rotate_left
               ·simp only [Act.put, List.setIfInBounds_toArray, List.set_cons_zero, List.set_cons_succ, i64_w, i32_w]
                rfl
               refine pure_ (i := 14) (N := some 54) (v := ?_) (a' := ?_) #[true, true, true, true, true, true, true, true, true, true, true, true, true, true, true, false, false, false, false, false, false, false, false, false, false, false, false, false, false, false, false, false] rfl rfl (any_of HT_.out (by kernel_rfl)) (fun _ _ _ h => h) (Or.inl ⟨by rfl, ?_⟩) ?_ ?_
               rotate_left
               ·intro w'
                go_simp
                with_reducible rfl
               rotate_left
               ·simp only [Act.put, List.setIfInBounds_toArray, List.set_cons_zero, List.set_cons_succ, i64_w, i32_w]
                rfl
               refine pure_ (i := 15) (N := some 55) (v := ?_) (a' := ?_) #[true, true, true, true, true, true, true, true, true, true, true, true, true, true, true, true, false, false, false, false, false, false, false, false, false, false, false, false, false, false, false, false] rfl rfl (any_of HT_.out (by kernel_rfl)) (fun _ _ _ h => h) (Or.inl ⟨by rfl, ?_⟩) ?_ ?_
               rotate_left
               ·intro w'
                go_simp
                with_reducible rfl
               rotate_left
               ·simp only [Act.put, List.setIfInBounds_toArray, List.set_cons_zero, List.set_cons_succ, i64_w, i32_w]
                rfl
               refine pure_ (i := 16) (N := some 56) (v := ?_) (a' := ?_) #[true, true, true, true, true, true, true, true, true, true, true, true, true, true, true, true, true, false, false, false, false, false, false, false, false, false, false, false, false, false, false, false] rfl rfl (any_of HT_.out (by kernel_rfl)) (fun _ _ _ h => h) (Or.inl ⟨by rfl, ?_⟩) ?_ ?_
               rotate_left
               ·intro w'
                go_simp
                with_reducible rfl
               rotate_left
               ·simp only [Act.put, List.setIfInBounds_toArray, List.set_cons_zero, List.set_cons_succ, i64_w, i32_w]
                rfl
               refine take_ (i := 17) (N := some 57) (v := ?_) (a' := ?_) #[true, true, true, true, true, true, true, true, true, true, true, true, true, true, true, true, true, true, false, false, false, false, false, false, false, false, false, false, false, false, false, false] rfl rfl (take_ofW HT_.out HW_.out (by kernel_rfl)) (fun _ _ _ h => h) (Or.inl ⟨by rfl, ?_⟩) hHeld ?_ ?_
               rotate_left
               ·rintro w' ⟨s0, s1, s2, s3, s4, s5, s6, s7, s8, s9, s10, s11, s12, s13, s14, s15, s16, s17⟩
                go_simp
                with_reducible rfl
               rotate_left
               ·simp only [Act.put, List.setIfInBounds_toArray, List.set_cons_zero, List.set_cons_succ, i64_w, i32_w]
                rfl
               refine pure_ (i := 18) (N := some 58) (v := ?_) (a' := ?_) #[true, true, true, true, true, true, true, true, true, true, true, true, true, true, true, true, true, true, true, false, false, false, false, false, false, false, false, false, false, false, false, false] rfl rfl (any_of HT_.out (by kernel_rfl)) (fun _ _ _ h => h) (Or.inl ⟨by rfl, ?_⟩) ?_ ?_
               rotate_left
               ·intro w'
                go_simp
                with_reducible rfl
               rotate_left
               ·simp only [Act.put, List.setIfInBounds_toArray, List.set_cons_zero, List.set_cons_succ, i64_w, i32_w]
                rfl
               refine pure_ (i := 19) (N := some 59) (v := ?_) (a' := ?_) #[true, true, true, true, true, true, true, true, true, true, true, true, true, true, true, true, true, true, true, true, false, false, false, false, false, false, false, false, false, false, false, false] rfl rfl (any_of HT_.out (by kernel_rfl)) (fun _ _ _ h => h) (Or.inl ⟨by rfl, ?_⟩) ?_ ?_
               rotate_left
               ·intro w'
                go_simp
                with_reducible rfl
               rotate_left
               ·simp only [Act.put, List.setIfInBounds_toArray, List.set_cons_zero, List.set_cons_succ, i64_w, i32_w]
                rfl
               refine pure_ (i := 20) (N := some 60) (v := undef) (a' := ?_) #[true, true, true, true, true, true, true, true, true, true, true, true, true, true, true, true, true, true, true, true, true, false, false, false, false, false, false, false, false, false, false, false] rfl rfl (any_of HT_.out (by kernel_rfl)) (fun _ _ _ h => h) (Or.inr ⟨by rfl, rfl⟩) ?_ ?_
               rotate_left
               ·simp only [Act.put, List.setIfInBounds_toArray, List.set_cons_zero, List.set_cons_succ, i64_w, i32_w]
                rfl
               refine pure_ (i := 21) (N := some 61) (v := undef) (a' := ?_) #[true, true, true, true, true, true, true, true, true, true, true, true, true, true, true, true, true, true, true, true, true, true, false, false, false, false, false, false, false, false, false, false] rfl rfl (any_of HT_.out (by kernel_rfl)) (fun _ _ _ h => h) (Or.inr ⟨by rfl, rfl⟩) ?_ ?_
               rotate_left
               ·simp only [Act.put, List.setIfInBounds_toArray, List.set_cons_zero, List.set_cons_succ, i64_w, i32_w]
                rfl
               refine pure_ (i := 22) (N := some 62) (v := undef) (a' := ?_) #[true, true, true, true, true, true, true, true, true, true, true, true, true, true, true, true, true, true, true, true, true, true, true, false, false, false, false, false, false, false, false, false] rfl rfl (any_of HT_.out (by kernel_rfl)) (fun _ _ _ h => h) (Or.inr ⟨by rfl, rfl⟩) ?_ ?_
               rotate_left
               ·simp only [Act.put, List.setIfInBounds_toArray, List.set_cons_zero, List.set_cons_succ, i64_w, i32_w]
                rfl
               refine pure_ (i := 23) (N := some 63) (v := undef) (a' := ?_) #[true, true, true, true, true, true, true, true, true, true, true, true, true, true, true, true, true, true, true, true, true, true, true, true, false, false, false, false, false, false, false, false] rfl rfl (any_of HT_.out (by kernel_rfl)) (fun _ _ _ h => h) (Or.inr ⟨by rfl, rfl⟩) ?_ ?_
               rotate_left
               ·simp only [Act.put, List.setIfInBounds_toArray, List.set_cons_zero, List.set_cons_succ, i64_w, i32_w]
                rfl
               refine pure_ (i := 24) (N := some 64) (v := undef) (a' := ?_) #[true, true, true, true, true, true, true, true, true, true, true, true, true, true, true, true, true, true, true, true, true, true, true, true, true, false, false, false, false, false, false, false] rfl rfl (any_of HT_.out (by kernel_rfl)) (fun _ _ _ h => h) (Or.inr ⟨by rfl, rfl⟩) ?_ ?_
               rotate_left
               ·simp only [Act.put, List.setIfInBounds_toArray, List.set_cons_zero, List.set_cons_succ, i64_w, i32_w]
                rfl
               refine pure_ (i := 25) (N := some 65) (v := undef) (a' := ?_) #[true, true, true, true, true, true, true, true, true, true, true, true, true, true, true, true, true, true, true, true, true, true, true, true, true, true, false, false, false, false, false, false] rfl rfl (any_of HT_.out (by kernel_rfl)) (fun _ _ _ h => h) (Or.inr ⟨by rfl, rfl⟩) ?_ ?_
               rotate_left
               ·simp only [Act.put, List.setIfInBounds_toArray, List.set_cons_zero, List.set_cons_succ, i64_w, i32_w]
                rfl
               refine pure_ (i := 26) (N := some 66) (v := undef) (a' := ?_) #[true, true, true, true, true, true, true, true, true, true, true, true, true, true, true, true, true, true, true, true, true, true, true, true, true, true, true, false, false, false, false, false] rfl rfl (any_of HT_.out (by kernel_rfl)) (fun _ _ _ h => h) (Or.inr ⟨by rfl, rfl⟩) ?_ ?_
               rotate_left
               ·simp only [Act.put, List.setIfInBounds_toArray, List.set_cons_zero, List.set_cons_succ, i64_w, i32_w]
                rfl
               refine pure_ (i := 27) (N := some 67) (v := undef) (a' := ?_) #[true, true, true, true, true, true, true, true, true, true, true, true, true, true, true, true, true, true, true, true, true, true, true, true, true, true, true, true, false, false, false, false] rfl rfl (any_of HT_.out (by kernel_rfl)) (fun _ _ _ h => h) (Or.inr ⟨by rfl, rfl⟩) ?_ ?_
               rotate_left
               ·simp only [Act.put, List.setIfInBounds_toArray, List.set_cons_zero, List.set_cons_succ, i64_w, i32_w]
                rfl
               refine pure_ (i := 28) (N := some 68) (v := ?_) (a' := ?_) #[true, true, true, true, true, true, true, true, true, true, true, true, true, true, true, true, true, true, true, true, true, true, true, true, true, true, true, true, true, false, false, false] rfl rfl (any_of HT_.out (by kernel_rfl)) (fun _ _ _ h => h) (Or.inl ⟨by rfl, ?_⟩) ?_ ?_
               rotate_left
               ·intro w'
                go_simp
                with_reducible rfl
               rotate_left
               ·simp only [Act.put, List.setIfInBounds_toArray, List.set_cons_zero, List.set_cons_succ, i64_w, i32_w]
                rfl
               refine pure_ (i := 29) (N := some 69) (v := ?_) (a' := ?_) #[true, true, true, true, true, true, true, true, true, true, true, true, true, true, true, true, true, true, true, true, true, true, true, true, true, true, true, true, true, true, false, false] rfl rfl (any_of HT_.out (by kernel_rfl)) (fun _ _ _ h => h) (Or.inl ⟨by rfl, ?_⟩) ?_ ?_
               rotate_left
               ·intro w'
                go_simp
                with_reducible rfl
               rotate_left
               ·simp only [Act.put, List.setIfInBounds_toArray, List.set_cons_zero, List.set_cons_succ, i64_w, i32_w]
                rfl
               refine pure_ (i := 30) (N := some 70) (v := ?_) (a' := ?_) #[true, true, true, true, true, true, true, true, true, true, true, true, true, true, true, true, true, true, true, true, true, true, true, true, true, true, true, true, true, true, true, false] rfl rfl (any_of HT_.out (by kernel_rfl)) (fun _ _ _ h => h) (Or.inl ⟨by rfl, ?_⟩) ?_ ?_
               rotate_left
               ·intro w'
                go_simp
                with_reducible rfl
               rotate_left
               ·simp only [Act.put, List.setIfInBounds_toArray, List.set_cons_zero, List.set_cons_succ, i64_w, i32_w]
                rfl
               refine pure_ (i := 31) (N := some 9) (v := ?_) (a' := ?_) #[true, true, true, true, true, true, true, true, true, true, true, true, true, true, true, true, true, true, true, true, true, true, true, true, true, true, true, true, true, true, true, true] rfl rfl (any_of HT_.out (by kernel_rfl)) (fun _ _ _ h => h) (Or.inl ⟨by rfl, ?_⟩) ?_ ?_
               rotate_left
               ·intro w'
                go_simp
                with_reducible rfl
               rotate_left
               ·simp only [Act.put, List.setIfInBounds_toArray, List.set_cons_zero, List.set_cons_succ, i64_w, i32_w]
                rfl
               refine done_ (done_of HT_.out (by kernel_rfl)) ?_
               try go_wp2
               go_meet
               case rel => exact ⟨_, (false), (by first | rfl | (simp; done) | (simp [*]; done)), H', ⟨by have := HK1.out; have := HK2.out; first | omega | exact Nat.le_refl _⟩, ⟨lf HO_3⟩, ⟨lf HO_4⟩, ⟨lf HO_7⟩, ⟨lb BK255⟩, ⟨bw⟩⟩
            ·replace c26 := Bool.eq_false_iff.mpr c26
             subst c26
             have H1 : (spec_Replay.j2 k2 l0 y247 x4_1 x5_1 x7_2 x8_2 false ((rd_T43 l0 x5_1).f0) ((rd_T43 l0 x5_1).f1) ((rd_T43 l0 x5_1).f2) ((rd_T43 l0 x5_1).f3) ((rd_T43 l0 x5_1).f4) ((rd_T43 l0 x5_1).f5)) = some r := by rw [if_neg (show ¬ (false = true) by decide)] at H; exact H
             clear H
             have H := H1
             clear H1
             have H' := Aside0.mk H
             clear H
             try go_wp2
             have n0_ := Aside0.mk (Kd.R_drew HO_3.out)
             have n1_ := Aside0.mk (Kd.R_drew HO_4.out)
             have n2_ := Aside0.mk (Kd.R_drew HO_7.out)
             have n3_ := Aside0.mk (blk_drew BK255.out)
             have n4_ := Aside0.mk (below_drew1 HB.out)
             clear HO_3
             clear HO_4
             clear HO_7
             clear BK255
             clear HB
             have HO_3 := n0_
             have HO_4 := n1_
             have HO_7 := n2_
             have BK255 := n3_
             have HB := n4_
             clear n0_ n1_ n2_ n3_ n4_
             have p262 : 0 ≤ (x8_2 : Int) := of_decide_eq_true (by first | (with_reducible assumption) | assumption)
             have q262 : x8_2 < (x4_1.length : Int) := of_decide_eq_true (by first | (with_reducible assumption) | assumption)
             obtain ⟨ad262, e262, hx262_0, hx262_1, hx262_2, hx262_3, hx262_4, hx262_5⟩ := at_T43 (Kd.R_reads' HO_4.out).2.2 x8_2 p262 q262
             cases e262
             replace p262 := eq_true p262
             replace q262 := eq_true q262
             refine start_ (n := 32) (S := fun w' => w'.cell? ⟨gb255, 0, none⟩ = some (.string ((rd_T43 l0 x5_1).f0)) ∧ w'.cell? ⟨gb255, 1, none⟩ = some (.string ((rd_T43 l0 x5_1).f1)) ∧ w'.cell? ⟨gb255, 2, none⟩ = some (.string ((rd_T43 l0 x5_1).f2)) ∧ w'.cell? ⟨gb255, 3, none⟩ = some (.int .u64 ((rd_T43 l0 x5_1).f3)) ∧ w'.cell? ⟨gb255, 4, none⟩ = some (.int .i64 ((rd_T43 l0 x5_1).f4)) ∧ w'.cell? ⟨gb255, 5, none⟩ = some (.string ((rd_T43 l0 x5_1).f5)) ∧ w'.cell? (ad262.add ((x8_2).toNat * 6)) = some (.string ((rd_T43 x4_1 x8_2).f0)) ∧ w'.cell? ⟨(ad262.add ((x8_2).toNat * 6)).block, (ad262.add ((x8_2).toNat * 6)).off + 1, none⟩ = some (.string ((rd_T43 x4_1 x8_2).f1)) ∧ w'.cell? ⟨(ad262.add ((x8_2).toNat * 6)).block, (ad262.add ((x8_2).toNat * 6)).off + 2, none⟩ = some (.string ((rd_T43 x4_1 x8_2).f2)) ∧ w'.cell? ⟨(ad262.add ((x8_2).toNat * 6)).block, (ad262.add ((x8_2).toNat * 6)).off + 3, none⟩ = some (.int .u64 ((rd_T43 x4_1 x8_2).f3)) ∧ w'.cell? ⟨(ad262.add ((x8_2).toNat * 6)).block, (ad262.add ((x8_2).toNat * 6)).off + 4, none⟩ = some (.int .i64 ((rd_T43 x4_1 x8_2).f4)) ∧ w'.cell? ⟨(ad262.add ((x8_2).toNat * 6)).block, (ad262.add ((x8_2).toNat * 6)).off + 5, none⟩ = some (.string ((rd_T43 x4_1 x8_2).f5))) (ds := []) #[false, false, false, false, false, false, false, false, false, false, false, false, false, false, false, false, false, false, false, false, false, false, false, false, false, false, false, false, false, false, false, false] (by kernel_rfl) rfl rfl ⟨(blk_cell BK255.out 0).trans rfl, (blk_cell BK255.out 1).trans rfl, (blk_cell BK255.out 2).trans rfl, (blk_cell BK255.out 3).trans rfl, (blk_cell BK255.out 4).trans rfl, (blk_cell BK255.out 5).trans rfl, hx262_0, hx262_1, hx262_2, hx262_3, hx262_4, hx262_5⟩ (fun hHeld => ?_); refine with_tabW spec_Replay.tab15 spec_Replay.bits15 (fun HT_ HW_ => ?_)
             generalize wr.drew = w35 at HO_3 HO_4 HO_7 BK255 HB hx262_0 hx262_1 hx262_2 hx262_3 hx262_4 hx262_5 hHeld ⊢
             refine pure_ (i := 0) (N := some 40) (v := ?_) (a' := ?_) #[true, false, false, false, false, false, false, false, false, false, false, false, false, false, false, false, false, false, false, false, false, false, false, false, false, false, false, false, false, false, false, false] rfl rfl (any_of HT_.out (by kernel_rfl)) (fun _ _ _ h => h) (Or.inl ⟨by rfl, ?_⟩) ?_ ?_
             rotate_left
             ·intro w'
              go_simp
              with_reducible rfl
             rotate_left
             ·simp only [Act.put, List.setIfInBounds_toArray, List.set_cons_zero, List.set_cons_succ, i64_w, i32_w]
              rfl
             refine pure_ (i := 1) (N := some 41) (v := ?_) (a' := ?_) #[true, true, false, false, false, false, false, false, false, false, false, false, false, false, false, false, false, false, false, false, false, false, false, false, false, false, false, false, false, false, false, false] rfl rfl (any_of HT_.out (by kernel_rfl)) (fun _ _ _ h => h) (Or.inl ⟨by rfl, ?_⟩) ?_ ?_
             rotate_left
             ·intro w'
              go_simp
              with_reducible rfl
             rotate_left
             ·simp only [Act.put, List.setIfInBounds_toArray, List.set_cons_zero, List.set_cons_succ, i64_w, i32_w]
              rfl
             refine pure_ (i := 2) (N := some 42) (v := ?_) (a' := ?_) #[true, true, true, false, false, false, false, false, false, false, false, false, false, false, false, false, false, false, false, false, false, false, false, false, false, false, false, false, false, false, false, false] rfl rfl (any_of HT_.out (by kernel_rfl)) (fun _ _ _ h => h) (Or.inl ⟨by rfl, ?_⟩) ?_ ?_
             rotate_left
             ·intro w'
              go_simp
              with_reducible rfl
             rotate_left
             ·simp only [Act.put, List.setIfInBounds_toArray, List.set_cons_zero, List.set_cons_succ, i64_w, i32_w]
              rfl
             refine take_ (i := 3) (N := some 43) (v := ?_) (a' := ?_) #[true, true, true, true, false, false, false, false, false, false, false, false, false, false, false, false, false, false, false, false, false, false, false, false, false, false, false, false, false, false, false, false] rfl rfl (take_ofW HT_.out HW_.out (by kernel_rfl)) (fun _ _ _ h => h) (Or.inl ⟨by rfl, ?_⟩) hHeld ?_ ?_
             rotate_left
             ·rintro w' ⟨s0, s1, s2, s3, s4, s5, s6, s7, s8, s9, s10, s11⟩
              go_simp
              with_reducible rfl
             rotate_left
             ·simp only [Act.put, List.setIfInBounds_toArray, List.set_cons_zero, List.set_cons_succ, i64_w, i32_w]
              rfl
             refine take_ (i := 4) (N := some 44) (v := ?_) (a' := ?_) #[true, true, true, true, true, false, false, false, false, false, false, false, false, false, false, false, false, false, false, false, false, false, false, false, false, false, false, false, false, false, false, false] rfl rfl (take_ofW HT_.out HW_.out (by kernel_rfl)) (fun _ _ _ h => h) (Or.inl ⟨by rfl, ?_⟩) hHeld ?_ ?_
             rotate_left
             ·rintro w' ⟨s0, s1, s2, s3, s4, s5, s6, s7, s8, s9, s10, s11⟩
              go_simp
              with_reducible rfl
             rotate_left
             ·simp only [Act.put, List.setIfInBounds_toArray, List.set_cons_zero, List.set_cons_succ, i64_w, i32_w]
              rfl
             refine one_ (i := 5) (N := some 45) #[true, true, true, true, true, true, false, false, false, false, false, false, false, false, false, false, false, false, false, false, false, false, false, false, false, false, false, false, false, false, false, false] rfl rfl (one_of HT_.out (by kernel_rfl)) (by decide) (fun K hK => ?_)
             refine goes_ Try.func23 (by kernel_rfl) rfl #[.agg #[.string ((rd_T43 x4_1 x8_2).f0), .string ((rd_T43 x4_1 x8_2).f1), .string ((rd_T43 x4_1 x8_2).f2), .int .u64 ((rd_T43 x4_1 x8_2).f3), .int .i64 ((rd_T43 x4_1 x8_2).f4), .string ((rd_T43 x4_1 x8_2).f5)], .agg #[.string ((rd_T43 l0 x5_1).f0), .string ((rd_T43 l0 x5_1).f1), .string ((rd_T43 l0 x5_1).f2), .int .u64 ((rd_T43 l0 x5_1).f3), .int .i64 ((rd_T43 l0 x5_1).f4), .string ((rd_T43 l0 x5_1).f5)]] (by rfl) rfl rfl (by (try simp only [List.map_toArray, List.map_cons, List.map_nil]); first | done | rfl | (simp only [List.length_drop, List.length_take]; rfl)) ?_
             with_reducible refine (spec_l1SameColumn.calls ((rd_T43 x4_1 x8_2).f0) ((rd_T43 x4_1 x8_2).f1) ((rd_T43 x4_1 x8_2).f2) ((rd_T43 x4_1 x8_2).f3) ((rd_T43 x4_1 x8_2).f4) ((rd_T43 x4_1 x8_2).f5) ((rd_T43 l0 x5_1).f0) ((rd_T43 l0 x5_1).f1) ((rd_T43 l0 x5_1).f2) ((rd_T43 l0 x5_1).f3) ((rd_T43 l0 x5_1).f4) ((rd_T43 l0 x5_1).f5) false _ A25.out).mono ?_
             rintro e w36 ⟨rfl, hb⟩
             have HS6_ := (hb.cell (World.block_lt_of_cell? _ _ (hHeld.2.2.2.2.2.2.1))).trans (hHeld.2.2.2.2.2.2.1)
             have HS7_ := (hb.cell (World.block_lt_of_cell? _ _ (hHeld.2.2.2.2.2.2.2.1))).trans (hHeld.2.2.2.2.2.2.2.1)
             have HS8_ := (hb.cell (World.block_lt_of_cell? _ _ (hHeld.2.2.2.2.2.2.2.2.1))).trans (hHeld.2.2.2.2.2.2.2.2.1)
             have HS9_ := (hb.cell (World.block_lt_of_cell? _ _ (hHeld.2.2.2.2.2.2.2.2.2.1))).trans (hHeld.2.2.2.2.2.2.2.2.2.1)
             have HS10_ := (hb.cell (World.block_lt_of_cell? _ _ (hHeld.2.2.2.2.2.2.2.2.2.2.1))).trans (hHeld.2.2.2.2.2.2.2.2.2.2.1)
             have HS11_ := (hb.cell (World.block_lt_of_cell? _ _ (hHeld.2.2.2.2.2.2.2.2.2.2.2))).trans (hHeld.2.2.2.2.2.2.2.2.2.2.2)
             refine ⟨_, rfl, ?_⟩
             have n0_ := Aside0.mk (Kd.R_below (lf HO_3) hb)
             have n1_ := Aside0.mk (Kd.R_below (lf HO_4) hb)
             have n2_ := Aside0.mk (Kd.R_below (lf HO_7) hb)
             have n3_ := Aside0.mk (blk_below (g := gb255) (o := .cells #[.string ((rd_T43 l0 x5_1).f0), .string ((rd_T43 l0 x5_1).f1), .string ((rd_T43 l0 x5_1).f2), .int .u64 ((rd_T43 l0 x5_1).f3), .int .i64 ((rd_T43 l0 x5_1).f4), .string ((rd_T43 l0 x5_1).f5)] 43 (0, 0)) (lb BK255) hb)
             have n4_ := Aside0.mk (below_step bw hb)
             clear HO_3
             clear HO_4
             clear HO_7
             clear BK255
             clear HB
             have HO_3 := n0_
             have HO_4 := n1_
             have HO_7 := n2_
             have BK255 := n3_
             have HB := n4_
             clear n0_ n1_ n2_ n3_ n4_
             (try clear hb)
             (try clear hb2)
             (try clear hk)
             (try clear hi)
             refine hK.out _ _ ⟨(blk_cell BK255.out 0).trans rfl, (blk_cell BK255.out 1).trans rfl, (blk_cell BK255.out 2).trans rfl, (blk_cell BK255.out 3).trans rfl, (blk_cell BK255.out 4).trans rfl, (blk_cell BK255.out 5).trans rfl, HS6_, HS7_, HS8_, HS9_, HS10_, HS11_⟩ (fun hHeld => ?_)
             clear hK K
             refine norm_ (a' := ?_) ?_ ?_
             rotate_left
             ·show Act.put _ (some 45) _ = _
              simp only [Act.put, List.setIfInBounds_toArray, List.set_cons_zero, List.set_cons_succ, i64_w, i32_w]
              rfl
             refine pure_ (i := 6) (N := some 46) (v := ?_) (a' := ?_) #[true, true, true, true, true, true, true, false, false, false, false, false, false, false, false, false, false, false, false, false, false, false, false, false, false, false, false, false, false, false, false, false] rfl rfl (any_of HT_.out (by kernel_rfl)) (fun _ _ _ h => h) (Or.inl ⟨by rfl, ?_⟩) ?_ ?_
             rotate_left
             ·intro w'
              go_simp
              with_reducible rfl
             rotate_left
             ·simp only [Act.put, List.setIfInBounds_toArray, List.set_cons_zero, List.set_cons_succ, i64_w, i32_w]
              rfl
             refine pure_ (i := 7) (N := some 47) (v := undef) (a' := ?_) #[true, true, true, true, true, true, true, true, false, false, false, false, false, false, false, false, false, false, false, false, false, false, false, false, false, false, false, false, false, false, false, false] rfl rfl (any_of HT_.out (by kernel_rfl)) (fun _ _ _ h => h) (Or.inr ⟨by rfl, rfl⟩) ?_ ?_
             rotate_left
             ·simp only [Act.put, List.setIfInBounds_toArray, List.set_cons_zero, List.set_cons_succ, i64_w, i32_w]
              rfl
             refine pure_ (i := 8) (N := some 48) (v := undef) (a' := ?_) #[true, true, true, true, true, true, true, true, true, false, false, false, false, false, false, false, false, false, false, false, false, false, false, false, false, false, false, false, false, false, false, false] rfl rfl (any_of HT_.out (by kernel_rfl)) (fun _ _ _ h => h) (Or.inr ⟨by rfl, rfl⟩) ?_ ?_
             rotate_left
             ·simp only [Act.put, List.setIfInBounds_toArray, List.set_cons_zero, List.set_cons_succ, i64_w, i32_w]
              rfl
             refine pure_ (i := 9) (N := some 49) (v := undef) (a' := ?_) #[true, true, true, true, true, true, true, true, true, true, false, false, false, false, false, false, false, false, false, false, false, false, false, false, false, false, false, false, false, false, false, false] rfl rfl (any_of HT_.out (by kernel_rfl)) (fun _ _ _ h => h) (Or.inr ⟨by rfl, rfl⟩) ?_ ?_
             rotate_left
             ·simp only [Act.put, List.setIfInBounds_toArray, List.set_cons_zero, List.set_cons_succ, i64_w, i32_w]
              rfl
             refine pure_ (i := 10) (N := some 50) (v := undef) (a' := ?_) #[true, true, true, true, true, true, true, true, true, true, true, false, false, false, false, false, false, false, false, false, false, false, false, false, false, false, false, false, false, false, false, false] rfl rfl (any_of HT_.out (by kernel_rfl)) (fun _ _ _ h => h) (Or.inr ⟨by rfl, rfl⟩) ?_ ?_
             rotate_left
             ·simp only [Act.put, List.setIfInBounds_toArray, List.set_cons_zero, List.set_cons_succ, i64_w, i32_w]
              rfl
             refine pure_ (i := 11) (N := some 51) (v := undef) (a' := ?_) #[true, true, true, true, true, true, true, true, true, true, true, true, false, false, false, false, false, false, false, false, false, false, false, false, false, false, false, false, false, false, false, false] rfl rfl (any_of HT_.out (by kernel_rfl)) (fun _ _ _ h => h) (Or.inr ⟨by rfl, rfl⟩) ?_ ?_
             rotate_left
             ·simp only [Act.put, List.setIfInBounds_toArray, List.set_cons_zero, List.set_cons_succ, i64_w, i32_w]
              rfl
             refine pure_ (i := 12) (N := some 52) (v := undef) (a' := ?_) #[true, true, true, true, true, true, true, true, true, true, true, true, true, false, false, false, false, false, false, false, false, false, false, false, false, false, false, false, false, false, false, false] rfl rfl (any_of HT_.out (by kernel_rfl)) (fun _ _ _ h => h) (Or.inr ⟨by rfl, rfl⟩) ?_ ?_
             rotate_left
             ·simp only [Act.put, List.setIfInBounds_toArray, List.set_cons_zero, List.set_cons_succ, i64_w, i32_w]
              rfl
             refine pure_ (i := 13) (N := some 53) (v := undef) (a' := ?_) #[true, true, true, true, true, true, true, true, true, true, true, true, true, true, false, false, false, false, false, false, false, false, false, false, false, false, false, false, false, false, false, false] rfl rfl (any_of HT_.out (by kernel_rfl)) (fun _ _ _ h => h) (Or.inr ⟨by rfl, rfl⟩) ?_ ?_
             rotate_left
             ·simp only [Act.put, List.setIfInBounds_toArray, List.set_cons_zero, List.set_cons_succ, i64_w, i32_w]
              rfl
             refine pure_ (i := 14) (N := some 54) (v := undef) (a' := ?_) #[true, true, true, true, true, true, true, true, true, true, true, true, true, true, true, false, false, false, false, false, false, false, false, false, false, false, false, false, false, false, false, false] rfl rfl (any_of HT_.out (by kernel_rfl)) (fun _ _ _ h => h) (Or.inr ⟨by rfl, rfl⟩) ?_ ?_
             rotate_left
             ·simp only [Act.put, List.setIfInBounds_toArray, List.set_cons_zero, List.set_cons_succ, i64_w, i32_w]
              rfl
             refine pure_ (i := 15) (N := some 55) (v := undef) (a' := ?_) #[true, true, true, true, true, true, true, true, true, true, true, true, true, true, true, true, false, false, false, false, false, false, false, false, false, false, false, false, false, false, false, false] rfl rfl (any_of HT_.out (by kernel_rfl)) (fun _ _ _ h => h) (Or.inr ⟨by rfl, rfl⟩) ?_ ?_
             rotate_left
             ·simp only [Act.put, List.setIfInBounds_toArray, List.set_cons_zero, List.set_cons_succ, i64_w, i32_w]
              rfl
             refine pure_ (i := 16) (N := some 56) (v := undef) (a' := ?_) #[true, true, true, true, true, true, true, true, true, true, true, true, true, true, true, true, true, false, false, false, false, false, false, false, false, false, false, false, false, false, false, false] rfl rfl (any_of HT_.out (by kernel_rfl)) (fun _ _ _ h => h) (Or.inr ⟨by rfl, rfl⟩) ?_ ?_
             rotate_left
             ·simp only [Act.put, List.setIfInBounds_toArray, List.set_cons_zero, List.set_cons_succ, i64_w, i32_w]
              rfl
             refine pure_ (i := 17) (N := some 57) (v := undef) (a' := ?_) #[true, true, true, true, true, true, true, true, true, true, true, true, true, true, true, true, true, true, false, false, false, false, false, false, false, false, false, false, false, false, false, false] rfl rfl (any_of HT_.out (by kernel_rfl)) (fun _ _ _ h => h) (Or.inr ⟨by rfl, rfl⟩) ?_ ?_
             rotate_left
             ·simp only [Act.put, List.setIfInBounds_toArray, List.set_cons_zero, List.set_cons_succ, i64_w, i32_w]
              rfl
             refine pure_ (i := 18) (N := some 58) (v := undef) (a' := ?_) #[true, true, true, true, true, true, true, true, true, true, true, true, true, true, true, true, true, true, true, false, false, false, false, false, false, false, false, false, false, false, false, false] rfl rfl (any_of HT_.out (by kernel_rfl)) (fun _ _ _ h => h) (Or.inr ⟨by rfl, rfl⟩) ?_ ?_
             rotate_left
             ·simp only [Act.put, List.setIfInBounds_toArray, List.set_cons_zero, List.set_cons_succ, i64_w, i32_w]
              rfl
             refine pure_ (i := 19) (N := some 59) (v := undef) (a' := ?_) #[true, true, true, true, true, true, true, true, true, true, true, true, true, true, true, true, true, true, true, true, false, false, false, false, false, false, false, false, false, false, false, false] rfl rfl (any_of HT_.out (by kernel_rfl)) (fun _ _ _ h => h) (Or.inr ⟨by rfl, rfl⟩) ?_ ?_
             rotate_left
             ·simp only [Act.put, List.setIfInBounds_toArray, List.set_cons_zero, List.set_cons_succ, i64_w, i32_w]
              rfl
             refine pure_ (i := 20) (N := some 60) (v := undef) (a' := ?_) #[true, true, true, true, true, true, true, true, true, true, true, true, true, true, true, true, true, true, true, true, true, false, false, false, false, false, false, false, false, false, false, false] rfl rfl (any_of HT_.out (by kernel_rfl)) (fun _ _ _ h => h) (Or.inr ⟨by rfl, rfl⟩) ?_ ?_
             rotate_left
             ·simp only [Act.put, List.setIfInBounds_toArray, List.set_cons_zero, List.set_cons_succ, i64_w, i32_w]
              rfl
             refine pure_ (i := 21) (N := some 61) (v := undef) (a' := ?_) #[true, true, true, true, true, true, true, true, true, true, true, true, true, true, true, true, true, true, true, true, true, true, false, false, false, false, false, false, false, false, false, false] rfl rfl (any_of HT_.out (by kernel_rfl)) (fun _ _ _ h => h) (Or.inr ⟨by rfl, rfl⟩) ?_ ?_
             rotate_left
             ·simp only [Act.put, List.setIfInBounds_toArray, List.set_cons_zero, List.set_cons_succ, i64_w, i32_w]
              rfl
             refine pure_ (i := 22) (N := some 62) (v := undef) (a' := ?_) #[true, true, true, true, true, true, true, true, true, true, true, true, true, true, true, true, true, true, true, true, true, true, true, false, false, false, false, false, false, false, false, false] rfl rfl (any_of HT_.out (by kernel_rfl)) (fun _ _ _ h => h) (Or.inr ⟨by rfl, rfl⟩) ?_ ?_
             rotate_left
             ·simp only [Act.put, List.setIfInBounds_toArray, List.set_cons_zero, List.set_cons_succ, i64_w, i32_w]
              rfl
             refine pure_ (i := 23) (N := some 63) (v := undef) (a' := ?_) #[true, true, true, true, true, true, true, true, true, true, true, true, true, true, true, true, true, true, true, true, true, true, true, true, false, false, false, false, false, false, false, false] rfl rfl (any_of HT_.out (by kernel_rfl)) (fun _ _ _ h => h) (Or.inr ⟨by rfl, rfl⟩) ?_ ?_
             rotate_left
             ·simp only [Act.put, List.setIfInBounds_toArray, List.set_cons_zero, List.set_cons_succ, i64_w, i32_w]
              rfl
             refine pure_ (i := 24) (N := some 64) (v := undef) (a' := ?_) #[true, true, true, true, true, true, true, true, true, true, true, true, true, true, true, true, true, true, true, true, true, true, true, true, true, false, false, false, false, false, false, false] rfl rfl (any_of HT_.out (by kernel_rfl)) (fun _ _ _ h => h) (Or.inr ⟨by rfl, rfl⟩) ?_ ?_
             rotate_left
             ·simp only [Act.put, List.setIfInBounds_toArray, List.set_cons_zero, List.set_cons_succ, i64_w, i32_w]
              rfl
             refine pure_ (i := 25) (N := some 65) (v := undef) (a' := ?_) #[true, true, true, true, true, true, true, true, true, true, true, true, true, true, true, true, true, true, true, true, true, true, true, true, true, true, false, false, false, false, false, false] rfl rfl (any_of HT_.out (by kernel_rfl)) (fun _ _ _ h => h) (Or.inr ⟨by rfl, rfl⟩) ?_ ?_
             rotate_left
             ·simp only [Act.put, List.setIfInBounds_toArray, List.set_cons_zero, List.set_cons_succ, i64_w, i32_w]
              rfl
             refine pure_ (i := 26) (N := some 66) (v := undef) (a' := ?_) #[true, true, true, true, true, true, true, true, true, true, true, true, true, true, true, true, true, true, true, true, true, true, true, true, true, true, true, false, false, false, false, false] rfl rfl (any_of HT_.out (by kernel_rfl)) (fun _ _ _ h => h) (Or.inr ⟨by rfl, rfl⟩) ?_ ?_
             rotate_left
             ·simp only [Act.put, List.setIfInBounds_toArray, List.set_cons_zero, List.set_cons_succ, i64_w, i32_w]
              rfl
             refine pure_ (i := 27) (N := some 67) (v := undef) (a' := ?_) #[true, true, true, true, true, true, true, true, true, true, true, true, true, true, true, true, true, true, true, true, true, true, true, true, true, true, true, true, false, false, false, false] rfl rfl (any_of HT_.out (by kernel_rfl)) (fun _ _ _ h => h) (Or.inr ⟨by rfl, rfl⟩) ?_ ?_
             rotate_left
             ·simp only [Act.put, List.setIfInBounds_toArray, List.set_cons_zero, List.set_cons_succ, i64_w, i32_w]
              rfl
             refine pure_ (i := 28) (N := some 68) (v := undef) (a' := ?_) #[true, true, true, true, true, true, true, true, true, true, true, true, true, true, true, true, true, true, true, true, true, true, true, true, true, true, true, true, true, false, false, false] rfl rfl (any_of HT_.out (by kernel_rfl)) (fun _ _ _ h => h) (Or.inr ⟨by rfl, rfl⟩) ?_ ?_
             rotate_left
             ·simp only [Act.put, List.setIfInBounds_toArray, List.set_cons_zero, List.set_cons_succ, i64_w, i32_w]
              rfl
             refine pure_ (i := 29) (N := some 69) (v := undef) (a' := ?_) #[true, true, true, true, true, true, true, true, true, true, true, true, true, true, true, true, true, true, true, true, true, true, true, true, true, true, true, true, true, true, false, false] rfl rfl (any_of HT_.out (by kernel_rfl)) (fun _ _ _ h => h) (Or.inr ⟨by rfl, rfl⟩) ?_ ?_
             rotate_left
             ·simp only [Act.put, List.setIfInBounds_toArray, List.set_cons_zero, List.set_cons_succ, i64_w, i32_w]
              rfl
             refine pure_ (i := 30) (N := some 70) (v := ?_) (a' := ?_) #[true, true, true, true, true, true, true, true, true, true, true, true, true, true, true, true, true, true, true, true, true, true, true, true, true, true, true, true, true, true, true, false] rfl rfl (any_of HT_.out (by kernel_rfl)) (fun _ _ _ h => h) (Or.inl ⟨by rfl, ?_⟩) ?_ ?_
             rotate_left
             ·intro w'
              go_simp
              with_reducible rfl
             rotate_left
             ·simp only [Act.put, List.setIfInBounds_toArray, List.set_cons_zero, List.set_cons_succ, i64_w, i32_w]
              rfl
             refine pure_ (i := 31) (N := some 9) (v := ?_) (a' := ?_) #[true, true, true, true, true, true, true, true, true, true, true, true, true, true, true, true, true, true, true, true, true, true, true, true, true, true, true, true, true, true, true, true] rfl rfl (any_of HT_.out (by kernel_rfl)) (fun _ _ _ h => h) (Or.inl ⟨by rfl, ?_⟩) ?_ ?_
             rotate_left
             ·intro w'
              go_simp
              with_reducible rfl
             rotate_left
             ·simp only [Act.put, List.setIfInBounds_toArray, List.set_cons_zero, List.set_cons_succ, i64_w, i32_w]
              rfl
             refine done_ (done_of HT_.out (by kernel_rfl)) ?_
             try go_wp2
             go_meet
             case rel => exact ⟨_, (false), (by first | rfl | (simp; done) | (simp [*]; done)), H', ⟨by have := HK1.out; have := HK2.out; first | omega | exact Nat.le_refl _⟩, ⟨lf HO_3⟩, ⟨lf HO_4⟩, ⟨lf HO_7⟩, ⟨lb BK255⟩, ⟨bw⟩⟩
           ·rw [if_neg c24] at H
            exact absurd H (by simp)
          case rest =>
           clear HC22
           try clear c2
           try clear p2
           try clear q2
           try clear hx2
           try clear c3
           try clear c23
           try clear c24
           try clear c26
           try clear p26
           try clear q26
           try clear hx26
           try clear c30
           try clear c30b0
           try clear c30b1
           try clear hx262_0
           try clear hx262_1
           try clear hx262_2
           try clear hx262_3
           try clear hx262_4
           try clear hx262_5
           try clear hx264_0
           try clear hx264_1
           try clear hx264_2
           try clear hx264_3
           try clear hx264_4
           try clear hx264_5
           try clear p262
           try clear p264
           try clear q262
           try clear q264
           obtain ⟨kq, x9_21, rfl, HA, HJ21, HO_3, HO_4, HO_7, BK255, HB⟩ := hcut
           cases kq with
           | zero => exact absurd HA.out (by simp [spec_Replay.j2])
           | succ kj21 =>
            have H := HA.out
            clear HA
            simp only [spec_Replay.j2] at H
            by_cases c37 : x9_21 = true
            ·subst c37
             have H1 : (spec_Replay.l1 kj21 l0 y247 x4_1 x5_1 x7_2 (wrap64 (x8_2 + 1)) ((rd_T43 l0 x5_1).f0) ((rd_T43 l0 x5_1).f1) ((rd_T43 l0 x5_1).f2) ((rd_T43 l0 x5_1).f3) ((rd_T43 l0 x5_1).f4) ((rd_T43 l0 x5_1).f5)) = some r := by rw [if_pos rfl] at H; exact H
             clear H
             have H := H1
             clear H1
             have H' := Aside0.mk H
             clear H
             go_wp2
             go_roundg kj21
             case measure => have := HK1.out; have := HK2.out; have := HJ21.out; omega
             case rel => exact ⟨(x7_2), (wrap64 (x8_2 + 1)), (by first | rfl | (simp; done) | (simp [*]; done)), H', ⟨by have := HK1.out; have := HK2.out; have := HJ21.out; omega⟩, ⟨lf HO_3⟩, ⟨lf HO_4⟩, ⟨lf HO_7⟩, ⟨lb BK255⟩, ⟨bw⟩⟩
            ·replace c37 := Bool.eq_false_iff.mpr c37
             subst c37
             have H1 : (if 0 ≤ x8_2 then (if x8_2 < (x4_1.length : Int) then (if x7_2.length < 1759218604441 then (spec_Replay.l1 kj21 l0 y247 x4_1 x5_1 (x7_2 ++ [(⟨(rd_T43 x4_1 x8_2).f0, (rd_T43 x4_1 x8_2).f1, (rd_T43 x4_1 x8_2).f2, (rd_T43 x4_1 x8_2).f3, (rd_T43 x4_1 x8_2).f4, (rd_T43 x4_1 x8_2).f5⟩ : S43)]) (wrap64 (x8_2 + 1)) ((rd_T43 l0 x5_1).f0) ((rd_T43 l0 x5_1).f1) ((rd_T43 l0 x5_1).f2) ((rd_T43 l0 x5_1).f3) ((rd_T43 l0 x5_1).f4) ((rd_T43 l0 x5_1).f5)) else (none)) else (none)) else (none)) = some r := by rw [if_neg (show ¬ (false = true) by decide)] at H; exact H
             clear H
             have H := H1
             clear H1
             by_cases c38 : 0 ≤ x8_2
             ·rw [if_pos c38] at H
              have c38b0 : decide (0 ≤ x8_2) = true := decide_eq_true c38
              clear c38
              by_cases c39 : x8_2 < (x4_1.length : Int)
              ·rw [if_pos c39] at H
               have c39b0 : decide (x8_2 < (x4_1.length : Int)) = true := decide_eq_true c39
               clear c39
               by_cases c40 : x7_2.length < 1759218604441
               ·rw [if_pos c40] at H
                have LMc40 := Aside0.mk c40
                clear c40
                obtain ⟨y267, hy267⟩ : ∃ y_ : List (S43), y_ = (x7_2 ++ [(⟨(rd_T43 x4_1 x8_2).f0, (rd_T43 x4_1 x8_2).f1, (rd_T43 x4_1 x8_2).f2, (rd_T43 x4_1 x8_2).f3, (rd_T43 x4_1 x8_2).f4, (rd_T43 x4_1 x8_2).f5⟩ : S43)]) := ⟨_, rfl⟩
                replace H : (spec_Replay.l1 kj21 l0 y247 x4_1 x5_1 y267 (wrap64 (x8_2 + 1)) ((rd_T43 l0 x5_1).f0) ((rd_T43 l0 x5_1).f1) ((rd_T43 l0 x5_1).f2) ((rd_T43 l0 x5_1).f3) ((rd_T43 l0 x5_1).f4) ((rd_T43 l0 x5_1).f5)) = some r := by first | (rw [hy267]; with_reducible exact H) | (have H2_ := (Option.bind_some _ _).symm.trans H; rw [hy267]; with_reducible exact H2_) | (have H2_ := (Option.bind_some _ _).symm.trans H; with_reducible exact H2_) | with_reducible exact H | (rw [hy267]; exact H) | exact H
                have Ny267 := Aside0.mk hy267
                clear hy267
                have H' := Aside0.mk H
                clear H
                have p266 : 0 ≤ (x8_2 : Int) := of_decide_eq_true (by first | (with_reducible assumption) | assumption)
                have q266 : x8_2 < (x4_1.length : Int) := of_decide_eq_true (by first | (with_reducible assumption) | assumption)
                obtain ⟨ad266, e266, hx266_0, hx266_1, hx266_2, hx266_3, hx266_4, hx266_5⟩ := at_T43 (Kd.R_reads' HO_4.out).2.2 x8_2 p266 q266
                cases e266
                replace p266 := eq_true p266
                replace q266 := eq_true q266
                go_wp2_with (first | ((with_reducible refine gate_builtin (b := .append) (xs := #[.tmp 73, .tmp 78]) rfl ?_); at_builtin; refine Kd.R_append k43 (w0 := w) w.heap.size rfl (.tmp 73) (.tmp 78) 24 43 (.agg #[(.string ⟨#[]⟩), (.string ⟨#[]⟩), (.string ⟨#[]⟩), (.int .u64 0), (.int .i64 0), (.string ⟨#[]⟩)]) 80 rfl Try.underlying24 info43 rfl (by decide) (by omega) u7 x7_2 (⟨(rd_T43 x4_1 x8_2).f0, (rd_T43 x4_1 x8_2).f1, (rd_T43 x4_1 x8_2).f2, (rd_T43 x4_1 x8_2).f3, (rd_T43 x4_1 x8_2).f4, (rd_T43 x4_1 x8_2).f5⟩ : S43) [.string ((rd_T43 x4_1 x8_2).f0), .string ((rd_T43 x4_1 x8_2).f1), .string ((rd_T43 x4_1 x8_2).f2), .int .u64 ((rd_T43 x4_1 x8_2).f3), .int .i64 ((rd_T43 x4_1 x8_2).f4), .string ((rd_T43 x4_1 x8_2).f5)] (fun k_ => some k_ ≠ (.slice (some ad266) x4_1.length co23 : Value).ownBlock ∧ k_ ≠ gb255) (fun _ => False) rfl rfl ?aP (fun _ hk => hk.elim) ?aF ?aO ?aB ?aS ?aL ?_; (case aP => exact k43_mkM _ _ _ (⟨(rd_T43 x4_1 x8_2).f0, (rd_T43 x4_1 x8_2).f1, (rd_T43 x4_1 x8_2).f2, (rd_T43 x4_1 x8_2).f3, (rd_T43 x4_1 x8_2).f4, (rd_T43 x4_1 x8_2).f5⟩ : S43)); (case aB => exact bw); (case aF => exact (fun k_ hk => ⟨Kd.fresh' (Kd.R_lt (lf HO_4)) k_ hk, Kd.freshB (g := gb255) (o := .cells #[.string ((rd_T43 l0 x5_1).f0), .string ((rd_T43 l0 x5_1).f1), .string ((rd_T43 l0 x5_1).f2), .int .u64 ((rd_T43 l0 x5_1).f3), .int .i64 ((rd_T43 l0 x5_1).f4), .string ((rd_T43 l0 x5_1).f5)] 43 (0, 0)) (lb BK255) k_ hk⟩)); (case aO => exact (lf HO_7)); (case aS => exact (below_size bw)); (case aL => have := LMc40.out; omega); intro v268 w41 ho hb hg hat; rw [← Ny267.out] at ho; have n0_ := Aside0.mk (Kd.R_over' (lf HO_3) (Kd.R_typed (lf HO_7)) (by decide) hg); have n1_ := Aside0.mk (Kd.R_after (ok := (fun k_ => k_ ≠ gb255)) (by (with_reducible repeat (first | apply Kd.R_alloc | apply Kd.R_drewN | apply Kd.R_drew)); exact Kd.R_mono HO_4.out (fun _ hk => ⟨hk.2, hk.1⟩)) hg hat); have n2_ := Aside0.mk (blk_grown (g := gb255) (o := .cells #[.string ((rd_T43 l0 x5_1).f0), .string ((rd_T43 l0 x5_1).f1), .string ((rd_T43 l0 x5_1).f2), .int .u64 ((rd_T43 l0 x5_1).f3), .int .i64 ((rd_T43 l0 x5_1).f4), .string ((rd_T43 l0 x5_1).f5)] 43 (0, 0)) (lb BK255) hg (Kd.R_away HO_7.out (fun _ hk => hk.2))); have n3_ := Aside0.mk (hb); have n4_ := Aside0.mk (ho); clear HO_3; clear HO_4; clear BK255; clear HB; clear HO_7; have HO_3 := n0_; have HO_4 := n1_; have BK255 := n2_; have HB := n3_; have HO269 := n4_; clear n0_ n1_ n2_ n3_ n4_; clear ho hb hg hat))
                go_roundg kj21
                case measure => have := HK1.out; have := HK2.out; have := HJ21.out; omega
                case rel => exact ⟨(y267), (wrap64 (x8_2 + 1)), (by first | rfl | (simp; done) | (simp [*]; done)), H', ⟨by have := HK1.out; have := HK2.out; have := HJ21.out; omega⟩, ⟨lf HO_3⟩, ⟨by (with_reducible repeat (first | apply Kd.R_alloc | apply Kd.R_drewN | apply Kd.R_drew)); exact Kd.R_mono HO_4.out (fun _ hk => ⟨hk.2, hk.1⟩)⟩, ⟨lf HO269⟩, ⟨lb BK255⟩, ⟨bw⟩⟩
               ·rw [if_neg c40] at H
                exact absurd H (by simp)
              ·rw [if_neg c39] at H
               exact absurd H (by simp)
             ·rw [if_neg c38] at H
              exact absurd H (by simp)
         ·rw [if_neg c21] at H
          have c21b0 : decide (x8_2 < (x4_1.length : Int)) = false := decide_eq_false c21
          clear c21
          have H' := Aside0.mk H
          clear H
          obtain ⟨Ao42, co42, eo42⟩ := Kd.R_slice HO_4.out
          subst eo42
          go_wp2
          go_roundg k2
          case measure => have := HK1.out; have := HK2.out; omega
          case rel => exact ⟨(x7_2), (wrap64 (x5_1 + 1)), (by first | rfl | (simp; done) | (simp [*]; done)), H', ⟨by have := HK1.out; have := HK2.out; omega⟩, ⟨lf HO_3⟩, ⟨by (with_reducible repeat (first | apply Kd.R_alloc | apply Kd.R_drewN | apply Kd.R_drew)); exact Kd.R_mono HO_7.out (fun _ hk => trivial)⟩, ⟨bw⟩⟩
     ·rw [if_neg c10] at H
      exact absurd H (by simp)
    ·rw [if_neg c9] at H
     have c9b0 : decide (x5_1 < (l0.length : Int)) = false := decide_eq_false c9
     clear c9
     have H' := Aside0.mk H
     clear H
     go_wp2
     go_loopg [3, 10] k1 (fun kq v3 v10 w' => ∃ (x3_2 : List (S61)) (x10_2 : Int), v10 = .int .i64 x10_2 ∧ Aside0 (spec_Replay.l2 kq x3_2 x4_1 x10_2 = some r) ∧ Aside0 (kq ≤ k1) ∧ Aside0 (Kd.R k61 61 w' w.heap.size (fun _ => True) v3 x3_2) ∧ Aside0 (Kd.R k43 43 w' w.heap.size (fun _ => True) u4 x4_1) ∧ Aside0 (Below w.heap.size w w'))
     case atStart => exact ⟨(y247), (0), (by first | rfl | (simp; done) | (simp [*]; done)), H', ⟨Nat.le_refl _⟩, ⟨lf HO_3⟩, ⟨lf HO_4⟩, ⟨bw⟩⟩
     case round =>
      clear H'
      try clear c1
      try clear c2
      try clear p2
      try clear q2
      try clear hx2
      try clear c3
      try clear c4
      try clear p6
      try clear c9
      try clear c9b0
      try clear c10
      try clear c21
      try clear c21b0
      try clear c23
      try clear c24
      try clear c26
      try clear p26
      try clear q26
      try clear hx26
      try clear c30
      try clear c30b0
      try clear c30b1
      try clear c37
      try clear c38
      try clear c38b0
      try clear c39
      try clear c39b0
      try clear c40
      try clear hx262_0
      try clear hx262_1
      try clear hx262_2
      try clear hx262_3
      try clear hx262_4
      try clear hx262_5
      try clear hx264_0
      try clear hx264_1
      try clear hx264_2
      try clear hx264_3
      try clear hx264_4
      try clear hx264_5
      try clear hx266_0
      try clear hx266_1
      try clear hx266_2
      try clear hx266_3
      try clear hx266_4
      try clear hx266_5
      try clear p2
      try clear p26
      try clear p262
      try clear p264
      try clear p266
      try clear q2
      try clear q26
      try clear q262
      try clear q264
      try clear q266
      obtain ⟨x3_2, x10_2, rfl, HA, HK2, HO_3, HO_4, HB⟩ := hrel
      cases gk with
      | zero => exact absurd HA.out (by simp [spec_Replay.l2])
      | succ k2 =>
       have H := HA.out
       clear HA
       simp only [spec_Replay.l2] at H
       by_cases c43 : x10_2 < (x4_1.length : Int)
       ·rw [if_pos c43] at H
        have c43b0 : decide (x10_2 < (x4_1.length : Int)) = true := decide_eq_true c43
        clear c43
        by_cases c44 : 0 ≤ x10_2
        ·rw [if_pos c44] at H
         have c44b0 : decide (0 ≤ x10_2) = true := decide_eq_true c44
         clear c44
         replace H := Option.bind_eq_some_iff.mp H
         obtain ⟨⟨t271, t272, t273, t274, t275⟩, A450, H⟩ := H
         replace H : (if x3_2.length < 1954687338268 then (spec_Replay.l2 k2 (x3_2 ++ [(⟨t271, t272, t273, t274, t275⟩ : S61)]) x4_1 (wrap64 (x10_2 + 1))) else (none)) = some r := H
         have A45 := Aside0.mk A450
         clear A450
         by_cases c46 : x3_2.length < 1954687338268
         ·rw [if_pos c46] at H
          have LMc46 := Aside0.mk c46
          clear c46
          obtain ⟨y276, hy276⟩ : ∃ y_ : List (S61), y_ = (x3_2 ++ [(⟨t271, t272, t273, t274, t275⟩ : S61)]) := ⟨_, rfl⟩
          replace H : (spec_Replay.l2 k2 y276 x4_1 (wrap64 (x10_2 + 1))) = some r := by first | (rw [hy276]; with_reducible exact H) | (have H2_ := (Option.bind_some _ _).symm.trans H; rw [hy276]; with_reducible exact H2_) | (have H2_ := (Option.bind_some _ _).symm.trans H; with_reducible exact H2_) | with_reducible exact H | (rw [hy276]; exact H) | exact H
          have Ny276 := Aside0.mk hy276
          clear hy276
          have H' := Aside0.mk H
          clear H
          obtain ⟨Ao47, co47, eo47⟩ := Kd.R_slice HO_4.out
          subst eo47
          have p270 : 0 ≤ (x10_2 : Int) := of_decide_eq_true (by first | (with_reducible assumption) | assumption)
          have q270 : x10_2 < (x4_1.length : Int) := of_decide_eq_true (by first | (with_reducible assumption) | assumption)
          obtain ⟨ad270, e270, hx270_0, hx270_1, hx270_2, hx270_3, hx270_4, hx270_5⟩ := at_T43 (Kd.R_reads' HO_4.out).2.2 x10_2 p270 q270
          cases e270
          replace p270 := eq_true p270
          replace q270 := eq_true q270
          go_wp2_with (first | ((with_reducible refine at_fn (f := 32) rfl ?_); refine goesL_ (some 92) rfl rfl Try.func32 (by kernel_rfl) rfl #[.agg #[.string ((rd_T43 x4_1 x10_2).f0), .string ((rd_T43 x4_1 x10_2).f1), .string ((rd_T43 x4_1 x10_2).f2), .int .u64 ((rd_T43 x4_1 x10_2).f3), .int .i64 ((rd_T43 x4_1 x10_2).f4), .string ((rd_T43 x4_1 x10_2).f5)]] rfl (by (try simp only [List.map_toArray, List.map_cons, List.map_nil]); first | done | rfl | (simp only [List.length_drop, List.length_take]; rfl)) ?_; (with_reducible refine (spec_l1Cell.calls ((rd_T43 x4_1 x10_2).f0) ((rd_T43 x4_1 x10_2).f1) ((rd_T43 x4_1 x10_2).f2) ((rd_T43 x4_1 x10_2).f3) ((rd_T43 x4_1 x10_2).f4) ((rd_T43 x4_1 x10_2).f5) t271 t272 t273 t274 t275 _ A45.out).mono ?_); rintro e w48 ⟨rfl, hb⟩; refine ⟨_, rfl, ?_⟩; have n0_ := Aside0.mk (Kd.R_below (lf HO_3) hb); have n1_ := Aside0.mk (Kd.R_below (lf HO_4) hb); have n2_ := Aside0.mk (below_step bw hb); clear HO_3; clear HO_4; clear HB; have HO_3 := n0_; have HO_4 := n1_; have HB := n2_; clear n0_ n1_ n2_; (try clear hb); (try clear hb2); (try clear hk); (try clear hi)) | ((with_reducible refine gate_builtin (b := .append) (xs := #[.tmp 87, .tmp 93]) rfl ?_); at_builtin; refine Kd.R_append k61 (w0 := w) w.heap.size rfl (.tmp 87) (.tmp 93) 34 61 (.agg #[(.string ⟨#[]⟩), (.string ⟨#[]⟩), (.string ⟨#[]⟩), (.int .u64 0), (.string ⟨#[]⟩)]) 72 rfl Try.underlying34 info61 rfl (by decide) (by omega) u3 x3_2 (⟨t271, t272, t273, t274, t275⟩ : S61) [.string t271, .string t272, .string t273, .int .u64 t274, .string t275] (fun _ => True) (fun _ => False) rfl rfl ?aP (fun _ hk => hk.elim) ?aF ?aO ?aB ?aS ?aL ?_; (case aP => exact k61_mkM _ _ _ (⟨t271, t272, t273, t274, t275⟩ : S61)); (case aB => exact bw); (case aF => exact (fun _ _ => trivial)); (case aO => exact (lf HO_3)); (case aS => exact (below_size bw)); (case aL => have := LMc46.out; omega); intro v277 w49 ho hb hg hat; rw [← Ny276.out] at ho; have n0_ := Aside0.mk (Kd.R_over' (lf HO_4) (Kd.R_typed (lf HO_3)) (by decide) hg); have n1_ := Aside0.mk (hb); have n2_ := Aside0.mk (ho); clear HO_4; clear HB; clear HO_3; have HO_4 := n0_; have HB := n1_; have HO278 := n2_; clear n0_ n1_ n2_; clear ho hb hg hat))
          go_roundg k2
          case measure => have := HK1.out; have := HK2.out; omega
          case rel => exact ⟨(y276), (wrap64 (x10_2 + 1)), (by first | rfl | (simp; done) | (simp [*]; done)), H', ⟨by have := HK1.out; have := HK2.out; omega⟩, ⟨lf HO278⟩, ⟨lf HO_4⟩, ⟨bw⟩⟩
         ·rw [if_neg c46] at H
          exact absurd H (by simp)
        ·rw [if_neg c44] at H
         exact absurd H (by simp)
       ·rw [if_neg c43] at H
        have c43b0 : decide (x10_2 < (x4_1.length : Int)) = false := decide_eq_false c43
        clear c43
        obtain rfl := Option.some.inj H
        obtain ⟨Ao50, co50, eo50⟩ := Kd.R_slice HO_4.out
        subst eo50
        go_wp2
        go_ret
        exact ⟨_, by first | rfl | (simp [errW_none, errW_some] <;> rfl) | (simp [*, errW_none, errW_some] <;> rfl), lf HO_3, bw⟩
 ·replace c3 := Bool.eq_false_iff.mpr c3
  subst c3
  have H1 : (some y247) = some r := by rw [if_neg (show ¬ (false = true) by decide)] at H; exact H
  clear H
  have H := H1
  clear H1
  obtain rfl := Option.some.inj H
  go_enter Try.func14, Try.ntmps14
  go_wp2_with (first | ((with_reducible refine gate_dst (N := 11) rfl ?_); refine Kd.R_lit k61 _ 61 ?hg (N := 11) ?hd (xs := ([] : List (S61))) (inner := []) (ok := fun _ => True) (okp := fun _ => True) ?hr ?hp (fun _ hk => hk) trivial (Below.refl _ _) (Nat.le_refl _) (by simp) ?_; (case hd => rfl); (case hg => rfl); (case hr => first | (go_simp; done) | (go_simp; rfl)); (case hp => exact (Reps.none _ _)); intro v248 w51 ho52 hb hg_ hnew_; clear hg_ hnew_; (first | rw [← Ny247.out] at ho52 | (simp only [Int.reduceToNat] at ho52; rw [← Ny247.out] at ho52)); have n0_ := Aside0.mk (Kd.R_lower ho52 (below_size bw)); have n1_ := Aside0.mk (below_step bw hb); clear HB; have HO249 := n0_; have HB := n1_; clear n0_ n1_; clear hb ho52) | ((with_reducible refine at_fn (f := 20) rfl ?_); refine goesL_ (some 13) rfl rfl Try.func20 (by kernel_rfl) rfl #[.slice A0 l0.length c0] rfl (by (try simp only [List.map_toArray, List.map_cons, List.map_nil]); first | done | rfl | (simp only [List.length_drop, List.length_take]; rfl)) ?_; (with_reducible refine (spec_l1GoodWrites.calls k _ _ l0 false _ ?side1 ?side2 A2.out).mono ?_); (case side1 => repeat (first | exact (Kd.C_below HR0.out HB.out) | (with_reducible refine Kd.C_alloc ?_ _) | (with_reducible refine Kd.C_drewN ?_ _) | (with_reducible refine Kd.C_drew ?_))); (case side2 => exact HC0.out); rintro e w53 ⟨rfl, hb⟩; refine ⟨_, rfl, ?_⟩; have n0_ := Aside0.mk (Kd.R_below (lf HO249) hb); have n1_ := Aside0.mk (below_step bw hb); clear HO249; clear HB; have HO249 := n0_; have HB := n1_; clear n0_ n1_; (try clear hb); (try clear hb2); (try clear hk); (try clear hi)))
  go_ret
  exact ⟨_, by first | rfl | (simp [errW_none, errW_some] <;> rfl) | (simp [*, errW_none, errW_some] <;> rfl), lf HO249, bw⟩

end Go.Proofs.Ytmaildoddeimbaa.Q

namespace Go.Proofs.Ytmaildoddeimbaa.Q
open Go.RowKit Go.Proofs.YtmaildoddeimbaaW.PrintWords Go.Proofs.YtmaildoddeimbaaW.PrintLast Go.Proofs.YtmaildoddeimbaaW.PrintMore
set_option linter.unusedVariables false
set_option linter.unusedSimpArgs false

/-! ### impl_Entry_cell: function 33 -/
def impl_Entry_cell.f (a0_0 : ByteArray) (a0_1 : ByteArray) (a0_2 : ByteArray) (a0_3 : Int) (a0_4 : Int) (a0_5 : ByteArray) : Option (ByteArray × ByteArray × ByteArray × Int × ByteArray) := some (a0_0, a0_1, a0_2, a0_3, a0_5)
set_option maxHeartbeats 8000000 in
set_option maxRecDepth 100000 in
theorem impl_Entry_cell.calls (a0_0 : ByteArray) (a0_1 : ByteArray) (a0_2 : ByteArray) (a0_3 : Int) (a0_4 : Int) (a0_5 : ByteArray) (r1 : ByteArray) (r2 : ByteArray) (r3 : ByteArray) (r4 : Int) (r5 : ByteArray) (w : World) (h : impl_Entry_cell.f a0_0 a0_1 a0_2 a0_3 a0_4 a0_5 = some (r1, r2, r3, r4, r5)) :
  Calls Try.prog 33 #[.agg #[.string a0_0, .string a0_1, .string a0_2, .int .u64 a0_3, .int .i64 a0_4, .string a0_5]] w fun e w' => e = .returned (.agg #[.string r1, .string r2, .string r3, .int .u64 r4, .string r5]) ∧ Below w.heap.size w w' := by
 have hu43 := Try.underlying43
 have hu61 := Try.underlying61
 have HB := Aside0.mk (Below.refl w.heap.size w)
 have H : (some (a0_0, a0_1, a0_2, a0_3, a0_5)) = some (r1, r2, r3, r4, r5) := h
 clear h
 simp only [Option.some.injEq, Prod.mk.injEq] at H
 obtain ⟨rfl, rfl, rfl, rfl, rfl⟩ := H
 go_enter Try.func33, Try.ntmps33
 go_wp2_with (first | ((with_reducible refine gate_dst (N := 1) rfl ?_); refine box_event ?hg (N := 1) ?hd (cs := #[.string a0_0, .string a0_1, .string a0_2, .int .u64 a0_3, .int .i64 a0_4, .string a0_5]) (t := 43) ?hr ?_; (case hd => rfl); (case hg => rfl); (case hr => first | (go_simp; done) | (go_simp; rfl)); intro gb279 hg w2 hbox hb; have n0_ := Aside0.mk (below_step bw hb); have n1_ := Aside0.mk (hbox); have n2_ := Aside0.mk ((by rw [hg]; exact (below_size bw) : w.heap.size ≤ gb279)); have n3_ := Aside0.mk ((by rw [hg]; exact (below_size bw) : w.heap.size ≤ gb279)); clear HB; have HB := n0_; have BK279 := n1_; have GW279 := n2_; have GE279 := n3_; clear n0_ n1_ n2_ n3_; clear hb hbox hg) | ((with_reducible refine gate_dst (N := 2) rfl ?_); refine box_event ?hg (N := 2) ?hd (cs := #[.string (⟨#[]⟩ : ByteArray), .string (⟨#[]⟩ : ByteArray), .string (⟨#[]⟩ : ByteArray), .int .u64 0, .string (⟨#[]⟩ : ByteArray)]) (t := 61) ?hr ?_; (case hd => rfl); (case hg => rfl); (case hr => first | (go_simp; done) | (go_simp; rfl)); intro gb280 hg w3 hbox hb; have n0_ := Aside0.mk (blk_below (g := gb279) (o := .cells #[.string a0_0, .string a0_1, .string a0_2, .int .u64 a0_3, .int .i64 a0_4, .string a0_5] 43 (0, 0)) (lb BK279) hb); have n1_ := Aside0.mk (below_step bw hb); have n2_ := Aside0.mk (hbox); have n3_ := Aside0.mk ((by rw [hg]; exact (below_size bw) : w.heap.size ≤ gb280)); have n4_ := Aside0.mk ((by rw [hg]; exact (below_size bw) : w.heap.size ≤ gb280)); have n5_ := Aside0.mk ((by rw [hg]; exact Nat.ne_of_lt (blk_lt (g := gb279) (o := .cells #[.string a0_0, .string a0_1, .string a0_2, .int .u64 a0_3, .int .i64 a0_4, .string a0_5] 43 (0, 0)) (lb BK279)) : gb279 ≠ gb280)); have n6_ := Aside0.mk ((by rw [hg]; exact Nat.ne_of_gt (blk_lt (g := gb279) (o := .cells #[.string a0_0, .string a0_1, .string a0_2, .int .u64 a0_3, .int .i64 a0_4, .string a0_5] 43 (0, 0)) (lb BK279)) : gb280 ≠ gb279)); clear BK279; clear HB; have BK279 := n0_; have HB := n1_; have BK280 := n2_; have GW280 := n3_; have GE280 := n4_; have NB279_280 := n5_; have NB280_279 := n6_; clear n0_ n1_ n2_ n3_ n4_ n5_ n6_; clear hb hbox hg; have hnb4 := NB279_280.out; have hnc4 := NB280_279.out; have hcz5_0 : w3.cell? ⟨gb279, 0, none⟩ = some (.string a0_0) := (blk_cell BK279.out 0).trans rfl; have hcz5_1 : w3.cell? ⟨gb279, 1, none⟩ = some (.string a0_1) := (blk_cell BK279.out 1).trans rfl; have hcz5_2 : w3.cell? ⟨gb279, 2, none⟩ = some (.string a0_2) := (blk_cell BK279.out 2).trans rfl; have hcz5_3 : w3.cell? ⟨gb279, 3, none⟩ = some (.int .u64 a0_3) := (blk_cell BK279.out 3).trans rfl; have hcz5_4 : w3.cell? ⟨gb279, 4, none⟩ = some (.int .i64 a0_4) := (blk_cell BK279.out 4).trans rfl; have hcz5_5 : w3.cell? ⟨gb279, 5, none⟩ = some (.string a0_5) := (blk_cell BK279.out 5).trans rfl; have hfz5_0 := blk_frozen BK279.out 0; have hfz5_1 := blk_frozen BK279.out 1; have hfz5_2 := blk_frozen BK279.out 2; have hfz5_3 := blk_frozen BK279.out 3; have hfz5_4 := blk_frozen BK279.out 4; have hfz5_5 := blk_frozen BK279.out 5; have hcz6_0 : w3.cell? ⟨gb280, 0, none⟩ = some (.string (⟨#[]⟩ : ByteArray)) := (blk_cell BK280.out 0).trans rfl; have hcz6_1 : w3.cell? ⟨gb280, 1, none⟩ = some (.string (⟨#[]⟩ : ByteArray)) := (blk_cell BK280.out 1).trans rfl; have hcz6_2 : w3.cell? ⟨gb280, 2, none⟩ = some (.string (⟨#[]⟩ : ByteArray)) := (blk_cell BK280.out 2).trans rfl; have hcz6_3 : w3.cell? ⟨gb280, 3, none⟩ = some (.int .u64 0) := (blk_cell BK280.out 3).trans rfl; have hcz6_4 : w3.cell? ⟨gb280, 4, none⟩ = some (.string (⟨#[]⟩ : ByteArray)) := (blk_cell BK280.out 4).trans rfl; have hfz6_0 := blk_frozen BK280.out 0; have hfz6_1 := blk_frozen BK280.out 1; have hfz6_2 := blk_frozen BK280.out 2; have hfz6_3 := blk_frozen BK280.out 3; have hfz6_4 := blk_frozen BK280.out 4))
 refine bodyPost_ret (results_cell_row rfl _ _ gb280 61 #[.string a0_0, .string a0_1, .string a0_2, .int .u64 a0_3, .string a0_5] (0, 0) _ rfl (by (with_reducible repeat (first | refine blk_drewN ?_ _ | refine blk_drew ?_ | refine blk_alloc ?_ _)); refine blk_put (cs := #[.string a0_0, .string a0_1, .string a0_2, .int .u64 a0_3, .string (⟨#[]⟩ : ByteArray)]) ?_ 4 _ rfl; (with_reducible repeat (first | refine blk_drewN ?_ _ | refine blk_drew ?_ | refine blk_alloc ?_ _)); refine blk_put (cs := #[.string a0_0, .string a0_1, .string a0_2, .int .u64 0, .string (⟨#[]⟩ : ByteArray)]) ?_ 3 _ rfl; (with_reducible repeat (first | refine blk_drewN ?_ _ | refine blk_drew ?_ | refine blk_alloc ?_ _)); refine blk_put (cs := #[.string a0_0, .string a0_1, .string (⟨#[]⟩ : ByteArray), .int .u64 0, .string (⟨#[]⟩ : ByteArray)]) ?_ 2 _ rfl; (with_reducible repeat (first | refine blk_drewN ?_ _ | refine blk_drew ?_ | refine blk_alloc ?_ _)); refine blk_put (cs := #[.string a0_0, .string (⟨#[]⟩ : ByteArray), .string (⟨#[]⟩ : ByteArray), .int .u64 0, .string (⟨#[]⟩ : ByteArray)]) ?_ 1 _ rfl; (with_reducible repeat (first | refine blk_drewN ?_ _ | refine blk_drew ?_ | refine blk_alloc ?_ _)); refine blk_put (cs := #[.string (⟨#[]⟩ : ByteArray), .string (⟨#[]⟩ : ByteArray), .string (⟨#[]⟩ : ByteArray), .int .u64 0, .string (⟨#[]⟩ : ByteArray)]) ?_ 0 _ rfl; (with_reducible repeat (first | refine blk_drewN ?_ _ | refine blk_drew ?_ | refine blk_alloc ?_ _)); exact BK280.out) Try.underlying61 rfl (by kernel_rfl)) rfl ?_
 exact ⟨by first | rfl | (simp [errW_none, errW_some] <;> rfl) | (simp [*, errW_none, errW_some] <;> rfl), bw⟩

end Go.Proofs.Ytmaildoddeimbaa.Q

namespace Go.Proofs.Ytmaildoddeimbaa.Q
open Go.RowKit Go.Proofs.YtmaildoddeimbaaW.PrintWords Go.Proofs.YtmaildoddeimbaaW.PrintLast
open Go.Maps (Keyed)
open Classical
set_option linter.unusedVariables false
set_option linter.unusedSimpArgs false
section
variable {P : Program} {V : Type} {mk : V → Value}
open Classical in
/-- How an element reads: as itself. -/
noncomputable def rdV (mk : V → Value) (v : Value) : Option (DataW V × List MemPlace) := if h : ∃ c, v = mk c then some (.held h.choose, []) else none
theorem rdV_inv {v : Value} {y : DataW V × List MemPlace} (h : rdV mk v = some y) : ∃ c, v = mk c ∧ y = (.held c, []) := by
  unfold rdV at h
  split at h
  · rename_i hx
    cases h
    exact ⟨_, hx.choose_spec, rfl⟩
  · cases h
theorem rdV_mk (inj : ∀ a b, mk a = mk b → a = b) (c : V) : rdV mk (mk c) = some (.held c, []) := by
  unfold rdV
  rw [dif_pos ⟨c, rfl⟩]
  have h : ∃ c', mk c = mk c' := ⟨c, rfl⟩
  have : (⟨c, rfl⟩ : ∃ c', mk c = mk c').choose = c := (inj _ _ h.choose_spec).symm
  rw [this]
/-- A datum tells a function of its keys. -/
def Tells (D : DataW V) (m : Lit → Option V) : Prop := ∀ kl, match m kl with | some c => Maps.has D kl = true ∧ ∀ zd, D.atKey kl zd = .held c | none => Maps.has D kl = false
theorem Tells.at_some {D : DataW V} {m : Lit → Option V} (h : Tells D m) {kl : Lit} {c : V} (e : m kl = some c) : Maps.has D kl = true ∧ ∀ zd, D.atKey kl zd = .held c := by
  have := h kl; rw [e] at this; exact this
theorem Tells.at_none {D : DataW V} {m : Lit → Option V} (h : Tells D m) {kl : Lit} (e : m kl = none) : Maps.has D kl = false := by
  have := h kl; rw [e] at this; exact this
theorem Tells.has {D : DataW V} {m : Lit → Option V} (h : Tells D m) (kl : Lit) : Maps.has D kl = (m kl).isSome := by
  cases e : m kl with
  | none => rw [h.at_none e]; rfl
  | some c => rw [(h.at_some e).1]; rfl
theorem tells_empty : Tells (.map [] : DataW V) (fun _ => Option.none) := fun kl => rfl
theorem Tells.put {D : DataW V} {m : Lit → Option V} (h : Tells D m) (hD : Maps.IsMap D) {k : Lit} (hk : WideAt.IsKeyLit k) (c : V) : Tells (D.put k (.held c)) (fun z => if z = k then Option.some c else m z) := fun kl => by
  by_cases e : kl = k
  · subst e
    dsimp only
    rw [if_pos rfl]
    exact ⟨Maps.has_put_same hD hk _, fun zd => Maps.atKey_put_same hD hk _ _⟩
  · dsimp only
    rw [if_neg e]
    have := h kl
    cases em : m kl with
    | none => rw [em] at this; exact (Maps.has_put_other e _).trans this
    | some c' => rw [em] at this; exact ⟨(Maps.has_put_other e _).trans this.1, fun zd => (Maps.atKey_put_other e _ _).trans (this.2 zd)⟩
theorem Tells.del {D : DataW V} {m : Lit → Option V} (h : Tells D m) (k : Lit) : Tells (D.del k) (fun z => if z = k then Option.none else m z) := fun kl => by
  by_cases e : kl = k
  · subst e
    dsimp only
    rw [if_pos rfl]
    exact Maps.has_del_same
  · dsimp only
    rw [if_neg e]
    have := h kl
    cases em : m kl with
    | none => rw [em] at this; exact (Maps.has_del_other e).trans this
    | some c' => rw [em] at this; exact ⟨(Maps.has_del_other e).trans this.1, fun zd => (Maps.atKey_del_other e _).trans (this.2 zd)⟩
end
/-- Block b is a map of at most n entries; at key kl it holds m kl. -/
def Mp (P : Program) {V : Type} (k : TypeId) (mk : V → Value) (W : World) (b n : Nat) (m : Lit → Option V) : Prop := ∃ D, W.ownsMap P k (rdV mk) b n D ∧ Tells D m
/-- Block r goes over it; left: which keys are still to come. -/
def Rg (P : Program) {V : Type} (k : TypeId) (mk : V → Value) (W : World) (b r n : Nat) (m : Lit → Option V) (left : Lit → Bool) (cnt : Nat) : Prop := ∃ D, W.ranges P k (rdV mk) b r n D left cnt ∧ Tells D m ∧ ∀ kl, left kl = true → (m kl).isSome = true
section
variable {P : Program} {V : Type} {mk : V → Value} {k e : TypeId} {b r n cnt : Nat} {m : Lit → Option V} {left : Lit → Bool}
theorem own_isMap {w : World} {R : Value → Option (DataW V × List MemPlace)} {D : DataW V} (h : w.ownsMap P k R b n D) : Maps.IsMap D := by
  obtain ⟨es, clock, hb, F, hs, hD⟩ := h
  exact ⟨_, hD⟩
theorem Mp.lt {W : World} (h : Mp P k mk W b n m) : b < W.heap.size := by obtain ⟨D, h, -⟩ := h; exact h.lt
theorem Mp.kept {W W' : World} {row : Option Nat} (h : Mp P k mk W b n m) (hg : W.grownBy W' row) (hne : some b ≠ row) : Mp P k mk W' b n m := by
  obtain ⟨D, h, t⟩ := h; exact ⟨D, h.kept hg hne, t⟩
theorem Mp.same {W W' : World} (h : Mp P k mk W b n m) (hb : W'.heap[b]? = W.heap[b]?) : Mp P k mk W' b n m := by
  obtain ⟨D, ⟨es, clock, h1, F, hs, hD⟩, t⟩ := h
  exact ⟨D, ⟨es, clock, hb.trans h1, F, hs, hD⟩, t⟩
theorem Mp.weak {W : World} (h : Mp P k mk W b n m) {n' : Nat} (hn : n ≤ n') : Mp P k mk W b n' m := by
  obtain ⟨D, h, t⟩ := h; exact ⟨D, h.mono hn, t⟩
theorem Mp.ne_cells {W : World} (h : Mp P k mk W b n m) {x : Nat} {cs : Array Value} {T : TypeId} {q : Nat × Nat} (hx : W.heap[x]? = some (.cells cs T q)) : x ≠ b := fun e => by
  obtain ⟨D, ⟨es, clock, q1, -⟩, -⟩ := h
  rw [e, q1] at hx
  cases hx
theorem mp_made (w : World) : Mp P k mk (w.alloc (.map #[] 0)) w.heap.size 0 (fun _ => none) := ⟨_, World.ownsMap_made _ _ _ _, tells_empty⟩
theorem Rg.same {W W' : World} (h : Rg P k mk W b r n m left cnt) (hb : W'.heap[b]? = W.heap[b]?) (hr : W'.heap[r]? = W.heap[r]?) : Rg P k mk W' b r n m left cnt := by
  obtain ⟨D, ⟨es, clock, since, seen, c0, h1, F, h3, h4, h5, h6⟩, t⟩ := h
  exact ⟨D, ⟨es, clock, since, seen, c0, hb.trans h1, F, h3, h4, hr.trans h5, h6⟩, t⟩
theorem Rg.mp {W : World} (h : Rg P k mk W b r n m left cnt) : Mp P k mk W b n m := by
  obtain ⟨D, h, t, -⟩ := h; exact ⟨D, h.owns, t⟩
theorem Rg.left_eq {W : World} (h : Rg P k mk W b r n m left cnt) : W.rangeLeft b r = cnt := by
  obtain ⟨D, h, -⟩ := h; exact h.left_eq
theorem Rg.lt {W : World} (h : Rg P k mk W b r n m left cnt) : r < W.heap.size := by
  obtain ⟨D, h, -⟩ := h; exact h.lt
variable {w : World} {ops : Array Oper} {rest : List Oper} {o : Oper} {a : Act} {Q : Exit → Act → World → Prop}
/-- m[k]. z: the zero value, which is some element too. -/
theorem wpList_mp_lookup (inj : ∀ a b, mk a = mk b → a = b) (hg : o.guard = none) (mo x : Operand) (t : TypeId) (hop : o.op = Op.lookup t mo x false) (K : Keyed P k) (ht : P.underlying t = some (.map k e)) (z : V) (hz : (zeroValue e).run P w = .ok (mk z) w)
    (hm : a.eval mo = .map (some b)) (h : Mp P k mk w b n m) (key : Value) (kl : Lit) (hx : a.eval x = key) (hkey : keyOf P k key = some kl)
    (v0 : Value) (hv0 : mk ((m kl).getD z) = v0) (hK : wpList P ops Q rest (a.put o.dst v0) w) : wpList P ops Q (o :: rest) a w := by
  subst hv0
  obtain ⟨D, hown, ht'⟩ := h
  refine wpList_plain hg fun K' hK' => ?_
  obtain ⟨v, ps, hrun, hv⟩ := hown.lookup K ht hz (rdV_mk inj z) hkey
  obtain ⟨c, rfl, hc⟩ := rdV_inv hv
  have e1 : D.atKey kl (.held z) = .held c := congrArg Prod.fst hc
  have e2 : (m kl).getD z = c := by
    cases em : m kl with
    | none =>
      rw [Maps.atKey_of_not_has (ht'.at_none em)] at e1
      cases e1; rfl
    | some c' =>
      rw [(ht'.at_some em).2] at e1
      cases e1; rfl
  rw [e2] at hK
  unfold Oper.wp
  simp [execOp, hop, hm, hx, hrun, Result.andThen]
  exact hK' _ _ hK
/-- m[k] = c. -/
theorem wpList_mp_update (inj : ∀ a b, mk a = mk b → a = b) (hg : o.guard = none) (mo x v : Operand) (t : TypeId) (hop : o.op = Op.mapUpdate t mo x v) (K : Keyed P k) (ht : P.underlying t = some (.map k e))
    (hm : a.eval mo = .map (some b)) (h : Mp P k mk w b n m) (hn : n < maxLen) (key : Value) (c : V) (kl : Lit) (hx : a.eval x = key) (hv : a.eval v = mk c) (hkey : keyOf P k key = some kl)
    (hK : ∀ w', Mp P k mk w' b (n + 1) (fun z => if z = kl then some c else m z) → w.grownBy w' (some b) → wpList P ops Q rest (a.put o.dst undef) w') : wpList P ops Q (o :: rest) a w := by
  obtain ⟨D, hown, ht'⟩ := h
  exact wpList_mapUpdate_own w hg mo x v t hop k e K ht (rdV mk) b n D hm hown hn key (mk c) kl hx hv hkey (.held c) [] (rdV_mk inj c) fun w' h1 h2 => hK w' ⟨_, h1, ht'.put (own_isMap hown) (K.key hkey) c⟩ h2
theorem wp_mp_update {K' : Act → World → Prop} (inj : ∀ a b, mk a = mk b → a = b) (mo x v : Operand) (t : TypeId) (hop : o.op = Op.mapUpdate t mo x v) (K : Keyed P k) (ht : P.underlying t = some (.map k e))
    (hm : a.eval mo = .map (some b)) (h : Mp P k mk w b n m) (hn : n < maxLen) (key : Value) (c : V) (kl : Lit) (hx : a.eval x = key) (hv : a.eval v = mk c) (hkey : keyOf P k key = some kl)
    (hK : ∀ w', Mp P k mk w' b (n + 1) (fun z => if z = kl then some c else m z) → w.grownBy w' (some b) → K' (a.put o.dst undef) w') : Oper.wp P o a w K' Q := by
  obtain ⟨D, hown, ht'⟩ := h
  obtain ⟨w', hrun, r1, r2⟩ := hown.update K ht hn hkey (rdV_mk inj c)
  unfold Oper.wp
  simp [execOp, hop, hm, hx, hv, hrun, Result.andThen]
  exact hK w' ⟨_, r1, ht'.put (own_isMap hown) (K.key hkey) c⟩ r2
/-- range m. -/
theorem wpList_mp_range (hg : o.guard = none) (mo : Operand) (t : TypeId) (hop : o.op = Op.range t mo) (K : Keyed P k) (ht : P.underlying t = some (.map k e)) (hm : a.eval mo = .map (some b)) (h : Mp P k mk w b n m)
    (hK : ∀ w' cnt', Rg P k mk w' b w.heap.size n m (fun kl => (m kl).isSome) cnt' → w.grownBy w' none → w'.heap.size = w.heap.size + 1 → wpList P ops Q rest (a.put o.dst (.pointer (some ⟨w.heap.size, 0, none⟩))) w') :
    wpList P ops Q (o :: rest) a w := by
  obtain ⟨D, hown, ht'⟩ := h
  refine wpList_range_own w hg mo t hop k e K ht (rdV mk) b n D hm hown fun w' h1 h2 h3 => ?_
  have e1 : Maps.has D = fun kl => (m kl).isSome := funext ht'.has
  rw [e1] at h1
  exact hK w' _ ⟨D, h1, ht', fun kl hl => hl⟩ h2 h3
/-- The step. -/
theorem wpList_mp_next {α : Type} (mkK : α → Value) (invK : ∀ key kl, keyOf P k key = some kl → ∃ x, key = mkK x) (hg : o.guard = none) (it : Operand) (hop : o.op = Op.next it false) (K : Keyed P k)
    (hit : a.eval it = .pointer (some ⟨r, 0, none⟩)) (h : Rg P k mk w b r n m left cnt)
    (hDone : (∀ kl, left kl = false) → wpList P ops Q rest (a.put o.dst (.tuple #[.bool false])) w)
    (hMore : ∀ (x : α) (c : V) (kl : Lit) (w' : World) (cnt' : Nat), keyOf P k (mkK x) = some kl → left kl = true → m kl = some c → Rg P k mk w' b r n m (fun z => left z && !z.sameKey kl) cnt' → cnt' < cnt →
      w.grownBy w' (some r) → w'.heap.size = w.heap.size → (Instr.entry (.pointer (some ⟨r, 0, none⟩))).run P w' = .ok (.tuple #[mkK x, mk c]) w' → wpList P ops Q rest (a.put o.dst (.tuple #[.bool true, mkK x, mk c])) w') :
    wpList P ops Q (o :: rest) a w := by
  obtain ⟨D, hr, ht, hl⟩ := h
  refine wpList_next_ranges w hg it hop k K (rdV mk) mkK mk invK (fun v y hv => by obtain ⟨c, e, -⟩ := rdV_inv hv; exact ⟨c, e⟩) b r n D left cnt hit hr (fun _ h2 => hDone h2) fun x c kl y w' cnt' hkey hlk hv hat hrg hlt hgr hsz hen => ?_
  have hs := hl kl hlk
  obtain ⟨c', em⟩ := Option.isSome_iff_exists.1 hs
  have h1 := (ht.at_some em).2 .nil
  rw [hat] at h1
  obtain ⟨c2, e2, e3⟩ := rdV_inv hv
  have h4 : c2 = c' := by rw [e3] at h1; cases h1; rfl
  subst h4
  rw [e2] at hen ⊢
  exact hMore x c2 kl w' cnt' hkey hlk em ⟨D, hrg, ht, fun z hz => hl z (by simp only [Bool.and_eq_true] at hz; exact hz.1)⟩ hlt hgr hsz hen
/-- delete(m, k) in a round. -/
theorem wpList_mp_delete (hg : o.guard = none) (mo x : Operand) (t : TypeId) (hop : o.op = Op.call { callee := Callee.builtin Builtin.delete, args := #[mo, x], argTypes := #[t, k] })
    (K : Keyed P k) (ht : P.underlying t = some (.map k e)) (hm : a.eval mo = .map (some b)) (h : Rg P k mk w b r n m left cnt) (key : Value) (kl : Lit) (hx : a.eval x = key) (hkey : keyOf P k key = some kl)
    (hK : ∀ w' cnt', Rg P k mk w' b r n (fun z => if z = kl then none else m z) (fun z => left z && !z.sameKey kl) cnt' → cnt' ≤ cnt → w.mapTurned w' b → wpList P ops Q rest (a.put o.dst (.tuple #[])) w') : wpList P ops Q (o :: rest) a w := by
  obtain ⟨D, hr, ht', hl⟩ := h
  refine wpList_delete_ranges w hg mo x t k hop e K ht (rdV mk) b r n D left cnt hm hr key kl hx hkey fun w' cnt' h1 h2 h3 => hK w' cnt' ⟨_, h1, ht'.del kl, fun z hz => ?_⟩ h2 h3
  simp only [Bool.and_eq_true] at hz
  have hne : z ≠ kl := fun e => by
    subst e
    have := WideAt.sameKey_self (K.key hkey)
    rw [this] at hz
    exact absurd hz.2 (by decide)
  show (if z = kl then none else m z).isSome = true
  rw [if_neg hne]
  exact hl z hz.1
end
end Go.Proofs.Ytmaildoddeimbaa.Q

namespace Go.Proofs.Ytmaildoddeimbaa.Q
open Go.RowKit Go.Proofs.YtmaildoddeimbaaW.PrintWords Go.Proofs.YtmaildoddeimbaaW.PrintLast
set_option linter.unusedVariables false
set_option linter.unusedSimpArgs false
/-- What was there is as it was; draws go on. -/
def Gw (w W : World) : Prop := Below w.heap.size w W ∧ w.drawn ≤ W.drawn
theorem Gw.refl (w : World) : Gw w w := ⟨Below.refl _ _, Nat.le_refl _⟩
theorem Gw.trans {a b c : World} (h : Gw a b) (k : Gw b c) : Gw a c := ⟨h.1.trans (k.1.mono h.1.size), Nat.le_trans h.2 k.2⟩
theorem gw_grow {w W : World} (h : Gw w W) : ∃ q os, W = Go.Sort.grow (w.drewN q) os := by
  obtain ⟨hb, hd⟩ := h
  refine ⟨W.drawn - w.drawn, W.heap.extract w.heap.size W.heap.size, ?_⟩
  have h1 := hb.os
  have h2 := hb.tape
  have h3 := hb.output
  have h4 : W.heap = w.heap ++ W.heap.extract w.heap.size W.heap.size := by
    apply Array.ext_getElem?
    intro i
    rw [Array.getElem?_append]
    split
    · rename_i hi
      exact hb.block i hi
    · rename_i hi
      rw [Array.getElem?_extract]
      split
      · congr 1; omega
      · rw [Array.getElem?_eq_none]; omega
  unfold Go.Sort.grow World.drewN
  cases W
  simp only at h1 h2 h3 h4 hd ⊢
  congr 1
  omega
section
variable {w W : World} {x j m : Nat} {o : Obj} {v : Value}
instance [h : K0 (Gw w W)] {o : Obj} : K0 (Gw w (W.alloc o)) := ⟨below_alloc h.out.1 o, h.out.2⟩
instance [h : K0 (Gw w W)] {m : Nat} : K0 (Gw w (W.drewN m)) := ⟨pw_below_drewN h.out.1 m, Nat.le_trans h.out.2 (Nat.le_add_right _ _)⟩
instance [h : K0 (Gw w W)] : K0 (Gw w W.drew) := ⟨below_drew1 h.out.1, Nat.le_trans h.out.2 (Nat.le_add_right _ _)⟩
instance {j : Nat} [h : K0 (Gw w W)] [hg : K0 (w.heap.size ≤ x)] : K0 (Gw w (W.setCell ⟨x, j, none⟩ v)) := ⟨below_set h.out.1 hg.out, h.out.2⟩
end
end Go.Proofs.Ytmaildoddeimbaa.Q

namespace Go.Proofs.Ytmaildoddeimbaa.Q
open Go.RowKit Go.Proofs.YtmaildoddeimbaaW.PrintWords Go.Proofs.YtmaildoddeimbaaW.PrintLast
set_option linter.unusedVariables false
theorem wrap_nat (i : Nat) (h : i < 4611686018427387904) : wrap64 ((i : Int) + 1) = ((i + 1 : Nat) : Int) := by unfold wrap64; omega
theorem wrap_id (x : Int) (h0 : -9223372036854775808 ≤ x) (h1 : x ≤ 9223372036854775807) : wrap64 x = x := by unfold wrap64; omega
theorem getD_cut {α : Type} (pre : List α) (e : α) (es : List α) (z : α) : (pre ++ e :: es).getD pre.length z = e := by simp [List.getD_eq_getElem?_getD]
theorem len_cut {α : Type} (pre : List α) (e : α) (es : List α) : pre.length < (pre ++ e :: es).length := by simp
theorem Ev.bind_some {α β : Type} {g : Option α} {f : Nat → α → Option β} {a : α} {r : β} (h : g = some a) (k : Ev (fun n => f n a) r) : Ev (fun n => g.bind (f n)) r := by subst h; exact k
/-- From here on, one round is told. -/
theorem Ev.round {α : Type} {g : Nat → Option α} {f : Nat → Option α} {r : α} (h : ∀ k, g (k + 1) = f k) (k : Ev f r) : Ev g r := Ev.step h k
theorem Ev.shift {α : Type} {g : Nat → Option α} {r : α} (m : Nat) (h : ∀ k, g (k + m) = some r) : Ev g r := ⟨m, fun k hk => by have := h (k - m); rwa [Nat.sub_add_cancel hk] at this⟩
theorem Ev.if_pos {α : Type} {c : Prop} [Decidable c] {g f : Nat → Option α} {r : α} (h : c) (k : Ev g r) : Ev (fun n => if c then g n else f n) r := by simp only [h, if_true]; exact k
theorem Ev.if_neg {α : Type} {c : Prop} [Decidable c] {g f : Nat → Option α} {r : α} (h : ¬ c) (k : Ev f r) : Ev (fun n => if c then g n else f n) r := by simp only [h, if_false]; exact k
theorem Ev.same {α : Type} {g : Nat → Option α} {r q : α} (h : Ev g r) (h' : Ev g q) : r = q := by
  obtain ⟨a, ha⟩ := h; obtain ⟨b, hb⟩ := h'
  have h1 := ha (max a b) (Nat.le_max_left _ _); have h2 := hb (max a b) (Nat.le_max_right _ _)
  rw [h1] at h2; exact Option.some.inj h2
theorem toList_inj {a b : ByteArray} : a.toList = b.toList ↔ a = b := by
  constructor
  · intro h
    rw [ByteArray.toList_eq, ByteArray.toList_eq] at h
    cases a; cases b
    simp at h
    simp [h]
  · rintro rfl; rfl
/-- What was filled so far, and what is still nought. -/
theorem set_fill {α : Type} (done : List α) (z x : α) (m : Nat) : (done ++ List.replicate (m + 1) z).set done.length x = (done ++ [x]) ++ List.replicate m z := by
  rw [List.set_append_right _ _ (Nat.le_refl _)]; simp [List.replicate_succ]
end Go.Proofs.Ytmaildoddeimbaa.Q

namespace Go.Proofs.Ytmaildoddeimbaa.Q
open Go.RowKit Go.Proofs.YtmaildoddeimbaaW.PrintWords Go.Proofs.YtmaildoddeimbaaW.PrintLast
set_option linter.unusedVariables false
set_option linter.unusedSimpArgs false
abbrev LE := S41
abbrev IE := S43
theorem szEntry_is (x : LE) (n : Int) (h0 : 0 ≤ n) (h1 : n ≤ 1048576) (hx : ok41 x) :
    ∃ t, laws_szEntry.f x.f0 x.f1 x.f2 x.f3 x.f4 x.f5 n = some t ∧ (t < 0 ∨ (0 ≤ t ∧ t ≤ n)) := by
  obtain ⟨s0, s1, s2, _, _, s5⟩ := hx
  simp only [maxLen] at s0 s1 s2 s5
  unfold laws_szEntry.f
  rw [wrap_id (n - (x.f0.size : Int)) (by omega) (by omega)]
  split
  · exact ⟨_, rfl, .inl (by omega)⟩
  rw [wrap_id (n - (x.f0.size : Int) - (x.f1.size : Int)) (by omega) (by omega)]
  split
  · exact ⟨_, rfl, .inl (by omega)⟩
  rw [wrap_id (n - (x.f0.size : Int) - (x.f1.size : Int) - (x.f2.size : Int)) (by omega) (by omega)]
  split
  · exact ⟨_, rfl, .inl (by omega)⟩
  rw [wrap_id (n - (x.f0.size : Int) - (x.f1.size : Int) - (x.f2.size : Int) - (x.f5.size : Int)) (by omega) (by omega)]
  split
  · exact ⟨_, rfl, .inl (by omega)⟩
  · exact ⟨_, rfl, .inr ⟨by omega, by omega⟩⟩
theorem szEntryS_loop (xs : List LE) (hb : xs.length < 4611686018427387904) : ∀ (rest pre : List LE) (n : Int), xs = pre ++ rest → (∀ x ∈ rest, ok41 x) → 0 ≤ n → n ≤ 1048576 →
    ∃ t, Ev (fun k => laws_szEntryS.l0 k xs n (pre.length : Int)) t ∧ (t < 0 ∨ (0 ≤ t ∧ t ≤ n)) := by
  intro rest
  induction rest with
  | nil =>
    intro pre n e _ h0 h1
    refine ⟨n, Ev.shift 1 fun k => ?_, .inr ⟨h0, Int.le_refl _⟩⟩
    simp only [laws_szEntryS.l0]; rw [if_neg (by rw [e]; simp)]
  | cons x rest ih =>
    intro pre n e hok h0 h1
    have hlt : pre.length < xs.length := by rw [e]; exact len_cut _ _ _
    have hr : rd_T41 xs (pre.length : Int) = x := by unfold rd_T41; rw [Int.toNat_natCast, e, getD_cut]
    obtain ⟨t, ht, h2⟩ := szEntry_is x n h0 h1 (hok x List.mem_cons_self)
    rcases h2 with h2 | ⟨h2, h3⟩
    · refine ⟨-1, Ev.shift 1 fun k => ?_, .inl (by omega)⟩
      simp only [laws_szEntryS.l0]; rw [if_pos (by omega), if_pos (by omega), hr, ht]; simp only [Option.bind_some]; rw [if_pos h2]
    · obtain ⟨u, hu, h4⟩ := ih (pre ++ [x]) t (by simp [e]) (fun y hy => hok y (List.mem_cons_of_mem _ hy)) h2 (by omega)
      refine ⟨u, Ev.round (fun k => ?_) hu, by omega⟩
      simp only [laws_szEntryS.l0]; rw [if_pos (by omega), if_pos (by omega), hr, ht]; simp only [Option.bind_some]; rw [if_neg (by omega), wrap_nat _ (by omega)]; simp
theorem szEntryS_is (xs : List LE) (n : Int) (hl : xs.length ≤ maxLen) (hok : ∀ x ∈ xs, ok41 x) (h0 : 0 ≤ n) (h1 : n ≤ 1048576) :
    ∃ t, Ev (fun k => laws_szEntryS.f k xs n) t ∧ (t < 0 ∨ (0 ≤ t ∧ t + xs.length ≤ n)) := by
  simp only [maxLen] at hl
  unfold laws_szEntryS.f
  rw [wrap_id _ (by omega) (by omega)]
  by_cases h : n - (xs.length : Int) < 0
  · exact ⟨-1, Ev.if_pos h (Ev.now _), .inl (by omega)⟩
  · obtain ⟨t, ht, h2⟩ := szEntryS_loop xs (by omega) xs [] (n - xs.length) rfl hok (by omega) (by omega)
    exact ⟨t, Ev.if_neg h ht, by omega⟩
def cvE (x : LE) : IE := ⟨x.f0, x.f1, x.f2, x.f3, x.f4, x.f5⟩
theorem toEntryS_loop (xs : List LE) (hb : xs.length < 4611686018427387904) : ∀ (rest pre : List LE), xs = pre ++ rest →
    Ev (fun k => laws_toEntryS.l0 k xs (pre.map cvE ++ List.replicate rest.length z43) (pre.length : Int)) (xs.map cvE) := by
  intro rest
  induction rest with
  | nil =>
    intro pre e
    refine Ev.shift 1 fun k => ?_
    simp only [laws_toEntryS.l0]; rw [if_neg (by rw [e]; simp), e]; simp
  | cons x rest ih =>
    intro pre e
    have hlt : pre.length < xs.length := by rw [e]; exact len_cut _ _ _
    have hr : rd_T41 xs (pre.length : Int) = x := by unfold rd_T41; rw [Int.toNat_natCast, e, getD_cut]
    have h := ih (pre ++ [x]) (by simp [e])
    refine Ev.round (fun k => ?_) h
    simp only [laws_toEntryS.l0]; rw [if_pos (by omega), if_pos (by omega), hr]; simp only [laws_toEntry.f, Option.bind_some]
    rw [if_pos (by simp; omega), wrap_nat _ (by omega), Int.toNat_natCast]
    have hs := set_fill (pre.map cvE) z43 (cvE x) rest.length
    rw [List.length_map] at hs
    rw [List.length_cons]
    have hs' : (pre.map cvE ++ List.replicate (rest.length + 1) z43).set pre.length ⟨x.f0, x.f1, x.f2, x.f3, x.f4, x.f5⟩ = _ := hs
    rw [hs']; simp
theorem toEntryS_is (xs : List LE) (hl : xs.length ≤ 1048576) : Ev (fun k => laws_toEntryS.f k xs) (xs.map cvE) := by
  have h := toEntryS_loop xs (by omega) xs [] rfl
  unfold laws_toEntryS.f
  simp only [Int.toNat_natCast]
  refine Ev.if_pos (by omega) (Ev.if_pos (by omega) ?_)
  simpa using h
theorem eqEntry_refl (x : IE) : laws_eqEntry.f x.f0 x.f1 x.f2 x.f3 x.f4 x.f5 x.f0 x.f1 x.f2 x.f3 x.f4 x.f5 = some true := by simp [laws_eqEntry.f]
theorem eqEntryS_loop (xs : List IE) (hb : xs.length < 4611686018427387904) : ∀ (rest pre : List IE), xs = pre ++ rest → Ev (fun k => laws_eqEntryS.l0 k xs xs (pre.length : Int)) true := by
  intro rest
  induction rest with
  | nil => intro pre e; exact Ev.shift 1 fun k => by simp only [laws_eqEntryS.l0]; rw [if_neg (by rw [e]; simp)]
  | cons x rest ih =>
    intro pre e
    have hlt : pre.length < xs.length := by rw [e]; exact len_cut _ _ _
    have h := ih (pre ++ [x]) (by simp [e])
    refine Ev.round (fun k => ?_) h
    simp only [laws_eqEntryS.l0]; rw [if_pos (by omega), if_pos (by omega), if_pos (by omega), eqEntry_refl]; simp only [Option.bind_some, if_true]; rw [wrap_nat _ (by omega)]; simp
theorem eqEntryS_refl (xs : List IE) (hb : xs.length < 4611686018427387904) : Ev (fun k => laws_eqEntryS.f k xs xs) true :=
  Ev.if_pos rfl (eqEntryS_loop xs hb xs [] rfl)
/-! a valid entry -/
def vent (e : IE) : Bool := decide ((e.f0.size : Int) ≥ 1) && (decide ((e.f0.size : Int) ≤ 64) && (decide ((e.f1.size : Int) ≥ 1) && (decide ((e.f1.size : Int) ≤ 16) && (decide ((e.f2.size : Int) ≤ 64) && (decide ((e.f5.size : Int) ≤ 200) && (decide (e.f4 ≥ 0) && (decide (e.f4 ≤ 2) && (decide (e.f4 = 0) || e.f5.toList == []))))))))
theorem specValidEntry_is (e : IE) : spec_ValidEntry.f e.f0 e.f1 e.f2 e.f3 e.f4 e.f5 = some (vent e) := by
  have st : ∀ (c : Prop) [Decidable c] (a : Option Bool) (b : Bool), a = some b → (if c then a else some false) = some (decide c && b) := fun c _ a b h => by by_cases hc : c <;> simp [hc, h]
  unfold spec_ValidEntry.f vent
  refine st _ _ _ (st _ _ _ (st _ _ _ (st _ _ _ (st _ _ _ (st _ _ _ (st _ _ _ (st _ _ _ ?_)))))))
  by_cases h : e.f4 = 0
  · rw [if_pos h]; simp [h]
  · rw [if_neg h]; simp [h]
/-! a valid run -/
def cmpE (a b : IE) : Int := cmpK a.f0 a.f1 a.f2 a.f3 a.f4 b.f0 b.f1 b.f2 b.f3 b.f4
def sameCol (a b : IE) : Bool := a.f0.toList == b.f0.toList && (a.f1.toList == b.f1.toList && a.f2.toList == b.f2.toList)
theorem sameColumn_is (a b : IE) : spec_l1SameColumn.f a.f0 a.f1 a.f2 a.f3 a.f4 a.f5 b.f0 b.f1 b.f2 b.f3 b.f4 b.f5 = some (sameCol a b) := by
  unfold spec_l1SameColumn.f sameCol
  by_cases h1 : a.f0.toList = b.f0.toList <;> by_cases h2 : a.f1.toList = b.f1.toList <;> simp [h1, h2]
end Go.Proofs.Ytmaildoddeimbaa.Q

namespace Go.Proofs.Ytmaildoddeimbaa.Q
open Go.RowKit Go.Proofs.YtmaildoddeimbaaW.PrintWords Go.Proofs.YtmaildoddeimbaaW.PrintLast
set_option linter.unusedVariables false
set_option linter.unusedSimpArgs false
/-! the order of strings -/
theorem less_irrefl : ∀ a : List UInt8, Op.bytesLess a a = false
  | [] => rfl
  | a :: x => by simp [Op.bytesLess, less_irrefl x]
theorem less_trans : ∀ a b c : List UInt8, Op.bytesLess a b = true → Op.bytesLess b c = true → Op.bytesLess a c = true
  | _, _, [] => by intro _ h; simp [Op.bytesLess] at h
  | _, [], _ :: _ => by intro h _; simp [Op.bytesLess] at h
  | [], _ :: _, _ :: _ => by intro _ _; rfl
  | a :: x, b :: y, c :: z => by
    have ih := less_trans x y z
    simp only [Op.bytesLess, Bool.or_eq_true, Bool.and_eq_true, decide_eq_true_eq, beq_iff_eq]
    rintro (h1 | ⟨rfl, h1⟩) (h2 | ⟨rfl, h2⟩)
    · exact .inl (UInt8.lt_trans h1 h2)
    · exact .inl h1
    · exact .inl h2
    · exact .inr ⟨rfl, ih h1 h2⟩
theorem less_tri : ∀ a b : List UInt8, Op.bytesLess a b = true ∨ a = b ∨ Op.bytesLess b a = true
  | [], [] => .inr (.inl rfl)
  | [], _ :: _ => .inl rfl
  | _ :: _, [] => .inr (.inr rfl)
  | a :: x, b :: y => by
    simp only [Op.bytesLess, Bool.or_eq_true, Bool.and_eq_true, decide_eq_true_eq, beq_iff_eq]
    by_cases h1 : a < b
    · exact .inl (.inl h1)
    · by_cases h2 : b < a
      · exact .inr (.inr (.inl h2))
      · have h3 : a = b := UInt8.le_antisymm (UInt8.not_lt.1 h2) (UInt8.not_lt.1 h1)
        subst h3
        rcases less_tri x y with h | rfl | h
        · exact .inl (.inr ⟨rfl, h⟩)
        · exact .inr (.inl rfl)
        · exact .inr (.inr (.inr ⟨rfl, h⟩))
theorem less_le {a b c : List UInt8} (h : Op.bytesLess a b = true) (k : Op.bytesLess c b = false) : Op.bytesLess a c = true := by
  rcases less_tri b c with h1 | rfl | h1
  · exact less_trans _ _ _ h h1
  · exact h
  · rw [k] at h1; cases h1
theorem le_trans' {a b c : List UInt8} (h : Op.bytesLess b a = false) (k : Op.bytesLess c b = false) : Op.bytesLess c a = false := by
  cases e : Op.bytesLess c a with
  | false => rfl
  | true => have := less_le e h; rw [k] at this; cases this
theorem less_asymm {a b : List UInt8} (h : Op.bytesLess a b = true) : Op.bytesLess b a = false := by
  cases e : Op.bytesLess b a with
  | false => rfl
  | true => have := less_trans _ _ _ h e; rw [less_irrefl] at this; cases this
/-! ranges of rows -/
end Go.Proofs.Ytmaildoddeimbaa.Q

namespace Go.Proofs.Ytmaildoddeimbaa.Q
open Go.RowKit Go.Proofs.YtmaildoddeimbaaW.PrintWords Go.Proofs.YtmaildoddeimbaaW.PrintLast
set_option linter.unusedVariables false
set_option linter.unusedSimpArgs false
/-- A three-way comparison. -/
structure Tri {α : Type} (c : α → α → Int) : Prop where
  anti : ∀ a b, c a b = - c b a
  tr : ∀ a b d, c a b ≤ 0 → c b d ≤ 0 → c a d ≤ 0
namespace Tri
variable {α : Type} {c c1 c2 : α → α → Int}
theorem lt_le (h : Tri c) {a b d : α} (h1 : c a b < 0) (h2 : c b d ≤ 0) : c a d < 0 := by
  have h3 := h.tr a b d (by omega) h2
  rcases Int.lt_or_eq_of_le h3 with h4 | h4
  · exact h4
  · have h5 := h.anti d a
    have h6 := h.tr b d a h2 (by omega)
    have h7 := h.anti b a
    omega
theorem le_lt (h : Tri c) {a b d : α} (h1 : c a b ≤ 0) (h2 : c b d < 0) : c a d < 0 := by
  have h3 := h.tr a b d h1 (by omega)
  rcases Int.lt_or_eq_of_le h3 with h4 | h4
  · exact h4
  · have h5 := h.anti d a
    have h6 := h.tr d a b (by omega) h1
    have h7 := h.anti d b
    omega
theorem zero (h : Tri c) {a b : α} (d : α) (h1 : c a b = 0) : (c a d < 0 ↔ c b d < 0) ∧ (c a d ≤ 0 ↔ c b d ≤ 0) := by
  have h2 := h.anti b a
  exact ⟨⟨fun h3 => h.le_lt (by omega) h3, fun h3 => h.le_lt (by omega) h3⟩, ⟨fun h3 => h.tr b a d (by omega) h3, fun h3 => h.tr a b d (by omega) h3⟩⟩
theorem self (h : Tri c) (a : α) : c a a = 0 := by have := h.anti a a; omega
theorem then_ (h1 : Tri c1) (h2 : Tri c2) : Tri fun a b => fst0 (c1 a b) (c2 a b) where
  anti a b := by
    have e1 := h1.anti a b
    have e2 := h2.anti a b
    unfold fst0
    split <;> split <;> omega
  tr a b d := by
    unfold fst0
    intro p q
    have s1 := fun h k => h1.lt_le (a := a) (b := b) (d := d) h k
    have s2 := fun h k => h1.le_lt (a := a) (b := b) (d := d) h k
    have s3 := h1.tr a b d
    have s4 := h2.tr a b d
    have e1 := h1.anti a b
    have e2 := h1.anti b d
    have e3 := h1.anti a d
    have s5 := h1.tr d b a
    split at p <;> split at q <;> split
    · exact s4 p q
    · omega
    · have := s2 (by omega) (by omega); omega
    · exact Int.le_of_lt (s2 (by omega) (by omega))
    · have := s1 (by omega) (by omega); omega
    · exact Int.le_of_lt (s1 (by omega) (by omega))
    · have := s1 (by omega) (by omega); omega
    · exact s3 p q
theorem on {β : Type} (h : Tri c) (f : β → α) : Tri fun a b => c (f a) (f b) := ⟨fun a b => h.anti _ _, fun a b d => h.tr _ _ _⟩
end Tri
theorem tri_scmp : Tri scmp where
  anti a b := by
    unfold scmp
    rcases less_tri a.toList b.toList with h | h | h
    · rw [if_pos h, if_neg (by rw [less_asymm h]; decide), if_pos h]
    · rw [h, less_irrefl]; decide
    · rw [if_neg (by rw [less_asymm h]; decide), if_pos h, if_pos h]; rfl
  tr a b d := by
    have key : ∀ x y : ByteArray, scmp x y ≤ 0 ↔ Op.bytesLess y.toList x.toList = false := fun x y => by
      unfold scmp
      cases h1 : Op.bytesLess x.toList y.toList
      · cases h2 : Op.bytesLess y.toList x.toList <;> simp
      · simp [less_asymm h1]
    rw [key, key, key]
    exact fun h1 h2 => le_trans' h1 h2
theorem tri_kcmp : Tri kcmp where
  anti a b := by unfold kcmp; repeat' split <;> omega
  tr a b d := by unfold kcmp; repeat' split <;> omega
theorem tri_tcmp : Tri tcmp where
  anti a b := by unfold tcmp; repeat' split <;> omega
  tr a b d := by unfold tcmp; repeat' split <;> omega
theorem tri_cmpE : Tri cmpE := ((tri_scmp.on fun e : IE => e.f0).then_ ((tri_scmp.on fun e : IE => e.f1).then_ ((tri_scmp.on fun e : IE => e.f2).then_ ((tri_kcmp.on fun e : IE => e.f4).then_ (tri_tcmp.on fun e : IE => e.f3)))))
theorem scmp_zero {a b : ByteArray} : scmp a b = 0 ↔ a = b := by
  constructor
  · intro h
    rcases less_tri a.toList b.toList with h1 | h1 | h1
    · unfold scmp at h; rw [if_pos h1] at h; cases h
    · exact toList_inj.1 h1
    · unfold scmp at h; rw [if_neg (by rw [less_asymm h1]; decide), if_pos h1] at h; cases h
  · rintro rfl; exact tri_scmp.self a
theorem fst0_zero {a b : Int} : fst0 a b = 0 ↔ a = 0 ∧ b = 0 := by unfold fst0; split <;> simp_all
/-- The column of an entry. -/
def colE (e : IE) : ByteArray × ByteArray × ByteArray := (e.f0, e.f1, e.f2)
theorem cmpE_zero (a b : IE) : cmpE a b = 0 ↔ colE a = colE b ∧ (a.f4 = 2 ↔ b.f4 = 2) ∧ a.f3 = b.f3 := by
  unfold cmpE cmpK colE
  rw [fst0_zero, fst0_zero, fst0_zero, fst0_zero, scmp_zero, scmp_zero, scmp_zero]
  have h1 : kcmp a.f4 b.f4 = 0 ↔ (a.f4 = 2 ↔ b.f4 = 2) := by
    unfold kcmp
    by_cases h1 : a.f4 = 2 <;> by_cases h2 : b.f4 = 2 <;> simp [h1, h2]
  have h2 : tcmp a.f3 b.f3 = 0 ↔ a.f3 = b.f3 := by unfold tcmp; repeat' split <;> omega
  rw [h1, h2]
  simp only [Prod.mk.injEq]
  constructor
  · rintro ⟨a, b, c, d, e⟩; exact ⟨⟨a, b, c⟩, d, e⟩
  · rintro ⟨⟨a, b, c⟩, d, e⟩; exact ⟨a, b, c, d, e⟩
/-- Strictly rising. -/
def RisE (l : List IE) : Prop := l.Pairwise fun x y => cmpE x y < 0
/-- A strictly rising list is told by what it holds. -/
theorem rise_uniq : ∀ {a b : List IE}, RisE a → RisE b → (∀ e, e ∈ a ↔ e ∈ b) → a = b
  | [], [], _, _, _ => rfl
  | [], y :: b, _, _, h => absurd ((h y).2 (by simp)) (by simp)
  | x :: a, [], _, _, h => absurd ((h x).1 (by simp)) (by simp)
  | x :: a, y :: b, ha, hb, h => by
    obtain ⟨ha1, ha2⟩ := List.pairwise_cons.1 ha
    obtain ⟨hb1, hb2⟩ := List.pairwise_cons.1 hb
    have hself := fun e => tri_cmpE.self e
    have hxy : x = y := by
      rcases List.mem_cons.1 ((h x).1 (by simp)) with e | hx
      · exact e
      · rcases List.mem_cons.1 ((h y).2 (by simp)) with e | hy
        · exact e.symm
        · have h1 := hb1 x hx
          have h2 := ha1 y hy
          have := tri_cmpE.anti x y
          omega
    subst hxy
    congr 1
    refine rise_uniq ha2 hb2 fun e => ⟨fun he => ?_, fun he => ?_⟩
    · rcases List.mem_cons.1 ((h e).1 (List.mem_cons_of_mem _ he)) with rfl | h1
      · have := ha1 _ he; rw [hself] at this; omega
      · exact h1
    · rcases List.mem_cons.1 ((h e).2 (List.mem_cons_of_mem _ he)) with rfl | h1
      · have := hb1 _ he; rw [hself] at this; omega
      · exact h1
/-! The reference: into an ordered list. -/
def intoG (e : IE) : List IE → Bool → List IE
  | [], done => if done = true then [] else [e]
  | x :: xs, done => (if 0 ≤ cmpE x e ∧ done = false then [e] else []) ++ ((if cmpE x e ≠ 0 then [x] else []) ++ intoG e xs (done || decide (0 ≤ cmpE x e)))
def intoE (l : List IE) (e : IE) : List IE := intoG e l false
theorem intoG_done (e : IE) : ∀ (l : List IE), intoG e l true = l.filter fun x => cmpE x e != 0
  | [] => rfl
  | x :: xs => by
    simp only [intoG, Bool.true_or, intoG_done e xs]
    by_cases h : cmpE x e = 0 <;> simp [h]
theorem intoG_mem (e : IE) : ∀ (l : List IE) (y : IE), y ∈ intoG e l false ↔ y = e ∨ (y ∈ l ∧ cmpE y e ≠ 0)
  | [], y => by simp [intoG]
  | x :: xs, y => by
    simp only [intoG, Bool.false_or]
    by_cases h : 0 ≤ cmpE x e
    · simp only [h, decide_true, intoG_done]
      by_cases h0 : cmpE x e = 0
      · simp only [h0]
        simp only [List.mem_append, List.mem_filter, List.mem_cons]
        constructor
        · rintro (h1 | h1 | h1)
          · left; simpa using h1
          · simp at h1
          · right; exact ⟨.inr h1.1, by simpa using h1.2⟩
        · rintro (h1 | ⟨rfl | h1, h2⟩)
          · left; simpa using h1
          · exact absurd h0 h2
          · right; right; exact ⟨h1, by simpa using h2⟩
      · simp only [List.mem_append, List.mem_filter, List.mem_cons, h0]
        constructor
        · rintro (h1 | h1 | h1)
          · left; simpa using h1
          · right; simp at h1; obtain rfl := h1.2; exact ⟨.inl rfl, h0⟩
          · right; exact ⟨.inr h1.1, by simpa using h1.2⟩
        · rintro (h1 | ⟨rfl | h1, h2⟩)
          · left; simpa using h1
          · right; left; simp [h0]
          · right; right; exact ⟨h1, by simpa using h2⟩
    · have h0 : cmpE x e ≠ 0 := by omega
      have ih := intoG_mem e xs y
      simp only [h, decide_false, List.mem_append, ih, List.mem_cons]
      simp only [false_and, if_false, List.not_mem_nil, false_or, h0, ne_eq, not_false_eq_true, if_true, List.mem_cons, or_false]
      constructor
      · rintro (rfl | rfl | h1)
        · right; exact ⟨.inl rfl, h0⟩
        · left; rfl
        · right; exact ⟨.inr h1.1, h1.2⟩
      · rintro (rfl | ⟨rfl | h1, h2⟩)
        · right; left; rfl
        · left; rfl
        · right; right; exact ⟨h1, h2⟩
theorem intoE_mem (l : List IE) (e y : IE) : y ∈ intoE l e ↔ y = e ∨ (y ∈ l ∧ cmpE y e ≠ 0) := intoG_mem e l y
theorem intoE_rise (e : IE) : ∀ (l : List IE), RisE l → RisE (intoE l e)
  | [], _ => by simp [intoE, intoG, RisE]
  | x :: xs, h => by
    obtain ⟨h1, h2⟩ := List.pairwise_cons.1 h
    have ih := intoE_rise e xs h2
    unfold intoE
    simp only [intoG, Bool.false_or]
    by_cases hx : 0 ≤ cmpE x e
    · have hle : cmpE e x ≤ 0 := by have := tri_cmpE.anti e x; omega
      have hall : ∀ y ∈ xs, cmpE e y < 0 := fun y hy => tri_cmpE.le_lt hle (h1 y hy)
      simp only [hx, decide_true, intoG_done]
      have hf : RisE (xs.filter fun x => cmpE x e != 0) := h2.sublist List.filter_sublist
      by_cases h0 : cmpE x e = 0
      · simp only [h0, ne_eq, not_true_eq_false, if_false, List.nil_append]
        simp only [Int.le_refl, and_self, if_true, List.singleton_append]
        exact List.pairwise_cons.2 ⟨fun y hy => hall y (List.mem_filter.1 hy).1, hf⟩
      · simp only [and_self, if_true, h0, ne_eq, not_false_eq_true, List.singleton_append]
        refine List.pairwise_cons.2 ⟨fun y hy => ?_, List.pairwise_cons.2 ⟨fun y hy => h1 y (List.mem_filter.1 hy).1, hf⟩⟩
        rcases List.mem_cons.1 hy with rfl | hy
        · have := tri_cmpE.anti e y; omega
        · exact hall y (List.mem_filter.1 hy).1
    · have h0 : cmpE x e ≠ 0 := by omega
      simp only [hx, decide_false, false_and, if_false, h0, ne_eq, not_false_eq_true, if_true, List.nil_append, List.singleton_append]
      refine List.pairwise_cons.2 ⟨fun y hy => ?_, ih⟩
      rcases (intoE_mem xs e y).1 hy with rfl | ⟨hy, -⟩
      · omega
      · exact h1 y hy
end Go.Proofs.Ytmaildoddeimbaa.Q

namespace Go.Proofs.Ytmaildoddeimbaa.Q
/-- Number i comes up now: with true it alone may (a call, a make), with false what it yields is the same in each world that meets S. -/
def planB (md : Region.Mode) (ops : Array Oper) : List (Nat × Bool) → Array Bool → Bool
  | [], l => Region.ready md ops l == []
  | (i, false) :: r, l => Region.free md ops l i && ((Region.ready md ops l).contains i && planB md ops r (l.setIfInBounds i true))
  | (i, true) :: r, l => (Region.ready md ops l == [i]) && planB md ops r (l.setIfInBounds i true)
section
variable {P : Program} {ops : Array Oper} {Q : Exit → Act → World → Prop} {md : Region.Mode} {S : World → Prop}
def Sq (P : Program) (md : Region.Mode) (ops : Array Oper) (Q : Exit → Act → World → Prop) (S : World → Prop) (r : List (Nat × Bool)) (a : Act) (w : World) : Prop :=
  S w → Region.noSelect ops = true → ∀ l, planB md ops r l = true → wpAnyH P md ops (NoPanic Q) S r.length l a w
theorem sq_region {id : Nat} {a : Act} {w : World} (r : List (Nat × Bool)) (hm : P.follows .mixedOrders = true) (hc : (Region.noSelect ops && (planB .any ops r (Array.replicate ops.size false) && (r.length == ops.size))) = true)
    (hS : S w.drew) (h : S w.drew → Sq P .any ops Q S r a w.drew) : (Code.region id ops true).wp P Q a w := by
  simp only [Bool.and_eq_true, beq_iff_eq] at hc
  refine wp_region_noPanic (wp_region_held_drew hm hS fun h1 => ?_)
  have h2 := h h1 h1 hc.1 _ hc.2.1
  rw [hc.2.2] at h2
  exact h2
theorem sq_done {a : Act} {w : World} (h : S w → Q .normal a w) : Sq P md ops Q S [] a w := fun hS _ l hl => wpAnyH_done (by simpa [planB] using hl) (NoPanic.normal (h hS)) _
theorem sq_off {i : Nat} {b : Bool} {r : List (Nat × Bool)} {d : Tmp} {op : Op} {ty : TypeId} {pos : String} {af : Array Edge} {gu : Option (Nat × Bool)} {a : Act} {w : World}
    (ho : ops[i]? = some ⟨some d, op, ty, pos, af, gu⟩) (hw : Region.wanted ⟨some d, op, ty, pos, af, gu⟩ (yielded ops a.tmps) = false) (h : Sq P md ops Q S r (a.put (some d) undef) w) : Sq P md ops Q S ((i, b) :: r) a w := by
  intro hS hs l hl
  cases b with
  | false =>
    simp only [planB, Bool.and_eq_true] at hl
    exact wpAnyH_take ho hs hl.1 hl.2.1 (fun _ _ _ h => h.elim) (.inr ⟨hw, rfl⟩) hS (h hS hs _ hl.2.2)
  | true =>
    simp only [planB, Bool.and_eq_true, beq_iff_eq] at hl
    refine wpAnyH_ready hl.1 (by simp) (AllReadyH.cons ho (fun K hK => ?_) AllReadyH.nil)
    rw [if_neg (by rw [hw]; simp)]
    exact hK.out _ _ hS fun h2 => h hS hs _ hl.2
theorem sq_on {i : Nat} {r : List (Nat × Bool)} {d : Tmp} {op : Op} {ty : TypeId} {pos : String} {af : Array Edge} {gu : Option (Nat × Bool)} {a : Act} {w : World} (v : Value)
    (ho : ops[i]? = some ⟨some d, op, ty, pos, af, gu⟩) (hw : Region.wanted ⟨some d, op, ty, pos, af, gu⟩ (yielded ops a.tmps) = true) (hv : ∀ W, S W → (execOp a.eval ⟨some d, op, ty, pos, af, gu⟩).run P W = .ok (.value v) W) (h : Sq P md ops Q S r (a.put (some d) v) w) : Sq P md ops Q S ((i, false) :: r) a w := by
  intro hS hs l hl
  simp only [planB, Bool.and_eq_true] at hl
  exact wpAnyH_take ho hs hl.1 hl.2.1 (fun _ _ _ h => h.elim) (.inl ⟨hw, hv⟩) hS (h hS hs _ hl.2.2)
theorem sq_one {i : Nat} {r : List (Nat × Bool)} {d : Option Tmp} {op : Op} {ty : TypeId} {pos : String} {af : Array Edge} {gu : Option (Nat × Bool)} {a : Act} {w : World} (ho : ops[i]? = some ⟨d, op, ty, pos, af, gu⟩) (hw : Region.wanted ⟨d, op, ty, pos, af, gu⟩ (yielded ops a.tmps) = true)
    (h : S w → ∀ K : Act → World → Prop, Shut (∀ a' w', S w' → (S w' → Sq P md ops Q S r a' w') → K a' w') → Oper.wp P ⟨d, op, ty, pos, af, gu⟩ a w K (NoPanic Q)) : Sq P md ops Q S ((i, true) :: r) a w := by
  intro hS hs l hl
  simp only [planB, Bool.and_eq_true, beq_iff_eq] at hl
  refine wpAnyH_ready hl.1 (by simp) (AllReadyH.cons ho (fun K hK => ?_) AllReadyH.nil)
  rw [if_pos hw]
  exact h hS K fun a' w' h1 h2 => hK.out a' w' h1 fun h3 => h2 h3 h3 hs _ hl.2
/-! The same by the guard's form, so that Lean sees at once which step is due. -/
variable {i j dj : Nat} {r : List (Nat × Bool)} {d : Tmp} {od od' : Option Tmp} {op op' : Op} {ty ty' : TypeId} {pos pos' : String} {af af' : Array Edge} {gu' : Option (Nat × Bool)} {g b : Bool} {T : Array Value} {D : List Deferred} {w : World}
theorem yes_n {y : Nat → Option Bool} : Region.wanted ⟨od, op, ty, pos, af, none⟩ y = true := rfl
theorem yes_g (hj : ops[j]? = some ⟨some dj, op', ty', pos', af', gu'⟩) (hd : T[dj]? = some (.bool g)) : Region.wanted ⟨od, op, ty, pos, af, some (j, g)⟩ (yielded ops T) = true := by simp [Region.wanted, yielded, hj, hd]
theorem no_g (hj : ops[j]? = some ⟨some dj, op', ty', pos', af', gu'⟩) (hd : T[dj]? = some (.bool (!g))) : Region.wanted ⟨od, op, ty, pos, af, some (j, g)⟩ (yielded ops T) = false := by simp [Region.wanted, yielded, hj, hd]
theorem no_u (hj : ops[j]? = some ⟨some dj, op', ty', pos', af', gu'⟩) (hd : T[dj]? = some undef) : Region.wanted ⟨od, op, ty, pos, af, some (j, g)⟩ (yielded ops T) = false := by simp [Region.wanted, yielded, hj, hd, undef]
theorem sq_f (T' : Array Value) (ho : ops[i]? = some ⟨some d, op, ty, pos, af, some (j, g)⟩) (hj : ops[j]? = some ⟨some dj, op', ty', pos', af', gu'⟩) (hd : T[dj]? = some (.bool (!g))) (hT : T.setIfInBounds d undef = T') (h : Sq P md ops Q S r ⟨T', D⟩ w) : Sq P md ops Q S ((i, b) :: r) ⟨T, D⟩ w := by
  subst hT; exact sq_off ho (no_g hj hd) h
theorem sq_u (T' : Array Value) (ho : ops[i]? = some ⟨some d, op, ty, pos, af, some (j, g)⟩) (hj : ops[j]? = some ⟨some dj, op', ty', pos', af', gu'⟩) (hd : T[dj]? = some undef) (hT : T.setIfInBounds d undef = T') (h : Sq P md ops Q S r ⟨T', D⟩ w) : Sq P md ops Q S ((i, b) :: r) ⟨T, D⟩ w := by
  subst hT; exact sq_off ho (no_u hj hd) h
theorem sq_n (T' : Array Value) (v : Value) (ho : ops[i]? = some ⟨some d, op, ty, pos, af, none⟩) (hv : ∀ W, S W → (execOp (Act.eval ⟨T, D⟩) ⟨some d, op, ty, pos, af, none⟩).run P W = .ok (.value v) W) (hT : T.setIfInBounds d v = T') (h : Sq P md ops Q S r ⟨T', D⟩ w) : Sq P md ops Q S ((i, false) :: r) ⟨T, D⟩ w := by
  subst hT; exact sq_on v ho yes_n hv h
theorem sq_g (T' : Array Value) (v : Value) (ho : ops[i]? = some ⟨some d, op, ty, pos, af, some (j, g)⟩) (hj : ops[j]? = some ⟨some dj, op', ty', pos', af', gu'⟩) (hd : T[dj]? = some (.bool g)) (hv : ∀ W, S W → (execOp (Act.eval ⟨T, D⟩) ⟨some d, op, ty, pos, af, some (j, g)⟩).run P W = .ok (.value v) W) (hT : T.setIfInBounds d v = T') (h : Sq P md ops Q S r ⟨T', D⟩ w) : Sq P md ops Q S ((i, false) :: r) ⟨T, D⟩ w := by
  subst hT; exact sq_on v ho (yes_g hj hd) hv h
theorem sq_1n (ho : ops[i]? = some ⟨od, op, ty, pos, af, none⟩)
    (h : S w → ∀ K : Act → World → Prop, Shut (∀ a' w', S w' → (S w' → Sq P md ops Q S r a' w') → K a' w') → Oper.wp P ⟨od, op, ty, pos, af, none⟩ ⟨T, D⟩ w K (NoPanic Q)) : Sq P md ops Q S ((i, true) :: r) ⟨T, D⟩ w := sq_one ho yes_n h
end
end Go.Proofs.Ytmaildoddeimbaa.Q

namespace Go.Proofs.Ytmaildoddeimbaa.Q
inductive Pl where
  | done
  | n (i : Nat) (r : Pl)
  | y (i : Nat) (r : Pl)
  | two (i j : Nat) (p q : Pl)
def Pl.len : Pl → Nat
  | .done => 0
  | .n _ r => r.len + 1
  | .y _ r => r.len + 1
  | .two _ _ p _ => p.len + 1
def planP (md : Region.Mode) (ops : Array Oper) : Pl → Array Bool → Bool
  | .done, l => Region.ready md ops l == []
  | .n i r, l => Region.free md ops l i && ((Region.ready md ops l).contains i && planP md ops r (l.setIfInBounds i true))
  | .y i r, l => (Region.ready md ops l == [i]) && planP md ops r (l.setIfInBounds i true)
  | .two i j p q, l => (Region.ready md ops l == [i, j]) && ((p.len == q.len) && (planP md ops p (l.setIfInBounds i true) && planP md ops q (l.setIfInBounds j true)))
section
variable {P : Program} {ops : Array Oper} {Q : Exit → Act → World → Prop} {md : Region.Mode} {S : World → Prop}
def Sp (P : Program) (md : Region.Mode) (ops : Array Oper) (Q : Exit → Act → World → Prop) (S : World → Prop) (r : Pl) (a : Act) (w : World) : Prop :=
  S w → Region.noSelect ops = true → ∀ l, planP md ops r l = true → wpAnyH P md ops (NoPanic Q) S r.len l a w
theorem sp_region {id : Nat} {a : Act} {w : World} (r : Pl) (hm : P.follows .mixedOrders = true) (hc : (Region.noSelect ops && (planP .any ops r (Array.replicate ops.size false) && (r.len == ops.size))) = true)
    (hS : S w.drew) (h : S w.drew → Sp P .any ops Q S r a w.drew) : (Code.region id ops true).wp P Q a w := by
  simp only [Bool.and_eq_true, beq_iff_eq] at hc
  refine wp_region_noPanic (wp_region_held_drew hm hS fun h1 => ?_)
  have h2 := h h1 h1 hc.1 _ hc.2.1
  rw [hc.2.2] at h2
  exact h2
theorem sp_done {a : Act} {w : World} (h : S w → Q .normal a w) : Sp P md ops Q S .done a w := fun hS _ l hl => wpAnyH_done (by simpa [planP] using hl) (NoPanic.normal (h hS)) _
theorem sp_one {i : Nat} {r : Pl} {d : Option Tmp} {op : Op} {ty : TypeId} {pos : String} {af : Array Edge} {gu : Option (Nat × Bool)} {a : Act} {w : World} (ho : ops[i]? = some ⟨d, op, ty, pos, af, gu⟩) (hw : Region.wanted ⟨d, op, ty, pos, af, gu⟩ (yielded ops a.tmps) = true)
    (h : S w → ∀ K : Act → World → Prop, Shut (∀ a' w', S w' → (S w' → Sp P md ops Q S r a' w') → K a' w') → Oper.wp P ⟨d, op, ty, pos, af, gu⟩ a w K (NoPanic Q)) : Sp P md ops Q S (.y i r) a w := by
  intro hS hs l hl
  simp only [planP, Bool.and_eq_true, beq_iff_eq] at hl
  refine wpAnyH_ready hl.1 (by simp) (AllReadyH.cons ho (fun K hK => ?_) AllReadyH.nil)
  rw [if_pos hw]
  exact h hS K fun a' w' h1 h2 => hK.out a' w' h1 fun h3 => h2 h3 h3 hs _ hl.2
theorem sp_two {i j : Nat} {p q : Pl} {d d' : Option Tmp} {op op' : Op} {ty ty' : TypeId} {pos pos' : String} {af af' : Array Edge} {gu gu' : Option (Nat × Bool)} {a : Act} {w : World} (ho : ops[i]? = some ⟨d, op, ty, pos, af, gu⟩) (hw : Region.wanted ⟨d, op, ty, pos, af, gu⟩ (yielded ops a.tmps) = true)
    (ho' : ops[j]? = some ⟨d', op', ty', pos', af', gu'⟩) (hw' : Region.wanted ⟨d', op', ty', pos', af', gu'⟩ (yielded ops a.tmps) = true)
    (h : S w → ∀ K : Act → World → Prop, Shut (∀ a' w', S w' → (S w' → Sp P md ops Q S p a' w') → K a' w') → Oper.wp P ⟨d, op, ty, pos, af, gu⟩ a w K (NoPanic Q))
    (h' : S w → ∀ K : Act → World → Prop, Shut (∀ a' w', S w' → (S w' → Sp P md ops Q S q a' w') → K a' w') → Oper.wp P ⟨d', op', ty', pos', af', gu'⟩ a w K (NoPanic Q)) : Sp P md ops Q S (.two i j p q) a w := by
  intro hS hs l hl
  simp only [planP, Bool.and_eq_true, beq_iff_eq] at hl
  refine wpAnyH_ready hl.1 (by simp) (AllReadyH.cons ho (fun K hK => ?_) (AllReadyH.cons ho' (fun K hK => ?_) AllReadyH.nil))
  · rw [if_pos hw]
    exact h hS K fun a' w' h1 h2 => hK.out a' w' h1 fun h3 => h2 h3 h3 hs _ hl.2.2.1
  · rw [if_pos hw']
    refine h' hS K fun a' w' h1 h2 => hK.out a' w' h1 fun h3 => ?_
    have h4 := h2 h3 h3 hs _ hl.2.2.2
    rw [← hl.2.1] at h4
    exact h4
variable {i j dj : Nat} {r p q : Pl} {d : Tmp} {od od' : Option Tmp} {op op' : Op} {ty ty' : TypeId} {pos pos' : String} {af af' : Array Edge} {gu' : Option (Nat × Bool)} {g b : Bool} {T : Array Value} {D : List Deferred} {w : World}
theorem sp_n (T' : Array Value) (v : Value) (ho : ops[i]? = some ⟨some d, op, ty, pos, af, none⟩) (hv : ∀ W, S W → (execOp (Act.eval ⟨T, D⟩) ⟨some d, op, ty, pos, af, none⟩).run P W = .ok (.value v) W) (hT : T.setIfInBounds d v = T') (h : Sp P md ops Q S r ⟨T', D⟩ w) : Sp P md ops Q S (.n i r) ⟨T, D⟩ w := by
  subst hT
  intro hS hs l hl
  simp only [planP, Bool.and_eq_true] at hl
  exact wpAnyH_take ho hs hl.1 hl.2.1 (fun _ _ _ h => h.elim) (.inl ⟨yes_n, hv⟩) hS (h hS hs _ hl.2.2)
theorem sp_1n (ho : ops[i]? = some ⟨od, op, ty, pos, af, none⟩)
    (h : S w → ∀ K : Act → World → Prop, Shut (∀ a' w', S w' → (S w' → Sp P md ops Q S r a' w') → K a' w') → Oper.wp P ⟨od, op, ty, pos, af, none⟩ ⟨T, D⟩ w K (NoPanic Q)) : Sp P md ops Q S (.y i r) ⟨T, D⟩ w := sp_one ho yes_n h
theorem sp_2n (ho : ops[i]? = some ⟨od, op, ty, pos, af, none⟩) (ho' : ops[j]? = some ⟨od', op', ty', pos', af', none⟩)
    (h : S w → ∀ K : Act → World → Prop, Shut (∀ a' w', S w' → (S w' → Sp P md ops Q S p a' w') → K a' w') → Oper.wp P ⟨od, op, ty, pos, af, none⟩ ⟨T, D⟩ w K (NoPanic Q))
    (h' : S w → ∀ K : Act → World → Prop, Shut (∀ a' w', S w' → (S w' → Sp P md ops Q S q a' w') → K a' w') → Oper.wp P ⟨od', op', ty', pos', af', none⟩ ⟨T, D⟩ w K (NoPanic Q)) : Sp P md ops Q S (.two i j p q) ⟨T, D⟩ w := sp_two ho yes_n ho' yes_n h h'
end
end Go.Proofs.Ytmaildoddeimbaa.Q

namespace Go.Proofs
open Go.Shelf
def Try.lays106_ren : Go.Shelf.Ren := ⟨fun | 106 => 44 | 213 => 61 | 265 => 69 | n => n, fun | 9 => 9 | 3 => 3 | n => n, fun | n => n⟩
theorem Try.lays106 : Go.Proofs.Lays.n106 Try.prog Try.lays106_ren := {
  mixed := by kernel_rfl
  f106 := Try.func44.trans (congrArg some (by kernel_rfl))
  f213 := Try.func61.trans (congrArg some (by kernel_rfl))
  f265 := Try.func69.trans (congrArg some (by kernel_rfl))
  t3 := Try.underlying3
  a3 := Try.isAgg3
  z3 := Try.sizeOf3
  v3 := Try.zeroValue3
  t9 := Try.underlying9
  a9 := Try.isAgg9
  z9 := Try.sizeOf9
  v9 := Try.zeroValue9 }
open Go.RowKit in
/-- strings.Compare: "Compare returns an integer comparing two strings lexicographically. The result will be 0 if a == b, -1 if a < b, and +1 if a > b.": IT RETURNS 'Lib.compareBytes a b'; the world is as it was. (LAID: no walk: one application.) -/
theorem Try.strings_Compare (a b : ByteArray) (w : World) :
    Calls Try.prog 44 #[.string a, .string b] w fun e w' => e = .returned (.int .i64 (Lib.compareBytes a.data.toList b.data.toList)) ∧ w' = w := Any.strings_Compare Try.lays106 a b w
end Go.Proofs

namespace Go.Proofs.Ytmaildoddeimbaa.Q
open Go.RowKit Go.Proofs.YtmaildoddeimbaaW.PrintWords Go.Proofs.YtmaildoddeimbaaW.PrintLast
set_option linter.unusedVariables false
set_option linter.unusedSimpArgs false
theorem clg {w : World} {a : Addr} {v : Value} (h : w.cell? a = some v) : ∀ W [K0 (Gw w W)], W.cell? a = some v := fun _ k => (k.out.1.cell (World.block_lt_of_cell? w _ h)).trans h
abbrev encE (x : IE) : List Value := [.string x.f0, .string x.f1, .string x.f2, .int .u64 x.f3, .int .i64 x.f4, .string x.f5]
theorem cmpBytes_less : ∀ a b : List UInt8, Lib.compareBytes a b = if Op.bytesLess a b = true then -1 else if Op.bytesLess b a = true then 1 else 0
  | [], [] => by simp [Lib.compareBytes, Op.bytesLess]
  | [], _ :: _ => by simp [Lib.compareBytes, Op.bytesLess]
  | _ :: _, [] => by simp [Lib.compareBytes, Op.bytesLess]
  | a :: xs, b :: ys => by
    have ih := cmpBytes_less xs ys
    simp only [Lib.compareBytes, Op.bytesLess]
    by_cases h1 : a < b
    · simp [h1]
    · by_cases h2 : b < a
      · have h3 : ¬ a = b := fun e => by subst e; exact h1 h2
        simp [h1, h2, h3]
      · have h3 : a = b := UInt8.le_antisymm (UInt8.not_lt.1 h2) (UInt8.not_lt.1 h1)
        subst h3
        simp [h1, ih]
theorem strcmp_g (a b : ByteArray) (w : World) : Calls Try.prog 44 #[.string a, .string b] w fun e w' => e = .returned (.int .i64 (scmp a b)) ∧ Gw w w' := by
  refine (Try.strings_Compare a b w).mono ?_
  rintro e w' ⟨rfl, rfl⟩
  refine ⟨?_, Gw.refl _⟩
  have t : ∀ s : ByteArray, s.data.toList = s.toList := fun s => (Lib.toList_data s).symm
  rw [cmpBytes_less, t, t]
  rfl
theorem marks_g (x : IE) (w : World) : Calls Try.prog 46 #[.agg (encE x).toArray] w fun e w' => e = .returned (.int .i64 (if x.f4 = 2 then 0 else 1)) ∧ Gw w w' := by
  have kr : K0 (Gw w w) := ⟨Gw.refl _⟩
  by_cases h : x.f4 = 2
  · rw [if_pos h]
    have d1 : (x.f4 == 2) = true := beq_iff_eq.mpr h
    clear h
    go_enter Try.func46, Try.ntmps46
    go_wp2
    go_ret
    exact ⟨rfl, kk⟩
  · rw [if_neg h]
    have d1 : (x.f4 == 2) = false := beq_eq_false_iff_ne.mpr h
    clear h
    go_enter Try.func46, Try.ntmps46
    go_wp2
    go_ret
    exact ⟨rfl, kk⟩
theorem nan_i (x : Int) (w : World) : Calls Try.prog 62 #[.int .i64 x] w fun e w' => e = .returned (.bool false) ∧ Gw w w' := by
  have kr : K0 (Gw w w) := ⟨Gw.refl _⟩
  go_enter Try.func62, Try.ntmps62
  go_wp2
  go_ret
  exact ⟨by simp, kk⟩
theorem nan_u (x : Int) (w : World) : Calls Try.prog 63 #[.int .u64 x] w fun e w' => e = .returned (.bool false) ∧ Gw w w' := by
  have kr : K0 (Gw w w) := ⟨Gw.refl _⟩
  go_enter Try.func63, Try.ntmps63
  go_wp2
  go_ret
  exact ⟨by simp, kk⟩
theorem cmpint_g (a b : Int) (w : World) : Calls Try.prog 45 #[.int .i64 a, .int .i64 b] w fun e w' => e = .returned (.int .i64 (if a < b then -1 else if b < a then 1 else 0)) ∧ Gw w w' := by
  obtain ⟨r, hr⟩ : ∃ r : Int, (if a < b then -1 else if b < a then 1 else 0) = r := ⟨_, rfl⟩
  rw [hr]
  go_enter Try.func45, Try.ntmps45
  go_wp2_with fail
  refine (nan_i a w).mono ?_
  rintro ex W1 ⟨rfl, hb⟩
  have H1 := Aside0.mk hb
  clear hb
  go_wp2_with fail
  refine (nan_i b W1).mono ?_
  rintro ex W2 ⟨rfl, hb⟩
  have H2 := Aside0.mk (H1.out.trans hb)
  have kr : K0 (Gw w W2) := ⟨H2.out⟩
  clear hb
  by_cases h1 : a < b
  · rw [if_pos h1] at hr
    have d1 : decide (a < b) = true := decide_eq_true h1
    subst hr
    go_wp2
    go_ret
    exact ⟨rfl, kk⟩
  · rw [if_neg h1] at hr
    have d1 : decide (a < b) = false := decide_eq_false h1
    by_cases h2 : b < a
    · rw [if_pos h2] at hr
      have d2 : decide (b < a) = true := decide_eq_true h2
      subst hr
      go_wp2
      go_ret
      exact ⟨rfl, kk⟩
    · rw [if_neg h2] at hr
      have d2 : decide (b < a) = false := decide_eq_false h2
      subst hr
      go_wp2
      go_ret
      exact ⟨rfl, kk⟩
theorem cmpu64_g (a b : Int) (w : World) : Calls Try.prog 47 #[.int .u64 a, .int .u64 b] w fun e w' => e = .returned (.int .i64 (if a < b then -1 else if b < a then 1 else 0)) ∧ Gw w w' := by
  obtain ⟨r, hr⟩ : ∃ r : Int, (if a < b then -1 else if b < a then 1 else 0) = r := ⟨_, rfl⟩
  rw [hr]
  go_enter Try.func47, Try.ntmps47
  go_wp2_with fail
  refine (nan_u a w).mono ?_
  rintro ex W1 ⟨rfl, hb⟩
  have H1 := Aside0.mk hb
  clear hb
  go_wp2_with fail
  refine (nan_u b W1).mono ?_
  rintro ex W2 ⟨rfl, hb⟩
  have H2 := Aside0.mk (H1.out.trans hb)
  have kr : K0 (Gw w W2) := ⟨H2.out⟩
  clear hb
  by_cases h1 : a < b
  · rw [if_pos h1] at hr
    have d1 : decide (a < b) = true := decide_eq_true h1
    subst hr
    go_wp2
    go_ret
    exact ⟨rfl, kk⟩
  · rw [if_neg h1] at hr
    have d1 : decide (a < b) = false := decide_eq_false h1
    by_cases h2 : b < a
    · rw [if_pos h2] at hr
      have d2 : decide (b < a) = true := decide_eq_true h2
      subst hr
      go_wp2
      go_ret
      exact ⟨rfl, kk⟩
    · rw [if_neg h2] at hr
      have d2 : decide (b < a) = false := decide_eq_false h2
      subst hr
      go_wp2
      go_ret
      exact ⟨rfl, kk⟩
/-- The first that is not nought. -/
def fstL : List Int → Int
  | [] => 0
  | x :: xs => if x = 0 then fstL xs else x
theorem or_g (k : Nat) (l : List Int) (c : Nat) (w : World) (hl : l.length ≤ 100) (h : ∀ j : Nat, j < l.length → w.cell? ⟨k, j, none⟩ = some (.int .i64 (l.getD j 0))) :
    Calls Try.prog 43 #[.slice (some ⟨k, 0, none⟩) l.length c] w fun e w' => e = .returned (.int .i64 (fstL l)) ∧ Gw w w' := by
  have HC := Aside0.mk h
  clear h
  obtain ⟨r, hr⟩ : ∃ r, fstL l = r := ⟨_, rfl⟩
  rw [hr]
  have HR := Aside0.mk (show fstL (l.drop 0) = r from hr)
  clear hr
  go_enter Try.func43, Try.ntmps43
  go_wp2_with fail
  go_loopw [8] (fun v8 W => ∃ j : Nat, j ≤ l.length ∧ v8 = .int .i64 j ∧ Aside0 (fstL (l.drop j) = r) ∧ W = w) (fun v8 _ => l.length - (intOf v8).toNat)
  case atStart => exact ⟨0, Nat.zero_le _, rfl, HR, rfl⟩
  case round =>
    obtain ⟨j, hj, rfl, HG, rfl⟩ := hrel
    have kr : K0 (Gw wr wr) := ⟨Gw.refl _⟩
    by_cases hlt : j < l.length
    · have d1 : decide ((j : Int) < (l.length : Int)) = true := decide_eq_true (by omega)
      have hjj : (j : Int) < (l.length : Int) := by omega
      have hx := HC.out j hlt
      have hg := HG.out
      rw [List.drop_eq_getElem_cons hlt] at hg
      rw [show l.getD j 0 = l[j] by simp [hlt]] at hx
      generalize l[j] = x at hx hg
      unfold fstL at hg
      by_cases h0 : x = 0
      · rw [if_pos h0] at hg
        have HG2 := Aside0.mk hg
        subst h0
        clear hg
        go_wp2
        go_roundw
        case measure => simp only [intOf]; omega
        case rel => exact ⟨j + 1, by omega, by go_num, HG2, by first | rfl | trivial⟩
      · rw [if_neg h0] at hg
        subst hg
        have d2 : (x != 0) = true := bne_iff_ne.mpr h0
        clear h0
        go_wp2
        go_ret
        exact ⟨rfl, kk⟩
    · obtain rfl : j = l.length := by omega
      have d1 : decide ((l.length : Int) < (l.length : Int)) = false := decide_eq_false (by omega)
      have hg := HG.out
      rw [List.drop_length] at hg
      unfold fstL at hg
      subst hg
      go_wp2
      go_ret
      exact ⟨rfl, kk⟩
theorem five (a b c d e : Int) (j : Nat) (hj : j < 5) : (#[.int .i64 a, .int .i64 b, .int .i64 c, .int .i64 d, .int .i64 e] : Array Value)[j]? = some (.int .i64 ([a, b, c, d, e].getD j 0)) := by
  rcases j with _ | _ | _ | _ | _ | j
  · rfl
  · rfl
  · rfl
  · rfl
  · rfl
  · omega
theorem cmpE_or (x y : IE) : fstL [scmp x.f0 y.f0, scmp x.f1 y.f1, scmp x.f2 y.f2, (if (if x.f4 = 2 then (0 : Int) else 1) < (if y.f4 = 2 then 0 else 1) then -1 else if (if y.f4 = 2 then (0 : Int) else 1) < (if x.f4 = 2 then 0 else 1) then 1 else 0), (if y.f3 < x.f3 then -1 else if x.f3 < y.f3 then 1 else 0)] = cmpE x y := by
  have e1 : (if (if x.f4 = 2 then (0 : Int) else 1) < (if y.f4 = 2 then 0 else 1) then (-1 : Int) else if (if y.f4 = 2 then (0 : Int) else 1) < (if x.f4 = 2 then 0 else 1) then 1 else 0) = kcmp x.f4 y.f4 := by
    unfold kcmp
    by_cases h1 : x.f4 = 2 <;> by_cases h2 : y.f4 = 2 <;> simp [h1, h2]
  have e2 : (if y.f3 < x.f3 then (-1 : Int) else if x.f3 < y.f3 then 1 else 0) = tcmp x.f3 y.f3 := rfl
  rw [e1, e2]
  unfold cmpE cmpK fst0
  simp only [fstL]
  have : (if tcmp x.f3 y.f3 = 0 then (0 : Int) else tcmp x.f3 y.f3) = tcmp x.f3 y.f3 := by split <;> simp_all
  rw [this]
set_option maxHeartbeats 4000000 in
set_option maxRecDepth 100000 in
theorem compare_g (x y : IE) (w : World) : Calls Try.prog 28 #[.agg (encE x).toArray, .agg (encE y).toArray] w fun e w' => e = .returned (.int .i64 (cmpE x y)) ∧ Gw w w' := by
  obtain ⟨mx, hmx⟩ : ∃ v : Int, (if x.f4 = 2 then (0 : Int) else 1) = v := ⟨_, rfl⟩
  obtain ⟨my, hmy⟩ : ∃ v : Int, (if y.f4 = 2 then (0 : Int) else 1) = v := ⟨_, rfl⟩
  obtain ⟨c4, hc4⟩ : ∃ v : Int, (if mx < my then (-1 : Int) else if my < mx then 1 else 0) = v := ⟨_, rfl⟩
  obtain ⟨c5, hc5⟩ : ∃ v : Int, (if y.f3 < x.f3 then (-1 : Int) else if x.f3 < y.f3 then 1 else 0) = v := ⟨_, rfl⟩
  obtain ⟨c1, hc1⟩ : ∃ v : Int, scmp x.f0 y.f0 = v := ⟨_, rfl⟩
  obtain ⟨c2, hc2⟩ : ∃ v : Int, scmp x.f1 y.f1 = v := ⟨_, rfl⟩
  obtain ⟨c3, hc3⟩ : ∃ v : Int, scmp x.f2 y.f2 = v := ⟨_, rfl⟩
  have he : fstL [c1, c2, c3, c4, c5] = cmpE x y := by subst hc1 hc2 hc3 hc4 hc5 hmx hmy; exact cmpE_or x y
  have HE := Aside0.mk he
  have HMX := Aside0.mk hmx
  have HMY := Aside0.mk hmy
  have HC1 := Aside0.mk hc1
  have HC2 := Aside0.mk hc2
  have HC3 := Aside0.mk hc3
  have HC4 := Aside0.mk hc4
  have HC5 := Aside0.mk hc5
  clear he hmx hmy hc1 hc2 hc3 hc4 hc5
  obtain ⟨wb, hwb⟩ : ∃ wb, wb = (w.alloc (.cells (encE x).toArray 43)).alloc (.cells (encE y).toArray 43) := ⟨_, rfl⟩
  have kr : K0 (Gw w w) := ⟨Gw.refl _⟩
  have hgb : Gw w wb := hwb ▸ kk
  have h1 : wb.heap[w.heap.size]? = some (.cells (encE x).toArray 43 (0, 0)) := hwb ▸ blk_alloc (heap_alloc_new w _) _
  have h2 : wb.heap[w.heap.size + 1]? = some (.cells (encE y).toArray 43 (0, 0)) := by
    have := heap_alloc_new (w.alloc (.cells (encE x).toArray 43)) (.cells (encE y).toArray 43)
    rw [sz_al] at this
    exact hwb ▸ this
  have x0 := clg ((blk_cell h1 0).trans rfl : wb.cell? ⟨w.heap.size, 0, none⟩ = some (.string x.f0))
  have x1 := clg ((blk_cell h1 1).trans rfl : wb.cell? ⟨w.heap.size, 1, none⟩ = some (.string x.f1))
  have x2 := clg ((blk_cell h1 2).trans rfl : wb.cell? ⟨w.heap.size, 2, none⟩ = some (.string x.f2))
  have x3 := clg ((blk_cell h1 3).trans rfl : wb.cell? ⟨w.heap.size, 3, none⟩ = some (.int .u64 x.f3))
  have x4 := clg ((blk_cell h1 4).trans rfl : wb.cell? ⟨w.heap.size, 4, none⟩ = some (.int .i64 x.f4))
  have x5 := clg ((blk_cell h1 5).trans rfl : wb.cell? ⟨w.heap.size, 5, none⟩ = some (.string x.f5))
  have y0 := clg ((blk_cell h2 0).trans rfl : wb.cell? ⟨w.heap.size + 1, 0, none⟩ = some (.string y.f0))
  have y1 := clg ((blk_cell h2 1).trans rfl : wb.cell? ⟨w.heap.size + 1, 1, none⟩ = some (.string y.f1))
  have y2 := clg ((blk_cell h2 2).trans rfl : wb.cell? ⟨w.heap.size + 1, 2, none⟩ = some (.string y.f2))
  have y3 := clg ((blk_cell h2 3).trans rfl : wb.cell? ⟨w.heap.size + 1, 3, none⟩ = some (.int .u64 y.f3))
  have y4 := clg ((blk_cell h2 4).trans rfl : wb.cell? ⟨w.heap.size + 1, 4, none⟩ = some (.int .i64 y.f4))
  have y5 := clg ((blk_cell h2 5).trans rfl : wb.cell? ⟨w.heap.size + 1, 5, none⟩ = some (.string y.f5))
  have HB := Aside0.mk hgb
  clear h1 h2 hgb kr
  go_enter Try.func28, Try.ntmps28
  go_upto_region 1 with (fail)
  rw [← hwb]
  clear hwb
  generalize w.heap.size = g1 at *
  have kb : K0 (Gw wb wb) := ⟨Gw.refl _⟩
  have kd : K0 (Gw wb wb.drew) := inferInstance
  refine sq_region (S := fun W' => K0 (Gw wb W')) [(0, false), (1, false), (2, false), (3, false), (5, false), (6, false), (7, false), (8, false), (10, false), (11, false), (12, false), (13, false), (15, false), (17, false), (20, false), (21, false), (22, false), (23, false), (4, true), (9, true), (14, true), (16, true), (18, true), (19, true), (24, true), (25, true), (26, true), (27, false)] (by kernel_rfl) (by kernel_rfl) kd (fun hS => ?_)
  repeat (first | (refine sq_n ?_ ?_ rfl ?_ ?_ ?_; rotate_left 2; (intro W hW; go_simp; first | done | with_reducible rfl); (simp only [List.setIfInBounds_toArray, List.set_cons_zero, List.set_cons_succ]; try rfl)) | (refine sq_g ?_ ?_ rfl rfl rfl ?_ ?_ ?_; rotate_left 2; (intro W hW; go_simp; first | done | with_reducible rfl); (simp only [List.setIfInBounds_toArray, List.set_cons_zero, List.set_cons_succ]; try rfl)) | (refine sq_f ?_ rfl rfl rfl ?_ ?_; rotate_left; (simp only [List.setIfInBounds_toArray, List.set_cons_zero, List.set_cons_succ]; try rfl)) | (refine sq_u ?_ rfl rfl rfl ?_ ?_; rotate_left; (simp only [List.setIfInBounds_toArray, List.set_cons_zero, List.set_cons_succ]; try rfl)))
  refine sq_1n rfl (fun hS KA hKA => ?_)
  go_simp
  go_at_call 44
  refine (strcmp_g x.f0 y.f0 _).mono ?_
  rw [HC1.out]
  rintro ex W1 ⟨rfl, hb⟩
  have kA : K0 (Gw wb W1) := ⟨hS.out.trans hb⟩
  clear hb
  refine hKA.out _ _ kA (fun hS => ?_)
  refine sq_1n rfl (fun hS KB hKB => ?_)
  go_simp
  go_at_call 44
  refine (strcmp_g x.f1 y.f1 _).mono ?_
  rw [HC2.out]
  rintro ex W2 ⟨rfl, hb⟩
  have kB : K0 (Gw wb W2) := ⟨hS.out.trans hb⟩
  clear hb
  refine hKB.out _ _ kB (fun hS => ?_)
  refine sq_1n rfl (fun hS KC hKC => ?_)
  go_simp
  go_at_call 44
  refine (strcmp_g x.f2 y.f2 _).mono ?_
  rw [HC3.out]
  rintro ex W3 ⟨rfl, hb⟩
  have kC : K0 (Gw wb W3) := ⟨hS.out.trans hb⟩
  clear hb
  refine hKC.out _ _ kC (fun hS => ?_)
  refine sq_1n rfl (fun hS KD hKD => ?_)
  go_simp
  go_at_call 46
  refine (marks_g x _).mono ?_
  rw [HMX.out]
  rintro ex W4 ⟨rfl, hb⟩
  have kD : K0 (Gw wb W4) := ⟨hS.out.trans hb⟩
  clear hb
  refine hKD.out _ _ kD (fun hS => ?_)
  refine sq_1n rfl (fun hS KE hKE => ?_)
  go_simp
  go_at_call 46
  refine (marks_g y _).mono ?_
  rw [HMY.out]
  rintro ex W5 ⟨rfl, hb⟩
  have kE : K0 (Gw wb W5) := ⟨hS.out.trans hb⟩
  clear hb
  refine hKE.out _ _ kE (fun hS => ?_)
  refine sq_1n rfl (fun hS KF hKF => ?_)
  go_simp
  go_at_call 45
  refine (cmpint_g _ _ _).mono ?_
  rw [HC4.out]
  rintro ex W6 ⟨rfl, hb⟩
  have kF : K0 (Gw wb W6) := ⟨hS.out.trans hb⟩
  clear hb
  refine hKF.out _ _ kF (fun hS => ?_)
  refine sq_1n rfl (fun hS KG hKG => ?_)
  go_simp
  go_at_call 47
  refine (cmpu64_g _ _ _).mono ?_
  rw [HC5.out]
  rintro ex W7 ⟨rfl, hb⟩
  have kG : K0 (Gw wb W7) := ⟨hS.out.trans hb⟩
  clear hb
  refine hKG.out _ _ kG (fun hS => ?_)
  refine sq_1n rfl (fun hS KH hKH => ?_)
  go_simp
  have kH : K0 (Gw wb (W7.alloc (.cells #[.int .i64 c1, .int .i64 c2, .int .i64 c3, .int .i64 c4, .int .i64 c5] 3))) := inferInstance
  refine hKH.out _ _ kH (fun hS => ?_)
  refine sq_1n rfl (fun hS KI hKI => ?_)
  go_simp
  go_at_call 43
  refine (or_g W7.heap.size [c1, c2, c3, c4, c5] 5 _ (show (5 : Nat) ≤ 100 by omega) (fun j hj => (blk_cell (heap_alloc_new W7 _) j).trans (five _ _ _ _ _ j hj))).mono ?_
  rw [HE.out]
  rintro ex W8 ⟨rfl, hb⟩
  have kI : K0 (Gw wb W8) := ⟨hS.out.trans hb⟩
  clear hb
  refine hKI.out _ _ kI (fun hS => ?_)
  repeat (first | (refine sq_n ?_ ?_ rfl ?_ ?_ ?_; rotate_left 2; (intro W hW; go_simp; first | done | with_reducible rfl); (simp only [List.setIfInBounds_toArray, List.set_cons_zero, List.set_cons_succ]; try rfl)) | (refine sq_g ?_ ?_ rfl rfl rfl ?_ ?_ ?_; rotate_left 2; (intro W hW; go_simp; first | done | with_reducible rfl); (simp only [List.setIfInBounds_toArray, List.set_cons_zero, List.set_cons_succ]; try rfl)) | (refine sq_f ?_ rfl rfl rfl ?_ ?_; rotate_left; (simp only [List.setIfInBounds_toArray, List.set_cons_zero, List.set_cons_succ]; try rfl)) | (refine sq_u ?_ rfl rfl rfl ?_ ?_; rotate_left; (simp only [List.setIfInBounds_toArray, List.set_cons_zero, List.set_cons_succ]; try rfl)))
  refine sq_done (fun hS => ?_)
  go_wp2
  go_ret
  exact ⟨rfl, HB.out.trans kI.out⟩
end Go.Proofs.Ytmaildoddeimbaa.Q

namespace Go.Proofs.Ytmaildoddeimbaa.Q
open Go.RowKit Go.Proofs.YtmaildoddeimbaaW.PrintWords Go.Proofs.YtmaildoddeimbaaW.PrintLast
set_option linter.unusedVariables false
set_option linter.unusedSimpArgs false
abbrev Col := ByteArray × ByteArray × ByteArray
/-- A later write that takes away what an earlier one has put. -/
def hitE (x e : IE) : Bool := decide (colE x = colE e) && ((decide (x.f4 = 2) && decide (e.f3 ≤ x.f3)) || (!decide (x.f4 = 2) && decide (x.f3 = e.f3)))
def standB (e : IE) (post : List IE) : Bool := !post.any (hitE · e)
def largB (ws : List IE) (e : IE) : Bool := ws.all fun v => !(decide (v.f4 = 2) && (decide (colE v = colE e) && decide (e.f3 < v.f3)))
def bldG (ws : List IE) : List IE → List IE → List IE
  | [], out => out
  | w :: rest, out => bldG ws rest (if (if w.f4 = 2 then largB ws w else standB w rest) = true then intoE out w else out)
def buildS (ws : List IE) : List IE := bldG ws ws []
def goodW (ws : List IE) : Bool := decide (ws.length ≤ 10000) && ws.all vent
/-- The run of some writes. -/
def buildE (ws : List IE) : List IE := if goodW ws = true then buildS ws else []
theorem bldG_rise (ws : List IE) : ∀ (rest out : List IE), RisE out → RisE (bldG ws rest out)
  | [], out, h => h
  | w :: rest, out, h => by
    refine bldG_rise ws rest _ ?_
    by_cases hc : (if w.f4 = 2 then largB ws w else standB w rest) = true
    · rw [if_pos hc]; exact intoE_rise w out h
    · rw [if_neg hc]; exact h
theorem buildS_rise (ws : List IE) : RisE (buildS ws) := bldG_rise ws ws [] List.Pairwise.nil
def chE (ws : List IE) (e : IE) (post : List IE) : Bool := if e.f4 = 2 then largB ws e else standB e post
theorem vent_val {e : IE} (h : vent e = true) (hk : e.f4 = 2) : e.f5 = ⟨#[]⟩ := by
  unfold vent at h
  simp only [Bool.and_eq_true, Bool.or_eq_true, decide_eq_true_eq] at h
  have := h.2.2.2.2.2.2.2.2
  rcases this with h1 | h1
  · rw [hk] at h1; exact absurd h1 (by decide)
  · apply toList_inj.1
    first | exact h1 | simpa using h1
theorem bldG_mem {ws : List IE} (hv : ∀ e ∈ ws, vent e = true) : ∀ (rest pre out : List IE), ws = pre ++ rest → (∀ e, e ∈ out ↔ ∃ p q, pre = p ++ e :: q ∧ chE ws e (q ++ rest) = true) → ∀ e, e ∈ bldG ws rest out ↔ ∃ p q, ws = p ++ e :: q ∧ chE ws e q = true
  | [], pre, out, hw, ho, e => by
    show e ∈ out ↔ _
    rw [ho]
    simp only [List.append_nil] at hw ⊢
    rw [hw]
  | w :: rest, pre, out, hw, ho, e => by
    have hw2 : ws = (pre ++ [w]) ++ rest := by rw [hw]; simp
    refine bldG_mem hv rest (pre ++ [w]) _ hw2 (fun y => ?_) e
    have hold : ∀ y, (∃ p q, pre = p ++ y :: q ∧ chE ws y (q ++ w :: rest) = true) → ∃ p q, pre ++ [w] = p ++ y :: q ∧ chE ws y (q ++ rest) = true := by
      rintro y ⟨p, q, e1, e2⟩
      exact ⟨p, q ++ [w], by rw [e1]; simp, by simpa using e2⟩
    have hback : ∀ y p q, pre ++ [w] = p ++ y :: q → chE ws y (q ++ rest) = true → (q = [] ∧ y = w ∧ p = pre) ∨ ∃ p q, pre = p ++ y :: q ∧ chE ws y (q ++ w :: rest) = true := by
      intro y p q e1 e2
      rcases List.eq_nil_or_concat q with rfl | ⟨q', z, rfl⟩
      · left
        have := List.append_inj' e1 rfl
        exact ⟨rfl, by have := this.2; injection this with h; exact h.symm, this.1.symm⟩
      · right
        have e3 : pre ++ [w] = (p ++ y :: q') ++ [z] := by rw [e1]; simp
        obtain ⟨e4, e5⟩ := List.append_inj' e3 rfl
        injection e5 with e5
        subst e5
        exact ⟨p, q', e4, by simpa using e2⟩
    have hwm : w ∈ ws := by rw [hw]; simp
    by_cases hc : (if w.f4 = 2 then largB ws w else standB w rest) = true
    · rw [if_pos hc, intoE_mem, ho]
      constructor
      · rintro (rfl | ⟨h, -⟩)
        · exact ⟨pre, [], rfl, hc⟩
        · exact hold y h
      · rintro ⟨p, q, e1, e2⟩
        rcases hback y p q e1 e2 with ⟨-, rfl, -⟩ | ⟨p', q', e3, e4⟩
        · exact .inl rfl
        · by_cases h0 : cmpE y w = 0
          · left
            obtain ⟨k1, k2, k3⟩ := (cmpE_zero y w).1 h0
            by_cases hy2 : y.f4 = 2
            · have hw4 := k2.1 hy2
              have hym : y ∈ ws := by rw [hw, e3]; simp
              have v1 := vent_val (hv y hym) hy2
              have v2 := vent_val (hv w hwm) hw4
              unfold colE at k1
              simp only [Prod.mk.injEq] at k1
              cases y; cases w
              simp_all
            · unfold chE at e4
              rw [if_neg hy2] at e4
              unfold standB at e4
              rw [Bool.not_eq_true', List.any_eq_false] at e4
              have := e4 w (by simp)
              unfold hitE at this
              have hw4 : w.f4 ≠ 2 := fun h => hy2 (k2.2 h)
              simp [k1, k3, hw4] at this
          · exact .inr ⟨⟨p', q', e3, e4⟩, h0⟩
    · rw [if_neg hc, ho]
      constructor
      · exact hold y
      · rintro ⟨p, q, e1, e2⟩
        rcases hback y p q e1 e2 with ⟨rfl, rfl, -⟩ | h
        · exact absurd e2 hc
        · exact h
theorem buildS_mem {ws : List IE} (hv : ∀ e ∈ ws, vent e = true) (e : IE) : e ∈ buildS ws ↔ ∃ p q, ws = p ++ e :: q ∧ chE ws e q = true :=
  bldG_mem hv ws [] [] rfl (fun e => by simp) e
/-! What the program gathers; the newest write first. -/
def atR : List IE → Col → Int → Option IE
  | [], _, _ => none
  | w :: rest, c, t => if colE w = c then (if w.f4 = 2 then (if t ≤ w.f3 then none else atR rest c t) else if w.f3 = t then some w else atR rest c t) else atR rest c t
def mkR : List IE → Col → Option IE
  | [], _ => none
  | w :: rest, c => if colE w = c ∧ w.f4 = 2 then (match mkR rest c with | none => some w | some m => if m.f3 < w.f3 then some w else some m) else mkR rest c
def seenR (l : List IE) (c : Col) : Bool := l.any fun w => decide (colE w = c)
theorem atR_iff : ∀ (l : List IE) (c : Col) (t : Int) (e : IE), atR l c t = some e ↔ ∃ a b, l = a ++ e :: b ∧ colE e = c ∧ e.f3 = t ∧ e.f4 ≠ 2 ∧ ∀ x ∈ a, hitE x e = false
  | [], c, t, e => by simp [atR]
  | w :: rest, c, t, e => by
    have ih := atR_iff rest c t e
    unfold atR
    have hcons : (∃ a b, w :: rest = a ++ e :: b ∧ colE e = c ∧ e.f3 = t ∧ e.f4 ≠ 2 ∧ ∀ x ∈ a, hitE x e = false) ↔ (w = e ∧ colE e = c ∧ e.f3 = t ∧ e.f4 ≠ 2) ∨ (hitE w e = false ∧ ∃ a b, rest = a ++ e :: b ∧ colE e = c ∧ e.f3 = t ∧ e.f4 ≠ 2 ∧ ∀ x ∈ a, hitE x e = false) := by
      constructor
      · rintro ⟨a, b, e1, e2, e3, e4, e5⟩
        rcases a with _ | ⟨x, a⟩
        · injection e1 with e1 _; exact .inl ⟨e1, e2, e3, e4⟩
        · injection e1 with e1 e6
          subst e1
          exact .inr ⟨e5 w (by simp), a, b, e6, e2, e3, e4, fun x hx => e5 x (by simp [hx])⟩
      · rintro (⟨rfl, e2, e3, e4⟩ | ⟨h, a, b, e1, e2, e3, e4, e5⟩)
        · exact ⟨[], rest, rfl, e2, e3, e4, fun x hx => by simp at hx⟩
        · exact ⟨w :: a, b, by rw [e1]; rfl, e2, e3, e4, fun x hx => by rcases List.mem_cons.1 hx with rfl | hx; exact h; exact e5 x hx⟩
    rw [hcons]
    by_cases h1 : colE w = c
    · rw [if_pos h1]
      by_cases h2 : w.f4 = 2
      · rw [if_pos h2]
        by_cases h3 : t ≤ w.f3
        · rw [if_pos h3]
          constructor
          · intro h; cases h
          · rintro (⟨rfl, -, -, h⟩ | ⟨h, a, b, e1, e2, e3, e4, e5⟩)
            · exact absurd h2 h
            · unfold hitE at h
              simp [h1, e2, h2, e3, h3] at h
        · rw [if_neg h3, ih]
          constructor
          · rintro ⟨a, b, e1, e2, e3, e4, e5⟩
            refine .inr ⟨?_, a, b, e1, e2, e3, e4, e5⟩
            unfold hitE
            simp [h2, e3]
            intro _; omega
          · rintro (⟨rfl, -, -, h⟩ | ⟨h, r⟩)
            · exact absurd h2 h
            · exact r
      · rw [if_neg h2]
        by_cases h3 : w.f3 = t
        · rw [if_pos h3]
          constructor
          · intro h; cases h; exact .inl ⟨rfl, h1, h3, h2⟩
          · rintro (⟨rfl, -⟩ | ⟨h, a, b, e1, e2, e3, e4, e5⟩)
            · rfl
            · unfold hitE at h
              simp [h1, e2, h2, e3, h3] at h
        · rw [if_neg h3, ih]
          constructor
          · rintro ⟨a, b, e1, e2, e3, e4, e5⟩
            refine .inr ⟨?_, a, b, e1, e2, e3, e4, e5⟩
            unfold hitE
            simp [h2, e3, h3]
          · rintro (⟨rfl, -, h, -⟩ | ⟨h, r⟩)
            · exact absurd h h3
            · exact r
    · rw [if_neg h1, ih]
      constructor
      · rintro ⟨a, b, e1, e2, e3, e4, e5⟩
        refine .inr ⟨?_, a, b, e1, e2, e3, e4, e5⟩
        unfold hitE
        rw [e2]
        simp [h1]
      · rintro (⟨rfl, h, -⟩ | ⟨h, r⟩)
        · exact absurd h h1
        · exact r
theorem mkR_some : ∀ (l : List IE) (c : Col) (e : IE), mkR l c = some e → e ∈ l ∧ e.f4 = 2 ∧ colE e = c ∧ ∀ v ∈ l, v.f4 = 2 → colE v = c → v.f3 ≤ e.f3
  | [], c, e, h => by simp [mkR] at h
  | w :: rest, c, e, h => by
    unfold mkR at h
    have lift : ∀ m, mkR rest c = some m → _ := fun m => mkR_some rest c m
    by_cases h1 : colE w = c ∧ w.f4 = 2
    · rw [if_pos h1] at h
      cases hm : mkR rest c with
      | none =>
        rw [hm] at h
        cases h
        refine ⟨by simp, h1.2, h1.1, fun v hv h2 h3 => ?_⟩
        rcases List.mem_cons.1 hv with rfl | hv
        · exact Int.le_refl _
        · exfalso
          have key : ∀ (l : List IE), mkR l c = none → ∀ v ∈ l, v.f4 = 2 → colE v = c → False := by
            intro l
            induction l with
            | nil => intro _ v hv; simp at hv
            | cons x l ih =>
              intro hn v hv k2 k3
              unfold mkR at hn
              by_cases hx : colE x = c ∧ x.f4 = 2
              · rw [if_pos hx] at hn
                cases hq : mkR l c with
                | none => rw [hq] at hn; cases hn
                | some m => rw [hq] at hn; simp only [] at hn; split at hn <;> cases hn
              · rw [if_neg hx] at hn
                rcases List.mem_cons.1 hv with rfl | hv
                · exact hx ⟨k3, k2⟩
                · exact ih hn v hv k2 k3
          exact key rest hm v hv h2 h3
      | some m =>
        rw [hm] at h
        simp only [] at h
        obtain ⟨i1, i2, i3, i4⟩ := lift m hm
        by_cases h5 : m.f3 < w.f3
        · rw [if_pos h5] at h
          cases h
          refine ⟨by simp, h1.2, h1.1, fun v hv h2 h3 => ?_⟩
          rcases List.mem_cons.1 hv with rfl | hv
          · exact Int.le_refl _
          · have := i4 v hv h2 h3; omega
        · rw [if_neg h5] at h
          cases h
          refine ⟨by simp [i1], i2, i3, fun v hv h2 h3 => ?_⟩
          rcases List.mem_cons.1 hv with rfl | hv
          · omega
          · exact i4 v hv h2 h3
    · rw [if_neg h1] at h
      obtain ⟨i1, i2, i3, i4⟩ := lift e h
      refine ⟨by simp [i1], i2, i3, fun v hv h2 h3 => ?_⟩
      rcases List.mem_cons.1 hv with rfl | hv
      · exact absurd ⟨h3, h2⟩ h1
      · exact i4 v hv h2 h3
theorem mkR_isSome : ∀ (l : List IE) (c : Col), (∃ v ∈ l, v.f4 = 2 ∧ colE v = c) → (mkR l c).isSome = true
  | [], c, h => by simp at h
  | w :: rest, c, h => by
    unfold mkR
    by_cases h1 : colE w = c ∧ w.f4 = 2
    · rw [if_pos h1]
      cases mkR rest c with
      | none => rfl
      | some m => simp only []; split <;> rfl
    · rw [if_neg h1]
      obtain ⟨v, hv, h2, h3⟩ := h
      rcases List.mem_cons.1 hv with rfl | hv
      · exact absurd ⟨h3, h2⟩ h1
      · exact mkR_isSome rest c ⟨v, hv, h2, h3⟩
/-- What is gathered is what the reference lists. -/
theorem gather_mem {ws : List IE} (hv : ∀ e ∈ ws, vent e = true) (e : IE) : e ∈ buildS ws ↔ mkR ws.reverse (colE e) = some e ∨ atR ws.reverse (colE e) e.f3 = some e := by
  rw [buildS_mem hv]
  constructor
  · rintro ⟨p, q, e1, e2⟩
    have hm : e ∈ ws := by rw [e1]; simp
    unfold chE at e2
    by_cases h2 : e.f4 = 2
    · left
      rw [if_pos h2] at e2
      obtain ⟨m, hmk⟩ := Option.isSome_iff_exists.1 (mkR_isSome ws.reverse (colE e) ⟨e, by simp [hm], h2, rfl⟩)
      obtain ⟨i1, i2, i3, i4⟩ := mkR_some _ _ _ hmk
      have h3 := i4 e (by simp [hm]) h2 rfl
      unfold largB at e2
      rw [List.all_eq_true] at e2
      have h4 := e2 m (by simpa using i1)
      simp only [i2, i3, decide_true, Bool.true_and, Bool.not_eq_true', decide_eq_false_iff_not] at h4
      have v1 := vent_val (hv e hm) h2
      have v2 := vent_val (hv m (by simpa using i1)) i2
      have h5 : m.f3 = e.f3 := by omega
      rw [hmk]
      congr 1
      unfold colE at i3
      simp only [Prod.mk.injEq] at i3
      cases m; cases e
      simp_all
    · right
      rw [if_neg h2] at e2
      refine (atR_iff _ _ _ _).2 ⟨q.reverse, p.reverse, by rw [e1]; simp, rfl, rfl, h2, fun x hx => ?_⟩
      unfold standB at e2
      rw [Bool.not_eq_true', List.any_eq_false] at e2
      have := e2 x (by simpa using hx)
      simpa using this
  · rintro (h | h)
    · obtain ⟨i1, i2, i3, i4⟩ := mkR_some _ _ _ h
      have hm : e ∈ ws := by simpa using i1
      obtain ⟨p, q, e1⟩ := List.append_of_mem hm
      refine ⟨p, q, e1, ?_⟩
      unfold chE
      rw [if_pos i2]
      unfold largB
      rw [List.all_eq_true]
      intro v hv'
      have := i4 v (by simp [hv'])
      by_cases k1 : v.f4 = 2
      · by_cases k2 : colE v = colE e
        · have := this k1 k2
          simp [k1, k2]; omega
        · simp [k2]
      · simp [k1]
    · obtain ⟨a, b, e1, e2, e3, e4, e5⟩ := (atR_iff _ _ _ _).1 h
      refine ⟨b.reverse, a.reverse, by have := congrArg List.reverse e1; simpa using this, ?_⟩
      unfold chE
      rw [if_neg e4]
      unfold standB
      rw [Bool.not_eq_true', List.any_eq_false]
      intro x hx
      have := e5 x (by simpa using hx)
      simp [this]
/-- What is gathered, in an order that nobody knows, and then sorted, is the reference's run. -/
theorem sorted_is {ws l : List IE} (hv : ∀ e ∈ ws, vent e = true) (hm : ∀ e, e ∈ l ↔ mkR ws.reverse (colE e) = some e ∨ atR ws.reverse (colE e) e.f3 = some e) (hn : l.Nodup) (hs : l.Pairwise fun x y => cmpE x y ≤ 0) : l = buildS ws := by
  have hkey : ∀ x ∈ l, ∀ y ∈ l, cmpE x y = 0 → x = y := by
    intro x hx y hy h0
    obtain ⟨k1, k2, k3⟩ := (cmpE_zero x y).1 h0
    have h1 := (hm x).1 hx
    have h2 := (hm y).1 hy
    rw [k1] at h1
    rcases h1 with h1 | h1 <;> rcases h2 with h2 | h2
    · rw [h1] at h2; injection h2
    · have := (mkR_some _ _ _ h1).2.1
      obtain ⟨a, b, e1, e2, e3, e4, e5⟩ := (atR_iff _ _ _ _).1 h2
      exact absurd (k2.1 this) e4
    · have := (mkR_some _ _ _ h2).2.1
      obtain ⟨a, b, e1, e2, e3, e4, e5⟩ := (atR_iff _ _ _ _).1 h1
      exact absurd (k2.2 this) e4
    · rw [k3] at h1; rw [h1] at h2; injection h2
  refine rise_uniq ?_ (buildS_rise ws) fun e => (hm e).trans (gather_mem hv e).symm
  have hp : ∀ (l' : List IE), (∀ x ∈ l', x ∈ l) → l'.Nodup → l'.Pairwise (fun x y => cmpE x y ≤ 0) → l'.Pairwise fun x y => cmpE x y < 0 := by
    intro l'
    induction l' with
    | nil => intro _ _ _; exact List.Pairwise.nil
    | cons x l' ih =>
      intro hsub hn' hs'
      obtain ⟨n1, n2⟩ := List.nodup_cons.1 hn'
      obtain ⟨s1, s2⟩ := List.pairwise_cons.1 hs'
      refine List.pairwise_cons.2 ⟨fun y hy => ?_, ih (fun z hz => hsub z (by simp [hz])) n2 s2⟩
      have h1 := s1 y hy
      rcases Int.lt_or_eq_of_le h1 with h2 | h2
      · exact h2
      · have := hkey x (hsub x (by simp)) y (hsub y (by simp [hy])) h2
        subst this
        exact absurd hy n1
  exact hp l (fun x hx => hx) hn hs
end Go.Proofs.Ytmaildoddeimbaa.Q

namespace Go.Proofs.Ytmaildoddeimbaa.Q
open Go.RowKit Go.Proofs.YtmaildoddeimbaaW.PrintWords Go.Proofs.YtmaildoddeimbaaW.PrintLast Go.Proofs.YtmaildoddeimbaaW.PrintMore
set_option linter.unusedVariables false
set_option linter.unusedSimpArgs false
set_option maxHeartbeats 1000000 in
set_option maxRecDepth 100000 in
theorem ventI_call (x : IE) (w : World) : Calls Try.prog 39 #[.agg #[.string x.f0, .string x.f1, .string x.f2, .int .u64 x.f3, .int .i64 x.f4, .string x.f5]] w fun e w' => e = .returned (.bool (vent x)) ∧ Below w.heap.size w w' := by
  have kr : K0 (Below w.heap.size w w) := ⟨Below.refl _ _⟩
  have kx : K0 (w.heap.size ≤ w.heap.size) := ⟨Nat.le_refl _⟩
  go_enter Try.func39, Try.ntmps39
  go_wp2
  all_goals (go_ret; refine ⟨?_, kk⟩; first | (simp [vent, *]; done) | (simp [vent, *]; omega))
set_option maxHeartbeats 4000000 in
set_option maxRecDepth 100000 in
theorem bad_call (x : IE) (w : World) : Calls Try.prog 38 #[.agg #[.string x.f0, .string x.f1, .string x.f2, .int .u64 x.f3, .int .i64 x.f4, .string x.f5]] w fun e w' => e = .returned (.bool (!vent x)) ∧ Below w.heap.size w w' := by
  have kr : K0 (Below w.heap.size w w) := ⟨Below.refl _ _⟩
  have hk : Below w.heap.size w (w.alloc (.cells #[.string x.f0, .string x.f1, .string x.f2, .int .u64 x.f3, .int .i64 x.f4, .string x.f5] 43)) := kk
  go_enter Try.func38, Try.ntmps38
  go_wp2_with fail
  generalize w.alloc (.cells #[.string x.f0, .string x.f1, .string x.f2, .int .u64 x.f3, .int .i64 x.f4, .string x.f5] 43) = W at *
  refine (ventI_call x W).mono ?_
  rintro e W2 ⟨rfl, hb⟩
  have k2 : K0 (Below w.heap.size w W2) := ⟨hk.trans (hb.mono hk.size)⟩
  clear hb hk
  go_wp2
  go_ret
  exact ⟨rfl, kk⟩
def firstBad : Nat → List IE → Int
  | _, [] => -1
  | i, x :: xs => if vent x = true then firstBad (i + 1) xs else i
theorem firstBad_all : ∀ (xs : List IE) (i : Nat), decide (0 ≤ firstBad i xs) = !(xs.all vent)
  | [], i => by simp [firstBad]
  | x :: xs, i => by
    have e : firstBad i (x :: xs) = if vent x = true then firstBad (i + 1) xs else i := rfl
    by_cases h : vent x = true
    · rw [show firstBad i (x :: xs) = firstBad (i + 1) xs from by rw [e, if_pos h], firstBad_all xs (i + 1)]; simp [h]
    · rw [show firstBad i (x :: xs) = (i : Int) from by rw [e, if_neg h]]; simp at h; simp [h]
set_option maxHeartbeats 4000000 in
set_option maxRecDepth 100000 in
theorem index_call (A : Option Addr) (c : Nat) (ns : List IE) (w : World) (hr : Kd.C k43 w A ns.length ns) (hc : ns.length ≤ c) (hn : ns.length ≤ 10000) :
    Calls Try.prog 50 #[.slice A ns.length c, .func (.func 38) #[] #[]] w fun e w' => e = .returned (.int .i64 (firstBad 0 ns)) ∧ Below w.heap.size w w' := by
  have kr : K0 (Below w.heap.size w w) := ⟨Below.refl _ _⟩
  have HR := Aside0.mk hr
  have HC := Aside0.mk hc
  obtain ⟨r, hR⟩ : ∃ r, firstBad 0 ns = r := ⟨_, rfl⟩
  rw [hR]
  have HGO := Aside0.mk (show firstBad 0 (ns.drop 0) = r from hR)
  clear hr hc hR
  go_enter Try.func50, Try.ntmps50
  go_wp2_with fail
  go_loopw [8] (fun v8 W => ∃ (j : Nat), j ≤ ns.length ∧ v8 = .int .i64 j ∧ Aside0 (firstBad j (ns.drop j) = r) ∧ Aside0 (Below w.heap.size w W)) (fun v8 _ => ns.length - (intOf v8).toNat)
  case atStart => exact ⟨0, by omega, rfl, HGO, ⟨kk⟩⟩
  case round =>
    clear HGO kr
    obtain ⟨j, hj, rfl, HGO, HB⟩ := hrel
    have kW : K0 (Below w.heap.size w wr) := ⟨HB.out⟩
    by_cases hlt : j < ns.length
    · obtain ⟨ad, e0, hx⟩ := at_T43 HR.out (j : Int) (by omega) (by omega)
      subst e0
      rw [Int.toNat_natCast] at hx
      obtain ⟨x, hX⟩ : ∃ x, rd_T43 ns (j : Int) = x := ⟨_, rfl⟩
      have hgo := HGO.out
      rw [List.drop_eq_getElem_cons hlt, show ns[j] = x from by rw [← hX]; unfold rd_T43; rw [Int.toNat_natCast]; simp [hlt]] at hgo
      rw [hX] at hx
      obtain ⟨x0, x1, x2, x3, x4, x5⟩ := hx
      have x0 := clk x0
      have x1 := clk x1
      have x2 := clk x2
      have x3 := clk x3
      have x4 := clk x4
      have x5 := clk x5
      have hw1 : IntKind.i64.wrap ((j : Int) + 1) = ((j + 1 : Nat) : Int) := by rw [IntKind.wrap_i64]; omega
      simp only [firstBad] at hgo
      go_wp2_with fail
      refine (bad_call x wr).mono ?_
      rintro e W2 ⟨rfl, hb⟩
      have k2 : K0 (Below w.heap.size w W2) := ⟨HB.out.trans (hb.mono HB.out.size)⟩
      clear hb kW x0 x1 x2 x3 x4 x5
      cases hz : vent x
      · rw [hz, if_neg (by decide)] at hgo
        subst hgo
        go_wp2
        go_ret
        exact ⟨rfl, kk⟩
      · rw [hz, if_pos rfl] at hgo
        go_wp2_with fail
        go_roundw
        case measure => simp only [intOf]; omega
        case rel => exact ⟨j + 1, by omega, by rw [Int.natCast_add]; rfl, ⟨hgo⟩, ⟨kk⟩⟩
    · obtain rfl : j = ns.length := by omega
      have hgo := HGO.out
      rw [List.drop_length] at hgo
      simp only [firstBad] at hgo
      subst hgo
      go_wp2
      go_ret
      exact ⟨rfl, kk⟩
set_option maxRecDepth 100000 in
theorem contains_call (A : Option Addr) (c : Nat) (ns : List IE) (w : World) (hr : Kd.C k43 w A ns.length ns) (hc : ns.length ≤ c) (hn : ns.length ≤ 10000) :
    Calls Try.prog 37 #[.slice A ns.length c, .func (.func 38) #[] #[]] w fun e w' => e = .returned (.bool (!(ns.all vent))) ∧ Below w.heap.size w w' := by
  have HI := Aside0.mk (index_call A c ns w hr hc hn)
  clear hr hc hn
  go_enter Try.func37, Try.ntmps37
  go_wp2_with fail
  refine HI.out.mono ?_
  rintro e W2 ⟨rfl, hb⟩
  have k2 : K0 (Below w.heap.size w W2) := ⟨hb⟩
  have hall := firstBad_all ns 0
  generalize firstBad 0 ns = r at *
  clear hb HI
  go_wp2
  go_ret
  refine ⟨?_, kk⟩
  rw [← hall]
  rfl
set_option maxHeartbeats 1000000 in
set_option maxRecDepth 100000 in
theorem goodWrites_call (A : Option Addr) (c : Nat) (ns : List IE) (w : World) (hr : Kd.C k43 w A ns.length ns) (hc : ns.length ≤ c) :
    Calls Try.prog 25 #[.slice A ns.length c] w fun e w' => e = .returned (.bool (goodW ns)) ∧ Below w.heap.size w w' := by
  have kr : K0 (Below w.heap.size w w) := ⟨Below.refl _ _⟩
  obtain ⟨g, hg⟩ : ∃ g, goodW ns = g := ⟨_, rfl⟩
  rw [hg]
  unfold goodW at hg
  by_cases hl : ns.length ≤ 10000
  · have d1 : decide ((ns.length : Int) ≤ 10000) = true := decide_eq_true (by omega)
    rw [decide_eq_true hl, Bool.true_and] at hg
    have HI := Aside0.mk (contains_call A c ns w hr hc hl)
    clear hr hc hl
    go_enter Try.func25, Try.ntmps25
    go_wp2_with fail
    refine HI.out.mono ?_
    rw [hg]
    rintro e W2 ⟨rfl, hb⟩
    have k2 : K0 (Below w.heap.size w W2) := ⟨hb⟩
    clear hb HI hg
    go_wp2
    go_ret
    exact ⟨by cases g <;> rfl, kk⟩
  · have d1 : decide ((ns.length : Int) ≤ 10000) = false := decide_eq_false (by omega)
    rw [decide_eq_false hl, Bool.false_and] at hg
    subst hg
    clear hr hc
    go_enter Try.func25, Try.ntmps25
    go_wp2
    go_ret
    exact ⟨rfl, kk⟩
end Go.Proofs.Ytmaildoddeimbaa.Q

namespace Go.Proofs.Ytmaildoddeimbaa.Q
open Go.RowKit Go.Proofs.YtmaildoddeimbaaW.PrintWords Go.Proofs.YtmaildoddeimbaaW.PrintLast Go.Proofs.YtmaildoddeimbaaW.PrintMore
set_option linter.unusedVariables false
set_option linter.unusedSimpArgs false

/-! ### impl_Entry_column: function 40 -/
def impl_Entry_column.f (a0_0 : ByteArray) (a0_1 : ByteArray) (a0_2 : ByteArray) (a0_3 : Int) (a0_4 : Int) (a0_5 : ByteArray) : Option (ByteArray × ByteArray × ByteArray) := some (a0_0, a0_1, a0_2)
set_option maxHeartbeats 8000000 in
set_option maxRecDepth 100000 in
theorem impl_Entry_column.calls (a0_0 : ByteArray) (a0_1 : ByteArray) (a0_2 : ByteArray) (a0_3 : Int) (a0_4 : Int) (a0_5 : ByteArray) (r1 : ByteArray) (r2 : ByteArray) (r3 : ByteArray) (w : World) (h : impl_Entry_column.f a0_0 a0_1 a0_2 a0_3 a0_4 a0_5 = some (r1, r2, r3)) :
  Calls Try.prog 40 #[.agg #[.string a0_0, .string a0_1, .string a0_2, .int .u64 a0_3, .int .i64 a0_4, .string a0_5]] w fun e w' => e = .returned (.agg #[.string r1, .string r2, .string r3]) ∧ Below w.heap.size w w' := by
 have hu43 := Try.underlying43
 have hu51 := Try.underlying51
 have HB := Aside0.mk (Below.refl w.heap.size w)
 have H : (some (a0_0, a0_1, a0_2)) = some (r1, r2, r3) := h
 clear h
 simp only [Option.some.injEq, Prod.mk.injEq] at H
 obtain ⟨rfl, rfl, rfl⟩ := H
 go_enter Try.func40, Try.ntmps40
 go_wp2_with (first | ((with_reducible refine gate_dst (N := 1) rfl ?_); refine box_event ?hg (N := 1) ?hd (cs := #[.string a0_0, .string a0_1, .string a0_2, .int .u64 a0_3, .int .i64 a0_4, .string a0_5]) (t := 43) ?hr ?_; (case hd => rfl); (case hg => rfl); (case hr => first | (go_simp; done) | (go_simp; rfl)); intro gb171 hg w2 hbox hb; have n0_ := Aside0.mk (below_step bw hb); have n1_ := Aside0.mk (hbox); have n2_ := Aside0.mk ((by rw [hg]; exact (below_size bw) : w.heap.size ≤ gb171)); have n3_ := Aside0.mk ((by rw [hg]; exact (below_size bw) : w.heap.size ≤ gb171)); clear HB; have HB := n0_; have BK171 := n1_; have GW171 := n2_; have GE171 := n3_; clear n0_ n1_ n2_ n3_; clear hb hbox hg) | ((with_reducible refine gate_dst (N := 2) rfl ?_); refine box_event ?hg (N := 2) ?hd (cs := #[.string (⟨#[]⟩ : ByteArray), .string (⟨#[]⟩ : ByteArray), .string (⟨#[]⟩ : ByteArray)]) (t := 51) ?hr ?_; (case hd => rfl); (case hg => rfl); (case hr => first | (go_simp; done) | (go_simp; rfl)); intro gb172 hg w3 hbox hb; have n0_ := Aside0.mk (blk_below (g := gb171) (o := .cells #[.string a0_0, .string a0_1, .string a0_2, .int .u64 a0_3, .int .i64 a0_4, .string a0_5] 43 (0, 0)) (lb BK171) hb); have n1_ := Aside0.mk (below_step bw hb); have n2_ := Aside0.mk (hbox); have n3_ := Aside0.mk ((by rw [hg]; exact (below_size bw) : w.heap.size ≤ gb172)); have n4_ := Aside0.mk ((by rw [hg]; exact (below_size bw) : w.heap.size ≤ gb172)); have n5_ := Aside0.mk ((by rw [hg]; exact Nat.ne_of_lt (blk_lt (g := gb171) (o := .cells #[.string a0_0, .string a0_1, .string a0_2, .int .u64 a0_3, .int .i64 a0_4, .string a0_5] 43 (0, 0)) (lb BK171)) : gb171 ≠ gb172)); have n6_ := Aside0.mk ((by rw [hg]; exact Nat.ne_of_gt (blk_lt (g := gb171) (o := .cells #[.string a0_0, .string a0_1, .string a0_2, .int .u64 a0_3, .int .i64 a0_4, .string a0_5] 43 (0, 0)) (lb BK171)) : gb172 ≠ gb171)); clear BK171; clear HB; have BK171 := n0_; have HB := n1_; have BK172 := n2_; have GW172 := n3_; have GE172 := n4_; have NB171_172 := n5_; have NB172_171 := n6_; clear n0_ n1_ n2_ n3_ n4_ n5_ n6_; clear hb hbox hg; have hnb4 := NB171_172.out; have hnc4 := NB172_171.out; have hcz5_0 : w3.cell? ⟨gb171, 0, none⟩ = some (.string a0_0) := (blk_cell BK171.out 0).trans rfl; have hcz5_1 : w3.cell? ⟨gb171, 1, none⟩ = some (.string a0_1) := (blk_cell BK171.out 1).trans rfl; have hcz5_2 : w3.cell? ⟨gb171, 2, none⟩ = some (.string a0_2) := (blk_cell BK171.out 2).trans rfl; have hcz5_3 : w3.cell? ⟨gb171, 3, none⟩ = some (.int .u64 a0_3) := (blk_cell BK171.out 3).trans rfl; have hcz5_4 : w3.cell? ⟨gb171, 4, none⟩ = some (.int .i64 a0_4) := (blk_cell BK171.out 4).trans rfl; have hcz5_5 : w3.cell? ⟨gb171, 5, none⟩ = some (.string a0_5) := (blk_cell BK171.out 5).trans rfl; have hfz5_0 := blk_frozen BK171.out 0; have hfz5_1 := blk_frozen BK171.out 1; have hfz5_2 := blk_frozen BK171.out 2; have hfz5_3 := blk_frozen BK171.out 3; have hfz5_4 := blk_frozen BK171.out 4; have hfz5_5 := blk_frozen BK171.out 5; have hcz6_0 : w3.cell? ⟨gb172, 0, none⟩ = some (.string (⟨#[]⟩ : ByteArray)) := (blk_cell BK172.out 0).trans rfl; have hcz6_1 : w3.cell? ⟨gb172, 1, none⟩ = some (.string (⟨#[]⟩ : ByteArray)) := (blk_cell BK172.out 1).trans rfl; have hcz6_2 : w3.cell? ⟨gb172, 2, none⟩ = some (.string (⟨#[]⟩ : ByteArray)) := (blk_cell BK172.out 2).trans rfl; have hfz6_0 := blk_frozen BK172.out 0; have hfz6_1 := blk_frozen BK172.out 1; have hfz6_2 := blk_frozen BK172.out 2))
 refine bodyPost_ret (results_cell_row rfl _ _ gb172 51 #[.string a0_0, .string a0_1, .string a0_2] (0, 0) _ rfl (by (with_reducible repeat (first | refine blk_drewN ?_ _ | refine blk_drew ?_ | refine blk_alloc ?_ _)); refine blk_put (cs := #[.string a0_0, .string a0_1, .string (⟨#[]⟩ : ByteArray)]) ?_ 2 _ rfl; (with_reducible repeat (first | refine blk_drewN ?_ _ | refine blk_drew ?_ | refine blk_alloc ?_ _)); refine blk_put (cs := #[.string a0_0, .string (⟨#[]⟩ : ByteArray), .string (⟨#[]⟩ : ByteArray)]) ?_ 1 _ rfl; (with_reducible repeat (first | refine blk_drewN ?_ _ | refine blk_drew ?_ | refine blk_alloc ?_ _)); refine blk_put (cs := #[.string (⟨#[]⟩ : ByteArray), .string (⟨#[]⟩ : ByteArray), .string (⟨#[]⟩ : ByteArray)]) ?_ 0 _ rfl; (with_reducible repeat (first | refine blk_drewN ?_ _ | refine blk_drew ?_ | refine blk_alloc ?_ _)); exact BK172.out) Try.underlying51 rfl (by kernel_rfl)) rfl ?_
 exact ⟨by first | rfl | (simp [errW_none, errW_some] <;> rfl) | (simp [*, errW_none, errW_some] <;> rfl), bw⟩

end Go.Proofs.Ytmaildoddeimbaa.Q
