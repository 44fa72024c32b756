/- FnExactSplitStore: the row of the law: its arguments opened, its walk, its statement over lists (PrFnExactSplitStore). No condition. -/
import Derived.Test.YtjlggfdmfchncaaCFnExactSplitStore4
import Derived.Deep.RegionHeld3
import Derived.Deep.DeepCutAuto
import Derived.Deep.QuietTactic

namespace Go.Proofs.Ytjlggfdmfchncaa.Q
open Go.RowKit Go.Proofs.YtjlggfdmfchncaaW.PrintWords Go.Proofs.YtjlggfdmfchncaaW.PrintLast Go.Proofs.YtjlggfdmfchncaaW.PrintMore
set_option linter.unusedVariables false
set_option linter.unusedSimpArgs false

/-! ### impl_part: function 48 -/
def impl_part.l0 : Nat → List (S65) → List (S65) → Int → Int → ByteArray → Bool → ByteArray → Option ((List (S65)))
 | 0, _, _, _, _, _, _, _ => none
 | k + 1, x5, x8, x9, x10, x434000, x434001, x434002 => if x10 < x9 then (if 0 ≤ x10 then (if x10 < (x8.length : Int) then ((impl_InRange.f x434000 x434001 x434002 ((rd_T65 x8 x10).f0)).bind fun t436 => (if t436 = true then (if x5.length < 1759218604441 then (impl_part.l0 k (x5 ++ [(⟨(rd_T65 x8 x10).f0, (rd_T65 x8 x10).f1, (rd_T65 x8 x10).f2, (rd_T65 x8 x10).f3, (rd_T65 x8 x10).f4, (rd_T65 x8 x10).f5⟩ : S65)]) x8 x9 (wrap64 (x10 + 1)) x434000 x434001 x434002) else (none)) else (impl_part.l0 k x5 x8 x9 (wrap64 (x10 + 1)) x434000 x434001 x434002))) else (none)) else (none)) else (some x5)
def impl_part.f (k : Nat) (l0 : List (S65)) (a1_0 : ByteArray) (a1_1 : Bool) (a1_2 : ByteArray) : Option ((List (S65))) := impl_part.l0 k ([] : List (S65)) l0 (l0.length : Int) 0 a1_0 a1_1 a1_2
set_option maxHeartbeats 8000000 in
set_option maxRecDepth 100000 in
theorem impl_part.calls (k : Nat) (A0 : Option Addr) (c0 : Nat) (l0 : List (S65)) (a1_0 : ByteArray) (a1_1 : Bool) (a1_2 : ByteArray) (r : List (S65)) (w : World) (hr0 : Kd.C k65 w A0 l0.length l0) (hc0 : l0.length ≤ c0) (h : impl_part.f k l0 a1_0 a1_1 a1_2 = some r) :
  Calls Try.prog 48 #[.slice A0 l0.length c0, .agg #[.string a1_0, .bool a1_1, .string a1_2]] w fun e w' => ∃ v0_ : Value, e = .returned (v0_) ∧ Kd.R k65 65 w' w.heap.size (fun _ => True) v0_ r ∧ Below w.heap.size w w' := by
 have hu51 := Try.underlying51
 have hu65 := Try.underlying65
 have HR0 := Aside0.mk hr0
 have HC0 := Aside0.mk hc0
 clear hr0 hc0
 have HB := Aside0.mk (Below.refl w.heap.size w)
 have H : (impl_part.l0 k ([] : List (S65)) l0 (l0.length : Int) 0 a1_0 a1_1 a1_2) = some r := h
 clear h
 have H' := Aside0.mk H
 clear H
 go_enter Try.func48, Try.ntmps48
 go_wp2_with (first | ((with_reducible refine gate_dst (N := 3) rfl ?_); refine box_event ?hg (N := 3) ?hd (cs := #[.string a1_0, .bool a1_1, .string a1_2]) (t := 51) ?hr ?_; (case hd => rfl); (case hg => rfl); (case hr => first | (go_simp; done) | (go_simp; rfl)); intro gb433 hg w3 hbox hb; have n0_ := Aside0.mk (below_step bw hb); have n1_ := Aside0.mk (hbox); have n2_ := Aside0.mk ((by rw [hg]; exact (below_size bw) : w.heap.size ≤ gb433)); have n3_ := Aside0.mk ((by rw [hg]; exact (below_size bw) : w.heap.size ≤ gb433)); clear HB; have HB := n0_; have BK433 := n1_; have GW433 := n2_; have GE433 := n3_; clear n0_ n1_ n2_ n3_; clear hb hbox hg))
 go_loopg [5, 10] k (fun kq v5 v10 w' => ∃ (x5_1 : List (S65)) (x10_1 : Int), v10 = .int .i64 x10_1 ∧ Aside0 (impl_part.l0 kq x5_1 l0 (l0.length : Int) x10_1 a1_0 a1_1 a1_2 = some r) ∧ Aside0 (kq ≤ k) ∧ Aside0 (Kd.R k65 65 w' w.heap.size (fun _ => True) v5 x5_1) ∧ Aside0 (w'.heap[gb433]? = some (.cells #[.string a1_0, .bool a1_1, .string a1_2] 51 (0, 0))) ∧ Aside0 (Below w.heap.size w w'))
 case atStart => exact ⟨(([] : List (S65))), (0), (by first | rfl | (simp; done) | (simp [*]; done)), H', ⟨Nat.le_refl _⟩, ⟨by first | exact Kd.R_nil _ _ _ _ _ | exact Kd.N_nil _ _ _ _ _ | exact Kd.V_nil _ _ _ _ _ | exact Kd.Q_nil _ _ _ _ _ | exact Kd.S_nil _ _ _ _ _⟩, ⟨lb BK433⟩, ⟨bw⟩⟩
 case round =>
  clear H'
  try clear p2
  obtain ⟨x5_1, x10_1, rfl, HA, HK1, HO_5, BK433, HB⟩ := hrel
  cases gk with
  | zero => exact absurd HA.out (by simp [impl_part.l0])
  | succ k1 =>
   have H := HA.out
   clear HA
   simp only [impl_part.l0] at H
   by_cases c4 : x10_1 < (l0.length : Int)
   ·rw [if_pos c4] at H
    have c4b0 : decide (x10_1 < (l0.length : Int)) = true := decide_eq_true c4
    clear c4
    by_cases c5 : 0 ≤ x10_1
    ·rw [if_pos c5] at H
     have c5b0 : decide (0 ≤ x10_1) = true := decide_eq_true c5
     clear c5
     by_cases c6 : x10_1 < (l0.length : Int)
     ·rw [if_pos c6] at H
      have c6b0 : decide (x10_1 < (l0.length : Int)) = true := decide_eq_true c6
      clear c6
      replace H := Option.bind_eq_some_iff.mp H
      obtain ⟨t436, A70, H⟩ := H
      replace H : (if t436 = true then (if x5_1.length < 1759218604441 then (impl_part.l0 k1 (x5_1 ++ [(⟨(rd_T65 l0 x10_1).f0, (rd_T65 l0 x10_1).f1, (rd_T65 l0 x10_1).f2, (rd_T65 l0 x10_1).f3, (rd_T65 l0 x10_1).f4, (rd_T65 l0 x10_1).f5⟩ : S65)]) l0 (l0.length : Int) (wrap64 (x10_1 + 1)) a1_0 a1_1 a1_2) else (none)) else (impl_part.l0 k1 x5_1 l0 (l0.length : Int) (wrap64 (x10_1 + 1)) a1_0 a1_1 a1_2)) = some r := H
      have A7 := Aside0.mk A70
      clear A70
      by_cases c8 : t436 = true
      ·subst c8
       have H1 : (if x5_1.length < 1759218604441 then (impl_part.l0 k1 (x5_1 ++ [(⟨(rd_T65 l0 x10_1).f0, (rd_T65 l0 x10_1).f1, (rd_T65 l0 x10_1).f2, (rd_T65 l0 x10_1).f3, (rd_T65 l0 x10_1).f4, (rd_T65 l0 x10_1).f5⟩ : S65)]) l0 (l0.length : Int) (wrap64 (x10_1 + 1)) a1_0 a1_1 a1_2) else (none)) = some r := by rw [if_pos rfl] at H; exact H
       clear H
       have H := H1
       clear H1
       by_cases c9 : x5_1.length < 1759218604441
       ·rw [if_pos c9] at H
        have LMc9 := Aside0.mk c9
        clear c9
        obtain ⟨y437, hy437⟩ : ∃ y_ : List (S65), y_ = (x5_1 ++ [(⟨(rd_T65 l0 x10_1).f0, (rd_T65 l0 x10_1).f1, (rd_T65 l0 x10_1).f2, (rd_T65 l0 x10_1).f3, (rd_T65 l0 x10_1).f4, (rd_T65 l0 x10_1).f5⟩ : S65)]) := ⟨_, rfl⟩
        replace H : (impl_part.l0 k1 y437 l0 (l0.length : Int) (wrap64 (x10_1 + 1)) a1_0 a1_1 a1_2) = some r := by first | (rw [hy437]; with_reducible exact H) | (have H2_ := (Option.bind_some _ _).symm.trans H; rw [hy437]; with_reducible exact H2_) | (have H2_ := (Option.bind_some _ _).symm.trans H; with_reducible exact H2_) | with_reducible exact H | (rw [hy437]; exact H) | exact H
        have Ny437 := Aside0.mk hy437
        clear hy437
        have H' := Aside0.mk H
        clear H
        have p434 : 0 ≤ (x10_1 : Int) := of_decide_eq_true (by first | (with_reducible assumption) | assumption)
        have q434 : x10_1 < (l0.length : Int) := of_decide_eq_true (by first | (with_reducible assumption) | assumption)
        obtain ⟨ad434, e434, hx434_0, hx434_1, hx434_2, hx434_3, hx434_4, hx434_5⟩ := at_T65 HR0.out x10_1 p434 q434
        cases e434
        replace hx434_0 := (HB.out.cell (World.block_lt_of_cell? w _ hx434_0)).trans hx434_0
        replace hx434_1 := (HB.out.cell (World.block_lt_of_cell? w _ hx434_1)).trans hx434_1
        replace hx434_2 := (HB.out.cell (World.block_lt_of_cell? w _ hx434_2)).trans hx434_2
        replace hx434_3 := (HB.out.cell (World.block_lt_of_cell? w _ hx434_3)).trans hx434_3
        replace hx434_4 := (HB.out.cell (World.block_lt_of_cell? w _ hx434_4)).trans hx434_4
        replace hx434_5 := (HB.out.cell (World.block_lt_of_cell? w _ hx434_5)).trans hx434_5
        replace p434 := eq_true p434
        replace q434 := eq_true q434
        go_wp2_with (first | ((with_reducible refine gate_dst (N := 7) rfl ?_); refine box_event ?hg (N := 7) ?hd (cs := #[.string (⟨#[]⟩ : ByteArray), .string (⟨#[]⟩ : ByteArray), .string (⟨#[]⟩ : ByteArray), .int .u64 0, .int .i64 0, .string (⟨#[]⟩ : ByteArray)]) (t := 65) ?hr ?_; (case hd => rfl); (case hg => rfl); (case hr => first | (go_simp; done) | (go_simp; rfl)); intro gb435 hg w10 hbox hb; have n0_ := Aside0.mk (Kd.R_below (Kd.R_elderB (lf HO_5) gb435 (Nat.le_of_eq hg.symm)) hb); have n1_ := Aside0.mk (blk_below (g := gb433) (o := .cells #[.string a1_0, .bool a1_1, .string a1_2] 51 (0, 0)) (lb BK433) hb); have n2_ := Aside0.mk (below_step bw hb); have n3_ := Aside0.mk (hbox); have n4_ := Aside0.mk ((by rw [hg]; exact (below_size bw) : w.heap.size ≤ gb435)); have n5_ := Aside0.mk ((by rw [hg]; exact (below_size bw) : w.heap.size ≤ gb435)); have n6_ := Aside0.mk ((by rw [hg]; exact Nat.ne_of_lt (blk_lt (g := gb433) (o := .cells #[.string a1_0, .bool a1_1, .string a1_2] 51 (0, 0)) (lb BK433)) : gb433 ≠ gb435)); have n7_ := Aside0.mk ((by rw [hg]; exact Nat.ne_of_gt (blk_lt (g := gb433) (o := .cells #[.string a1_0, .bool a1_1, .string a1_2] 51 (0, 0)) (lb BK433)) : gb435 ≠ gb433)); clear HO_5; clear BK433; clear HB; have HO_5 := n0_; have BK433 := n1_; have HB := n2_; have BK435 := n3_; have GW435 := n4_; have GE435 := n5_; have NB433_435 := n6_; have NB435_433 := n7_; clear n0_ n1_ n2_ n3_ n4_ n5_ n6_ n7_; clear hb hbox hg; have hnb11 := NB435_433.out; have hnc11 := NB433_435.out; have hcz12_0 : w10.cell? ⟨gb435, 0, none⟩ = some (.string (⟨#[]⟩ : ByteArray)) := (blk_cell BK435.out 0).trans rfl; have hcz12_1 : w10.cell? ⟨gb435, 1, none⟩ = some (.string (⟨#[]⟩ : ByteArray)) := (blk_cell BK435.out 1).trans rfl; have hcz12_2 : w10.cell? ⟨gb435, 2, none⟩ = some (.string (⟨#[]⟩ : ByteArray)) := (blk_cell BK435.out 2).trans rfl; have hcz12_3 : w10.cell? ⟨gb435, 3, none⟩ = some (.int .u64 0) := (blk_cell BK435.out 3).trans rfl; have hcz12_4 : w10.cell? ⟨gb435, 4, none⟩ = some (.int .i64 0) := (blk_cell BK435.out 4).trans rfl; have hcz12_5 : w10.cell? ⟨gb435, 5, none⟩ = some (.string (⟨#[]⟩ : ByteArray)) := (blk_cell BK435.out 5).trans rfl; have hfz12_0 := blk_frozen BK435.out 0; have hfz12_1 := blk_frozen BK435.out 1; have hfz12_2 := blk_frozen BK435.out 2; have hfz12_3 := blk_frozen BK435.out 3; have hfz12_4 := blk_frozen BK435.out 4; have hfz12_5 := blk_frozen BK435.out 5; have hcz13_0 : w10.cell? ⟨gb433, 0, none⟩ = some (.string a1_0) := (blk_cell BK433.out 0).trans rfl; have hcz13_1 : w10.cell? ⟨gb433, 1, none⟩ = some (.bool a1_1) := (blk_cell BK433.out 1).trans rfl; have hcz13_2 : w10.cell? ⟨gb433, 2, none⟩ = some (.string a1_2) := (blk_cell BK433.out 2).trans rfl; have hfz13_0 := blk_frozen BK433.out 0; have hfz13_1 := blk_frozen BK433.out 1; have hfz13_2 := blk_frozen BK433.out 2) | ((with_reducible refine at_fn (f := 38) rfl ?_); refine goesL_ (some 17) rfl rfl Try.func38 (by kernel_rfl) rfl #[.agg #[.string a1_0, .bool a1_1, .string a1_2], .string ((rd_T65 l0 x10_1).f0)] rfl (by (try simp only [List.map_toArray, List.map_cons, List.map_nil]); first | done | rfl | (simp only [List.length_drop, List.length_take]; rfl)) ?_; (with_reducible refine (impl_InRange.calls a1_0 a1_1 a1_2 ((rd_T65 l0 x10_1).f0) true _ A7.out).mono ?_); rintro e w14 ⟨rfl, hb⟩; refine ⟨_, rfl, ?_⟩; have n0_ := Aside0.mk (Kd.R_below (by (with_reducible repeat (first | apply Kd.R_alloc | apply Kd.R_drewN | apply Kd.R_drew)); exact (Kd.R_mono (Kd.R_far (p := ⟨gb435, 5, none⟩) (Kd.R_far (p := ⟨gb435, 4, none⟩) (Kd.R_far (p := ⟨gb435, 3, none⟩) (Kd.R_far (p := ⟨gb435, 2, none⟩) (Kd.R_far (p := ⟨gb435, 1, none⟩) (Kd.R_far (p := ⟨gb435, 0, none⟩) (Kd.R_mono HO_5.out (fun k_ hk => (⟨hk, hk.2⟩ : _ ∧ k_ ≠ gb435))) (fun _ hk => hk.2) (.string ((rd_T65 l0 x10_1).f0))) (fun _ hk => hk.2) (.string ((rd_T65 l0 x10_1).f1))) (fun _ hk => hk.2) (.string ((rd_T65 l0 x10_1).f2))) (fun _ hk => hk.2) (.int .u64 ((rd_T65 l0 x10_1).f3))) (fun _ hk => hk.2) (.int .i64 ((rd_T65 l0 x10_1).f4))) (fun _ hk => hk.2) (.string ((rd_T65 l0 x10_1).f5))) (fun _ h_ => h_.1))) hb); have n1_ := Aside0.mk (blk_below (g := gb433) (o := .cells #[.string a1_0, .bool a1_1, .string a1_2] 51 (0, 0)) (by (with_reducible repeat (first | refine blk_drewN ?_ _ | refine blk_drew ?_ | refine blk_alloc ?_ _)); refine blk_far ?_ NB433_435.out _; (with_reducible repeat (first | refine blk_drewN ?_ _ | refine blk_drew ?_ | refine blk_alloc ?_ _)); refine blk_far ?_ NB433_435.out _; (with_reducible repeat (first | refine blk_drewN ?_ _ | refine blk_drew ?_ | refine blk_alloc ?_ _)); refine blk_far ?_ NB433_435.out _; (with_reducible repeat (first | refine blk_drewN ?_ _ | refine blk_drew ?_ | refine blk_alloc ?_ _)); refine blk_far ?_ NB433_435.out _; (with_reducible repeat (first | refine blk_drewN ?_ _ | refine blk_drew ?_ | refine blk_alloc ?_ _)); refine blk_far ?_ NB433_435.out _; (with_reducible repeat (first | refine blk_drewN ?_ _ | refine blk_drew ?_ | refine blk_alloc ?_ _)); refine blk_far ?_ NB433_435.out _; (with_reducible repeat (first | refine blk_drewN ?_ _ | refine blk_drew ?_ | refine blk_alloc ?_ _)); exact BK433.out) hb); have n2_ := Aside0.mk (blk_below (g := gb435) (o := .cells #[.string ((rd_T65 l0 x10_1).f0), .string ((rd_T65 l0 x10_1).f1), .string ((rd_T65 l0 x10_1).f2), .int .u64 ((rd_T65 l0 x10_1).f3), .int .i64 ((rd_T65 l0 x10_1).f4), .string ((rd_T65 l0 x10_1).f5)] 65 (0, 0)) (by (with_reducible repeat (first | refine blk_drewN ?_ _ | refine blk_drew ?_ | refine blk_alloc ?_ _)); refine blk_put (cs := #[.string ((rd_T65 l0 x10_1).f0), .string ((rd_T65 l0 x10_1).f1), .string ((rd_T65 l0 x10_1).f2), .int .u64 ((rd_T65 l0 x10_1).f3), .int .i64 ((rd_T65 l0 x10_1).f4), .string (⟨#[]⟩ : ByteArray)]) ?_ 5 _ rfl; (with_reducible repeat (first | refine blk_drewN ?_ _ | refine blk_drew ?_ | refine blk_alloc ?_ _)); refine blk_put (cs := #[.string ((rd_T65 l0 x10_1).f0), .string ((rd_T65 l0 x10_1).f1), .string ((rd_T65 l0 x10_1).f2), .int .u64 ((rd_T65 l0 x10_1).f3), .int .i64 0, .string (⟨#[]⟩ : ByteArray)]) ?_ 4 _ rfl; (with_reducible repeat (first | refine blk_drewN ?_ _ | refine blk_drew ?_ | refine blk_alloc ?_ _)); refine blk_put (cs := #[.string ((rd_T65 l0 x10_1).f0), .string ((rd_T65 l0 x10_1).f1), .string ((rd_T65 l0 x10_1).f2), .int .u64 0, .int .i64 0, .string (⟨#[]⟩ : ByteArray)]) ?_ 3 _ rfl; (with_reducible repeat (first | refine blk_drewN ?_ _ | refine blk_drew ?_ | refine blk_alloc ?_ _)); refine blk_put (cs := #[.string ((rd_T65 l0 x10_1).f0), .string ((rd_T65 l0 x10_1).f1), .string (⟨#[]⟩ : ByteArray), .int .u64 0, .int .i64 0, .string (⟨#[]⟩ : ByteArray)]) ?_ 2 _ rfl; (with_reducible repeat (first | refine blk_drewN ?_ _ | refine blk_drew ?_ | refine blk_alloc ?_ _)); refine blk_put (cs := #[.string ((rd_T65 l0 x10_1).f0), .string (⟨#[]⟩ : ByteArray), .string (⟨#[]⟩ : ByteArray), .int .u64 0, .int .i64 0, .string (⟨#[]⟩ : ByteArray)]) ?_ 1 _ rfl; (with_reducible repeat (first | refine blk_drewN ?_ _ | refine blk_drew ?_ | refine blk_alloc ?_ _)); refine blk_put (cs := #[.string (⟨#[]⟩ : ByteArray), .string (⟨#[]⟩ : ByteArray), .string (⟨#[]⟩ : ByteArray), .int .u64 0, .int .i64 0, .string (⟨#[]⟩ : ByteArray)]) ?_ 0 _ rfl; (with_reducible repeat (first | refine blk_drewN ?_ _ | refine blk_drew ?_ | refine blk_alloc ?_ _)); exact BK435.out) hb); have n3_ := Aside0.mk (below_step bw hb); clear HO_5; clear BK433; clear BK435; clear HB; have HO_5 := n0_; have BK433 := n1_; have BK435 := n2_; have HB := n3_; clear n0_ n1_ n2_ n3_; (try clear hb); (try clear hb2); (try clear hk); (try clear hi); have hcz15_0 : w14.cell? ⟨gb435, 0, none⟩ = some (.string ((rd_T65 l0 x10_1).f0)) := (blk_cell BK435.out 0).trans rfl; have hcz15_1 : w14.cell? ⟨gb435, 1, none⟩ = some (.string ((rd_T65 l0 x10_1).f1)) := (blk_cell BK435.out 1).trans rfl; have hcz15_2 : w14.cell? ⟨gb435, 2, none⟩ = some (.string ((rd_T65 l0 x10_1).f2)) := (blk_cell BK435.out 2).trans rfl; have hcz15_3 : w14.cell? ⟨gb435, 3, none⟩ = some (.int .u64 ((rd_T65 l0 x10_1).f3)) := (blk_cell BK435.out 3).trans rfl; have hcz15_4 : w14.cell? ⟨gb435, 4, none⟩ = some (.int .i64 ((rd_T65 l0 x10_1).f4)) := (blk_cell BK435.out 4).trans rfl; have hcz15_5 : w14.cell? ⟨gb435, 5, none⟩ = some (.string ((rd_T65 l0 x10_1).f5)) := (blk_cell BK435.out 5).trans rfl; have hfz15_0 := blk_frozen BK435.out 0; have hfz15_1 := blk_frozen BK435.out 1; have hfz15_2 := blk_frozen BK435.out 2; have hfz15_3 := blk_frozen BK435.out 3; have hfz15_4 := blk_frozen BK435.out 4; have hfz15_5 := blk_frozen BK435.out 5) | ((with_reducible refine gate_builtin (b := .append) (xs := #[.tmp 18, .tmp 20]) rfl ?_); at_builtin; refine Kd.R_append k65 (w0 := w) w.heap.size rfl (.tmp 18) (.tmp 20) 58 65 (.agg #[(.string ⟨#[]⟩), (.string ⟨#[]⟩), (.string ⟨#[]⟩), (.int .u64 0), (.int .i64 0), (.string ⟨#[]⟩)]) 80 rfl Try.underlying58 info65 rfl (by decide) (by omega) u5 x5_1 (⟨(rd_T65 l0 x10_1).f0, (rd_T65 l0 x10_1).f1, (rd_T65 l0 x10_1).f2, (rd_T65 l0 x10_1).f3, (rd_T65 l0 x10_1).f4, (rd_T65 l0 x10_1).f5⟩ : S65) [.string ((rd_T65 l0 x10_1).f0), .string ((rd_T65 l0 x10_1).f1), .string ((rd_T65 l0 x10_1).f2), .int .u64 ((rd_T65 l0 x10_1).f3), .int .i64 ((rd_T65 l0 x10_1).f4), .string ((rd_T65 l0 x10_1).f5)] (fun k_ => k_ ≠ gb435) (fun _ => False) rfl rfl ?aP (fun _ hk => hk.elim) ?aF ?aO ?aB ?aS ?aL ?_; (case aP => exact k65_mkM _ _ _ (⟨(rd_T65 l0 x10_1).f0, (rd_T65 l0 x10_1).f1, (rd_T65 l0 x10_1).f2, (rd_T65 l0 x10_1).f3, (rd_T65 l0 x10_1).f4, (rd_T65 l0 x10_1).f5⟩ : S65)); (case aB => exact bw); (case aF => exact (fun k_ hk => Kd.freshB (g := gb435) (o := .cells #[.string ((rd_T65 l0 x10_1).f0), .string ((rd_T65 l0 x10_1).f1), .string ((rd_T65 l0 x10_1).f2), .int .u64 ((rd_T65 l0 x10_1).f3), .int .i64 ((rd_T65 l0 x10_1).f4), .string ((rd_T65 l0 x10_1).f5)] 65 (0, 0)) (lb BK435) k_ hk)); (case aO => exact (by (with_reducible repeat (first | apply Kd.R_alloc | apply Kd.R_drewN | apply Kd.R_drew)); exact Kd.R_mono HO_5.out (fun _ hk => hk.2))); (case aS => exact (below_size bw)); (case aL => have := LMc9.out; omega); intro v438 w16 ho hb hg hat; rw [← Ny437.out] at ho; have n0_ := Aside0.mk (blk_grown (g := gb433) (o := .cells #[.string a1_0, .bool a1_1, .string a1_2] 51 (0, 0)) (lb BK433) hg (Kd.R_ne HO_5.out BK433.out (by decide))); have n1_ := Aside0.mk (blk_grown (g := gb435) (o := .cells #[.string ((rd_T65 l0 x10_1).f0), .string ((rd_T65 l0 x10_1).f1), .string ((rd_T65 l0 x10_1).f2), .int .u64 ((rd_T65 l0 x10_1).f3), .int .i64 ((rd_T65 l0 x10_1).f4), .string ((rd_T65 l0 x10_1).f5)] 65 (0, 0)) (lb BK435) hg (Kd.R_away HO_5.out (fun _ hk => hk.2))); have n2_ := Aside0.mk (hb); have n3_ := Aside0.mk (ho); clear BK433; clear BK435; clear HB; clear HO_5; have BK433 := n0_; have BK435 := n1_; have HB := n2_; have HO439 := n3_; clear n0_ n1_ n2_ n3_; clear ho hb hg hat))
        go_roundg k1
        case measure => have := HK1.out; omega
        case rel => exact ⟨(y437), (wrap64 (x10_1 + 1)), (by first | rfl | (simp; done) | (simp [*]; done)), H', ⟨by have := HK1.out; omega⟩, ⟨by (with_reducible repeat (first | apply Kd.R_alloc | apply Kd.R_drewN | apply Kd.R_drew)); exact Kd.R_mono HO439.out (fun _ hk => trivial)⟩, ⟨lb BK433⟩, ⟨bw⟩⟩
       ·rw [if_neg c9] at H
        exact absurd H (by simp)
      ·replace c8 := Bool.eq_false_iff.mpr c8
       subst c8
       have H1 : (impl_part.l0 k1 x5_1 l0 (l0.length : Int) (wrap64 (x10_1 + 1)) a1_0 a1_1 a1_2) = some r := by rw [if_neg (show ¬ (false = true) by decide)] at H; exact H
       clear H
       have H := H1
       clear H1
       have H' := Aside0.mk H
       clear H
       have p434 : 0 ≤ (x10_1 : Int) := of_decide_eq_true (by first | (with_reducible assumption) | assumption)
       have q434 : x10_1 < (l0.length : Int) := of_decide_eq_true (by first | (with_reducible assumption) | assumption)
       obtain ⟨ad434, e434, hx434_0, hx434_1, hx434_2, hx434_3, hx434_4, hx434_5⟩ := at_T65 HR0.out x10_1 p434 q434
       cases e434
       replace hx434_0 := (HB.out.cell (World.block_lt_of_cell? w _ hx434_0)).trans hx434_0
       replace hx434_1 := (HB.out.cell (World.block_lt_of_cell? w _ hx434_1)).trans hx434_1
       replace hx434_2 := (HB.out.cell (World.block_lt_of_cell? w _ hx434_2)).trans hx434_2
       replace hx434_3 := (HB.out.cell (World.block_lt_of_cell? w _ hx434_3)).trans hx434_3
       replace hx434_4 := (HB.out.cell (World.block_lt_of_cell? w _ hx434_4)).trans hx434_4
       replace hx434_5 := (HB.out.cell (World.block_lt_of_cell? w _ hx434_5)).trans hx434_5
       replace p434 := eq_true p434
       replace q434 := eq_true q434
       go_wp2_with (first | ((with_reducible refine gate_dst (N := 7) rfl ?_); refine box_event ?hg (N := 7) ?hd (cs := #[.string (⟨#[]⟩ : ByteArray), .string (⟨#[]⟩ : ByteArray), .string (⟨#[]⟩ : ByteArray), .int .u64 0, .int .i64 0, .string (⟨#[]⟩ : ByteArray)]) (t := 65) ?hr ?_; (case hd => rfl); (case hg => rfl); (case hr => first | (go_simp; done) | (go_simp; rfl)); intro gb435 hg w17 hbox hb; have n0_ := Aside0.mk (Kd.R_below (Kd.R_elderB (lf HO_5) gb435 (Nat.le_of_eq hg.symm)) hb); have n1_ := Aside0.mk (blk_below (g := gb433) (o := .cells #[.string a1_0, .bool a1_1, .string a1_2] 51 (0, 0)) (lb BK433) hb); have n2_ := Aside0.mk (below_step bw hb); have n3_ := Aside0.mk (hbox); have n4_ := Aside0.mk ((by rw [hg]; exact (below_size bw) : w.heap.size ≤ gb435)); have n5_ := Aside0.mk ((by rw [hg]; exact (below_size bw) : w.heap.size ≤ gb435)); have n6_ := Aside0.mk ((by rw [hg]; exact Nat.ne_of_lt (blk_lt (g := gb433) (o := .cells #[.string a1_0, .bool a1_1, .string a1_2] 51 (0, 0)) (lb BK433)) : gb433 ≠ gb435)); have n7_ := Aside0.mk ((by rw [hg]; exact Nat.ne_of_gt (blk_lt (g := gb433) (o := .cells #[.string a1_0, .bool a1_1, .string a1_2] 51 (0, 0)) (lb BK433)) : gb435 ≠ gb433)); clear HO_5; clear BK433; clear HB; have HO_5 := n0_; have BK433 := n1_; have HB := n2_; have BK435 := n3_; have GW435 := n4_; have GE435 := n5_; have NB433_435 := n6_; have NB435_433 := n7_; clear n0_ n1_ n2_ n3_ n4_ n5_ n6_ n7_; clear hb hbox hg; have hnb18 := NB435_433.out; have hnc18 := NB433_435.out; have hcz19_0 : w17.cell? ⟨gb435, 0, none⟩ = some (.string (⟨#[]⟩ : ByteArray)) := (blk_cell BK435.out 0).trans rfl; have hcz19_1 : w17.cell? ⟨gb435, 1, none⟩ = some (.string (⟨#[]⟩ : ByteArray)) := (blk_cell BK435.out 1).trans rfl; have hcz19_2 : w17.cell? ⟨gb435, 2, none⟩ = some (.string (⟨#[]⟩ : ByteArray)) := (blk_cell BK435.out 2).trans rfl; have hcz19_3 : w17.cell? ⟨gb435, 3, none⟩ = some (.int .u64 0) := (blk_cell BK435.out 3).trans rfl; have hcz19_4 : w17.cell? ⟨gb435, 4, none⟩ = some (.int .i64 0) := (blk_cell BK435.out 4).trans rfl; have hcz19_5 : w17.cell? ⟨gb435, 5, none⟩ = some (.string (⟨#[]⟩ : ByteArray)) := (blk_cell BK435.out 5).trans rfl; have hfz19_0 := blk_frozen BK435.out 0; have hfz19_1 := blk_frozen BK435.out 1; have hfz19_2 := blk_frozen BK435.out 2; have hfz19_3 := blk_frozen BK435.out 3; have hfz19_4 := blk_frozen BK435.out 4; have hfz19_5 := blk_frozen BK435.out 5; have hcz20_0 : w17.cell? ⟨gb433, 0, none⟩ = some (.string a1_0) := (blk_cell BK433.out 0).trans rfl; have hcz20_1 : w17.cell? ⟨gb433, 1, none⟩ = some (.bool a1_1) := (blk_cell BK433.out 1).trans rfl; have hcz20_2 : w17.cell? ⟨gb433, 2, none⟩ = some (.string a1_2) := (blk_cell BK433.out 2).trans rfl; have hfz20_0 := blk_frozen BK433.out 0; have hfz20_1 := blk_frozen BK433.out 1; have hfz20_2 := blk_frozen BK433.out 2) | ((with_reducible refine at_fn (f := 38) rfl ?_); refine goesL_ (some 17) rfl rfl Try.func38 (by kernel_rfl) rfl #[.agg #[.string a1_0, .bool a1_1, .string a1_2], .string ((rd_T65 l0 x10_1).f0)] rfl (by (try simp only [List.map_toArray, List.map_cons, List.map_nil]); first | done | rfl | (simp only [List.length_drop, List.length_take]; rfl)) ?_; (with_reducible refine (impl_InRange.calls a1_0 a1_1 a1_2 ((rd_T65 l0 x10_1).f0) false _ A7.out).mono ?_); rintro e w21 ⟨rfl, hb⟩; refine ⟨_, rfl, ?_⟩; have n0_ := Aside0.mk (Kd.R_below (by (with_reducible repeat (first | apply Kd.R_alloc | apply Kd.R_drewN | apply Kd.R_drew)); exact (Kd.R_mono (Kd.R_far (p := ⟨gb435, 5, none⟩) (Kd.R_far (p := ⟨gb435, 4, none⟩) (Kd.R_far (p := ⟨gb435, 3, none⟩) (Kd.R_far (p := ⟨gb435, 2, none⟩) (Kd.R_far (p := ⟨gb435, 1, none⟩) (Kd.R_far (p := ⟨gb435, 0, none⟩) (Kd.R_mono HO_5.out (fun k_ hk => (⟨hk, hk.2⟩ : _ ∧ k_ ≠ gb435))) (fun _ hk => hk.2) (.string ((rd_T65 l0 x10_1).f0))) (fun _ hk => hk.2) (.string ((rd_T65 l0 x10_1).f1))) (fun _ hk => hk.2) (.string ((rd_T65 l0 x10_1).f2))) (fun _ hk => hk.2) (.int .u64 ((rd_T65 l0 x10_1).f3))) (fun _ hk => hk.2) (.int .i64 ((rd_T65 l0 x10_1).f4))) (fun _ hk => hk.2) (.string ((rd_T65 l0 x10_1).f5))) (fun _ h_ => h_.1))) hb); have n1_ := Aside0.mk (blk_below (g := gb433) (o := .cells #[.string a1_0, .bool a1_1, .string a1_2] 51 (0, 0)) (by (with_reducible repeat (first | refine blk_drewN ?_ _ | refine blk_drew ?_ | refine blk_alloc ?_ _)); refine blk_far ?_ NB433_435.out _; (with_reducible repeat (first | refine blk_drewN ?_ _ | refine blk_drew ?_ | refine blk_alloc ?_ _)); refine blk_far ?_ NB433_435.out _; (with_reducible repeat (first | refine blk_drewN ?_ _ | refine blk_drew ?_ | refine blk_alloc ?_ _)); refine blk_far ?_ NB433_435.out _; (with_reducible repeat (first | refine blk_drewN ?_ _ | refine blk_drew ?_ | refine blk_alloc ?_ _)); refine blk_far ?_ NB433_435.out _; (with_reducible repeat (first | refine blk_drewN ?_ _ | refine blk_drew ?_ | refine blk_alloc ?_ _)); refine blk_far ?_ NB433_435.out _; (with_reducible repeat (first | refine blk_drewN ?_ _ | refine blk_drew ?_ | refine blk_alloc ?_ _)); refine blk_far ?_ NB433_435.out _; (with_reducible repeat (first | refine blk_drewN ?_ _ | refine blk_drew ?_ | refine blk_alloc ?_ _)); exact BK433.out) hb); have n2_ := Aside0.mk (blk_below (g := gb435) (o := .cells #[.string ((rd_T65 l0 x10_1).f0), .string ((rd_T65 l0 x10_1).f1), .string ((rd_T65 l0 x10_1).f2), .int .u64 ((rd_T65 l0 x10_1).f3), .int .i64 ((rd_T65 l0 x10_1).f4), .string ((rd_T65 l0 x10_1).f5)] 65 (0, 0)) (by (with_reducible repeat (first | refine blk_drewN ?_ _ | refine blk_drew ?_ | refine blk_alloc ?_ _)); refine blk_put (cs := #[.string ((rd_T65 l0 x10_1).f0), .string ((rd_T65 l0 x10_1).f1), .string ((rd_T65 l0 x10_1).f2), .int .u64 ((rd_T65 l0 x10_1).f3), .int .i64 ((rd_T65 l0 x10_1).f4), .string (⟨#[]⟩ : ByteArray)]) ?_ 5 _ rfl; (with_reducible repeat (first | refine blk_drewN ?_ _ | refine blk_drew ?_ | refine blk_alloc ?_ _)); refine blk_put (cs := #[.string ((rd_T65 l0 x10_1).f0), .string ((rd_T65 l0 x10_1).f1), .string ((rd_T65 l0 x10_1).f2), .int .u64 ((rd_T65 l0 x10_1).f3), .int .i64 0, .string (⟨#[]⟩ : ByteArray)]) ?_ 4 _ rfl; (with_reducible repeat (first | refine blk_drewN ?_ _ | refine blk_drew ?_ | refine blk_alloc ?_ _)); refine blk_put (cs := #[.string ((rd_T65 l0 x10_1).f0), .string ((rd_T65 l0 x10_1).f1), .string ((rd_T65 l0 x10_1).f2), .int .u64 0, .int .i64 0, .string (⟨#[]⟩ : ByteArray)]) ?_ 3 _ rfl; (with_reducible repeat (first | refine blk_drewN ?_ _ | refine blk_drew ?_ | refine blk_alloc ?_ _)); refine blk_put (cs := #[.string ((rd_T65 l0 x10_1).f0), .string ((rd_T65 l0 x10_1).f1), .string (⟨#[]⟩ : ByteArray), .int .u64 0, .int .i64 0, .string (⟨#[]⟩ : ByteArray)]) ?_ 2 _ rfl; (with_reducible repeat (first | refine blk_drewN ?_ _ | refine blk_drew ?_ | refine blk_alloc ?_ _)); refine blk_put (cs := #[.string ((rd_T65 l0 x10_1).f0), .string (⟨#[]⟩ : ByteArray), .string (⟨#[]⟩ : ByteArray), .int .u64 0, .int .i64 0, .string (⟨#[]⟩ : ByteArray)]) ?_ 1 _ rfl; (with_reducible repeat (first | refine blk_drewN ?_ _ | refine blk_drew ?_ | refine blk_alloc ?_ _)); refine blk_put (cs := #[.string (⟨#[]⟩ : ByteArray), .string (⟨#[]⟩ : ByteArray), .string (⟨#[]⟩ : ByteArray), .int .u64 0, .int .i64 0, .string (⟨#[]⟩ : ByteArray)]) ?_ 0 _ rfl; (with_reducible repeat (first | refine blk_drewN ?_ _ | refine blk_drew ?_ | refine blk_alloc ?_ _)); exact BK435.out) hb); have n3_ := Aside0.mk (below_step bw hb); clear HO_5; clear BK433; clear BK435; clear HB; have HO_5 := n0_; have BK433 := n1_; have BK435 := n2_; have HB := n3_; clear n0_ n1_ n2_ n3_; (try clear hb); (try clear hb2); (try clear hk); (try clear hi)))
       go_roundg k1
       case measure => have := HK1.out; omega
       case rel => exact ⟨(x5_1), (wrap64 (x10_1 + 1)), (by first | rfl | (simp; done) | (simp [*]; done)), H', ⟨by have := HK1.out; omega⟩, ⟨by (with_reducible repeat (first | apply Kd.R_alloc | apply Kd.R_drewN | apply Kd.R_drew)); exact Kd.R_mono HO_5.out (fun _ hk => trivial)⟩, ⟨lb BK433⟩, ⟨bw⟩⟩
     ·rw [if_neg c6] at H
      exact absurd H (by simp)
    ·rw [if_neg c5] at H
     exact absurd H (by simp)
   ·rw [if_neg c4] at H
    have c4b0 : decide (x10_1 < (l0.length : Int)) = false := decide_eq_false c4
    clear c4
    obtain rfl := Option.some.inj H
    go_wp2
    go_ret
    exact ⟨_, by first | rfl | (simp [errW_none, errW_some] <;> rfl) | (simp [*, errW_none, errW_some] <;> rfl), lf HO_5, bw⟩

end Go.Proofs.Ytjlggfdmfchncaa.Q

namespace Go.Proofs.Ytjlggfdmfchncaa.Q
open Go.RowKit Go.Proofs.YtjlggfdmfchncaaW.PrintWords Go.Proofs.YtjlggfdmfchncaaW.PrintLast Go.Proofs.YtjlggfdmfchncaaW.PrintMore
set_option linter.unusedVariables false
set_option linter.unusedSimpArgs false

/-! ### impl_partRuns: function 29 -/
def impl_partRuns.l0 : Nat → List (S60) → List (S60) → Int → Int → ByteArray → Bool → ByteArray → Option ((List (S60)))
 | 0, _, _, _, _, _, _, _ => none
 | k + 1, x5, x9, x10, x11, x441000, x441001, x441002 => if x11 < x10 then (if 0 ≤ x11 then (if x11 < (x9.length : Int) then ((impl_part.f k ((rd_T60 x9 x11).f0) x441000 x441001 x441002).bind fun t443 => (if (t443.length : Int) > 0 then (if x5.length < 5864062014805 then (impl_partRuns.l0 k (x5 ++ [(⟨t443⟩ : S60)]) x9 x10 (wrap64 (x11 + 1)) x441000 x441001 x441002) else (none)) else (impl_partRuns.l0 k x5 x9 x10 (wrap64 (x11 + 1)) x441000 x441001 x441002))) else (none)) else (none)) else (some x5)
def impl_partRuns.f (k : Nat) (l0 : List (S60)) (a1_0 : ByteArray) (a1_1 : Bool) (a1_2 : ByteArray) : Option ((List (S60))) := impl_partRuns.l0 k ([] : List (S60)) l0 (l0.length : Int) 0 a1_0 a1_1 a1_2
set_option maxHeartbeats 8000000 in
set_option maxRecDepth 100000 in
theorem impl_partRuns.calls (k : Nat) (A0 : Option Addr) (c0 : Nat) (l0 : List (S60)) (a1_0 : ByteArray) (a1_1 : Bool) (a1_2 : ByteArray) (r : List (S60)) (w : World) (hr0 : Kd.C k60 w A0 l0.length l0) (hc0 : l0.length ≤ c0) (h : impl_partRuns.f k l0 a1_0 a1_1 a1_2 = some r) :
  Calls Try.prog 29 #[.slice A0 l0.length c0, .agg #[.string a1_0, .bool a1_1, .string a1_2]] w fun e w' => ∃ v0_ : Value, e = .returned (v0_) ∧ Kd.S k60 60 w' w.heap.size (fun _ => True) v0_ r ∧ Below w.heap.size w w' := by
 have hu51 := Try.underlying51
 have hu60 := Try.underlying60
 have HR0 := Aside0.mk hr0
 have HC0 := Aside0.mk hc0
 clear hr0 hc0
 have HB := Aside0.mk (Below.refl w.heap.size w)
 have H : (impl_partRuns.l0 k ([] : List (S60)) l0 (l0.length : Int) 0 a1_0 a1_1 a1_2) = some r := h
 clear h
 have H' := Aside0.mk H
 clear H
 go_enter Try.func29, Try.ntmps29
 go_wp2_with (first | ((with_reducible refine gate_dst (N := 3) rfl ?_); refine box_event ?hg (N := 3) ?hd (cs := #[.string a1_0, .bool a1_1, .string a1_2]) (t := 51) ?hr ?_; (case hd => rfl); (case hg => rfl); (case hr => first | (go_simp; done) | (go_simp; rfl)); intro gb440 hg w3 hbox hb; have n0_ := Aside0.mk (below_step bw hb); have n1_ := Aside0.mk (hbox); have n2_ := Aside0.mk ((by rw [hg]; exact (below_size bw) : w.heap.size ≤ gb440)); have n3_ := Aside0.mk ((by rw [hg]; exact (below_size bw) : w.heap.size ≤ gb440)); clear HB; have HB := n0_; have BK440 := n1_; have GW440 := n2_; have GE440 := n3_; clear n0_ n1_ n2_ n3_; clear hb hbox hg))
 go_loopg [5, 11] k (fun kq v5 v11 w' => ∃ (x5_1 : List (S60)) (x11_1 : Int), v11 = .int .i64 x11_1 ∧ Aside0 (impl_partRuns.l0 kq x5_1 l0 (l0.length : Int) x11_1 a1_0 a1_1 a1_2 = some r) ∧ Aside0 (kq ≤ k) ∧ Aside0 (Kd.S k60 60 w' w.heap.size (fun _ => True) v5 x5_1) ∧ Aside0 (w'.heap[gb440]? = some (.cells #[.string a1_0, .bool a1_1, .string a1_2] 51 (0, 0))) ∧ Aside0 (Below w.heap.size w w'))
 case atStart => exact ⟨(([] : List (S60))), (0), (by first | rfl | (simp; done) | (simp [*]; done)), H', ⟨Nat.le_refl _⟩, ⟨by first | exact Kd.S_nil _ _ _ _ _ | exact Kd.N_nil _ _ _ _ _ | exact Kd.V_nil _ _ _ _ _ | exact Kd.Q_nil _ _ _ _ _ | exact Kd.R_nil _ _ _ _ _⟩, ⟨lb BK440⟩, ⟨bw⟩⟩
 case round =>
  clear H'
  try clear c2
  try clear p2
  obtain ⟨x5_1, x11_1, rfl, HA, HK1, HO_5, BK440, HB⟩ := hrel
  cases gk with
  | zero => exact absurd HA.out (by simp [impl_partRuns.l0])
  | succ k1 =>
   have H := HA.out
   clear HA
   simp only [impl_partRuns.l0] at H
   by_cases c4 : x11_1 < (l0.length : Int)
   ·rw [if_pos c4] at H
    have c4b0 : decide (x11_1 < (l0.length : Int)) = true := decide_eq_true c4
    clear c4
    by_cases c5 : 0 ≤ x11_1
    ·rw [if_pos c5] at H
     have c5b0 : decide (0 ≤ x11_1) = true := decide_eq_true c5
     clear c5
     by_cases c6 : x11_1 < (l0.length : Int)
     ·rw [if_pos c6] at H
      have c6b0 : decide (x11_1 < (l0.length : Int)) = true := decide_eq_true c6
      clear c6
      replace H := Option.bind_eq_some_iff.mp H
      obtain ⟨t443, A70, H⟩ := H
      replace H : (if (t443.length : Int) > 0 then (if x5_1.length < 5864062014805 then (impl_partRuns.l0 k1 (x5_1 ++ [(⟨t443⟩ : S60)]) l0 (l0.length : Int) (wrap64 (x11_1 + 1)) a1_0 a1_1 a1_2) else (none)) else (impl_partRuns.l0 k1 x5_1 l0 (l0.length : Int) (wrap64 (x11_1 + 1)) a1_0 a1_1 a1_2)) = some r := H
      have A7 := Aside0.mk A70
      clear A70
      by_cases c8 : (t443.length : Int) > 0
      ·rw [if_pos c8] at H
       have c8b0 : decide (0 < (t443.length : Int)) = true := decide_eq_true c8
       have c8b1 : decide (0 < t443.length) = true := decide_eq_true (by omega)
       clear c8
       by_cases c9 : x5_1.length < 5864062014805
       ·rw [if_pos c9] at H
        have LMc9 := Aside0.mk c9
        clear c9
        obtain ⟨y446, hy446⟩ : ∃ y_ : List (S60), y_ = (x5_1 ++ [(⟨t443⟩ : S60)]) := ⟨_, rfl⟩
        replace H : (impl_partRuns.l0 k1 y446 l0 (l0.length : Int) (wrap64 (x11_1 + 1)) a1_0 a1_1 a1_2) = some r := by first | (rw [hy446]; with_reducible exact H) | (have H2_ := (Option.bind_some _ _).symm.trans H; rw [hy446]; with_reducible exact H2_) | (have H2_ := (Option.bind_some _ _).symm.trans H; with_reducible exact H2_) | with_reducible exact H | (rw [hy446]; exact H) | exact H
        have Ny446 := Aside0.mk hy446
        clear hy446
        have H' := Aside0.mk H
        clear H
        have p441 : 0 ≤ (x11_1 : Int) := of_decide_eq_true (by first | (with_reducible assumption) | assumption)
        have q441 : x11_1 < (l0.length : Int) := of_decide_eq_true (by first | (with_reducible assumption) | assumption)
        obtain ⟨ad441, A441_0, c441_0, e441, hx441_0, hl441_0, hi441_0⟩ := at_T60 HR0.out x11_1 p441 q441
        cases e441
        replace hx441_0 := (HB.out.cell (World.block_lt_of_cell? w _ hx441_0)).trans hx441_0
        have HR441_0 := Aside0.mk hi441_0
        have HC441_0 := Aside0.mk hl441_0
        clear hi441_0 hl441_0
        replace p441 := eq_true p441
        replace q441 := eq_true q441
        go_wp2_with (first | ((with_reducible refine gate_dst (N := 7) rfl ?_); refine box_event ?hg (N := 7) ?hd (cs := #[.slice none 0 0]) (t := 60) ?hr ?_; (case hd => rfl); (case hg => rfl); (case hr => first | (go_simp; done) | (go_simp; rfl)); intro gb442 hg w10 hbox hb; have n0_ := Aside0.mk (Kd.S_below (Kd.S_elderB (by (with_reducible repeat (first | apply Kd.S_alloc | apply Kd.S_drewN | apply Kd.S_drew)); exact HO_5.out) gb442 (Nat.le_of_eq hg.symm)) hb); have n1_ := Aside0.mk (blk_below (g := gb440) (o := .cells #[.string a1_0, .bool a1_1, .string a1_2] 51 (0, 0)) (lb BK440) hb); have n2_ := Aside0.mk (below_step bw hb); have n3_ := Aside0.mk (hbox); have n4_ := Aside0.mk ((by rw [hg]; exact (below_size bw) : w.heap.size ≤ gb442)); have n5_ := Aside0.mk ((by rw [hg]; exact (below_size bw) : w.heap.size ≤ gb442)); have n6_ := Aside0.mk ((by rw [hg]; exact Nat.ne_of_lt (blk_lt (g := gb440) (o := .cells #[.string a1_0, .bool a1_1, .string a1_2] 51 (0, 0)) (lb BK440)) : gb440 ≠ gb442)); have n7_ := Aside0.mk ((by rw [hg]; exact Nat.ne_of_gt (blk_lt (g := gb440) (o := .cells #[.string a1_0, .bool a1_1, .string a1_2] 51 (0, 0)) (lb BK440)) : gb442 ≠ gb440)); clear HO_5; clear BK440; clear HB; have HO_5 := n0_; have BK440 := n1_; have HB := n2_; have BK442 := n3_; have GW442 := n4_; have GE442 := n5_; have NB440_442 := n6_; have NB442_440 := n7_; clear n0_ n1_ n2_ n3_ n4_ n5_ n6_ n7_; clear hb hbox hg; have hnb11 := NB442_440.out; have hnc11 := NB440_442.out; have hcz12_0 : w10.cell? ⟨gb442, 0, none⟩ = some (.slice none 0 0) := (blk_cell BK442.out 0).trans rfl; have hfz12_0 := blk_frozen BK442.out 0; have hcz13_0 : w10.cell? ⟨gb440, 0, none⟩ = some (.string a1_0) := (blk_cell BK440.out 0).trans rfl; have hcz13_1 : w10.cell? ⟨gb440, 1, none⟩ = some (.bool a1_1) := (blk_cell BK440.out 1).trans rfl; have hcz13_2 : w10.cell? ⟨gb440, 2, none⟩ = some (.string a1_2) := (blk_cell BK440.out 2).trans rfl; have hfz13_0 := blk_frozen BK440.out 0; have hfz13_1 := blk_frozen BK440.out 1; have hfz13_2 := blk_frozen BK440.out 2) | ((with_reducible refine at_fn (f := 48) rfl ?_); refine goesL_ (some 18) rfl rfl Try.func48 (by kernel_rfl) rfl #[.slice A441_0 ((rd_T60 l0 x11_1).f0).length c441_0, .agg #[.string a1_0, .bool a1_1, .string a1_2]] rfl (by (try simp only [List.map_toArray, List.map_cons, List.map_nil]); first | done | rfl | (simp only [List.length_drop, List.length_take]; rfl)) ?_; (with_reducible refine (impl_part.calls k1 _ _ ((rd_T60 l0 x11_1).f0) a1_0 a1_1 a1_2 t443 _ ?side1 ?side2 A7.out).mono ?_); (case side1 => exact Kd.C_below HR441_0.out bw); (case side2 => exact HC441_0.out); rintro e w14 ⟨v444, rfl, ho0, hb⟩; refine ⟨_, rfl, ?_⟩; have n0_ := Aside0.mk (Kd.S_elder' (by (with_reducible repeat (first | apply Kd.S_alloc | apply Kd.S_drewN | apply Kd.S_drew)); exact (Kd.S_mono (Kd.S_far (p := ⟨gb442, 0, none⟩) (Kd.S_mono HO_5.out (fun k_ hk => (⟨hk, hk.2⟩ : _ ∧ k_ ≠ gb442))) (fun _ hk => hk.2) (.slice A441_0 ((rd_T60 l0 x11_1).f0).length c441_0)) (fun _ h_ => h_.1))) (Kd.R_base ho0) hb); have n1_ := Aside0.mk (Kd.R_lower ho0 (below_size bw)); have n2_ := Aside0.mk (blk_below (g := gb440) (o := .cells #[.string a1_0, .bool a1_1, .string a1_2] 51 (0, 0)) (by (with_reducible repeat (first | refine blk_drewN ?_ _ | refine blk_drew ?_ | refine blk_alloc ?_ _)); refine blk_far ?_ NB440_442.out _; (with_reducible repeat (first | refine blk_drewN ?_ _ | refine blk_drew ?_ | refine blk_alloc ?_ _)); exact BK440.out) hb); have n3_ := Aside0.mk (blk_below (g := gb442) (o := .cells #[.slice A441_0 ((rd_T60 l0 x11_1).f0).length c441_0] 60 (0, 0)) (by (with_reducible repeat (first | refine blk_drewN ?_ _ | refine blk_drew ?_ | refine blk_alloc ?_ _)); refine blk_put (cs := #[.slice none 0 0]) ?_ 0 _ rfl; (with_reducible repeat (first | refine blk_drewN ?_ _ | refine blk_drew ?_ | refine blk_alloc ?_ _)); exact BK442.out) hb); have n4_ := Aside0.mk (below_step bw hb); clear HO_5; clear BK440; clear BK442; clear HB; have HO_5 := n0_; have HO445 := n1_; have BK440 := n2_; have BK442 := n3_; have HB := n4_; clear n0_ n1_ n2_ n3_ n4_; (try clear hb); (try clear hb2); (try clear hk); (try clear hi); (try clear ho0); obtain ⟨Ao15, co15, eo15⟩ := Kd.R_slice HO445.out; subst eo15) | ((with_reducible refine gate_builtin (b := .append) (xs := #[.tmp 22, .tmp 25]) rfl ?_); at_builtin; refine Kd.S_append k60 (w0 := w) w.heap.size rfl (.tmp 22) (.tmp 25) 38 60 (.agg #[(.slice none 0 0)]) 24 rfl Try.underlying38 info60 rfl (by decide) (by omega) u5 x5_1 (⟨t443⟩ : S60) [.slice Ao15 t443.length co15] (fun k_ => k_ ≠ gb442) (fun k_ => some k_ = (.slice Ao15 t443.length co15 : Value).ownBlock) rfl rfl ?aP (fun k_ hk_ => ((Kd.R_mono (ok' := fun k_ => ((fun k_ => k_ ≠ gb442)) k_ ∧ some k_ ≠ (u5 : Value).ownBlock) (Kd.R_types (Kd.R_apart' (HO445.out) (Kd.S_typed HO_5.out) (by decide)) BK442.out (by decide)) (fun k_ hk => ⟨hk.2, hk.1.2⟩))).1 k_ hk_.symm) ?aF ?aO ?aB ?aS ?aL ?_; (case aP => exact k60_mkM _ _ _ (⟨t443⟩ : S60) (Kd.R_mono (Kd.R_tight rfl (Kd.R_mono (ok' := fun k_ => ((fun k_ => k_ ≠ gb442)) k_ ∧ some k_ ≠ (u5 : Value).ownBlock) (Kd.R_types (Kd.R_apart' (HO445.out) (Kd.S_typed HO_5.out) (by decide)) BK442.out (by decide)) (fun k_ hk => ⟨hk.2, hk.1.2⟩))) (fun _ h_ => h_))); (case aB => exact bw); (case aF => exact (fun k_ hk => Kd.freshB (g := gb442) (o := .cells #[.slice A441_0 ((rd_T60 l0 x11_1).f0).length c441_0] 60 (0, 0)) (lb BK442) k_ hk)); (case aO => exact (by (with_reducible repeat (first | apply Kd.S_alloc | apply Kd.S_drewN | apply Kd.S_drew)); exact Kd.S_mono HO_5.out (fun k_ hk => ⟨hk.1.2, fun e_ => hk.2 e_⟩))); (case aS => exact (below_size bw)); (case aL => have := LMc9.out; omega); intro v447 w16 ho hb hg hat; rw [← Ny446.out] at ho; have n0_ := Aside0.mk (blk_grown (g := gb440) (o := .cells #[.string a1_0, .bool a1_1, .string a1_2] 51 (0, 0)) (lb BK440) hg (Kd.S_ne HO_5.out BK440.out (by decide))); have n1_ := Aside0.mk (blk_grown (g := gb442) (o := .cells #[.slice A441_0 ((rd_T60 l0 x11_1).f0).length c441_0] 60 (0, 0)) (lb BK442) hg (Kd.S_away HO_5.out (fun _ hk => hk.1.2))); have n2_ := Aside0.mk (hb); have n3_ := Aside0.mk (ho); clear BK440; clear BK442; clear HB; clear HO_5; clear HO445; have BK440 := n0_; have BK442 := n1_; have HB := n2_; have HO448 := n3_; clear n0_ n1_ n2_ n3_; clear ho hb hg hat))
        go_roundg k1
        case measure => have := HK1.out; omega
        case rel => exact ⟨(y446), (wrap64 (x11_1 + 1)), (by first | rfl | (simp; done) | (simp [*]; done)), H', ⟨by have := HK1.out; omega⟩, ⟨by (with_reducible repeat (first | apply Kd.S_alloc | apply Kd.S_drewN | apply Kd.S_drew)); exact Kd.S_mono HO448.out (fun _ hk => trivial)⟩, ⟨lb BK440⟩, ⟨bw⟩⟩
       ·rw [if_neg c9] at H
        exact absurd H (by simp)
      ·rw [if_neg c8] at H
       have c8b0 : decide (0 < (t443.length : Int)) = false := decide_eq_false c8
       have c8b1 : decide (0 < t443.length) = false := decide_eq_false (by omega)
       clear c8
       have H' := Aside0.mk H
       clear H
       have p441 : 0 ≤ (x11_1 : Int) := of_decide_eq_true (by first | (with_reducible assumption) | assumption)
       have q441 : x11_1 < (l0.length : Int) := of_decide_eq_true (by first | (with_reducible assumption) | assumption)
       obtain ⟨ad441, A441_0, c441_0, e441, hx441_0, hl441_0, hi441_0⟩ := at_T60 HR0.out x11_1 p441 q441
       cases e441
       replace hx441_0 := (HB.out.cell (World.block_lt_of_cell? w _ hx441_0)).trans hx441_0
       have HR441_0 := Aside0.mk hi441_0
       have HC441_0 := Aside0.mk hl441_0
       clear hi441_0 hl441_0
       replace p441 := eq_true p441
       replace q441 := eq_true q441
       go_wp2_with (first | ((with_reducible refine gate_dst (N := 7) rfl ?_); refine box_event ?hg (N := 7) ?hd (cs := #[.slice none 0 0]) (t := 60) ?hr ?_; (case hd => rfl); (case hg => rfl); (case hr => first | (go_simp; done) | (go_simp; rfl)); intro gb442 hg w17 hbox hb; have n0_ := Aside0.mk (Kd.S_below (Kd.S_elderB (by (with_reducible repeat (first | apply Kd.S_alloc | apply Kd.S_drewN | apply Kd.S_drew)); exact HO_5.out) gb442 (Nat.le_of_eq hg.symm)) hb); have n1_ := Aside0.mk (blk_below (g := gb440) (o := .cells #[.string a1_0, .bool a1_1, .string a1_2] 51 (0, 0)) (lb BK440) hb); have n2_ := Aside0.mk (below_step bw hb); have n3_ := Aside0.mk (hbox); have n4_ := Aside0.mk ((by rw [hg]; exact (below_size bw) : w.heap.size ≤ gb442)); have n5_ := Aside0.mk ((by rw [hg]; exact (below_size bw) : w.heap.size ≤ gb442)); have n6_ := Aside0.mk ((by rw [hg]; exact Nat.ne_of_lt (blk_lt (g := gb440) (o := .cells #[.string a1_0, .bool a1_1, .string a1_2] 51 (0, 0)) (lb BK440)) : gb440 ≠ gb442)); have n7_ := Aside0.mk ((by rw [hg]; exact Nat.ne_of_gt (blk_lt (g := gb440) (o := .cells #[.string a1_0, .bool a1_1, .string a1_2] 51 (0, 0)) (lb BK440)) : gb442 ≠ gb440)); clear HO_5; clear BK440; clear HB; have HO_5 := n0_; have BK440 := n1_; have HB := n2_; have BK442 := n3_; have GW442 := n4_; have GE442 := n5_; have NB440_442 := n6_; have NB442_440 := n7_; clear n0_ n1_ n2_ n3_ n4_ n5_ n6_ n7_; clear hb hbox hg; have hnb18 := NB442_440.out; have hnc18 := NB440_442.out; have hcz19_0 : w17.cell? ⟨gb442, 0, none⟩ = some (.slice none 0 0) := (blk_cell BK442.out 0).trans rfl; have hfz19_0 := blk_frozen BK442.out 0; have hcz20_0 : w17.cell? ⟨gb440, 0, none⟩ = some (.string a1_0) := (blk_cell BK440.out 0).trans rfl; have hcz20_1 : w17.cell? ⟨gb440, 1, none⟩ = some (.bool a1_1) := (blk_cell BK440.out 1).trans rfl; have hcz20_2 : w17.cell? ⟨gb440, 2, none⟩ = some (.string a1_2) := (blk_cell BK440.out 2).trans rfl; have hfz20_0 := blk_frozen BK440.out 0; have hfz20_1 := blk_frozen BK440.out 1; have hfz20_2 := blk_frozen BK440.out 2) | ((with_reducible refine at_fn (f := 48) rfl ?_); refine goesL_ (some 18) rfl rfl Try.func48 (by kernel_rfl) rfl #[.slice A441_0 ((rd_T60 l0 x11_1).f0).length c441_0, .agg #[.string a1_0, .bool a1_1, .string a1_2]] rfl (by (try simp only [List.map_toArray, List.map_cons, List.map_nil]); first | done | rfl | (simp only [List.length_drop, List.length_take]; rfl)) ?_; (with_reducible refine (impl_part.calls k1 _ _ ((rd_T60 l0 x11_1).f0) a1_0 a1_1 a1_2 t443 _ ?side1 ?side2 A7.out).mono ?_); (case side1 => exact Kd.C_below HR441_0.out bw); (case side2 => exact HC441_0.out); rintro e w21 ⟨v444, rfl, ho0, hb⟩; refine ⟨_, rfl, ?_⟩; have n0_ := Aside0.mk (Kd.S_elder' (by (with_reducible repeat (first | apply Kd.S_alloc | apply Kd.S_drewN | apply Kd.S_drew)); exact (Kd.S_mono (Kd.S_far (p := ⟨gb442, 0, none⟩) (Kd.S_mono HO_5.out (fun k_ hk => (⟨hk, hk.2⟩ : _ ∧ k_ ≠ gb442))) (fun _ hk => hk.2) (.slice A441_0 ((rd_T60 l0 x11_1).f0).length c441_0)) (fun _ h_ => h_.1))) (Kd.R_base ho0) hb); have n1_ := Aside0.mk (Kd.R_lower ho0 (below_size bw)); have n2_ := Aside0.mk (blk_below (g := gb440) (o := .cells #[.string a1_0, .bool a1_1, .string a1_2] 51 (0, 0)) (by (with_reducible repeat (first | refine blk_drewN ?_ _ | refine blk_drew ?_ | refine blk_alloc ?_ _)); refine blk_far ?_ NB440_442.out _; (with_reducible repeat (first | refine blk_drewN ?_ _ | refine blk_drew ?_ | refine blk_alloc ?_ _)); exact BK440.out) hb); have n3_ := Aside0.mk (blk_below (g := gb442) (o := .cells #[.slice A441_0 ((rd_T60 l0 x11_1).f0).length c441_0] 60 (0, 0)) (by (with_reducible repeat (first | refine blk_drewN ?_ _ | refine blk_drew ?_ | refine blk_alloc ?_ _)); refine blk_put (cs := #[.slice none 0 0]) ?_ 0 _ rfl; (with_reducible repeat (first | refine blk_drewN ?_ _ | refine blk_drew ?_ | refine blk_alloc ?_ _)); exact BK442.out) hb); have n4_ := Aside0.mk (below_step bw hb); clear HO_5; clear BK440; clear BK442; clear HB; have HO_5 := n0_; have HO445 := n1_; have BK440 := n2_; have BK442 := n3_; have HB := n4_; clear n0_ n1_ n2_ n3_ n4_; (try clear hb); (try clear hb2); (try clear hk); (try clear hi); (try clear ho0); obtain ⟨Ao22, co22, eo22⟩ := Kd.R_slice HO445.out; subst eo22))
       go_roundg k1
       case measure => have := HK1.out; omega
       case rel => exact ⟨(x5_1), (wrap64 (x11_1 + 1)), (by first | rfl | (simp; done) | (simp [*]; done)), H', ⟨by have := HK1.out; omega⟩, ⟨by (with_reducible repeat (first | apply Kd.S_alloc | apply Kd.S_drewN | apply Kd.S_drew)); exact Kd.S_mono HO_5.out (fun _ hk => trivial)⟩, ⟨lb BK440⟩, ⟨bw⟩⟩
     ·rw [if_neg c6] at H
      exact absurd H (by simp)
    ·rw [if_neg c5] at H
     exact absurd H (by simp)
   ·rw [if_neg c4] at H
    have c4b0 : decide (x11_1 < (l0.length : Int)) = false := decide_eq_false c4
    clear c4
    obtain rfl := Option.some.inj H
    go_wp2
    go_ret
    exact ⟨_, by first | rfl | (simp [errW_none, errW_some] <;> rfl) | (simp [*, errW_none, errW_some] <;> rfl), by (with_reducible repeat (first | apply Kd.S_alloc | apply Kd.S_drewN | apply Kd.S_drew)); exact HO_5.out, bw⟩

end Go.Proofs.Ytjlggfdmfchncaa.Q

namespace Go.Proofs.Ytjlggfdmfchncaa.Q
open Go.RowKit Go.Proofs.YtjlggfdmfchncaaW.PrintWords Go.Proofs.YtjlggfdmfchncaaW.PrintLast Go.Proofs.YtjlggfdmfchncaaW.PrintMore
set_option linter.unusedVariables false
set_option linter.unusedSimpArgs false

/-! ### spec_l7Part: function 47 -/
def spec_l7Part.l0 : Nat → List (S65) → List (S65) → Int → ByteArray → Bool → ByteArray → Option ((List (S65)))
 | 0, _, _, _, _, _, _ => none
 | k + 1, x0, x5, x6, x387000, x387001, x387002 => if x6 < (x0.length : Int) then (if 0 ≤ x6 then ((spec_InRange.f x387000 x387001 x387002 ((rd_T65 x0 x6).f0)).bind fun t391 => (if t391 = true then (if x5.length < 1759218604441 then (spec_l7Part.l0 k x0 (x5 ++ [(⟨(rd_T65 x0 x6).f0, (rd_T65 x0 x6).f1, (rd_T65 x0 x6).f2, (rd_T65 x0 x6).f3, (rd_T65 x0 x6).f4, (rd_T65 x0 x6).f5⟩ : S65)]) (wrap64 (x6 + 1)) x387000 x387001 x387002) else (none)) else (spec_l7Part.l0 k x0 x5 (wrap64 (x6 + 1)) x387000 x387001 x387002))) else (none)) else (some x5)
def spec_l7Part.f (k : Nat) (l0 : List (S65)) (a1_0 : ByteArray) (a1_1 : Bool) (a1_2 : ByteArray) : Option ((List (S65))) := spec_l7Part.l0 k l0 (([] : List (S65))) 0 a1_0 a1_1 a1_2
set_option maxHeartbeats 8000000 in
set_option maxRecDepth 100000 in
theorem spec_l7Part.calls (k : Nat) (A0 : Option Addr) (c0 : Nat) (l0 : List (S65)) (a1_0 : ByteArray) (a1_1 : Bool) (a1_2 : ByteArray) (r : List (S65)) (w : World) (hr0 : Kd.C k65 w A0 l0.length l0) (hc0 : l0.length ≤ c0) (h : spec_l7Part.f k l0 a1_0 a1_1 a1_2 = some r) :
  Calls Try.prog 47 #[.slice A0 l0.length c0, .agg #[.string a1_0, .bool a1_1, .string a1_2]] w fun e w' => ∃ v0_ : Value, e = .returned (v0_) ∧ Kd.R k65 65 w' w.heap.size (fun _ => True) v0_ r ∧ Below w.heap.size w w' := by
 have hu51 := Try.underlying51
 have hu65 := Try.underlying65
 have HR0 := Aside0.mk hr0
 have HC0 := Aside0.mk hc0
 clear hr0 hc0
 have HB := Aside0.mk (Below.refl w.heap.size w)
 have H : (spec_l7Part.l0 k l0 (([] : List (S65))) 0 a1_0 a1_1 a1_2) = some r := h
 clear h
 obtain ⟨y387, hy387⟩ : ∃ y_ : List (S65), y_ = (([] : List (S65))) := ⟨_, rfl⟩
 replace H : (spec_l7Part.l0 k l0 y387 0 a1_0 a1_1 a1_2) = some r := by first | (rw [hy387]; with_reducible exact H) | (have H2_ := (Option.bind_some _ _).symm.trans H; rw [hy387]; with_reducible exact H2_) | (have H2_ := (Option.bind_some _ _).symm.trans H; with_reducible exact H2_) | with_reducible exact H | (rw [hy387]; exact H) | exact H
 have Ny387 := Aside0.mk hy387
 clear hy387
 have H' := Aside0.mk H
 clear H
 go_enter Try.func47, Try.ntmps47
 go_wp2_with (first | ((with_reducible refine gate_dst (N := 3) rfl ?_); refine box_event ?hg (N := 3) ?hd (cs := #[.string a1_0, .bool a1_1, .string a1_2]) (t := 51) ?hr ?_; (case hd => rfl); (case hg => rfl); (case hr => first | (go_simp; done) | (go_simp; rfl)); intro gb386 hg w3 hbox hb; have n0_ := Aside0.mk (below_step bw hb); have n1_ := Aside0.mk (hbox); have n2_ := Aside0.mk ((by rw [hg]; exact (below_size bw) : w.heap.size ≤ gb386)); have n3_ := Aside0.mk ((by rw [hg]; exact (below_size bw) : w.heap.size ≤ gb386)); clear HB; have HB := n0_; have BK386 := n1_; have GW386 := n2_; have GE386 := n3_; clear n0_ n1_ n2_ n3_; clear hb hbox hg) | ((with_reducible refine gate_dst (N := 7) rfl ?_); refine Kd.R_lit k65 _ 65 ?hg (N := 7) ?hd (xs := ([] : List (S65))) (inner := []) (ok := fun _ => True) (okp := fun _ => True) ?hr ?hp (fun _ hk => hk) trivial (Below.refl _ _) (Nat.le_refl _) (by simp) ?_; (case hd => rfl); (case hg => rfl); (case hr => first | (go_simp; done) | (go_simp; rfl)); (case hp => exact (Reps.none _ _)); intro v388 w4 ho5 hb hg_ hnew_; clear hg_ hnew_; (first | rw [← Ny387.out] at ho5 | (simp only [Int.reduceToNat] at ho5; rw [← Ny387.out] at ho5)); have n0_ := Aside0.mk (Kd.R_lower ho5 (below_size bw)); have n1_ := Aside0.mk (blk_below (g := gb386) (o := .cells #[.string a1_0, .bool a1_1, .string a1_2] 51 (0, 0)) (lb BK386) hb); have n2_ := Aside0.mk (below_step bw hb); clear BK386; clear HB; have HO389 := n0_; have BK386 := n1_; have HB := n2_; clear n0_ n1_ n2_; clear hb ho5))
 go_loopg [5, 6] k (fun kq v5 v6 w' => ∃ (x5_1 : List (S65)) (x6_1 : Int), v6 = .int .i64 x6_1 ∧ Aside0 (spec_l7Part.l0 kq l0 x5_1 x6_1 a1_0 a1_1 a1_2 = some r) ∧ Aside0 (kq ≤ k) ∧ Aside0 (Kd.R k65 65 w' w.heap.size (fun _ => True) v5 x5_1) ∧ Aside0 (w'.heap[gb386]? = some (.cells #[.string a1_0, .bool a1_1, .string a1_2] 51 (0, 0))) ∧ Aside0 (Below w.heap.size w w'))
 case atStart => exact ⟨(y387), (0), (by first | rfl | (simp; done) | (simp [*]; done)), H', ⟨Nat.le_refl _⟩, ⟨lf HO389⟩, ⟨lb BK386⟩, ⟨bw⟩⟩
 case round =>
  clear H'
  try clear p2
  try clear c4
  obtain ⟨x5_1, x6_1, rfl, HA, HK1, HO_5, BK386, HB⟩ := hrel
  cases gk with
  | zero => exact absurd HA.out (by simp [spec_l7Part.l0])
  | succ k1 =>
   have H := HA.out
   clear HA
   simp only [spec_l7Part.l0] at H
   by_cases c6 : x6_1 < (l0.length : Int)
   ·rw [if_pos c6] at H
    have c6b0 : decide (x6_1 < (l0.length : Int)) = true := decide_eq_true c6
    clear c6
    by_cases c7 : 0 ≤ x6_1
    ·rw [if_pos c7] at H
     have c7b0 : decide (0 ≤ x6_1) = true := decide_eq_true c7
     clear c7
     replace H := Option.bind_eq_some_iff.mp H
     obtain ⟨t391, A80, H⟩ := H
     replace H : (if t391 = true then (if x5_1.length < 1759218604441 then (spec_l7Part.l0 k1 l0 (x5_1 ++ [(⟨(rd_T65 l0 x6_1).f0, (rd_T65 l0 x6_1).f1, (rd_T65 l0 x6_1).f2, (rd_T65 l0 x6_1).f3, (rd_T65 l0 x6_1).f4, (rd_T65 l0 x6_1).f5⟩ : S65)]) (wrap64 (x6_1 + 1)) a1_0 a1_1 a1_2) else (none)) else (spec_l7Part.l0 k1 l0 x5_1 (wrap64 (x6_1 + 1)) a1_0 a1_1 a1_2)) = some r := H
     have A8 := Aside0.mk A80
     clear A80
     by_cases c9 : t391 = true
     ·subst c9
      have H1 : (if x5_1.length < 1759218604441 then (spec_l7Part.l0 k1 l0 (x5_1 ++ [(⟨(rd_T65 l0 x6_1).f0, (rd_T65 l0 x6_1).f1, (rd_T65 l0 x6_1).f2, (rd_T65 l0 x6_1).f3, (rd_T65 l0 x6_1).f4, (rd_T65 l0 x6_1).f5⟩ : S65)]) (wrap64 (x6_1 + 1)) a1_0 a1_1 a1_2) else (none)) = some r := by rw [if_pos rfl] at H; exact H
      clear H
      have H := H1
      clear H1
      by_cases c10 : x5_1.length < 1759218604441
      ·rw [if_pos c10] at H
       have LMc10 := Aside0.mk c10
       clear c10
       obtain ⟨y393, hy393⟩ : ∃ y_ : List (S65), y_ = (x5_1 ++ [(⟨(rd_T65 l0 x6_1).f0, (rd_T65 l0 x6_1).f1, (rd_T65 l0 x6_1).f2, (rd_T65 l0 x6_1).f3, (rd_T65 l0 x6_1).f4, (rd_T65 l0 x6_1).f5⟩ : S65)]) := ⟨_, rfl⟩
       replace H : (spec_l7Part.l0 k1 l0 y393 (wrap64 (x6_1 + 1)) a1_0 a1_1 a1_2) = some r := by first | (rw [hy393]; with_reducible exact H) | (have H2_ := (Option.bind_some _ _).symm.trans H; rw [hy393]; with_reducible exact H2_) | (have H2_ := (Option.bind_some _ _).symm.trans H; with_reducible exact H2_) | with_reducible exact H | (rw [hy393]; exact H) | exact H
       have Ny393 := Aside0.mk hy393
       clear hy393
       have H' := Aside0.mk H
       clear H
       try go_wp2
       have n0_ := Aside0.mk (Kd.R_drew HO_5.out)
       have n1_ := Aside0.mk (blk_drew BK386.out)
       have n2_ := Aside0.mk (below_drew1 HB.out)
       clear HO_5
       clear BK386
       clear HB
       have HO_5 := n0_
       have BK386 := n1_
       have HB := n2_
       clear n0_ n1_ n2_
       have p390 : 0 ≤ (x6_1 : Int) := of_decide_eq_true (by first | (with_reducible assumption) | assumption)
       have q390 : x6_1 < (l0.length : Int) := of_decide_eq_true (by first | (with_reducible assumption) | assumption)
       obtain ⟨ad390, e390, hx390_0, hx390_1, hx390_2, hx390_3, hx390_4, hx390_5⟩ := at_T65 HR0.out x6_1 p390 q390
       have hw390_5 := hx390_5
       have hw390_4 := hx390_4
       have hw390_3 := hx390_3
       have hw390_2 := hx390_2
       have hw390_1 := hx390_1
       have hw390_0 := hx390_0
       cases e390
       replace hx390_0 := (HB.out.cell (World.block_lt_of_cell? w _ hx390_0)).trans hx390_0
       replace hx390_1 := (HB.out.cell (World.block_lt_of_cell? w _ hx390_1)).trans hx390_1
       replace hx390_2 := (HB.out.cell (World.block_lt_of_cell? w _ hx390_2)).trans hx390_2
       replace hx390_3 := (HB.out.cell (World.block_lt_of_cell? w _ hx390_3)).trans hx390_3
       replace hx390_4 := (HB.out.cell (World.block_lt_of_cell? w _ hx390_4)).trans hx390_4
       replace hx390_5 := (HB.out.cell (World.block_lt_of_cell? w _ hx390_5)).trans hx390_5
       replace p390 := eq_true p390
       replace q390 := eq_true q390
       refine start_ (n := 7) (S := fun w' => w'.cell? ⟨gb386, 0, none⟩ = some (.string a1_0) ∧ w'.cell? ⟨gb386, 1, none⟩ = some (.bool a1_1) ∧ w'.cell? ⟨gb386, 2, none⟩ = some (.string a1_2) ∧ w'.cell? (ad390.add ((x6_1).toNat * 6)) = some (.string ((rd_T65 l0 x6_1).f0)) ∧ w'.cell? ⟨(ad390.add ((x6_1).toNat * 6)).block, (ad390.add ((x6_1).toNat * 6)).off + 1, none⟩ = some (.string ((rd_T65 l0 x6_1).f1)) ∧ w'.cell? ⟨(ad390.add ((x6_1).toNat * 6)).block, (ad390.add ((x6_1).toNat * 6)).off + 2, none⟩ = some (.string ((rd_T65 l0 x6_1).f2)) ∧ w'.cell? ⟨(ad390.add ((x6_1).toNat * 6)).block, (ad390.add ((x6_1).toNat * 6)).off + 3, none⟩ = some (.int .u64 ((rd_T65 l0 x6_1).f3)) ∧ w'.cell? ⟨(ad390.add ((x6_1).toNat * 6)).block, (ad390.add ((x6_1).toNat * 6)).off + 4, none⟩ = some (.int .i64 ((rd_T65 l0 x6_1).f4)) ∧ w'.cell? ⟨(ad390.add ((x6_1).toNat * 6)).block, (ad390.add ((x6_1).toNat * 6)).off + 5, none⟩ = some (.string ((rd_T65 l0 x6_1).f5))) (ds := []) #[false, false, false, false, false, false, false] (by kernel_rfl) rfl rfl ⟨(blk_cell BK386.out 0).trans rfl, (blk_cell BK386.out 1).trans rfl, (blk_cell BK386.out 2).trans rfl, ((HB.out.cell (World.block_lt_of_cell? w _ hw390_0)).trans hw390_0), ((HB.out.cell (World.block_lt_of_cell? w _ hw390_1)).trans hw390_1), ((HB.out.cell (World.block_lt_of_cell? w _ hw390_2)).trans hw390_2), ((HB.out.cell (World.block_lt_of_cell? w _ hw390_3)).trans hw390_3), ((HB.out.cell (World.block_lt_of_cell? w _ hw390_4)).trans hw390_4), ((HB.out.cell (World.block_lt_of_cell? w _ hw390_5)).trans hw390_5)⟩ (fun hHeld => ?_)
       generalize wr.drew = w11 at HO_5 BK386 HB hx390_0 hx390_1 hx390_2 hx390_3 hx390_4 hx390_5 hHeld ⊢
       refine pure_ (i := 1) (N := some 15) (v := ?_) (a' := ?_) #[false, true, false, false, false, false, false] rfl rfl (by kernel_rfl) (fun _ _ _ h => h) (Or.inl ⟨by rfl, ?_⟩) ?_ ?_
       rotate_left
       ·intro w'
        go_simp
        with_reducible rfl
       rotate_left
       ·simp only [Act.put, List.setIfInBounds_toArray, List.set_cons_zero, List.set_cons_succ, i64_w, i32_w]
        rfl
       refine pure_ (i := 2) (N := some 16) (v := ?_) (a' := ?_) #[false, true, true, false, false, false, false] rfl rfl (by kernel_rfl) (fun _ _ _ h => h) (Or.inl ⟨by rfl, ?_⟩) ?_ ?_
       rotate_left
       ·intro w'
        go_simp
        with_reducible rfl
       rotate_left
       ·simp only [Act.put, List.setIfInBounds_toArray, List.set_cons_zero, List.set_cons_succ, i64_w, i32_w]
        rfl
       refine pure_ (i := 3) (N := some 17) (v := ?_) (a' := ?_) #[false, true, true, true, false, false, false] rfl rfl (by kernel_rfl) (fun _ _ _ h => h) (Or.inl ⟨by rfl, ?_⟩) ?_ ?_
       rotate_left
       ·intro w'
        go_simp
        with_reducible rfl
       rotate_left
       ·simp only [Act.put, List.setIfInBounds_toArray, List.set_cons_zero, List.set_cons_succ, i64_w, i32_w]
        rfl
       refine pure_ (i := 4) (N := some 18) (v := ?_) (a' := ?_) #[false, true, true, true, true, false, false] rfl rfl (by kernel_rfl) (fun _ _ _ h => h) (Or.inl ⟨by rfl, ?_⟩) ?_ ?_
       rotate_left
       ·intro w'
        go_simp
        with_reducible rfl
       rotate_left
       ·simp only [Act.put, List.setIfInBounds_toArray, List.set_cons_zero, List.set_cons_succ, i64_w, i32_w]
        rfl
       refine take_ (i := 0) (N := some 14) (v := ?_) (a' := ?_) #[true, true, true, true, true, false, false] rfl rfl (by kernel_rfl) (fun _ _ _ h => h) (Or.inl ⟨by rfl, ?_⟩) hHeld ?_ ?_
       rotate_left
       ·rintro w' ⟨s0, s1, s2, s3, s4, s5, s6, s7, s8⟩
        go_simp
        with_reducible rfl
       rotate_left
       ·simp only [Act.put, List.setIfInBounds_toArray, List.set_cons_zero, List.set_cons_succ, i64_w, i32_w]
        rfl
       refine take_ (i := 5) (N := some 19) (v := ?_) (a' := ?_) #[true, true, true, true, true, true, false] rfl rfl (by kernel_rfl) (fun _ _ _ h => h) (Or.inl ⟨by rfl, ?_⟩) hHeld ?_ ?_
       rotate_left
       ·rintro w' ⟨s0, s1, s2, s3, s4, s5, s6, s7, s8⟩
        go_simp
        with_reducible rfl
       rotate_left
       ·simp only [Act.put, List.setIfInBounds_toArray, List.set_cons_zero, List.set_cons_succ, i64_w, i32_w]
        rfl
       refine one_ (i := 6) (N := some 20) #[true, true, true, true, true, true, true] rfl rfl (by kernel_rfl) (by decide) (fun K hK => ?_)
       refine goes_ Try.func33 (by kernel_rfl) rfl #[.agg #[.string a1_0, .bool a1_1, .string a1_2], .string ((rd_T65 l0 x6_1).f0)] (by rfl) rfl rfl (by (try simp only [List.map_toArray, List.map_cons, List.map_nil]); first | done | rfl | (simp only [List.length_drop, List.length_take]; rfl)) ?_
       with_reducible refine (spec_InRange.calls a1_0 a1_1 a1_2 ((rd_T65 l0 x6_1).f0) true _ A8.out).mono ?_
       rintro e w12 ⟨rfl, hb⟩
       refine ⟨_, rfl, ?_⟩
       have n0_ := Aside0.mk (Kd.R_below (lf HO_5) hb)
       have n1_ := Aside0.mk (blk_below (g := gb386) (o := .cells #[.string a1_0, .bool a1_1, .string a1_2] 51 (0, 0)) (lb BK386) hb)
       have n2_ := Aside0.mk (below_step bw hb)
       clear HO_5
       clear BK386
       clear HB
       have HO_5 := n0_
       have BK386 := n1_
       have HB := n2_
       clear n0_ n1_ n2_
       (try clear hb)
       (try clear hb2)
       (try clear hk)
       (try clear hi)
       refine hK.out _ _ ⟨(blk_cell BK386.out 0).trans rfl, (blk_cell BK386.out 1).trans rfl, (blk_cell BK386.out 2).trans rfl, ((HB.out.cell (World.block_lt_of_cell? w _ hw390_0)).trans hw390_0), ((HB.out.cell (World.block_lt_of_cell? w _ hw390_1)).trans hw390_1), ((HB.out.cell (World.block_lt_of_cell? w _ hw390_2)).trans hw390_2), ((HB.out.cell (World.block_lt_of_cell? w _ hw390_3)).trans hw390_3), ((HB.out.cell (World.block_lt_of_cell? w _ hw390_4)).trans hw390_4), ((HB.out.cell (World.block_lt_of_cell? w _ hw390_5)).trans hw390_5)⟩ (fun hHeld => ?_)
       clear hK K
       refine norm_ (a' := ?_) ?_ ?_
       rotate_left
       ·show Act.put _ (some 20) _ = _
        simp only [Act.put, List.setIfInBounds_toArray, List.set_cons_zero, List.set_cons_succ, i64_w, i32_w]
        rfl
       refine done_ (by kernel_rfl) ?_
       have p392 : 0 ≤ (x6_1 : Int) := of_decide_eq_true (by first | (with_reducible assumption) | assumption)
       have q392 : x6_1 < (l0.length : Int) := of_decide_eq_true (by first | (with_reducible assumption) | assumption)
       obtain ⟨ad392, e392, hx392_0, hx392_1, hx392_2, hx392_3, hx392_4, hx392_5⟩ := at_T65 HR0.out x6_1 p392 q392
       obtain rfl : ad390 = ad392 := (by injection e392)
       replace hx392_0 := (HB.out.cell (World.block_lt_of_cell? w _ hx392_0)).trans hx392_0
       replace hx392_1 := (HB.out.cell (World.block_lt_of_cell? w _ hx392_1)).trans hx392_1
       replace hx392_2 := (HB.out.cell (World.block_lt_of_cell? w _ hx392_2)).trans hx392_2
       replace hx392_3 := (HB.out.cell (World.block_lt_of_cell? w _ hx392_3)).trans hx392_3
       replace hx392_4 := (HB.out.cell (World.block_lt_of_cell? w _ hx392_4)).trans hx392_4
       replace hx392_5 := (HB.out.cell (World.block_lt_of_cell? w _ hx392_5)).trans hx392_5
       replace p392 := eq_true p392
       replace q392 := eq_true q392
       try go_wp2_with (first | ((with_reducible refine gate_builtin (b := .append) (xs := #[.tmp 21, .tmp 26]) rfl ?_); at_builtin; refine Kd.R_append k65 (w0 := w) w.heap.size rfl (.tmp 21) (.tmp 26) 58 65 (.agg #[(.string ⟨#[]⟩), (.string ⟨#[]⟩), (.string ⟨#[]⟩), (.int .u64 0), (.int .i64 0), (.string ⟨#[]⟩)]) 80 rfl Try.underlying58 info65 rfl (by decide) (by omega) u5 x5_1 (⟨(rd_T65 l0 x6_1).f0, (rd_T65 l0 x6_1).f1, (rd_T65 l0 x6_1).f2, (rd_T65 l0 x6_1).f3, (rd_T65 l0 x6_1).f4, (rd_T65 l0 x6_1).f5⟩ : S65) [.string ((rd_T65 l0 x6_1).f0), .string ((rd_T65 l0 x6_1).f1), .string ((rd_T65 l0 x6_1).f2), .int .u64 ((rd_T65 l0 x6_1).f3), .int .i64 ((rd_T65 l0 x6_1).f4), .string ((rd_T65 l0 x6_1).f5)] (fun _ => True) (fun _ => False) rfl rfl ?aP (fun _ hk => hk.elim) ?aF ?aO ?aB ?aS ?aL ?_; (case aP => exact k65_mkM _ _ _ (⟨(rd_T65 l0 x6_1).f0, (rd_T65 l0 x6_1).f1, (rd_T65 l0 x6_1).f2, (rd_T65 l0 x6_1).f3, (rd_T65 l0 x6_1).f4, (rd_T65 l0 x6_1).f5⟩ : S65)); (case aB => exact bw); (case aF => exact (fun _ _ => trivial)); (case aO => exact (lf HO_5)); (case aS => exact (below_size bw)); (case aL => have := LMc10.out; omega); intro v394 w13 ho hb hg hat; rw [← Ny393.out] at ho; have n0_ := Aside0.mk (blk_grown (g := gb386) (o := .cells #[.string a1_0, .bool a1_1, .string a1_2] 51 (0, 0)) (lb BK386) hg (Kd.R_ne HO_5.out BK386.out (by decide))); have n1_ := Aside0.mk (hb); have n2_ := Aside0.mk (ho); clear BK386; clear HB; clear HO_5; have BK386 := n0_; have HB := n1_; have HO395 := n2_; clear n0_ n1_ n2_; clear ho hb hg hat))
       go_roundg k1
       case measure => have := HK1.out; omega
       case rel => exact ⟨(y393), (wrap64 (x6_1 + 1)), (by first | rfl | (simp; done) | (simp [*]; done)), H', ⟨by have := HK1.out; omega⟩, ⟨lf HO395⟩, ⟨lb BK386⟩, ⟨bw⟩⟩
      ·rw [if_neg c10] at H
       exact absurd H (by simp)
     ·replace c9 := Bool.eq_false_iff.mpr c9
      subst c9
      have H1 : (spec_l7Part.l0 k1 l0 x5_1 (wrap64 (x6_1 + 1)) a1_0 a1_1 a1_2) = some r := by rw [if_neg (show ¬ (false = true) by decide)] at H; exact H
      clear H
      have H := H1
      clear H1
      have H' := Aside0.mk H
      clear H
      try go_wp2
      have n0_ := Aside0.mk (Kd.R_drew HO_5.out)
      have n1_ := Aside0.mk (blk_drew BK386.out)
      have n2_ := Aside0.mk (below_drew1 HB.out)
      clear HO_5
      clear BK386
      clear HB
      have HO_5 := n0_
      have BK386 := n1_
      have HB := n2_
      clear n0_ n1_ n2_
      have p390 : 0 ≤ (x6_1 : Int) := of_decide_eq_true (by first | (with_reducible assumption) | assumption)
      have q390 : x6_1 < (l0.length : Int) := of_decide_eq_true (by first | (with_reducible assumption) | assumption)
      obtain ⟨ad390, e390, hx390_0, hx390_1, hx390_2, hx390_3, hx390_4, hx390_5⟩ := at_T65 HR0.out x6_1 p390 q390
      have hw390_5 := hx390_5
      have hw390_4 := hx390_4
      have hw390_3 := hx390_3
      have hw390_2 := hx390_2
      have hw390_1 := hx390_1
      have hw390_0 := hx390_0
      cases e390
      replace hx390_0 := (HB.out.cell (World.block_lt_of_cell? w _ hx390_0)).trans hx390_0
      replace hx390_1 := (HB.out.cell (World.block_lt_of_cell? w _ hx390_1)).trans hx390_1
      replace hx390_2 := (HB.out.cell (World.block_lt_of_cell? w _ hx390_2)).trans hx390_2
      replace hx390_3 := (HB.out.cell (World.block_lt_of_cell? w _ hx390_3)).trans hx390_3
      replace hx390_4 := (HB.out.cell (World.block_lt_of_cell? w _ hx390_4)).trans hx390_4
      replace hx390_5 := (HB.out.cell (World.block_lt_of_cell? w _ hx390_5)).trans hx390_5
      replace p390 := eq_true p390
      replace q390 := eq_true q390
      refine start_ (n := 7) (S := fun w' => w'.cell? ⟨gb386, 0, none⟩ = some (.string a1_0) ∧ w'.cell? ⟨gb386, 1, none⟩ = some (.bool a1_1) ∧ w'.cell? ⟨gb386, 2, none⟩ = some (.string a1_2) ∧ w'.cell? (ad390.add ((x6_1).toNat * 6)) = some (.string ((rd_T65 l0 x6_1).f0)) ∧ w'.cell? ⟨(ad390.add ((x6_1).toNat * 6)).block, (ad390.add ((x6_1).toNat * 6)).off + 1, none⟩ = some (.string ((rd_T65 l0 x6_1).f1)) ∧ w'.cell? ⟨(ad390.add ((x6_1).toNat * 6)).block, (ad390.add ((x6_1).toNat * 6)).off + 2, none⟩ = some (.string ((rd_T65 l0 x6_1).f2)) ∧ w'.cell? ⟨(ad390.add ((x6_1).toNat * 6)).block, (ad390.add ((x6_1).toNat * 6)).off + 3, none⟩ = some (.int .u64 ((rd_T65 l0 x6_1).f3)) ∧ w'.cell? ⟨(ad390.add ((x6_1).toNat * 6)).block, (ad390.add ((x6_1).toNat * 6)).off + 4, none⟩ = some (.int .i64 ((rd_T65 l0 x6_1).f4)) ∧ w'.cell? ⟨(ad390.add ((x6_1).toNat * 6)).block, (ad390.add ((x6_1).toNat * 6)).off + 5, none⟩ = some (.string ((rd_T65 l0 x6_1).f5))) (ds := []) #[false, false, false, false, false, false, false] (by kernel_rfl) rfl rfl ⟨(blk_cell BK386.out 0).trans rfl, (blk_cell BK386.out 1).trans rfl, (blk_cell BK386.out 2).trans rfl, ((HB.out.cell (World.block_lt_of_cell? w _ hw390_0)).trans hw390_0), ((HB.out.cell (World.block_lt_of_cell? w _ hw390_1)).trans hw390_1), ((HB.out.cell (World.block_lt_of_cell? w _ hw390_2)).trans hw390_2), ((HB.out.cell (World.block_lt_of_cell? w _ hw390_3)).trans hw390_3), ((HB.out.cell (World.block_lt_of_cell? w _ hw390_4)).trans hw390_4), ((HB.out.cell (World.block_lt_of_cell? w _ hw390_5)).trans hw390_5)⟩ (fun hHeld => ?_)
      generalize wr.drew = w14 at HO_5 BK386 HB hx390_0 hx390_1 hx390_2 hx390_3 hx390_4 hx390_5 hHeld ⊢
      refine pure_ (i := 1) (N := some 15) (v := ?_) (a' := ?_) #[false, true, false, false, false, false, false] rfl rfl (by kernel_rfl) (fun _ _ _ h => h) (Or.inl ⟨by rfl, ?_⟩) ?_ ?_
      rotate_left
      ·intro w'
       go_simp
       with_reducible rfl
      rotate_left
      ·simp only [Act.put, List.setIfInBounds_toArray, List.set_cons_zero, List.set_cons_succ, i64_w, i32_w]
       rfl
      refine pure_ (i := 2) (N := some 16) (v := ?_) (a' := ?_) #[false, true, true, false, false, false, false] rfl rfl (by kernel_rfl) (fun _ _ _ h => h) (Or.inl ⟨by rfl, ?_⟩) ?_ ?_
      rotate_left
      ·intro w'
       go_simp
       with_reducible rfl
      rotate_left
      ·simp only [Act.put, List.setIfInBounds_toArray, List.set_cons_zero, List.set_cons_succ, i64_w, i32_w]
       rfl
      refine pure_ (i := 3) (N := some 17) (v := ?_) (a' := ?_) #[false, true, true, true, false, false, false] rfl rfl (by kernel_rfl) (fun _ _ _ h => h) (Or.inl ⟨by rfl, ?_⟩) ?_ ?_
      rotate_left
      ·intro w'
       go_simp
       with_reducible rfl
      rotate_left
      ·simp only [Act.put, List.setIfInBounds_toArray, List.set_cons_zero, List.set_cons_succ, i64_w, i32_w]
       rfl
      refine pure_ (i := 4) (N := some 18) (v := ?_) (a' := ?_) #[false, true, true, true, true, false, false] rfl rfl (by kernel_rfl) (fun _ _ _ h => h) (Or.inl ⟨by rfl, ?_⟩) ?_ ?_
      rotate_left
      ·intro w'
       go_simp
       with_reducible rfl
      rotate_left
      ·simp only [Act.put, List.setIfInBounds_toArray, List.set_cons_zero, List.set_cons_succ, i64_w, i32_w]
       rfl
      refine take_ (i := 0) (N := some 14) (v := ?_) (a' := ?_) #[true, true, true, true, true, false, false] rfl rfl (by kernel_rfl) (fun _ _ _ h => h) (Or.inl ⟨by rfl, ?_⟩) hHeld ?_ ?_
      rotate_left
      ·rintro w' ⟨s0, s1, s2, s3, s4, s5, s6, s7, s8⟩
       go_simp
       with_reducible rfl
      rotate_left
      ·simp only [Act.put, List.setIfInBounds_toArray, List.set_cons_zero, List.set_cons_succ, i64_w, i32_w]
       rfl
      refine take_ (i := 5) (N := some 19) (v := ?_) (a' := ?_) #[true, true, true, true, true, true, false] rfl rfl (by kernel_rfl) (fun _ _ _ h => h) (Or.inl ⟨by rfl, ?_⟩) hHeld ?_ ?_
      rotate_left
      ·rintro w' ⟨s0, s1, s2, s3, s4, s5, s6, s7, s8⟩
       go_simp
       with_reducible rfl
      rotate_left
      ·simp only [Act.put, List.setIfInBounds_toArray, List.set_cons_zero, List.set_cons_succ, i64_w, i32_w]
       rfl
      refine one_ (i := 6) (N := some 20) #[true, true, true, true, true, true, true] rfl rfl (by kernel_rfl) (by decide) (fun K hK => ?_)
      refine goes_ Try.func33 (by kernel_rfl) rfl #[.agg #[.string a1_0, .bool a1_1, .string a1_2], .string ((rd_T65 l0 x6_1).f0)] (by rfl) rfl rfl (by (try simp only [List.map_toArray, List.map_cons, List.map_nil]); first | done | rfl | (simp only [List.length_drop, List.length_take]; rfl)) ?_
      with_reducible refine (spec_InRange.calls a1_0 a1_1 a1_2 ((rd_T65 l0 x6_1).f0) false _ A8.out).mono ?_
      rintro e w15 ⟨rfl, hb⟩
      refine ⟨_, rfl, ?_⟩
      have n0_ := Aside0.mk (Kd.R_below (lf HO_5) hb)
      have n1_ := Aside0.mk (blk_below (g := gb386) (o := .cells #[.string a1_0, .bool a1_1, .string a1_2] 51 (0, 0)) (lb BK386) hb)
      have n2_ := Aside0.mk (below_step bw hb)
      clear HO_5
      clear BK386
      clear HB
      have HO_5 := n0_
      have BK386 := n1_
      have HB := n2_
      clear n0_ n1_ n2_
      (try clear hb)
      (try clear hb2)
      (try clear hk)
      (try clear hi)
      refine hK.out _ _ ⟨(blk_cell BK386.out 0).trans rfl, (blk_cell BK386.out 1).trans rfl, (blk_cell BK386.out 2).trans rfl, ((HB.out.cell (World.block_lt_of_cell? w _ hw390_0)).trans hw390_0), ((HB.out.cell (World.block_lt_of_cell? w _ hw390_1)).trans hw390_1), ((HB.out.cell (World.block_lt_of_cell? w _ hw390_2)).trans hw390_2), ((HB.out.cell (World.block_lt_of_cell? w _ hw390_3)).trans hw390_3), ((HB.out.cell (World.block_lt_of_cell? w _ hw390_4)).trans hw390_4), ((HB.out.cell (World.block_lt_of_cell? w _ hw390_5)).trans hw390_5)⟩ (fun hHeld => ?_)
      clear hK K
      refine norm_ (a' := ?_) ?_ ?_
      rotate_left
      ·show Act.put _ (some 20) _ = _
       simp only [Act.put, List.setIfInBounds_toArray, List.set_cons_zero, List.set_cons_succ, i64_w, i32_w]
       rfl
      refine done_ (by kernel_rfl) ?_
      try go_wp2
      go_roundg k1
      case measure => have := HK1.out; omega
      case rel => exact ⟨(x5_1), (wrap64 (x6_1 + 1)), (by first | rfl | (simp; done) | (simp [*]; done)), H', ⟨by have := HK1.out; omega⟩, ⟨lf HO_5⟩, ⟨lb BK386⟩, ⟨bw⟩⟩
    ·rw [if_neg c7] at H
     exact absurd H (by simp)
   ·rw [if_neg c6] at H
    have c6b0 : decide (x6_1 < (l0.length : Int)) = false := decide_eq_false c6
    clear c6
    obtain rfl := Option.some.inj H
    go_wp2
    go_ret
    exact ⟨_, by first | rfl | (simp [errW_none, errW_some] <;> rfl) | (simp [*, errW_none, errW_some] <;> rfl), lf HO_5, bw⟩

end Go.Proofs.Ytjlggfdmfchncaa.Q

namespace Go.Proofs.Ytjlggfdmfchncaa.Q
open Go.RowKit Go.Proofs.YtjlggfdmfchncaaW.PrintWords Go.Proofs.YtjlggfdmfchncaaW.PrintLast Go.Proofs.YtjlggfdmfchncaaW.PrintMore
set_option linter.unusedVariables false
set_option linter.unusedSimpArgs false

/-! ### spec_l7Runs: function 28 -/
def spec_l7Runs.l0 : Nat → List (S60) → List (S60) → Int → ByteArray → Bool → ByteArray → Option ((List (S60)))
 | 0, _, _, _, _, _, _ => none
 | k + 1, x0, x5, x6, x397000, x397001, x397002 => if x6 < (x0.length : Int) then (if 0 ≤ x6 then ((spec_l7Part.f k ((rd_T60 x0 x6).f0) x397000 x397001 x397002).bind fun t401 => (if (t401.length : Int) > 0 then (if x5.length < 5864062014805 then (spec_l7Runs.l0 k x0 (x5 ++ [(⟨t401⟩ : S60)]) (wrap64 (x6 + 1)) x397000 x397001 x397002) else (none)) else (spec_l7Runs.l0 k x0 x5 (wrap64 (x6 + 1)) x397000 x397001 x397002))) else (none)) else (some x5)
def spec_l7Runs.f (k : Nat) (l0 : List (S60)) (a1_0 : ByteArray) (a1_1 : Bool) (a1_2 : ByteArray) : Option ((List (S60))) := spec_l7Runs.l0 k l0 (([] : List (S60))) 0 a1_0 a1_1 a1_2
def spec_l7Runs.T5 : Bool × List (List Nat × List Nat) := (true, [([], []), ([], []), ([0, 1], [0, 1]), ([2], [2]), ([3], [3]), ([], []), ([4, 5], [4, 5]), ([6, 6, 0, 1, 2, 3, 4, 5, 6], [6])])
def spec_l7Runs.B5 : List Nat := [0, 0, 3, 7, 15, 0, 63, 127]
theorem spec_l7Runs.tab5 : rtab .any (opsOf Try.f28 5) = spec_l7Runs.T5 := by kernel_rfl
theorem spec_l7Runs.bits5 : waitsOk spec_l7Runs.T5.2 spec_l7Runs.B5 = true := by kernel_rfl
set_option maxHeartbeats 8000000 in
set_option maxRecDepth 100000 in
theorem spec_l7Runs.calls (k : Nat) (A0 : Option Addr) (c0 : Nat) (l0 : List (S60)) (a1_0 : ByteArray) (a1_1 : Bool) (a1_2 : ByteArray) (r : List (S60)) (w : World) (hr0 : Kd.C k60 w A0 l0.length l0) (hc0 : l0.length ≤ c0) (h : spec_l7Runs.f k l0 a1_0 a1_1 a1_2 = some r) :
  Calls Try.prog 28 #[.slice A0 l0.length c0, .agg #[.string a1_0, .bool a1_1, .string a1_2]] w fun e w' => ∃ v0_ : Value, e = .returned (v0_) ∧ Kd.S k60 60 w' w.heap.size (fun _ => True) v0_ r ∧ Below w.heap.size w w' := by
 have hu51 := Try.underlying51
 have hu60 := Try.underlying60
 have HR0 := Aside0.mk hr0
 have HC0 := Aside0.mk hc0
 clear hr0 hc0
 have HB := Aside0.mk (Below.refl w.heap.size w)
 have H : (spec_l7Runs.l0 k l0 (([] : List (S60))) 0 a1_0 a1_1 a1_2) = some r := h
 clear h
 obtain ⟨y397, hy397⟩ : ∃ y_ : List (S60), y_ = (([] : List (S60))) := ⟨_, rfl⟩
 replace H : (spec_l7Runs.l0 k l0 y397 0 a1_0 a1_1 a1_2) = some r := by first | (rw [hy397]; with_reducible exact H) | (have H2_ := (Option.bind_some _ _).symm.trans H; rw [hy397]; with_reducible exact H2_) | (have H2_ := (Option.bind_some _ _).symm.trans H; with_reducible exact H2_) | with_reducible exact H | (rw [hy397]; exact H) | exact H
 have Ny397 := Aside0.mk hy397
 clear hy397
 have H' := Aside0.mk H
 clear H
 go_enter Try.func28, Try.ntmps28
 go_wp2_with (first | ((with_reducible refine gate_dst (N := 3) rfl ?_); refine box_event ?hg (N := 3) ?hd (cs := #[.string a1_0, .bool a1_1, .string a1_2]) (t := 51) ?hr ?_; (case hd => rfl); (case hg => rfl); (case hr => first | (go_simp; done) | (go_simp; rfl)); intro gb396 hg w3 hbox hb; have n0_ := Aside0.mk (below_step bw hb); have n1_ := Aside0.mk (hbox); have n2_ := Aside0.mk ((by rw [hg]; exact (below_size bw) : w.heap.size ≤ gb396)); have n3_ := Aside0.mk ((by rw [hg]; exact (below_size bw) : w.heap.size ≤ gb396)); clear HB; have HB := n0_; have BK396 := n1_; have GW396 := n2_; have GE396 := n3_; clear n0_ n1_ n2_ n3_; clear hb hbox hg) | ((with_reducible refine gate_dst (N := 8) rfl ?_); refine Kd.S_lit k60 _ 60 ?hg (N := 8) ?hd (xs := ([] : List (S60))) (inner := []) (ok := fun _ => True) (okp := fun _ => True) ?hr ?hp (fun _ hk => hk) trivial (Below.refl _ _) (Nat.le_refl _) (by simp) ?_; (case hd => rfl); (case hg => rfl); (case hr => first | (go_simp; done) | (go_simp; rfl)); (case hp => exact (Reps.none _ _)); intro v398 w4 ho5 hb hg_ hnew_; clear hg_ hnew_; (first | rw [← Ny397.out] at ho5 | (simp only [Int.reduceToNat] at ho5; rw [← Ny397.out] at ho5)); have n0_ := Aside0.mk (Kd.S_lower ho5 (below_size bw)); have n1_ := Aside0.mk (blk_below (g := gb396) (o := .cells #[.string a1_0, .bool a1_1, .string a1_2] 51 (0, 0)) (lb BK396) hb); have n2_ := Aside0.mk (below_step bw hb); clear BK396; clear HB; have HO399 := n0_; have BK396 := n1_; have HB := n2_; clear n0_ n1_ n2_; clear hb ho5))
 go_loopg [5, 6] k (fun kq v5 v6 w' => ∃ (x5_1 : List (S60)) (x6_1 : Int), v6 = .int .i64 x6_1 ∧ Aside0 (spec_l7Runs.l0 kq l0 x5_1 x6_1 a1_0 a1_1 a1_2 = some r) ∧ Aside0 (kq ≤ k) ∧ Aside0 (Kd.S k60 60 w' w.heap.size (fun _ => True) v5 x5_1) ∧ Aside0 (w'.heap[gb396]? = some (.cells #[.string a1_0, .bool a1_1, .string a1_2] 51 (0, 0))) ∧ Aside0 (Below w.heap.size w w'))
 case atStart => exact ⟨(y397), (0), (by first | rfl | (simp; done) | (simp [*]; done)), H', ⟨Nat.le_refl _⟩, ⟨by (with_reducible repeat (first | apply Kd.S_alloc | apply Kd.S_drewN | apply Kd.S_drew)); exact HO399.out⟩, ⟨lb BK396⟩, ⟨bw⟩⟩
 case round =>
  clear H'
  try clear c2
  try clear p2
  obtain ⟨x5_1, x6_1, rfl, HA, HK1, HO_5, BK396, HB⟩ := hrel
  cases gk with
  | zero => exact absurd HA.out (by simp [spec_l7Runs.l0])
  | succ k1 =>
   have H := HA.out
   clear HA
   simp only [spec_l7Runs.l0] at H
   by_cases c6 : x6_1 < (l0.length : Int)
   ·rw [if_pos c6] at H
    have c6b0 : decide (x6_1 < (l0.length : Int)) = true := decide_eq_true c6
    clear c6
    by_cases c7 : 0 ≤ x6_1
    ·rw [if_pos c7] at H
     have c7b0 : decide (0 ≤ x6_1) = true := decide_eq_true c7
     clear c7
     replace H := Option.bind_eq_some_iff.mp H
     obtain ⟨t401, A80, H⟩ := H
     replace H : (if (t401.length : Int) > 0 then (if x5_1.length < 5864062014805 then (spec_l7Runs.l0 k1 l0 (x5_1 ++ [(⟨t401⟩ : S60)]) (wrap64 (x6_1 + 1)) a1_0 a1_1 a1_2) else (none)) else (spec_l7Runs.l0 k1 l0 x5_1 (wrap64 (x6_1 + 1)) a1_0 a1_1 a1_2)) = some r := H
     have A8 := Aside0.mk A80
     clear A80
     by_cases c9 : (t401.length : Int) > 0
     ·rw [if_pos c9] at H
      have c9b0 : decide (0 < (t401.length : Int)) = true := decide_eq_true c9
      have c9b1 : decide (0 < t401.length) = true := decide_eq_true (by omega)
      clear c9
      by_cases c10 : x5_1.length < 5864062014805
      ·rw [if_pos c10] at H
       have LMc10 := Aside0.mk c10
       clear c10
       obtain ⟨y404, hy404⟩ : ∃ y_ : List (S60), y_ = (x5_1 ++ [(⟨t401⟩ : S60)]) := ⟨_, rfl⟩
       replace H : (spec_l7Runs.l0 k1 l0 y404 (wrap64 (x6_1 + 1)) a1_0 a1_1 a1_2) = some r := by first | (rw [hy404]; with_reducible exact H) | (have H2_ := (Option.bind_some _ _).symm.trans H; rw [hy404]; with_reducible exact H2_) | (have H2_ := (Option.bind_some _ _).symm.trans H; with_reducible exact H2_) | with_reducible exact H | (rw [hy404]; exact H) | exact H
       have Ny404 := Aside0.mk hy404
       clear hy404
       have H' := Aside0.mk H
       clear H
       try go_wp2
       have n0_ := Aside0.mk (Kd.S_drew HO_5.out)
       have n1_ := Aside0.mk (blk_drew BK396.out)
       have n2_ := Aside0.mk (below_drew1 HB.out)
       clear HO_5
       clear BK396
       clear HB
       have HO_5 := n0_
       have BK396 := n1_
       have HB := n2_
       clear n0_ n1_ n2_
       have p400 : 0 ≤ (x6_1 : Int) := of_decide_eq_true (by first | (with_reducible assumption) | assumption)
       have q400 : x6_1 < (l0.length : Int) := of_decide_eq_true (by first | (with_reducible assumption) | assumption)
       obtain ⟨ad400, A400_0, c400_0, e400, hx400_0, hl400_0, hi400_0⟩ := at_T60 HR0.out x6_1 p400 q400
       have hw400_0 := hx400_0
       cases e400
       replace hx400_0 := (HB.out.cell (World.block_lt_of_cell? w _ hx400_0)).trans hx400_0
       have HR400_0 := Aside0.mk hi400_0
       have HC400_0 := Aside0.mk hl400_0
       clear hi400_0 hl400_0
       replace p400 := eq_true p400
       replace q400 := eq_true q400
       refine start_ (n := 8) (S := fun w' => w'.cell? ⟨gb396, 0, none⟩ = some (.string a1_0) ∧ w'.cell? ⟨gb396, 1, none⟩ = some (.bool a1_1) ∧ w'.cell? ⟨gb396, 2, none⟩ = some (.string a1_2) ∧ w'.cell? (ad400.add (x6_1).toNat) = some (.slice A400_0 ((rd_T60 l0 x6_1).f0).length c400_0)) (ds := []) #[false, false, false, false, false, false, false, false] (by kernel_rfl) rfl rfl ⟨(blk_cell BK396.out 0).trans rfl, (blk_cell BK396.out 1).trans rfl, (blk_cell BK396.out 2).trans rfl, ((HB.out.cell (World.block_lt_of_cell? w _ hw400_0)).trans hw400_0)⟩ (fun hHeld => ?_); refine with_tabW spec_l7Runs.tab5 spec_l7Runs.bits5 (fun HT_ HW_ => ?_)
       generalize wr.drew = w11 at HO_5 BK396 HB HR400_0 hx400_0 hHeld ⊢
       refine pure_ (i := 0) (N := some 15) (v := ?_) (a' := ?_) #[true, false, false, false, false, false, false, false] rfl rfl (any_of HT_.out (by kernel_rfl)) (fun _ _ _ h => h) (Or.inl ⟨by rfl, ?_⟩) ?_ ?_
       rotate_left
       ·intro w'
        go_simp
        with_reducible rfl
       rotate_left
       ·simp only [Act.put, List.setIfInBounds_toArray, List.set_cons_zero, List.set_cons_succ, i64_w, i32_w]
        rfl
       refine pure_ (i := 1) (N := some 16) (v := ?_) (a' := ?_) #[true, true, false, false, false, false, false, false] rfl rfl (any_of HT_.out (by kernel_rfl)) (fun _ _ _ h => h) (Or.inl ⟨by rfl, ?_⟩) ?_ ?_
       rotate_left
       ·intro w'
        go_simp
        with_reducible rfl
       rotate_left
       ·simp only [Act.put, List.setIfInBounds_toArray, List.set_cons_zero, List.set_cons_succ, i64_w, i32_w]
        rfl
       refine pure_ (i := 2) (N := some 17) (v := ?_) (a' := ?_) #[true, true, true, false, false, false, false, false] rfl rfl (any_of HT_.out (by kernel_rfl)) (fun _ _ _ h => h) (Or.inl ⟨by rfl, ?_⟩) ?_ ?_
       rotate_left
       ·intro w'
        go_simp
        with_reducible rfl
       rotate_left
       ·simp only [Act.put, List.setIfInBounds_toArray, List.set_cons_zero, List.set_cons_succ, i64_w, i32_w]
        rfl
       refine pure_ (i := 3) (N := some 18) (v := ?_) (a' := ?_) #[true, true, true, true, false, false, false, false] rfl rfl (any_of HT_.out (by kernel_rfl)) (fun _ _ _ h => h) (Or.inl ⟨by rfl, ?_⟩) ?_ ?_
       rotate_left
       ·intro w'
        go_simp
        with_reducible rfl
       rotate_left
       ·simp only [Act.put, List.setIfInBounds_toArray, List.set_cons_zero, List.set_cons_succ, i64_w, i32_w]
        rfl
       refine take_ (i := 4) (N := some 19) (v := ?_) (a' := ?_) #[true, true, true, true, true, false, false, false] rfl rfl (take_ofW HT_.out HW_.out (by kernel_rfl)) (fun _ _ _ h => h) (Or.inl ⟨by rfl, ?_⟩) hHeld ?_ ?_
       rotate_left
       ·rintro w' ⟨s0, s1, s2, s3⟩
        go_simp
        with_reducible rfl
       rotate_left
       ·simp only [Act.put, List.setIfInBounds_toArray, List.set_cons_zero, List.set_cons_succ, i64_w, i32_w]
        rfl
       refine take_ (i := 5) (N := some 20) (v := ?_) (a' := ?_) #[true, true, true, true, true, true, false, false] rfl rfl (take_ofW HT_.out HW_.out (by kernel_rfl)) (fun _ _ _ h => h) (Or.inl ⟨by rfl, ?_⟩) hHeld ?_ ?_
       rotate_left
       ·rintro w' ⟨s0, s1, s2, s3⟩
        go_simp
        with_reducible rfl
       rotate_left
       ·simp only [Act.put, List.setIfInBounds_toArray, List.set_cons_zero, List.set_cons_succ, i64_w, i32_w]
        rfl
       refine one_ (i := 6) (N := some 21) #[true, true, true, true, true, true, true, false] rfl rfl (one_of HT_.out (by kernel_rfl)) (by decide) (fun K hK => ?_)
       refine goes_ Try.func47 (by kernel_rfl) rfl #[.slice A400_0 ((rd_T60 l0 x6_1).f0).length c400_0, .agg #[.string a1_0, .bool a1_1, .string a1_2]] (by rfl) rfl rfl (by (try simp only [List.map_toArray, List.map_cons, List.map_nil]); first | done | rfl | (simp only [List.length_drop, List.length_take]; rfl)) ?_
       with_reducible refine (spec_l7Part.calls k1 _ _ ((rd_T60 l0 x6_1).f0) a1_0 a1_1 a1_2 t401 _ ?side1 ?side2 A8.out).mono ?_
       (case side1 => repeat (first | exact (Kd.C_below HR400_0.out HB.out) | (with_reducible refine Kd.C_alloc ?_ _) | (with_reducible refine Kd.C_drewN ?_ _) | (with_reducible refine Kd.C_drew ?_)))
       (case side2 => exact HC400_0.out)
       rintro e w12 ⟨v402, rfl, ho0, hb⟩
       refine ⟨_, rfl, ?_⟩
       have n0_ := Aside0.mk (Kd.S_elder' (by (with_reducible repeat (first | apply Kd.S_alloc | apply Kd.S_drewN | apply Kd.S_drew)); exact HO_5.out) (Kd.R_base ho0) hb)
       have n1_ := Aside0.mk (Kd.R_lower ho0 (below_size bw))
       have n2_ := Aside0.mk (blk_below (g := gb396) (o := .cells #[.string a1_0, .bool a1_1, .string a1_2] 51 (0, 0)) (lb BK396) hb)
       have n3_ := Aside0.mk (below_step bw hb)
       clear HO_5
       clear BK396
       clear HB
       have HO_5 := n0_
       have HO403 := n1_
       have BK396 := n2_
       have HB := n3_
       clear n0_ n1_ n2_ n3_
       (try clear hb)
       (try clear hb2)
       (try clear hk)
       (try clear hi)
       (try clear ho0)
       refine hK.out _ _ ⟨(blk_cell BK396.out 0).trans rfl, (blk_cell BK396.out 1).trans rfl, (blk_cell BK396.out 2).trans rfl, ((HB.out.cell (World.block_lt_of_cell? w _ hw400_0)).trans hw400_0)⟩ (fun hHeld => ?_)
       clear hK K
       refine norm_ (a' := ?_) ?_ ?_
       rotate_left
       ·show Act.put _ (some 21) _ = _
        simp only [Act.put, List.setIfInBounds_toArray, List.set_cons_zero, List.set_cons_succ, i64_w, i32_w]
        rfl
       refine pure_ (i := 7) (N := some 7) (v := ?_) (a' := ?_) #[true, true, true, true, true, true, true, true] rfl rfl (any_of HT_.out (by kernel_rfl)) (fun _ _ _ h => h) (Or.inl ⟨by rfl, ?_⟩) ?_ ?_
       rotate_left
       ·intro w'
        go_simp
        with_reducible rfl
       rotate_left
       ·simp only [Act.put, List.setIfInBounds_toArray, List.set_cons_zero, List.set_cons_succ, i64_w, i32_w]
        rfl
       refine done_ (done_of HT_.out (by kernel_rfl)) ?_
       obtain ⟨Ao13, co13, eo13⟩ := Kd.R_slice HO403.out
       subst eo13
       try go_wp2_with (first | ((with_reducible refine gate_builtin (b := .append) (xs := #[.tmp 25, .tmp 28]) rfl ?_); at_builtin; refine Kd.S_append k60 (w0 := w) w.heap.size rfl (.tmp 25) (.tmp 28) 38 60 (.agg #[(.slice none 0 0)]) 24 rfl Try.underlying38 info60 rfl (by decide) (by omega) u5 x5_1 (⟨t401⟩ : S60) [.slice Ao13 t401.length co13] (fun _ => True) (fun k_ => some k_ = (.slice Ao13 t401.length co13 : Value).ownBlock) rfl rfl ?aP (fun k_ hk_ => ((Kd.R_mono (ok' := fun k_ => ((fun _ => True)) k_ ∧ some k_ ≠ (u5 : Value).ownBlock) (Kd.R_apart' (HO403.out) (Kd.S_typed HO_5.out) (by decide)) (fun k_ hk => ⟨trivial, hk.2⟩))).1 k_ hk_.symm) ?aF ?aO ?aB ?aS ?aL ?_; (case aP => exact k60_mkM _ _ _ (⟨t401⟩ : S60) (Kd.R_mono (Kd.R_tight rfl (Kd.R_mono (ok' := fun k_ => ((fun _ => True)) k_ ∧ some k_ ≠ (u5 : Value).ownBlock) (Kd.R_apart' (HO403.out) (Kd.S_typed HO_5.out) (by decide)) (fun k_ hk => ⟨trivial, hk.2⟩))) (fun _ h_ => h_))); (case aB => exact bw); (case aF => exact (fun _ _ => trivial)); (case aO => exact (by (with_reducible repeat (first | apply Kd.S_alloc | apply Kd.S_drewN | apply Kd.S_drew)); exact Kd.S_mono HO_5.out (fun k_ hk => ⟨trivial, fun e_ => hk.2 e_⟩))); (case aS => exact (below_size bw)); (case aL => have := LMc10.out; omega); intro v405 w14 ho hb hg hat; rw [← Ny404.out] at ho; have n0_ := Aside0.mk (blk_grown (g := gb396) (o := .cells #[.string a1_0, .bool a1_1, .string a1_2] 51 (0, 0)) (lb BK396) hg (Kd.S_ne HO_5.out BK396.out (by decide))); have n1_ := Aside0.mk (hb); have n2_ := Aside0.mk (ho); clear BK396; clear HB; clear HO_5; clear HO403; have BK396 := n0_; have HB := n1_; have HO406 := n2_; clear n0_ n1_ n2_; clear ho hb hg hat))
       go_roundg k1
       case measure => have := HK1.out; omega
       case rel => exact ⟨(y404), (wrap64 (x6_1 + 1)), (by first | rfl | (simp; done) | (simp [*]; done)), H', ⟨by have := HK1.out; omega⟩, ⟨by (with_reducible repeat (first | apply Kd.S_alloc | apply Kd.S_drewN | apply Kd.S_drew)); exact HO406.out⟩, ⟨lb BK396⟩, ⟨bw⟩⟩
      ·rw [if_neg c10] at H
       exact absurd H (by simp)
     ·rw [if_neg c9] at H
      have c9b0 : decide (0 < (t401.length : Int)) = false := decide_eq_false c9
      have c9b1 : decide (0 < t401.length) = false := decide_eq_false (by omega)
      clear c9
      have H' := Aside0.mk H
      clear H
      try go_wp2
      have n0_ := Aside0.mk (Kd.S_drew HO_5.out)
      have n1_ := Aside0.mk (blk_drew BK396.out)
      have n2_ := Aside0.mk (below_drew1 HB.out)
      clear HO_5
      clear BK396
      clear HB
      have HO_5 := n0_
      have BK396 := n1_
      have HB := n2_
      clear n0_ n1_ n2_
      have p400 : 0 ≤ (x6_1 : Int) := of_decide_eq_true (by first | (with_reducible assumption) | assumption)
      have q400 : x6_1 < (l0.length : Int) := of_decide_eq_true (by first | (with_reducible assumption) | assumption)
      obtain ⟨ad400, A400_0, c400_0, e400, hx400_0, hl400_0, hi400_0⟩ := at_T60 HR0.out x6_1 p400 q400
      have hw400_0 := hx400_0
      cases e400
      replace hx400_0 := (HB.out.cell (World.block_lt_of_cell? w _ hx400_0)).trans hx400_0
      have HR400_0 := Aside0.mk hi400_0
      have HC400_0 := Aside0.mk hl400_0
      clear hi400_0 hl400_0
      replace p400 := eq_true p400
      replace q400 := eq_true q400
      refine start_ (n := 8) (S := fun w' => w'.cell? ⟨gb396, 0, none⟩ = some (.string a1_0) ∧ w'.cell? ⟨gb396, 1, none⟩ = some (.bool a1_1) ∧ w'.cell? ⟨gb396, 2, none⟩ = some (.string a1_2) ∧ w'.cell? (ad400.add (x6_1).toNat) = some (.slice A400_0 ((rd_T60 l0 x6_1).f0).length c400_0)) (ds := []) #[false, false, false, false, false, false, false, false] (by kernel_rfl) rfl rfl ⟨(blk_cell BK396.out 0).trans rfl, (blk_cell BK396.out 1).trans rfl, (blk_cell BK396.out 2).trans rfl, ((HB.out.cell (World.block_lt_of_cell? w _ hw400_0)).trans hw400_0)⟩ (fun hHeld => ?_); refine with_tabW spec_l7Runs.tab5 spec_l7Runs.bits5 (fun HT_ HW_ => ?_)
      generalize wr.drew = w15 at HO_5 BK396 HB HR400_0 hx400_0 hHeld ⊢
      refine pure_ (i := 0) (N := some 15) (v := ?_) (a' := ?_) #[true, false, false, false, false, false, false, false] rfl rfl (any_of HT_.out (by kernel_rfl)) (fun _ _ _ h => h) (Or.inl ⟨by rfl, ?_⟩) ?_ ?_
      rotate_left
      ·intro w'
       go_simp
       with_reducible rfl
      rotate_left
      ·simp only [Act.put, List.setIfInBounds_toArray, List.set_cons_zero, List.set_cons_succ, i64_w, i32_w]
       rfl
      refine pure_ (i := 1) (N := some 16) (v := ?_) (a' := ?_) #[true, true, false, false, false, false, false, false] rfl rfl (any_of HT_.out (by kernel_rfl)) (fun _ _ _ h => h) (Or.inl ⟨by rfl, ?_⟩) ?_ ?_
      rotate_left
      ·intro w'
       go_simp
       with_reducible rfl
      rotate_left
      ·simp only [Act.put, List.setIfInBounds_toArray, List.set_cons_zero, List.set_cons_succ, i64_w, i32_w]
       rfl
      refine pure_ (i := 2) (N := some 17) (v := ?_) (a' := ?_) #[true, true, true, false, false, false, false, false] rfl rfl (any_of HT_.out (by kernel_rfl)) (fun _ _ _ h => h) (Or.inl ⟨by rfl, ?_⟩) ?_ ?_
      rotate_left
      ·intro w'
       go_simp
       with_reducible rfl
      rotate_left
      ·simp only [Act.put, List.setIfInBounds_toArray, List.set_cons_zero, List.set_cons_succ, i64_w, i32_w]
       rfl
      refine pure_ (i := 3) (N := some 18) (v := ?_) (a' := ?_) #[true, true, true, true, false, false, false, false] rfl rfl (any_of HT_.out (by kernel_rfl)) (fun _ _ _ h => h) (Or.inl ⟨by rfl, ?_⟩) ?_ ?_
      rotate_left
      ·intro w'
       go_simp
       with_reducible rfl
      rotate_left
      ·simp only [Act.put, List.setIfInBounds_toArray, List.set_cons_zero, List.set_cons_succ, i64_w, i32_w]
       rfl
      refine take_ (i := 4) (N := some 19) (v := ?_) (a' := ?_) #[true, true, true, true, true, false, false, false] rfl rfl (take_ofW HT_.out HW_.out (by kernel_rfl)) (fun _ _ _ h => h) (Or.inl ⟨by rfl, ?_⟩) hHeld ?_ ?_
      rotate_left
      ·rintro w' ⟨s0, s1, s2, s3⟩
       go_simp
       with_reducible rfl
      rotate_left
      ·simp only [Act.put, List.setIfInBounds_toArray, List.set_cons_zero, List.set_cons_succ, i64_w, i32_w]
       rfl
      refine take_ (i := 5) (N := some 20) (v := ?_) (a' := ?_) #[true, true, true, true, true, true, false, false] rfl rfl (take_ofW HT_.out HW_.out (by kernel_rfl)) (fun _ _ _ h => h) (Or.inl ⟨by rfl, ?_⟩) hHeld ?_ ?_
      rotate_left
      ·rintro w' ⟨s0, s1, s2, s3⟩
       go_simp
       with_reducible rfl
      rotate_left
      ·simp only [Act.put, List.setIfInBounds_toArray, List.set_cons_zero, List.set_cons_succ, i64_w, i32_w]
       rfl
      refine one_ (i := 6) (N := some 21) #[true, true, true, true, true, true, true, false] rfl rfl (one_of HT_.out (by kernel_rfl)) (by decide) (fun K hK => ?_)
      refine goes_ Try.func47 (by kernel_rfl) rfl #[.slice A400_0 ((rd_T60 l0 x6_1).f0).length c400_0, .agg #[.string a1_0, .bool a1_1, .string a1_2]] (by rfl) rfl rfl (by (try simp only [List.map_toArray, List.map_cons, List.map_nil]); first | done | rfl | (simp only [List.length_drop, List.length_take]; rfl)) ?_
      with_reducible refine (spec_l7Part.calls k1 _ _ ((rd_T60 l0 x6_1).f0) a1_0 a1_1 a1_2 t401 _ ?side1 ?side2 A8.out).mono ?_
      (case side1 => repeat (first | exact (Kd.C_below HR400_0.out HB.out) | (with_reducible refine Kd.C_alloc ?_ _) | (with_reducible refine Kd.C_drewN ?_ _) | (with_reducible refine Kd.C_drew ?_)))
      (case side2 => exact HC400_0.out)
      rintro e w16 ⟨v402, rfl, ho0, hb⟩
      refine ⟨_, rfl, ?_⟩
      have n0_ := Aside0.mk (Kd.S_elder' (by (with_reducible repeat (first | apply Kd.S_alloc | apply Kd.S_drewN | apply Kd.S_drew)); exact HO_5.out) (Kd.R_base ho0) hb)
      have n1_ := Aside0.mk (Kd.R_lower ho0 (below_size bw))
      have n2_ := Aside0.mk (blk_below (g := gb396) (o := .cells #[.string a1_0, .bool a1_1, .string a1_2] 51 (0, 0)) (lb BK396) hb)
      have n3_ := Aside0.mk (below_step bw hb)
      clear HO_5
      clear BK396
      clear HB
      have HO_5 := n0_
      have HO403 := n1_
      have BK396 := n2_
      have HB := n3_
      clear n0_ n1_ n2_ n3_
      (try clear hb)
      (try clear hb2)
      (try clear hk)
      (try clear hi)
      (try clear ho0)
      refine hK.out _ _ ⟨(blk_cell BK396.out 0).trans rfl, (blk_cell BK396.out 1).trans rfl, (blk_cell BK396.out 2).trans rfl, ((HB.out.cell (World.block_lt_of_cell? w _ hw400_0)).trans hw400_0)⟩ (fun hHeld => ?_)
      clear hK K
      refine norm_ (a' := ?_) ?_ ?_
      rotate_left
      ·show Act.put _ (some 21) _ = _
       simp only [Act.put, List.setIfInBounds_toArray, List.set_cons_zero, List.set_cons_succ, i64_w, i32_w]
       rfl
      refine pure_ (i := 7) (N := some 7) (v := ?_) (a' := ?_) #[true, true, true, true, true, true, true, true] rfl rfl (any_of HT_.out (by kernel_rfl)) (fun _ _ _ h => h) (Or.inl ⟨by rfl, ?_⟩) ?_ ?_
      rotate_left
      ·intro w'
       go_simp
       with_reducible rfl
      rotate_left
      ·simp only [Act.put, List.setIfInBounds_toArray, List.set_cons_zero, List.set_cons_succ, i64_w, i32_w]
       rfl
      refine done_ (done_of HT_.out (by kernel_rfl)) ?_
      obtain ⟨Ao17, co17, eo17⟩ := Kd.R_slice HO403.out
      subst eo17
      try go_wp2
      go_roundg k1
      case measure => have := HK1.out; omega
      case rel => exact ⟨(x5_1), (wrap64 (x6_1 + 1)), (by first | rfl | (simp; done) | (simp [*]; done)), H', ⟨by have := HK1.out; omega⟩, ⟨by (with_reducible repeat (first | apply Kd.S_alloc | apply Kd.S_drewN | apply Kd.S_drew)); exact Kd.S_mono HO_5.out (fun _ hk => trivial)⟩, ⟨lb BK396⟩, ⟨bw⟩⟩
    ·rw [if_neg c7] at H
     exact absurd H (by simp)
   ·rw [if_neg c6] at H
    have c6b0 : decide (x6_1 < (l0.length : Int)) = false := decide_eq_false c6
    clear c6
    obtain rfl := Option.some.inj H
    go_wp2
    go_ret
    exact ⟨_, by first | rfl | (simp [errW_none, errW_some] <;> rfl) | (simp [*, errW_none, errW_some] <;> rfl), by (with_reducible repeat (first | apply Kd.S_alloc | apply Kd.S_drewN | apply Kd.S_drew)); exact HO_5.out, bw⟩

end Go.Proofs.Ytjlggfdmfchncaa.Q

namespace Go.Proofs.Ytjlggfdmfchncaa.Q
open Go.RowKit Go.Proofs.YtjlggfdmfchncaaW.PrintWords Go.Proofs.YtjlggfdmfchncaaW.PrintLast
set_option linter.unusedVariables false
set_option linter.unusedSimpArgs false
/-- What passes is appended. -/
theorem flt_all {α β γ : Type} (xs : List α) (z : α) (V : Nat → α → Option γ) (c : γ → Prop) [DecidablePred c] (mk : γ → α → β) (v : α → γ) (M : Nat) (L : Nat → List β → Int → Option (List β))
    (hL : ∀ k acc (i : Nat), i < xs.length → L (k + 1) acc i = (V k (xs.getD i z)).bind fun t => if c t then (if acc.length < M then L k (acc ++ [mk t (xs.getD i z)]) ((i + 1 : Nat) : Int) else none) else L k acc ((i + 1 : Nat) : Int))
    (hE : ∀ k acc, L (k + 1) acc (xs.length : Int) = some acc) (hV : ∀ x ∈ xs, Ev (fun k => V k x) (v x)) :
    ∀ (rest pre : List α) (acc : List β), xs = pre ++ rest → acc.length + rest.length ≤ M → Ev (fun k => L k acc (pre.length : Int)) (acc ++ rest.filterMap fun x => if c (v x) then some (mk (v x) x) else none) := by
  intro rest
  induction rest with
  | nil => intro pre acc e hM; exact Ev.shift 1 fun k => by rw [show pre.length = xs.length by rw [e]; simp, hE]; simp
  | cons x rest ih =>
    intro pre acc e hM
    rw [List.length_cons] at hM
    have hlt : pre.length < xs.length := by rw [e]; exact len_cut _ _ _
    have hx : xs.getD pre.length z = x := by rw [e, getD_cut]
    refine Ev.round (f := fun k => (V k x).bind fun t => if c t then (if acc.length < M then L k (acc ++ [mk t x]) ((pre.length + 1 : Nat) : Int) else none) else L k acc ((pre.length + 1 : Nat) : Int)) (fun k => by rw [hL _ _ _ hlt, hx]) (Ev.bind (hV x (by rw [e]; simp)) ?_)
    by_cases hc : c (v x)
    · have h := ih (pre ++ [x]) (acc ++ [mk (v x) x]) (by simp [e]) (by rw [List.length_append, List.length_singleton]; omega)
      rw [List.length_append, List.length_singleton] at h
      rw [List.filterMap_cons, if_pos hc]
      refine Ev.if_pos hc (Ev.if_pos (by omega) ?_)
      simpa using h
    · have h := ih (pre ++ [x]) acc (by simp [e]) (by omega)
      rw [List.length_append, List.length_singleton] at h
      rw [List.filterMap_cons, if_neg hc]
      exact Ev.if_neg hc (by simpa using h)
def partE (lo : ByteArray) (has : Bool) (hi : ByteArray) (es : List S65) : List S65 := es.filterMap fun x => if inR lo has hi x.f0 = true then some x else none
def partRs (lo : ByteArray) (has : Bool) (hi : ByteArray) (rs : List IR) : List IR := rs.filterMap fun r => if ((partE lo has hi r.f0).length : Int) > 0 then some ⟨partE lo has hi r.f0⟩ else none
theorem partE_len (lo : ByteArray) (has : Bool) (hi : ByteArray) (es : List S65) : (partE lo has hi es).length ≤ es.length := List.length_filterMap_le _ _
theorem partRs_len (lo : ByteArray) (has : Bool) (hi : ByteArray) (rs : List IR) : (partRs lo has hi rs).length ≤ rs.length := List.length_filterMap_le _ _
theorem partRs_small {lo : ByteArray} {has : Bool} {hi : ByteArray} {rs : List IR} (hq : ∀ q ∈ rs, q.f0.length ≤ 1048576) : ∀ q ∈ partRs lo has hi rs, q.f0.length ≤ 1048576 := by
  intro q hq'
  obtain ⟨r, hr, he⟩ := List.mem_filterMap.1 hq'
  split at he
  · cases he
    exact Nat.le_trans (partE_len lo has hi r.f0) (hq r hr)
  · cases he
theorem specPart_is (lo : ByteArray) (has : Bool) (hi : ByteArray) (es : List S65) (hl : es.length ≤ 1048576) : Ev (fun k => spec_l7Part.f k es lo has hi) (partE lo has hi es) :=
  flt_all es z65 (fun k x => spec_InRange.f lo has hi x.f0) (fun t => t = true) (fun _ x => x) (fun x => inR lo has hi x.f0) 1759218604441 (fun k acc i => spec_l7Part.l0 k es acc i lo has hi)
    (fun k acc i h => by simp only [spec_l7Part.l0]; rw [if_pos (by omega), if_pos (by omega), wrap_nat _ (by omega)]; rfl)
    (fun k acc => by simp only [spec_l7Part.l0]; rw [if_neg (by omega)]) (fun x hx => Ev.of_all fun k => specInRange_is _ _ _ _) es [] [] rfl (by simp; omega)
theorem implPart_is (lo : ByteArray) (has : Bool) (hi : ByteArray) (es : List S65) (hl : es.length ≤ 1048576) : Ev (fun k => impl_part.f k es lo has hi) (partE lo has hi es) :=
  flt_all es z65 (fun k x => impl_InRange.f lo has hi x.f0) (fun t => t = true) (fun _ x => x) (fun x => inR lo has hi x.f0) 1759218604441 (fun k acc i => impl_part.l0 k acc es (es.length : Int) i lo has hi)
    (fun k acc i h => by simp only [impl_part.l0]; rw [if_pos (by omega), if_pos (by omega), if_pos (by omega), wrap_nat _ (by omega)]; rfl)
    (fun k acc => by simp only [impl_part.l0]; rw [if_neg (by omega)]) (fun x hx => Ev.of_all fun k => implInRange_is _ _ _ _) es [] [] rfl (by simp; omega)
theorem specRuns_is (lo : ByteArray) (has : Bool) (hi : ByteArray) (rs : List IR) (hl : rs.length ≤ 1048576) (hq : ∀ q ∈ rs, q.f0.length ≤ 1048576) : Ev (fun k => spec_l7Runs.f k rs lo has hi) (partRs lo has hi rs) :=
  flt_all rs z60 (fun k x => spec_l7Part.f k x.f0 lo has hi) (fun t => (t.length : Int) > 0) (fun t _ => (⟨t⟩ : IR)) (fun x => partE lo has hi x.f0) 5864062014805 (fun k acc i => spec_l7Runs.l0 k rs acc i lo has hi)
    (fun k acc i h => by simp only [spec_l7Runs.l0]; rw [if_pos (by omega), if_pos (by omega), wrap_nat _ (by omega)]; rfl)
    (fun k acc => by simp only [spec_l7Runs.l0]; rw [if_neg (by omega)]) (fun x hx => specPart_is lo has hi x.f0 (hq x hx)) rs [] [] rfl (by simp; omega)
theorem implRuns_is (lo : ByteArray) (has : Bool) (hi : ByteArray) (rs : List IR) (hl : rs.length ≤ 1048576) (hq : ∀ q ∈ rs, q.f0.length ≤ 1048576) : Ev (fun k => impl_partRuns.f k rs lo has hi) (partRs lo has hi rs) :=
  flt_all rs z60 (fun k x => impl_part.f k x.f0 lo has hi) (fun t => (t.length : Int) > 0) (fun t _ => (⟨t⟩ : IR)) (fun x => partE lo has hi x.f0) 5864062014805 (fun k acc i => impl_partRuns.l0 k acc rs (rs.length : Int) i lo has hi)
    (fun k acc i h => by simp only [impl_partRuns.l0]; rw [if_pos (by omega), if_pos (by omega), if_pos (by omega), wrap_nat _ (by omega)]; rfl)
    (fun k acc => by simp only [impl_partRuns.l0]; rw [if_neg (by omega)]) (fun x hx => implPart_is lo has hi x.f0 (hq x hx)) rs [] [] rfl (by simp; omega)
theorem iruns_call (A : Option Addr) (c : Nat) (rs : List IR) (lo : ByteArray) (has : Bool) (hi : ByteArray) (w : World) (hr : Kd.C k60 w A rs.length rs) (hc : rs.length ≤ c) (hl : rs.length ≤ 1048576) (hq : ∀ q ∈ rs, q.f0.length ≤ 1048576) :
    Calls Try.prog 29 #[.slice A rs.length c, .agg #[.string lo, .bool has, .string hi]] w fun e w' => ∃ v, e = .returned v ∧ Kd.S k60 60 w' w.heap.size (fun _ => True) v (partRs lo has hi rs) ∧ Below w.heap.size w w' := by
  obtain ⟨K, hK⟩ := implRuns_is lo has hi rs hl hq
  exact impl_partRuns.calls K A c rs lo has hi _ w hr hc (hK K (Nat.le_refl _))
theorem sruns_call (A : Option Addr) (c : Nat) (rs : List IR) (lo : ByteArray) (has : Bool) (hi : ByteArray) (w : World) (hr : Kd.C k60 w A rs.length rs) (hc : rs.length ≤ c) (hl : rs.length ≤ 1048576) (hq : ∀ q ∈ rs, q.f0.length ≤ 1048576) :
    Calls Try.prog 28 #[.slice A rs.length c, .agg #[.string lo, .bool has, .string hi]] w fun e w' => ∃ v, e = .returned v ∧ Kd.S k60 60 w' w.heap.size (fun _ => True) v (partRs lo has hi rs) ∧ Below w.heap.size w w' := by
  obtain ⟨K, hK⟩ := specRuns_is lo has hi rs hl hq
  exact spec_l7Runs.calls K A c rs lo has hi _ w hr hc (hK K (Nat.le_refl _))
/-! what a split gives -/
def staysS (ts : List IT) (row : ByteArray) : Prop := vstore ts = false ∨ row.toList = [] ∨ 64 < row.size ∨ ts.length = 100
def splitAt (ts : List IT) (i : Nat) (row : ByteArray) : List IT := ts.take i ++ [⟨(tA ts i).f0, partRs ⟨#[]⟩ true row (tA ts i).f1⟩, ⟨row, partRs row false ⟨#[]⟩ (tA ts i).f1⟩] ++ ts.drop (i + 1)
def Splits (ts : List IT) (row : ByteArray) (r : List IT) : Prop := (staysS ts row ∧ r = ts) ∨ (¬ staysS ts row ∧ ∃ i, Holds ts row i ∧ (((tA ts i).f0.toList = row.toList ∧ r = ts) ∨ ((tA ts i).f0.toList ≠ row.toList ∧ r = splitAt ts i row)))
theorem split_one {ts r r' : List IT} {row : ByteArray} (h : Splits ts row r) (h' : Splits ts row r') : r = r' := by
  rcases h with ⟨h, rfl⟩ | ⟨h, i, hi, h1⟩ <;> rcases h' with ⟨h', rfl⟩ | ⟨h', j, hj, h2⟩
  · rfl
  · exact absurd h h'
  · exact absurd h' h
  · obtain rfl := holds_one hi hj
    rcases h1 with ⟨h1, rfl⟩ | ⟨h1, rfl⟩ <;> rcases h2 with ⟨h2, rfl⟩ | ⟨h2, rfl⟩
    · rfl
    · exact absurd h1 h2
    · exact absurd h2 h1
    · rfl
theorem tA_mem {ts : List IT} {i : Nat} (hi : i < ts.length) : tA ts i ∈ ts := by
  unfold tA rd_T40
  rw [Int.toNat_natCast, List.getD_eq_getElem?_getD, List.getElem?_eq_getElem hi]
  exact List.getElem_mem hi
theorem split_rows {ts r : List IT} {row : ByteArray} (h : Splits ts row r) (hs : SmS ts) : r.length ≤ 1048576 ∧ ∀ x ∈ r, x.f1.length ≤ 1048576 ∧ ∀ q ∈ x.f1, q.f0.length ≤ 1048576 := by
  rcases h with ⟨h, rfl⟩ | ⟨h, i, hi, ⟨h1, rfl⟩ | ⟨h1, rfl⟩⟩
  · exact hs
  · exact hs
  · have hm := hs.2 _ (tA_mem hi.1)
    have hv : vstore ts = true := by
      cases hv : vstore ts
      · exact absurd (.inl hv) h
      · rfl
    have h100 : ts.length ≤ 100 := by unfold vstore at hv; simp at hv; omega
    refine ⟨by unfold splitAt; simp; omega, fun x hx => ?_⟩
    unfold splitAt at hx
    rcases List.mem_append.1 hx with hx | hx
    · rcases List.mem_append.1 hx with hx | hx
      · exact hs.2 x (List.mem_of_mem_take hx)
      · simp at hx
        rcases hx with rfl | rfl
        · exact ⟨Nat.le_trans (partRs_len _ _ _ _) hm.1, partRs_small hm.2⟩
        · exact ⟨Nat.le_trans (partRs_len _ _ _ _) hm.1, partRs_small hm.2⟩
    · exact hs.2 x (List.mem_of_mem_drop hx)
end Go.Proofs.Ytjlggfdmfchncaa.Q

namespace Go.Proofs.Ytjlggfdmfchncaa.Q
open Go.RowKit Go.Proofs.YtjlggfdmfchncaaW.PrintWords Go.Proofs.YtjlggfdmfchncaaW.PrintLast Go.Proofs.YtjlggfdmfchncaaW.PrintMore
set_option linter.unusedVariables false
set_option linter.unusedSimpArgs false
theorem below_kept1 {w0 w W : World} {r : Option Nat} (h0 : Below w0.heap.size w0 w) (hg : w.grownBy W r) (hr : ∀ k, r = some k → w0.heap.size ≤ k) : Below w0.heap.size w0 W :=
  ⟨hg.os.trans h0.os, hg.tape.trans h0.tape, hg.output.trans h0.output, Nat.le_trans h0.size hg.size, fun k hk => (hg.block k (Nat.lt_of_lt_of_le hk h0.size) (fun he => by have := hr k he.symm; omega)).trans (h0.block k hk)⟩
theorem toTablet_is (x : LT) (h : bT x) : Ev (fun k => laws_toTablet.f k x.f0 x.f1) (x.f0, x.f1.map cvR) := Ev.bind (toRunS_is x.f1 h.1 h.2) (Ev.now _)
set_option maxHeartbeats 8000000 in
set_option maxRecDepth 100000 in
theorem toTabS_call (A : Option Addr) (c : Nat) (l : List LT) (w : World) (hr : Kd.C k56 w A l.length l) (hc : l.length ≤ c) (hl : l.length ≤ 1048576) (hq : ∀ q ∈ l, bT q) :
    Calls Try.prog 20 #[.slice A l.length c] w fun e w' => ∃ v, e = .returned v ∧ Kd.S kTb 40 w' w.heap.size (fun _ => True) v (l.map cvT) ∧ Below w.heap.size w w' := by
  have kr : K0 (Below w.heap.size w w) := ⟨Below.refl _ _⟩
  have HR := Aside0.mk (And.intro hr (And.intro hc (And.intro hl hq)))
  obtain ⟨n, hn⟩ : ∃ n, l.length = n := ⟨_, rfl⟩
  rw [hn] at hr ⊢
  have HR0 := Aside0.mk hr
  have HN := Aside0.mk hn
  have d1 : decide (0 ≤ (n : Int)) = true := decide_eq_true (by omega)
  have d2 : decide ((n : Int).toNat ≤ 7036874417766) = true := decide_eq_true (by omega)
  clear hr hc hl hq hn
  go_enter Try.func20, Try.ntmps20
  go_wp2_with ((with_reducible refine gate_dst (N := 7) rfl ?_); refine Kd.S_make kTb (w0 := w) w.heap.size 40 rfl (N := 7) rfl 26 _ _ rfl (n : Int) rfl rfl Try.underlying26 (.agg #[(.string ⟨#[]⟩), (.slice none 0 0)]) 40 info40 rfl (by decide) (by omega) z40 (ok := fun _ => True) (okp := fun _ => True) (kTb_mkM _ _ _ z40 (Kd.S_nil _ _ _ _ _)) (fun _ hk => hk) trivial (by omega) (by have := HR.out.2.2.1; have := HN.out; omega) (Below.refl _ _) (Nat.le_refl _) ?_; intro v1 w1 ho hb hg hat; obtain ⟨A1, c1, e1⟩ := Kd.S_slice ho; rw [List.length_replicate, Int.toNat_natCast] at e1; subst e1; rw [Int.toNat_natCast] at ho; have HG := Aside0.mk (And.intro ho hb); clear ho hb hg hat)
  have HS0 := Aside0.mk (show Kd.S kTb 40 w1 w.heap.size (fun _ => True) (.slice A1 n c1) ((l.take 0).map cvT ++ List.replicate (n - 0) z40) from HG.out.1)
  have HB0 := Aside0.mk HG.out.2
  clear HG
  go_loopw [4] (fun v4 W => ∃ (j : Nat), j ≤ n ∧ v4 = .int .i64 j ∧ Aside0 (Kd.S kTb 40 W w.heap.size (fun _ => True) (.slice A1 n c1) ((l.take j).map cvT ++ List.replicate (n - j) z40)) ∧ Aside0 (Below w.heap.size w W)) (fun v4 _ => n - (intOf v4).toNat)
  case atStart => exact ⟨0, by omega, rfl, HS0, HB0⟩
  case round =>
    clear HS0 HB0
    obtain ⟨j, hj, rfl, HS, HB⟩ := hrel
    have kW : K0 (Below w.heap.size w wr) := ⟨HB.out⟩
    by_cases hlt : j < n
    · have dl : decide ((j : Int) < (n : Int)) = true := decide_eq_true (by omega)
      have hwj : IntKind.i64.wrap ((j : Int) + 1) = ((j + 1 : Nat) : Int) := by have := HR.out.2.2.1; have := HN.out; rw [IntKind.wrap_i64]; omega
      obtain ⟨ad, A0, c0, e0, y0, y1, hc0, hC0⟩ := at_T56 HR0.out (j : Int) (by omega) (by omega)
      subst e0
      obtain ⟨x, hX⟩ : ∃ x, rd_T56 l (j : Int) = x := ⟨_, rfl⟩
      have hxj : l[j]? = some x := by rw [← hX]; unfold rd_T56; rw [Int.toNat_natCast, List.getD_eq_getElem?_getD]; have := HN.out; simp [show j < l.length by omega]
      rw [hX] at y0 y1 hc0 hC0
      rw [Int.toNat_natCast] at y0 y1
      have y0 := clk y0
      have y1 := clk y1
      have htk : (l.take (j + 1)).map cvT = (l.take j).map cvT ++ [cvT x] := by rw [List.take_add_one, hxj]; simp
      have hlen : ((l.take j).map cvT).length = j := by rw [List.length_map, List.length_take]; have := HN.out; omega
      have hrep : List.replicate (n - j) z40 = z40 :: List.replicate (n - (j + 1)) z40 := by rw [show n - j = (n - (j + 1)) + 1 by omega]; rfl
      have hbx : bT x := HR.out.2.2.2 x (List.mem_of_getElem? hxj)
      obtain ⟨K, hK⟩ := toTablet_is x hbx
      have HC := Aside0.mk (laws_toTablet.calls K x.f0 A0 c0 x.f1 x.f0 (x.f1.map cvR) wr (Kd.C_below hC0 HB.out) hc0 (hK K (Nat.le_refl _)))
      have HX := Aside0.mk (And.intro htk (And.intro hlen hrep))
      clear hc0 hC0 hX hxj htk hlen hrep hbx hK
      go_wp2_with fail
      refine HC.out.mono ?_
      rintro ex W1 ⟨v1, rfl, hR, hb⟩
      obtain ⟨A2, c2, rfl⟩ := Kd.S_slice hR
      obtain ⟨g, cap, e4, hgB, hgl, -⟩ := Kd.S_form HS.out (by rw [HX.out.2.2, List.length_append, List.length_cons]; omega)
      injection e4 with e5 e6 e7
      clear e6 e7
      subst e5
      have hS1 := Kd.S_below (Kd.S_mono (ok' := fun k => True ∧ ¬ (wr.heap.size ≤ k)) (Kd.S_bound HS.out) (fun k hk => ⟨trivial, by have := hk.2.2.1; omega⟩)) hb
      obtain ⟨oki, cs, hcl, hM, hcc, hfr, hoki, hH⟩ := Kd.S_elem hS1 z40 (j : Int) (by omega) (by omega)
      obtain ⟨v0, rfl, hR0⟩ := kTb_openM hM
      rw [Int.toNat_natCast] at hcc hfr
      have q0 : W1.cell? ⟨g, j * 2, none⟩ = some (.string _) := hcc 0 _ rfl
      have q1 : W1.cell? ⟨g, j * 2 + 1, none⟩ = some v0 := hcc 1 _ rfl
      have f0 : W1.frozen? ⟨g, j * 2, none⟩ = false := hfr 0
      have f1 : W1.frozen? ⟨g, j * 2 + 1, none⟩ = false := hfr 1
      obtain ⟨hS2, hg2⟩ := Kd.S_seg hH (by omega) (by omega) (seg := [.string x.f0, .slice A2 (x.f1.map cvR).length c2]) (j := 0) (show 0 + 2 ≤ 2 by omega) (x' := cvT x) (okp := fun k => wr.heap.size ≤ k)
        (kTb_mkM W1 w.heap.size (fun k => wr.heap.size ≤ k) (cvT x) (Kd.S_lower (Kd.S_mono (ok' := fun k => wr.heap.size ≤ k) (Kd.S_bound hR) (fun k hk => hk.2.1)) HB.out.size)) (fun k hk => .inr hk) (fun k hk => ⟨trivial, by omega⟩)
      have hset : ((l.take j).map cvT ++ List.replicate (n - j) z40).set (j : Int).toNat (cvT x) = (l.take (j + 1)).map cvT ++ List.replicate (n - (j + 1)) z40 := by rw [Int.toNat_natCast, HX.out.2.2, HX.out.1, List.set_append_right _ _ (by have := HX.out.2.1; omega), HX.out.2.1, Nat.sub_self, List.set_cons_zero]; simp
      have hw : W1.setCells g ((j : Int).toNat * kTb.sz + 0) [.string x.f0, .slice A2 (x.f1.map cvR).length c2] = (W1.setCell ⟨g, j * 2, none⟩ (.string x.f0)).setCell ⟨g, j * 2 + 1, none⟩ (.slice A2 x.f1.length c2) := by rw [Int.toNat_natCast, List.length_map]; rfl
      rw [hset, hw] at hS2
      rw [hw] at hg2
      have hB1 : Below w.heap.size w W1 := HB.out.trans (hb.mono HB.out.size)
      have HY := Aside0.mk (And.intro hS2 (below_kept1 hB1 hg2 (fun k hk => by cases hk; exact hgB)))
      clear hcl hM hcc hfr hoki hH hS1 hR0 hset hw hS2 hg2 hB1 hR hb HS
      go_wp2_with fail
      go_roundw
      case measure => simp only [intOf]; omega
      case rel => exact ⟨j + 1, by omega, by rw [Int.natCast_add]; rfl, ⟨HY.out.1⟩, ⟨HY.out.2⟩⟩
    · obtain rfl : j = n := by omega
      have dl : decide ((j : Int) < (j : Int)) = false := decide_eq_false (by omega)
      go_wp2
      go_ret
      refine ⟨_, rfl, ?_, HB.out⟩
      have h := HS.out
      rw [Nat.sub_self, show l.take j = l from by rw [← HN.out]; exact List.take_length] at h
      simpa using h
set_option maxHeartbeats 4000000 in
set_option maxRecDepth 100000 in
theorem toStore_call (A : Option Addr) (c : Nat) (l : List LT) (w : World) (hr : Kd.C k56 w A l.length l) (hc : l.length ≤ c) (hl : l.length ≤ 1048576) (hq : ∀ q ∈ l, bT q) :
    Calls Try.prog 7 #[.agg #[.slice A l.length c]] w fun e w' => ∃ v, e = .returned (.agg #[v]) ∧ Kd.S kTb 40 w' w.heap.size (fun _ => True) v (l.map cvT) ∧ Below w.heap.size w w' := by
  have kr : K0 (Below w.heap.size w w) := ⟨Below.refl _ _⟩
  obtain ⟨wb, hwb⟩ : ∃ wb, wb = ((w.alloc (.cells #[.slice A l.length c] 24)).alloc (.cells #[.slice none 0 0] 28)).alloc (.cells #[.slice none 0 0] 28) := ⟨_, rfl⟩
  have hb0 : Below w.heap.size w wb := hwb ▸ kk
  have h1 : wb.heap[w.heap.size]? = some (.cells #[.slice A l.length c] 24 (0, 0)) := hwb ▸ blk_alloc (blk_alloc (heap_alloc_new w _) _) _
  have h2 : wb.heap[w.heap.size + 1]? = some (.cells #[.slice none 0 0] 28 (0, 0)) := hwb ▸ old1 w _ _ _
  have h3 : wb.heap[w.heap.size + 1 + 1]? = some (.cells #[.slice none 0 0] 28 (0, 0)) := hwb ▸ new2 w _ _ _
  have y0 : wb.cell? ⟨w.heap.size, 0, none⟩ = some (.slice A l.length c) := (blk_cell h1 0).trans rfl
  have HC := Aside0.mk (And.intro hb0 (And.intro (toTabS_call A c l wb (Kd.C_below hr hb0) hc hl hq) (And.intro h2 h3)))
  clear hr hc hl hq hb0 h1 h2 h3
  go_enter Try.func7, Try.ntmps7
  go_wp2_with fail
  rw [← hwb]
  clear hwb
  refine HC.out.2.1.mono ?_
  rintro ex W1 ⟨v, rfl, hS, hb⟩
  have h2 := (hb.block _ (blk_lt HC.out.2.2.1)).trans HC.out.2.2.1
  have h3 := (hb.block _ (blk_lt HC.out.2.2.2)).trans HC.out.2.2.2
  have q0 : W1.cell? ⟨w.heap.size + 1, 0, none⟩ = some (.slice none 0 0) := (blk_cell h2 0).trans rfl
  have q1 : W1.cell? ⟨w.heap.size + 1 + 1, 0, none⟩ = some (.slice none 0 0) := (blk_cell h3 0).trans rfl
  have f0 := blk_frozen h2 0
  have f1 := blk_frozen h3 0
  have hlt := blk_lt HC.out.2.2.2
  have HY := Aside0.mk (And.intro (Kd.S_mono (ok' := fun k => k ≠ w.heap.size + 1 ∧ k ≠ w.heap.size + 1 + 1) (Kd.S_bound hS) (fun k hk => by have := hk.2.1; omega)) (And.intro (HC.out.1.trans (hb.mono HC.out.1.size)) (And.intro h2 h3)))
  clear hS hb h2 h3 hlt
  obtain ⟨A1, c1, rfl⟩ := Kd.S_slice HY.out.1
  go_wp2_with fail
  have hS := HY.out.1
  rw [List.length_map] at hS
  have b1 := blk_put (blk_far HY.out.2.2.1 (p := ⟨w.heap.size + 1 + 1, 0, none⟩) (show w.heap.size + 1 ≠ w.heap.size + 1 + 1 by omega) (.slice A1 l.length c1)) 0 (.slice A1 l.length c1) (cs' := #[.slice A1 l.length c1]) rfl
  refine bodyPost_ret (results_cell_row rfl _ _ (w.heap.size + 1) 28 _ (0, 0) _ rfl b1 Try.underlying28 rfl (by kernel_rfl)) rfl ⟨_, rfl, Kd.S_mono (Kd.S_far (p := ⟨w.heap.size + 1, 0, none⟩) (Kd.S_far (p := ⟨w.heap.size + 1 + 1, 0, none⟩) (Kd.S_lower hS HC.out.1.size) (fun k hk => hk.2) _) (fun k hk => hk.1) _) (fun _ _ => trivial), (HY.out.2.1.setCell (p := ⟨w.heap.size + 1 + 1, 0, none⟩) (by show w.heap.size ≤ w.heap.size + 1 + 1; omega) _).setCell (p := ⟨w.heap.size + 1, 0, none⟩) (by show w.heap.size ≤ w.heap.size + 1; omega) _⟩
end Go.Proofs.Ytjlggfdmfchncaa.Q

namespace Go.Proofs.Ytjlggfdmfchncaa.Q
open Go.RowKit Go.Proofs.YtjlggfdmfchncaaW.PrintWords Go.Proofs.YtjlggfdmfchncaaW.PrintLast Go.Proofs.YtjlggfdmfchncaaW.PrintMore
set_option linter.unusedVariables false
set_option linter.unusedSimpArgs false
theorem splitAt_set {ts : List IT} {i : Nat} (hi : i < ts.length) (row : ByteArray) (y z : IT) : (ts.set i y).take (i + 1) ++ [z] ++ (ts.set i y).drop (i + 1) = ts.take i ++ [y, z] ++ ts.drop (i + 1) := by
  have hl : (ts.take i).length = i := by rw [List.length_take]; omega
  rw [List.set_eq_take_append_cons_drop, if_pos hi]
  have h1 : (ts.take i ++ y :: ts.drop (i + 1)).take (i + 1) = ts.take i ++ [y] := by
    rw [List.take_append, hl, List.take_of_length_le (by omega), show i + 1 - i = 1 by omega]; rfl
  have h2 : (ts.take i ++ y :: ts.drop (i + 1)).drop (i + 1) = ts.drop (i + 1) := by
    rw [List.drop_append, hl, List.drop_of_length_le (by omega), show i + 1 - i = 1 by omega]; rfl
  rw [h1, h2]
  simp
/-- A tablet put in among others: what the row is behind it all. -/
theorem split_end {W7 w3 : World} {base g n c g' k : Nat} {us : List IT} {rows : List (List Value)} {f : Nat → Nat} {ok new : Nat → Prop} {x2 : IT} {v2 : Value}
    (hM : ∀ m x, us[m]? = some x → ∃ cm, rows[m]? = some cm ∧ kTb.M W7 base (fun b => (ok b ∧ b ≠ g) ∧ f b = m) x cm) (hl : rows.length = us.length) (hk : k ≤ us.length)
    (hon : ∀ b, ok b → ¬ new b) (hS2 : Kd.S k60 60 W7 base new v2 x2.f1) (hng : ∀ b, new b → b ≠ g) (hgok : ok g) (hgs : g < W7.heap.size)
    (hl' : g' = g ∨ W7.heap.size ≤ g') (hgr : W7.grownBy w3 (some g))
    (hR3 : (Kd.raw 2).R 40 w3 base (fun _ => True) (.slice (some ⟨g', 0, none⟩) n c) (rows.take k ++ [[.string x2.f0, v2]] ++ rows.drop k)) :
    Kd.S kTb 40 w3 base (fun b => ok b ∨ new b ∨ W7.heap.size ≤ b) (.slice (some ⟨g', 0, none⟩) n c) (us.take k ++ [x2] ++ us.drop k) := by
  classical
  have hown : ∀ b, (Value.slice (some ⟨g', 0, none⟩) n c).ownBlock = some b ↔ b = g' := fun b => by simp [Value.ownBlock]; exact eq_comm
  have hne : ∀ b, b ≠ g → b < W7.heap.size → some b ≠ (Value.slice (some ⟨g', 0, none⟩) n c).ownBlock := fun b h1 h2 e => by
    have := (hown b).1 e.symm
    rcases hl' with h | h <;> omega
  have move : ∀ m x cm, kTb.M W7 base (fun b => (ok b ∧ b ≠ g) ∧ f b = m) x cm → kTb.M w3 base (fun b => ((ok b ∧ b ≠ g) ∧ f b = m) ∧ b < W7.heap.size) x cm := fun m x cm h =>
    kTb.M_mono (fun b hb => ⟨hb.1, hb.2.2.1⟩) (kTb.M_move (fun b hb => hgr.block b hb.2.2.1 (fun e => hb.1.1.2 (by injection e))) (kTb.M_bound h))
  have hS3 := Kd.S_grown (Kd.S_bound hS2) hgr (fun b hb e => hng b hb.1 (by injection e))
  have htl : (rows.take k).length = k := by rw [List.length_take]; omega
  have htu : (us.take k).length = k := by rw [List.length_take]; omega
  refine S_of_raw (d := kTb) (fun b => if new b then k else if f b < k then f b else f b + 1) hR3 (by simp [hl]) (fun m x cm hx hc => ?_) (fun b hb => ?_)
  · rcases Nat.lt_trichotomy m k with hmk | hmk | hmk
    · rw [List.append_assoc, List.getElem?_append_left (by omega), List.getElem?_take, if_pos hmk] at hx hc
      obtain ⟨cm', h1, h2⟩ := hM m x hx
      rw [hc] at h1; cases h1
      refine kTb.M_mono (fun b hb => ⟨⟨.inl hb.1.1.1, hne b hb.1.1.2 hb.2⟩, ?_⟩) (move m x cm h2)
      show (if new b then k else if f b < k then f b else f b + 1) = m
      have := hb.1.2
      rw [if_neg (hon b hb.1.1.1), if_pos (by omega)]; omega
    · subst hmk
      rw [List.append_assoc, List.getElem?_append_right (by omega)] at hx hc
      rw [htu] at hx
      rw [htl] at hc
      simp at hx hc
      subst hx; subst hc
      refine kTb_mkM w3 base _ _ (Kd.S_mono hS3 (fun b hb => ⟨⟨.inr (.inl hb.1), hne b (hng b hb.1) hb.2.2.1⟩, if_pos hb.1⟩))
    · rw [List.getElem?_append_right (by rw [List.length_append, List.length_singleton]; omega)] at hx hc
      rw [List.length_append, List.length_singleton, htu, List.getElem?_drop] at hx
      rw [List.length_append, List.length_singleton, htl, List.getElem?_drop] at hc
      rw [show k + (m - (k + 1)) = m - 1 by omega] at hx hc
      obtain ⟨cm', h1, h2⟩ := hM (m - 1) x hx
      rw [hc] at h1; cases h1
      refine kTb.M_mono (fun b hb => ⟨⟨.inl hb.1.1.1, hne b hb.1.1.2 hb.2⟩, ?_⟩) (move (m - 1) x cm h2)
      show (if new b then k else if f b < k then f b else f b + 1) = m
      have := hb.1.2
      rw [if_neg (hon b hb.1.1.1), if_neg (by omega)]; omega
  · have := (hown b).1 hb
    rcases hl' with h | h
    · exact .inl (by rw [this, h]; exact hgok)
    · exact .inr (.inr (by omega))
/-- The store's box and the tablet's box, while a tablet is split. -/
def SP (W : World) (g5 g gt n p : Nat) (lo : ByteArray) (vi : Value) : Prop := W.heap[g5]? = some (.cells #[.slice (some ⟨g, 0, none⟩) n p] 28 (0, 0)) ∧ W.heap[gt]? = some (.cells #[.string lo, vi] 40 (0, 0))
def TP (W : World) (gt : Nat) (lo : ByteArray) (vi : Value) : Prop := W.heap[gt]? = some (.cells #[.string lo, vi] 40 (0, 0))
set_option maxHeartbeats 8000000 in
set_option maxRecDepth 100000 in
theorem isplit_call (A : Option Addr) (c : Nat) (ts : List IT) (row : ByteArray) (w : World) (hr : Kd.C k40 w A ts.length ts) (hc : ts.length ≤ c) (hs : SmS ts) :
    Calls Try.prog 13 #[.agg #[.slice A ts.length c], .string row] w fun e w' => ∃ v r, Splits ts row r ∧ e = .returned (.agg #[v]) ∧ Kd.S kTb 40 w' w.heap.size (fun _ => True) v r ∧ Below w.heap.size w w' := by
  have kr : K0 (Below w.heap.size w w) := ⟨Below.refl _ _⟩
  obtain ⟨wb, hwb⟩ : ∃ wb, wb = (w.alloc (.cells #[.slice A ts.length c] 28)).alloc (.cells #[.slice none 0 0] 28) := ⟨_, rfl⟩
  have hb0 : Below w.heap.size w wb := hwb ▸ kk
  have h1 : wb.heap[w.heap.size]? = some (.cells #[.slice A ts.length c] 28 (0, 0)) := hwb ▸ blk_alloc (heap_alloc_new w _) _
  have h2 : wb.heap[w.heap.size + 1]? = some (.cells #[.slice none 0 0] 28 (0, 0)) := hwb ▸ new1 w _ _
  have y0 := clk ((blk_cell h1 0).trans rfl : wb.cell? ⟨w.heap.size, 0, none⟩ = some (.slice A ts.length c))
  obtain ⟨o, ho⟩ : ∃ o, o = w.heap.size + 1 := ⟨_, rfl⟩
  have H0 := Aside0.mk (And.intro hb0 (And.intro (Kd.C_below hr hb0) (And.intro hc (And.intro hs (And.intro (show w.heap.size + 1 = o from ho.symm) (ho ▸ h2))))))
  have kb : K0 (Below wb.heap.size wb wb) := ⟨Below.refl _ _⟩
  clear hr hc hs hb0 h1 h2
  go_enter Try.func13, Try.ntmps13
  go_wp2_with fail
  rw [← hwb]
  clear hwb
  refine (sclone_call A c ts wb H0.out.2.1 (by have := H0.out.2.2.2.1.1; omega) (SmS_R H0.out.2.2.2.1)).mono ?_
  rintro ex W1 ⟨v, rfl, hS, hb⟩
  obtain ⟨P, p, rfl⟩ := Kd.S_slice hS
  obtain ⟨g5, hg5⟩ : ∃ g, g = W1.heap.size := ⟨_, rfl⟩
  obtain ⟨wc, hwc⟩ : ∃ wc, wc = W1.alloc (.cells #[.slice P ts.length p] 28) := ⟨_, rfl⟩
  have h5 : wc.heap[g5]? = some (.cells #[.slice P ts.length p] 28 (0, 0)) := hwc ▸ hg5 ▸ heap_alloc_new W1 _
  have hbc : Below W1.heap.size W1 wc := hwc ▸ Below.alloc (Below.refl _ _) (Nat.le_refl _) _
  have hbwc : Below wb.heap.size wb wc := hb.trans (hbc.mono hb.size)
  have hS5 : Kd.S kTb 40 wc wb.heap.size (fun k => wb.heap.size ≤ k ∧ k < g5) (.slice P ts.length p) ts := Kd.S_below (Kd.S_mono (Kd.S_bound hS) (fun k hk => ⟨hk.2.1, hg5 ▸ hk.2.2.1⟩)) hbc
  have HC := Aside0.mk (And.intro hbwc (And.intro hS5 (And.intro h5 (And.intro ((hbwc.block _ (blk_lt H0.out.2.2.2.2.2)).trans H0.out.2.2.2.2.2) hg5))))
  have kc : K0 (Below wc.heap.size wc wc) := ⟨Below.refl _ _⟩
  have tc : ∀ W [K0 (Below wc.heap.size wc W)], K0 (Below wb.heap.size wb W) := fun W k => ⟨HC.out.1.trans (k.out.mono HC.out.1.size)⟩
  have z5 := clk ((blk_cell h5 0).trans rfl : wc.cell? ⟨g5, 0, none⟩ = some (.slice P ts.length p))
  have y4 := clk ((blk_cell HC.out.2.2.2.1 0).trans rfl : wc.cell? ⟨o, 0, none⟩ = some (.slice none 0 0))
  clear hS hb h5 hbc hbwc hS5
  go_upto_region 2 with (fail)
  rw [← hwc, ← hg5, ← ho]
  clear hwc hg5 ho
  go_wp2_with fail
  refine (vimpl_call A c ts wc (Kd.C_below H0.out.2.1 HC.out.1) H0.out.2.2.1 H0.out.2.2.2.1).mono ?_
  rintro ex W2 ⟨rfl, hb⟩
  have k2 : K0 (Below wc.heap.size wc W2) := ⟨hb⟩
  clear hb
  by_cases hst : staysS ts row
  · have hB2 := H0.out.1.trans ((HC.out.1.trans (k2.out.mono HC.out.1.size)).mono H0.out.1.size)
    have ho2 := (k2.out.block _ (blk_lt HC.out.2.2.2.1)).trans HC.out.2.2.2.1
    have fo := blk_frozen ho2 0
    have hlo := blk_lt H0.out.2.2.2.2.2
    have HF := Aside0.mk (And.intro (show Splits ts row ts from .inl ⟨hst, rfl⟩) (And.intro (Kd.S_below HC.out.2.1 k2.out) (And.intro hB2 (And.intro ho2 hlo))))
    have hst' : vstore ts = false ∨ (vstore ts = true ∧ row.toList = []) ∨ (vstore ts = true ∧ row.toList ≠ [] ∧ decide ((64 : Int) < (row.size : Int)) = true) ∨ (vstore ts = true ∧ row.toList ≠ [] ∧ decide ((64 : Int) < (row.size : Int)) = false ∧ ((ts.length : Int) == (100 : Int)) = true) := by
      by_cases a1 : vstore ts = true
      · by_cases a2 : row.toList = []
        · exact .inr (.inl ⟨a1, a2⟩)
        · by_cases a3 : 64 < row.size
          · exact .inr (.inr (.inl ⟨a1, a2, decide_eq_true (by omega)⟩))
          · refine .inr (.inr (.inr ⟨a1, a2, decide_eq_false (by omega), beq_iff_eq.2 ?_⟩))
            rcases hst with h | h | h | h
            · rw [a1] at h; cases h
            · exact absurd h a2
            · exact absurd h a3
            · omega
      · exact .inl (by simpa using a1)
    clear hB2 ho2 hlo hst
    rcases hst' with a1 | ⟨a1, a2⟩ | ⟨a1, a2, a3⟩ | ⟨a1, a2, a3, a4⟩
    all_goals
      go_wp2_with fail
      refine bodyPost_ret (results_cell_row rfl _ _ o 28 _ (0, 0) _ rfl (blk_put HF.out.2.2.2.1 0 (.slice P ts.length p) (cs' := #[.slice P ts.length p]) rfl) Try.underlying28 rfl (by kernel_rfl)) rfl ⟨_, ts, HF.out.1, rfl, Kd.S_lower (Kd.S_mono (Kd.S_far (p := ⟨o, 0, none⟩) HF.out.2.1 (fun k hk => by have := HF.out.2.2.2.2; show k ≠ o; omega) _) (fun _ _ => trivial)) H0.out.1.size, HF.out.2.2.1.setCell (p := ⟨o, 0, none⟩) (by show w.heap.size ≤ o; have := H0.out.2.2.2.2.1; omega) _⟩
  have a1 : vstore ts = true := by
    cases hv : vstore ts
    · exact absurd (.inl hv) hst
    · rfl
  have a2 : row.toList ≠ [] := fun h => hst (.inr (.inl h))
  have a5 : row.toList.isEmpty = false := by cases hr : row.toList with
    | nil => exact absurd hr a2
    | cons _ _ => rfl
  have a3 : decide ((64 : Int) < (row.size : Int)) = false := decide_eq_false (fun h => hst (.inr (.inr (.inl (by omega)))))
  have a4 : ((ts.length : Int) == (100 : Int)) = false := beq_eq_false_iff_ne.2 (fun h => hst (.inr (.inr (.inr (by omega)))))
  have HV := Aside0.mk (And.intro hst (rise_of a1))
  clear hst
  go_wp2_with fail
  refine (holder_call A c ts row W2 (Kd.C_below H0.out.2.1 ((tc W2).out)) (by have := H0.out.2.2.2.1.1; omega) HV.out.2).mono ?_
  rintro ex W3 ⟨i, hi, rfl, hb⟩
  have k3 : K0 (Below wc.heap.size wc W3) := ⟨k2.out.trans (hb.mono k2.out.size)⟩
  have HI := Aside0.mk hi
  clear hb hi k2 a1 a2 a3 a4 a5
  have hS3 := Kd.S_below HC.out.2.1 k3.out
  obtain ⟨g, cap, hvv, hgb, hgl, -⟩ := Kd.S_form hS3 (by have := HI.out.1; omega)
  cases hvv
  have hil : i < ts.length := HI.out.1
  have hxi : ts[i]? = some (tA ts i) := by unfold tA rd_T40; rw [Int.toNat_natCast, List.getD_eq_getElem?_getD]; simp [hil]
  obtain ⟨xi, hXi⟩ : ∃ x, tA ts i = x := ⟨_, rfl⟩
  have HL := Aside0.mk (And.intro hil (show ts.getD i xi = xi by rw [List.getD_eq_getElem?_getD, hxi, hXi]; rfl))
  obtain ⟨oki, ci, hcl, hM, hcc, hfr, hoki, hH⟩ := Kd.S_elem hS3 xi (i : Int) (by omega) (by omega)
  rw [Int.toNat_natCast, List.getD_eq_getElem?_getD, hxi, hXi, Option.getD_some] at hM
  obtain ⟨vi, rfl, hSi⟩ := kTb_openM hM
  obtain ⟨Ai, pi, rfl⟩ := Kd.S_slice hSi
  rw [Int.toNat_natCast] at hcc hfr
  have q0 : W3.cell? ⟨g, i * 2, none⟩ = some (.string xi.f0) := hcc 0 _ rfl
  have q1 : W3.cell? ⟨g, i * 2 + 1, none⟩ = some (.slice Ai xi.f1.length pi) := hcc 1 _ rfl
  have r0 : ((0 : Int) ≤ (i : Int)) = True := eq_true (by omega)
  have r1 : ((i : Int) < (ts.length : Int)) = True := eq_true (by omega)
  have hm := H0.out.2.2.2.1.2 xi (hXi ▸ tA_mem hil)
  have HX := Aside0.mk (And.intro hXi (And.intro hS3 (And.intro hSi (And.intro hoki (And.intro hgb (And.intro hgl hm))))))
  clear hXi hxi hS3 hM hcl hcc hfr hoki hH hSi hgb hgl hm
  obtain ⟨gt, hgt⟩ : ∃ q, q = W3.heap.size := ⟨_, rfl⟩
  obtain ⟨wt, hwt⟩ : ∃ W, W = W3.alloc (.cells #[.string xi.f0, .slice Ai xi.f1.length pi] 40) := ⟨_, rfl⟩
  have ht : wt.heap[gt]? = some (.cells #[.string xi.f0, .slice Ai xi.f1.length pi] 40 (0, 0)) := hwt ▸ hgt ▸ heap_alloc_new W3 _
  have hbt : Below W3.heap.size W3 wt := hwt ▸ Below.alloc (Below.refl _ _) (Nat.le_refl _) _
  have kt : K0 (Below wc.heap.size wc wt) := ⟨k3.out.trans (hbt.mono k3.out.size)⟩
  have t0 : wt.cell? ⟨gt, 0, none⟩ = some (.string xi.f0) := (blk_cell ht 0).trans rfl
  have hts : wt.heap.size = gt + 1 := hwt ▸ hgt ▸ sz_al W3 _
  have HT := Aside0.mk (And.intro ht (And.intro hbt (And.intro hts hgt)))
  clear ht hbt hts
  go_upto_region 6 with (fail)
  rw [← hwt, ← hgt]
  have k3s := Aside0.mk (show wc.heap.size ≤ W3.heap.size from k3.out.size)
  clear hwt hgt q0 q1 k3
  by_cases hsame : xi.f0.toList = row.toList
  · have dq : (xi.f0.toList == row.toList) = true := beq_iff_eq.2 hsame
    have hB3 := H0.out.1.trans ((HC.out.1.trans (kt.out.mono HC.out.1.size)).mono H0.out.1.size)
    have ho3 := (kt.out.block _ (blk_lt HC.out.2.2.2.1)).trans HC.out.2.2.2.1
    have fo := blk_frozen ho3 0
    have hlo := blk_lt H0.out.2.2.2.2.2
    have HE := Aside0.mk (And.intro (show Splits ts row ts from .inr ⟨HV.out.1, i, HI.out, .inl ⟨by rw [HX.out.1]; exact hsame, rfl⟩⟩) (And.intro (Kd.S_below HC.out.2.1 kt.out) (And.intro hB3 (And.intro ho3 hlo))))
    clear hB3 ho3 hlo hsame
    go_wp2_with fail
    refine bodyPost_ret (results_cell_row rfl _ _ o 28 _ (0, 0) _ rfl (blk_put HE.out.2.2.2.1 0 (.slice (some ⟨g, 0, none⟩) ts.length p) (cs' := #[.slice (some ⟨g, 0, none⟩) ts.length p]) rfl) Try.underlying28 rfl (by kernel_rfl)) rfl ⟨_, ts, HE.out.1, rfl, Kd.S_lower (Kd.S_mono (Kd.S_far (p := ⟨o, 0, none⟩) HE.out.2.1 (fun k hk => by have := HE.out.2.2.2.2; show k ≠ o; omega) _) (fun _ _ => trivial)) H0.out.1.size, HE.out.2.2.1.setCell (p := ⟨o, 0, none⟩) (by show w.heap.size ≤ o; have := H0.out.2.2.2.2.1; omega) _⟩
  have dq : (xi.f0.toList == row.toList) = false := beq_eq_false_iff_ne.2 hsame
  have HF := Aside0.mk hsame
  clear hsame
  go_upto_region 8 with (fail)
  have h5 := (kt.out.block _ (blk_lt HC.out.2.2.1)).trans HC.out.2.2.1
  have h4o := (kt.out.block _ (blk_lt HC.out.2.2.2.1)).trans HC.out.2.2.2.1
  have kp : K0 (SP wt.drew g5 g gt ts.length p xi.f0 (.slice Ai xi.f1.length pi)) := ⟨h5, HT.out.1⟩
  have z6 : ∀ W [K0 (SP W g5 g gt ts.length p xi.f0 (.slice Ai xi.f1.length pi))], W.cell? ⟨g5, 0, none⟩ = some (.slice (some ⟨g, 0, none⟩) ts.length p) := fun W k => (blk_cell k.out.1 0).trans rfl
  have z7 : ∀ W [K0 (SP W g5 g gt ts.length p xi.f0 (.slice Ai xi.f1.length pi))], W.cell? ⟨gt, 1, none⟩ = some (.slice Ai xi.f1.length pi) := fun W k => (blk_cell k.out.2 1).trans rfl
  have hSt := Kd.S_below HX.out.2.1 HT.out.2.1
  have hSit := Kd.S_below HX.out.2.2.1 HT.out.2.1
  have hwbt : Below wb.heap.size wb wt := HC.out.1.trans (kt.out.mono HC.out.1.size)
  have HP := Aside0.mk (And.intro hSt (And.intro hSit (And.intro hwbt h4o)))
  have hC1 := Kd.S_reads' (Kd.S_drew hSit)
  have HC1 := Aside0.mk (iruns_call Ai pi xi.f1 ⟨#[]⟩ true row wt.drew hC1.2.2 hC1.2.1 HX.out.2.2.2.2.2.2.1 HX.out.2.2.2.2.2.2.2)
  obtain ⟨pa, hpa⟩ : ∃ q, partRs ⟨#[]⟩ true row xi.f1 = q := ⟨_, rfl⟩
  rw [hpa] at HC1
  have HPa := Aside0.mk hpa
  clear h5 h4o hSt hSit hwbt hC1 hpa z5 y4 t0 dq kb kr kc tc y0
  refine sq_region (S := fun W' => K0 (SP W' g5 g gt ts.length p xi.f0 (.slice Ai xi.f1.length pi))) [(0, false), (1, false), (2, false), (3, false), (4, false), (5, false), (6, false), (7, true), (8, false), (9, false), (10, true)] (by kernel_rfl) (by kernel_rfl) kp (fun hS => ?_)
  repeat (refine sq_n ?_ ?_ rfl ?_ ?_ ?_; rotate_left 2; (intro W hW; go_simp; first | done | with_reducible rfl); (simp only [List.setIfInBounds_toArray, List.set_cons_zero, List.set_cons_succ]; try rfl))
  refine sq_1n rfl (fun hS K hK => ?_)
  go_simp
  go_at_call 29
  refine HC1.out.mono ?_
  rintro ex W5 ⟨v5, rfl, hS5, hb5⟩
  obtain ⟨A5, c5, rfl⟩ := Kd.S_slice hS5
  have k5 : K0 (SP W5 g5 g gt ts.length p xi.f0 (.slice Ai xi.f1.length pi)) := ⟨(hb5.block _ (blk_lt kp.out.1)).trans kp.out.1, (hb5.block _ (blk_lt kp.out.2)).trans kp.out.2⟩
  obtain ⟨okj, cj, hcl, hM, hcc, hfr, hokj, hH⟩ := Kd.S_elem (Kd.S_below (Kd.S_drew (Kd.S_mono (ok' := fun q => ((wb.heap.size ≤ q ∧ q < g5) ∨ gt ≤ q) ∧ ¬ (wt.heap.size ≤ q)) (Kd.S_bound HP.out.1) (fun q hq => ⟨.inl hq.1, by have := hq.2.2.1; omega⟩))) hb5) xi (i : Int) (by omega) (by omega)
  rw [Int.toNat_natCast, HL.out.2] at hM
  obtain ⟨vj, rfl, -⟩ := kTb_openM hM
  rw [Int.toNat_natCast] at hcc hfr
  have q1 : W5.cell? ⟨g, i * 2 + 1, none⟩ = some vj := hcc 1 _ rfl
  have f1 : W5.frozen? ⟨g, i * 2 + 1, none⟩ = false := hfr 1
  obtain ⟨hS6, hg6⟩ := Kd.S_seg hH (by omega) (by omega) (seg := [.slice A5 pa.length c5]) (j := 1) (show 1 + 1 ≤ 2 by omega) (x' := (⟨xi.f0, pa⟩ : IT)) (okp := fun q => wt.heap.size ≤ q)
    (kTb_mkM W5 wb.heap.size (fun q => wt.heap.size ≤ q) (⟨xi.f0, pa⟩ : IT) (v0 := .slice A5 pa.length c5) (Kd.S_lower (Kd.S_mono (ok' := fun q => wt.heap.size ≤ q) (Kd.S_bound hS5) (fun q hq => hq.2.1)) HP.out.2.2.1.size)) (fun q hq => .inr hq) (fun q hq => ⟨.inr (by have := HT.out.2.2.1; omega), by have := HX.out.2.2.2.2.2.1; have := HT.out.2.1.size; omega⟩)
  rw [Int.toNat_natCast] at hS6 hg6
  obtain ⟨W6, hW6⟩ : ∃ W, W = W5.setCell ⟨g, i * 2 + 1, none⟩ (.slice A5 pa.length c5) := ⟨_, rfl⟩
  have hS6 : Kd.S kTb 40 W6 wb.heap.size (fun q => (wb.heap.size ≤ q ∧ q < g5) ∨ gt ≤ q) (.slice (some ⟨g, 0, none⟩) ts.length p) (ts.set i ⟨xi.f0, pa⟩) := hW6 ▸ hS6
  have hg6 : W5.grownBy W6 (some g) := hW6 ▸ hg6
  have hgg : g < g5 := ((Kd.S_R HP.out.1).1 g rfl).2
  have hgt2 : g < gt := by have := HX.out.2.2.2.2.2.1; have := HT.out.2.2.2; omega
  have k6 : K0 (SP W6 g5 g gt ts.length p xi.f0 (.slice Ai xi.f1.length pi)) := ⟨(hg6.block _ (blk_lt k5.out.1) (fun e => by injection e; omega)).trans k5.out.1, (hg6.block _ (blk_lt k5.out.2) (fun e => by injection e; omega)).trans k5.out.2⟩
  have hwb6 : Below wb.heap.size wb W6 := below_kept1 (HP.out.2.2.1.trans ((show Below wt.heap.size wt W5 from ⟨hb5.os, hb5.tape, hb5.output, hb5.size, hb5.block⟩).mono HP.out.2.2.1.size)) hg6 (fun q hq => by injection hq with hq; have := HX.out.2.2.2.2.1; omega)
  have ho6 := (hwb6.block _ (blk_lt H0.out.2.2.2.2.2)).trans H0.out.2.2.2.2.2
  have hSi6 := Kd.S_grown (Kd.S_below (Kd.S_drew HP.out.2.1) hb5) hg6 (fun q hq e => (HX.out.2.2.2.1 q hq).2 (by injection e))
  have hC2 := Kd.S_reads' (Kd.S_drew hSi6)
  obtain ⟨pb, hpb⟩ : ∃ q, partRs row false ⟨#[]⟩ xi.f1 = q := ⟨_, rfl⟩
  have hHC2 := iruns_call Ai pi xi.f1 row false ⟨#[]⟩ W6.drew hC2.2.2 hC2.2.1 HX.out.2.2.2.2.2.2.1 HX.out.2.2.2.2.2.2.2
  rw [hpb] at hHC2
  have HC2 := Aside0.mk hHC2
  have HW6 := Aside0.mk (And.intro hS6 (And.intro hwb6 (And.intro ho6 (And.intro hpb (And.intro hgg hgt2)))))
  clear hS6 hwb6 ho6 hSi6 hC2 hHC2 hpb hg6 hcl hM hcc hfr hokj hH hS5 hb5 hgg hgt2
  refine hK.out _ _ k5 (fun hS => ?_)
  repeat (refine sq_n ?_ ?_ rfl ?_ ?_ ?_; rotate_left 2; (intro W hW; go_simp; first | done | with_reducible rfl); (simp only [List.setIfInBounds_toArray, List.set_cons_zero, List.set_cons_succ]; try rfl))
  refine sq_1n rfl (fun hS K hK => ?_)
  go_wp2_with fail
  rw [← hW6]
  clear hW6
  refine hK.out _ _ k6 (fun hS => ?_)
  refine sq_done (fun hS => ?_)
  clear hK hS q1 f1 k5 kp
  obtain ⟨k, hk⟩ : ∃ k, k = i + 1 := ⟨_, rfl⟩
  have hw1 : IntKind.i64.wrap ((i : Int) + 1) = (k : Int) := by have := HI.out.1; have := H0.out.2.2.2.1.1; rw [IntKind.wrap_i64]; omega
  have HKi := Aside0.mk hk
  clear hk
  go_upto_region 9 with (fail)
  have k6d : K0 (SP W6.drew g5 g gt ts.length p xi.f0 (.slice Ai xi.f1.length pi)) := k6
  have kt6 : K0 (TP W6.drew gt xi.f0 (.slice Ai xi.f1.length pi)) := ⟨k6.out.2⟩
  have z8 : ∀ W [K0 (TP W gt xi.f0 (.slice Ai xi.f1.length pi))], W.cell? ⟨gt, 1, none⟩ = some (.slice Ai xi.f1.length pi) := fun W k => (blk_cell k.out 1).trans rfl
  refine sp_region (S := fun W' => K0 (TP W' gt xi.f0 (.slice Ai xi.f1.length pi))) (.n 0 (.n 2 (.n 3 (.n 4 (.n 5 (.n 6 (.n 7 (.n 8 (.two 1 9 (.y 9 (.n 10 (.y 11 (.y 12 (.n 13 (.y 14 .done)))))) (.n 10 (.two 1 11 (.y 11 (.y 12 (.n 13 (.y 14 .done)))) (.y 1 (.y 12 (.n 13 (.y 14 .done))))))))))))))) (by kernel_rfl) (by kernel_rfl) kt6 (fun hS => ?_)
  repeat (refine sp_n ?_ ?_ rfl ?_ ?_ ?_; rotate_left 2; (intro W hW; go_simp; first | done | with_reducible rfl); (simp only [List.setIfInBounds_toArray, List.set_cons_zero, List.set_cons_succ]; try rfl))
  refine sp_2n rfl rfl ?p1 ?q1
  case' p1 =>
    intro hS K hK
    go_wp2_with fail
    refine hK.out _ _ kt6 (fun hS => ?_)
    refine sp_1n rfl ?_
    intro hS K hK
    go_simp
    go_at_call 29
    refine HC2.out.mono ?_
    rintro ex W7 ⟨v7, rfl, hS7, hb7⟩
    obtain ⟨A7, c7, rfl⟩ := Kd.S_slice hS7
    have k7 : K0 (SP W7 g5 g gt ts.length p xi.f0 (.slice Ai xi.f1.length pi)) := ⟨(hb7.block _ (blk_lt k6d.out.1)).trans k6d.out.1, (hb7.block _ (blk_lt k6d.out.2)).trans k6d.out.2⟩
    have kt7 : K0 (TP W7 gt xi.f0 (.slice Ai xi.f1.length pi)) := ⟨k7.out.2⟩
    refine hK.out _ _ kt7 (fun hS => ?_)
    repeat (refine sp_n ?_ ?_ rfl ?_ ?_ ?_; rotate_left 2; (intro W hW; go_simp; first | done | with_reducible rfl); (simp only [List.setIfInBounds_toArray, List.set_cons_zero, List.set_cons_succ]; try rfl))
    obtain ⟨W8, hW8⟩ : ∃ W, W = W7.alloc (.cells #[.string row, .slice A7 pb.length c7] 40) := ⟨_, rfl⟩
    have hbl : Below W7.heap.size W7 W8 := hW8 ▸ Below.alloc (Below.refl _ _) (Nat.le_refl _) _
    have hv8 : W8.heap[W7.heap.size]? = some (.cells #[.string row, .slice A7 pb.length c7] 40 (0, 0)) := hW8 ▸ heap_alloc_new W7 _
    have k8 : K0 (SP W8 g5 g gt ts.length p xi.f0 (.slice Ai xi.f1.length pi)) := ⟨(hbl.block _ (blk_lt k7.out.1)).trans k7.out.1, (hbl.block _ (blk_lt k7.out.2)).trans k7.out.2⟩
    have kt8 : K0 (TP W8 gt xi.f0 (.slice Ai xi.f1.length pi)) := ⟨k8.out.2⟩
    refine sp_1n rfl ?_
    intro hS K hK
    go_wp2_with fail
    rw [← hW8]
    clear hW8
    refine hK.out _ _ kt8 (fun hS => ?_)
  case' q1 =>
    intro hS K hK
    go_simp
    go_at_call 29
    refine HC2.out.mono ?_
    rintro ex W7 ⟨v7, rfl, hS7, hb7⟩
    obtain ⟨A7, c7, rfl⟩ := Kd.S_slice hS7
    have k7 : K0 (SP W7 g5 g gt ts.length p xi.f0 (.slice Ai xi.f1.length pi)) := ⟨(hb7.block _ (blk_lt k6d.out.1)).trans k6d.out.1, (hb7.block _ (blk_lt k6d.out.2)).trans k6d.out.2⟩
    have kt7 : K0 (TP W7 gt xi.f0 (.slice Ai xi.f1.length pi)) := ⟨k7.out.2⟩
    refine hK.out _ _ kt7 (fun hS => ?_)
    repeat (refine sp_n ?_ ?_ rfl ?_ ?_ ?_; rotate_left 2; (intro W hW; go_simp; first | done | with_reducible rfl); (simp only [List.setIfInBounds_toArray, List.set_cons_zero, List.set_cons_succ]; try rfl))
    obtain ⟨W8, hW8⟩ : ∃ W, W = W7.alloc (.cells #[.string row, .slice A7 pb.length c7] 40) := ⟨_, rfl⟩
    have hbl : Below W7.heap.size W7 W8 := hW8 ▸ Below.alloc (Below.refl _ _) (Nat.le_refl _) _
    have hv8 : W8.heap[W7.heap.size]? = some (.cells #[.string row, .slice A7 pb.length c7] 40 (0, 0)) := hW8 ▸ heap_alloc_new W7 _
    have k8 : K0 (SP W8 g5 g gt ts.length p xi.f0 (.slice Ai xi.f1.length pi)) := ⟨(hbl.block _ (blk_lt k7.out.1)).trans k7.out.1, (hbl.block _ (blk_lt k7.out.2)).trans k7.out.2⟩
    have kt8 : K0 (TP W8 gt xi.f0 (.slice Ai xi.f1.length pi)) := ⟨k8.out.2⟩
    refine sp_2n rfl rfl ?p2 ?q2
    case' p2 =>
      intro hS K hK
      go_wp2_with fail
      refine hK.out _ _ kt7 (fun hS => ?_)
      refine sp_1n rfl ?_
      intro hS K hK
      go_wp2_with fail
      rw [← hW8]
      clear hW8
      refine hK.out _ _ kt8 (fun hS => ?_)
    case' q2 =>
      intro hS K hK
      go_wp2_with fail
      rw [← hW8]
      clear hW8
      refine hK.out _ _ kt8 (fun hS => ?_)
      refine sp_1n rfl ?_
      intro hS K hK
      go_wp2_with fail
      refine hK.out _ _ kt8 (fun hS => ?_)
  all_goals
    refine sp_1n rfl ?_
    intro hS K hK
    go_simp
    go_at_call 30
    have hb78 : Below W6.heap.size W6 W8 := (show Below W6.heap.size W6 W7 from ⟨hb7.os, hb7.tape, hb7.output, hb7.size, hb7.block⟩).trans (hbl.mono hb7.size)
    have hs7 : W6.heap.size ≤ W7.heap.size := hb7.size
    have hgs : g < W6.heap.size := by have := HW6.out.2.2.2.2.2; have := blk_lt k6d.out.2; exact Nat.lt_trans (by assumption) this
    have hgb := HX.out.2.2.2.2.1
    have hwb8 : Below wb.heap.size wb W8 := HW6.out.2.1.trans (hb78.mono HW6.out.2.1.size)
    have hS8 := Kd.S_below (Kd.S_mono (ok' := fun q => ((wb.heap.size ≤ q ∧ q < g5) ∨ gt ≤ q) ∧ q < W6.heap.size) (Kd.S_bound HW6.out.1) (fun q hq => ⟨hq.1, hq.2.2.1⟩)) hb78
    obtain ⟨f, rows, hlr, hRw, hMM, hgok⟩ := raw_of_Sg hS8
    have hS9 := Kd.S_below (Kd.S_lower (Kd.S_mono (ok' := fun q => W6.heap.size ≤ q) (Kd.S_bound hS7) (fun q hq => hq.2.1)) (show wb.heap.size ≤ W6.drew.heap.size from HW6.out.2.1.size)) hbl
    have hkl : k ≤ ts.length := by have := HL.out.1; have := HKi.out; omega
    refine (insert_call wb.heap.size g ts.length p k W7.heap.size rows (.string row) (.slice A7 pb.length c7) W8 hRw hv8 ⟨rfl, rfl⟩ (by omega) (by have := H0.out.2.2.2.1.1; omega) hwb8.size hkl).mono ?_
    intro ex W9 h9
    obtain ⟨g', c', rfl, hR9, hl9, hg9⟩ := h9
    have hfin := split_end (ok := fun q => ((wb.heap.size ≤ q ∧ q < g5) ∨ gt ≤ q) ∧ q < W6.heap.size) (new := fun q => W6.heap.size ≤ q) (x2 := (⟨row, pb⟩ : IT)) (v2 := .slice A7 pb.length c7) hMM hlr (by rw [List.length_set]; exact hkl) (fun b h1 h2 => by have := h1.2; omega) hS9 (fun b hb => by omega) hgok (by have := hb78.size; omega) hl9 hg9 hR9
    have hg5 : g ≠ g5 := by have := HW6.out.2.2.2.2.1; omega
    have q5 := (hg9.block g5 (blk_lt k8.out.1) (fun e => hg5 (by injection e with e; exact e.symm))).trans k8.out.1
    have qt := (hg9.block gt (blk_lt k8.out.2) (fun e => by have := HW6.out.2.2.2.2.2; injection e; omega)).trans k8.out.2
    have hwb9 : Below wb.heap.size wb W9 := below_kept1 hwb8 hg9 (fun q hq => by injection hq with hq; omega)
    have r5 : W9.cell? ⟨g5, 0, none⟩ = some (.slice (some ⟨g, 0, none⟩) ts.length p) := (blk_cell q5 0).trans rfl
    have s5 := blk_frozen q5 0
    have hgt5 : g5 < gt := by have := HT.out.2.2.2; have := blk_lt HC.out.2.2.1; have := HT.out.2.1.size; have h3 := k3s.out; omega
    obtain ⟨W10, hW10⟩ : ∃ W, W = W9.setCell ⟨g5, 0, none⟩ (.slice (some ⟨g', 0, none⟩) (ts.length + 1) c') := ⟨_, rfl⟩
    have ho9 := (hwb9.block _ (blk_lt H0.out.2.2.2.2.2)).trans H0.out.2.2.2.2.2
    have hlo := blk_lt H0.out.2.2.2.2.2
    have hg5w : wb.heap.size ≤ g5 := Nat.le_trans hgb (Nat.le_of_lt HW6.out.2.2.2.2.1)
    have u5 : W10.heap[g5]? = some (.cells #[.slice (some ⟨g', 0, none⟩) (ts.length + 1) c'] 28 (0, 0)) := hW10 ▸ blk_put q5 0 _ rfl
    have uo : W10.heap[o]? = some (.cells #[.slice none 0 0] 28 (0, 0)) := hW10 ▸ blk_far ho9 (show o ≠ g5 by omega) _
    have kt10 : K0 (TP W10 gt xi.f0 (.slice Ai xi.f1.length pi)) := ⟨hW10 ▸ blk_far qt (show gt ≠ g5 by omega) _⟩
    have hb10 : Below w.heap.size w W10 := H0.out.1.trans ((show Below wb.heap.size wb W10 from hW10 ▸ hwb9.setCell (p := ⟨g5, 0, none⟩) hg5w _).mono H0.out.1.size)
    have hS10 : Kd.S kTb 40 W10 wb.heap.size (fun q => wb.heap.size ≤ q ∧ q ≠ g5) (.slice (some ⟨g', 0, none⟩) (ts.length + 1) c') (splitAt ts i row) := by
      have h := Kd.S_mono (ok' := fun q => wb.heap.size ≤ q ∧ q ≠ g5) (Kd.S_bound hfin) (fun q hq => ⟨hq.2.1, by have := hb78.size; have : gt < W6.heap.size := blk_lt k6d.out.2; omega⟩)
      rw [HKi.out, splitAt_set HL.out.1 row, ← HPa.out, ← HW6.out.2.2.2.1] at h
      unfold splitAt
      rw [HX.out.1]
      exact hW10 ▸ Kd.S_far (p := ⟨g5, 0, none⟩) h (fun q hq => hq.2) _
    have v5 : W10.cell? ⟨g5, 0, none⟩ = some (.slice (some ⟨g', 0, none⟩) (ts.length + 1) c') := (blk_cell u5 0).trans rfl
    have vo : W10.cell? ⟨o, 0, none⟩ = some (.slice none 0 0) := (blk_cell uo 0).trans rfl
    have fo := blk_frozen uo 0
    have HE := Aside0.mk (And.intro hS10 (And.intro hb10 (And.intro uo hlo)))
    have kt9 : K0 (TP W9 gt xi.f0 (.slice Ai xi.f1.length pi)) := ⟨qt⟩
    clear hb78 hs7 hgs hgb hwb8 hS8 hlr hRw hMM hgok hS9 hkl hR9 hl9 hg9 hfin hg5 q5 qt hwb9 hgt5 ho9 hlo hg5w u5 uo hb10 hS10 hbl hv8 hS7 hb7
    refine hK.out _ _ kt9 (fun hS => ?_)
    repeat (refine sp_n ?_ ?_ rfl ?_ ?_ ?_; rotate_left 2; (intro W hW; go_simp; first | done | with_reducible rfl); (simp only [List.setIfInBounds_toArray, List.set_cons_zero, List.set_cons_succ]; try rfl))
    refine sp_1n rfl ?_
    intro hS K hK
    go_wp2_with fail
    rw [← hW10]
    clear hW10
    refine hK.out _ _ kt10 (fun hS => ?_)
    refine sp_done (fun hS => ?_)
    clear r5 s5
    go_wp2_with fail
    refine bodyPost_ret (results_cell_row rfl _ _ o 28 _ (0, 0) _ rfl (blk_put HE.out.2.2.1 0 (.slice (some ⟨g', 0, none⟩) (ts.length + 1) c') (cs' := #[.slice (some ⟨g', 0, none⟩) (ts.length + 1) c']) rfl) Try.underlying28 rfl (by kernel_rfl)) rfl ⟨_, splitAt ts i row, .inr ⟨HV.out.1, i, HI.out, .inr ⟨by rw [HX.out.1]; exact HF.out, rfl⟩⟩, rfl, Kd.S_lower (Kd.S_mono (Kd.S_far (p := ⟨o, 0, none⟩) HE.out.1 (fun q hq => by have := HE.out.2.2.2; show q ≠ o; omega) _) (fun _ _ => trivial)) H0.out.1.size, HE.out.2.1.setCell (p := ⟨o, 0, none⟩) (by show w.heap.size ≤ o; have := H0.out.2.2.2.2.1; omega) _⟩
end Go.Proofs.Ytjlggfdmfchncaa.Q

namespace Go.Proofs.Ytjlggfdmfchncaa.Q
open Go.RowKit Go.Proofs.YtjlggfdmfchncaaW.PrintWords Go.Proofs.YtjlggfdmfchncaaW.PrintLast Go.Proofs.YtjlggfdmfchncaaW.PrintMore
set_option linter.unusedVariables false
set_option linter.unusedSimpArgs false

/-! ### spec_l7CopyRuns: function 18 -/
def spec_l7CopyRuns.l0 : Nat → List (S60) → List (S60) → Int → Option ((List (S60)))
 | 0, _, _, _ => none
 | k + 1, x0, x3, x4 => if x4 < (x0.length : Int) then ((some (([] : List (S65)) : List (S65))).bind fun y158 => (if 0 ≤ x4 then (if y158.length + ((rd_T60 x0 x4).f0).length < 1759218604441 then (if x3.length < 5864062014805 then (spec_l7CopyRuns.l0 k x0 (x3 ++ [(⟨(y158 ++ ((rd_T60 x0 x4).f0))⟩ : S60)]) (wrap64 (x4 + 1))) else (none)) else (none)) else (none))) else (some x3)
def spec_l7CopyRuns.f (k : Nat) (l0 : List (S60)) : Option ((List (S60))) := spec_l7CopyRuns.l0 k l0 (([] : List (S60))) 0
set_option maxHeartbeats 8000000 in
set_option maxRecDepth 100000 in
theorem spec_l7CopyRuns.calls (k : Nat) (A0 : Option Addr) (c0 : Nat) (l0 : List (S60)) (r : List (S60)) (w : World) (hr0 : Kd.C k60 w A0 l0.length l0) (hc0 : l0.length ≤ c0) (h : spec_l7CopyRuns.f k l0 = some r) :
  Calls Try.prog 18 #[.slice A0 l0.length c0] w fun e w' => ∃ v0_ : Value, e = .returned (v0_) ∧ Kd.S k60 60 w' w.heap.size (fun _ => True) v0_ r ∧ Below w.heap.size w w' := by
 have hu60 := Try.underlying60
 have HR0 := Aside0.mk hr0
 have HC0 := Aside0.mk hc0
 clear hr0 hc0
 have HB := Aside0.mk (Below.refl w.heap.size w)
 have H : (spec_l7CopyRuns.l0 k l0 (([] : List (S60))) 0) = some r := h
 clear h
 obtain ⟨y155, hy155⟩ : ∃ y_ : List (S60), y_ = (([] : List (S60))) := ⟨_, rfl⟩
 replace H : (spec_l7CopyRuns.l0 k l0 y155 0) = some r := by first | (rw [hy155]; with_reducible exact H) | (have H2_ := (Option.bind_some _ _).symm.trans H; rw [hy155]; with_reducible exact H2_) | (have H2_ := (Option.bind_some _ _).symm.trans H; with_reducible exact H2_) | with_reducible exact H | (rw [hy155]; exact H) | exact H
 have Ny155 := Aside0.mk hy155
 clear hy155
 have H' := Aside0.mk H
 clear H
 go_enter Try.func18, Try.ntmps18
 go_wp2_with (first | ((with_reducible refine gate_dst (N := 5) rfl ?_); refine Kd.S_lit k60 _ 60 ?hg (N := 5) ?hd (xs := ([] : List (S60))) (inner := []) (ok := fun _ => True) (okp := fun _ => True) ?hr ?hp (fun _ hk => hk) trivial (Below.refl _ _) (Nat.le_refl _) (by simp) ?_; (case hd => rfl); (case hg => rfl); (case hr => first | (go_simp; done) | (go_simp; rfl)); (case hp => exact (Reps.none _ _)); intro v156 w2 ho3 hb hg_ hnew_; clear hg_ hnew_; (first | rw [← Ny155.out] at ho3 | (simp only [Int.reduceToNat] at ho3; rw [← Ny155.out] at ho3)); have n0_ := Aside0.mk (Kd.S_lower ho3 (below_size bw)); have n1_ := Aside0.mk (below_step bw hb); clear HB; have HO157 := n0_; have HB := n1_; clear n0_ n1_; clear hb ho3))
 go_loopg [3, 4] k (fun kq v3 v4 w' => ∃ (x3_1 : List (S60)) (x4_1 : Int), v4 = .int .i64 x4_1 ∧ Aside0 (spec_l7CopyRuns.l0 kq l0 x3_1 x4_1 = some r) ∧ Aside0 (kq ≤ k) ∧ Aside0 (Kd.S k60 60 w' w.heap.size (fun _ => True) v3 x3_1) ∧ Aside0 (Below w.heap.size w w'))
 case atStart => exact ⟨(y155), (0), (by first | rfl | (simp; done) | (simp [*]; done)), H', ⟨Nat.le_refl _⟩, ⟨by (with_reducible repeat (first | apply Kd.S_alloc | apply Kd.S_drewN | apply Kd.S_drew)); exact HO157.out⟩, ⟨bw⟩⟩
 case round =>
  clear H'
  try clear c1
  try clear p2
  obtain ⟨x3_1, x4_1, rfl, HA, HK1, HO_3, HB⟩ := hrel
  cases gk with
  | zero => exact absurd HA.out (by simp [spec_l7CopyRuns.l0])
  | succ k1 =>
   have H := HA.out
   clear HA
   simp only [spec_l7CopyRuns.l0] at H
   by_cases c4 : x4_1 < (l0.length : Int)
   ·rw [if_pos c4] at H
    have c4b0 : decide (x4_1 < (l0.length : Int)) = true := decide_eq_true c4
    clear c4
    obtain ⟨y158, hy158⟩ : ∃ y_ : List (S65), y_ = (([] : List (S65))) := ⟨_, rfl⟩
    replace H : (if 0 ≤ x4_1 then (if y158.length + ((rd_T60 l0 x4_1).f0).length < 1759218604441 then (if x3_1.length < 5864062014805 then (spec_l7CopyRuns.l0 k1 l0 (x3_1 ++ [(⟨(y158 ++ ((rd_T60 l0 x4_1).f0))⟩ : S60)]) (wrap64 (x4_1 + 1))) else (none)) else (none)) else (none)) = some r := by first | (rw [hy158]; with_reducible exact H) | (have H2_ := (Option.bind_some _ _).symm.trans H; rw [hy158]; with_reducible exact H2_) | (have H2_ := (Option.bind_some _ _).symm.trans H; with_reducible exact H2_) | with_reducible exact H | (rw [hy158]; exact H) | exact H
    have Ny158 := Aside0.mk hy158
    clear hy158
    by_cases c5 : 0 ≤ x4_1
    ·rw [if_pos c5] at H
     have c5b0 : decide (0 ≤ x4_1) = true := decide_eq_true c5
     clear c5
     by_cases c6 : y158.length + ((rd_T60 l0 x4_1).f0).length < 1759218604441
     ·rw [if_pos c6] at H
      have LMc6 := Aside0.mk c6
      clear c6
      obtain ⟨y162, hy162⟩ : ∃ y_ : List (S65), y_ = (y158 ++ ((rd_T60 l0 x4_1).f0)) := ⟨_, rfl⟩
      replace H : (if x3_1.length < 5864062014805 then (spec_l7CopyRuns.l0 k1 l0 (x3_1 ++ [(⟨y162⟩ : S60)]) (wrap64 (x4_1 + 1))) else (none)) = some r := by first | (rw [hy162]; with_reducible exact H) | (have H2_ := (Option.bind_some _ _).symm.trans H; rw [hy162]; with_reducible exact H2_) | (have H2_ := (Option.bind_some _ _).symm.trans H; with_reducible exact H2_) | with_reducible exact H | (rw [hy162]; exact H) | exact H
      have Ny162 := Aside0.mk hy162
      clear hy162
      by_cases c7 : x3_1.length < 5864062014805
      ·rw [if_pos c7] at H
       have LMc7 := Aside0.mk c7
       clear c7
       obtain ⟨y165, hy165⟩ : ∃ y_ : List (S60), y_ = (x3_1 ++ [(⟨y162⟩ : S60)]) := ⟨_, rfl⟩
       replace H : (spec_l7CopyRuns.l0 k1 l0 y165 (wrap64 (x4_1 + 1))) = some r := by first | (rw [hy165]; with_reducible exact H) | (have H2_ := (Option.bind_some _ _).symm.trans H; rw [hy165]; with_reducible exact H2_) | (have H2_ := (Option.bind_some _ _).symm.trans H; with_reducible exact H2_) | with_reducible exact H | (rw [hy165]; exact H) | exact H
       have Ny165 := Aside0.mk hy165
       clear hy165
       have H' := Aside0.mk H
       clear H
       go_wp2_with (first | ((with_reducible refine gate_dst (N := 13) rfl ?_); refine Kd.R_lit k65 _ 65 ?hg (N := 13) ?hd (xs := ([] : List (S65))) (inner := []) (ok := fun _ => True) (okp := fun _ => True) ?hr ?hp (fun _ hk => hk) trivial (Below.refl _ _) (Nat.le_refl _) (by simp) ?_; (case hd => rfl); (case hg => rfl); (case hr => first | (go_simp; done) | (go_simp; rfl)); (case hp => exact (Reps.none _ _)); intro v159 w8 ho9 hb hg_ hnew_; clear hg_ hnew_; (first | rw [← Ny158.out] at ho9 | (simp only [Int.reduceToNat] at ho9; rw [← Ny158.out] at ho9)); have n0_ := Aside0.mk (Kd.S_elder' (by (with_reducible repeat (first | apply Kd.S_alloc | apply Kd.S_drewN | apply Kd.S_drew)); exact HO_3.out) (Kd.R_base ho9) hb); have n1_ := Aside0.mk (Kd.R_lower ho9 (below_size bw)); have n2_ := Aside0.mk (below_step bw hb); clear HO_3; clear HB; have HO_3 := n0_; have HO160 := n1_; have HB := n2_; clear n0_ n1_ n2_; clear hb ho9; have p161 : 0 ≤ (x4_1 : Int) := of_decide_eq_true (by first | (with_reducible assumption) | assumption); have q161 : x4_1 < (l0.length : Int) := of_decide_eq_true (by first | (with_reducible assumption) | assumption); obtain ⟨ad161, A161_0, c161_0, e161, hx161_0, hl161_0, hi161_0⟩ := at_T60 HR0.out x4_1 p161 q161; cases e161; replace hx161_0 := (HB.out.cell (World.block_lt_of_cell? w _ hx161_0)).trans hx161_0; have HR161_0 := Aside0.mk hi161_0; have HC161_0 := Aside0.mk hl161_0; clear hi161_0 hl161_0; replace p161 := eq_true p161; replace q161 := eq_true q161) | ((with_reducible refine gate_builtin (b := .append) (xs := #[.tmp 13, .tmp 18]) rfl ?_); at_builtin; refine Kd.R_append_rows k65 (w0 := w) w.heap.size rfl (.tmp 13) (.tmp 18) 58 65 (.agg #[(.string ⟨#[]⟩), (.string ⟨#[]⟩), (.string ⟨#[]⟩), (.int .u64 0), (.int .i64 0), (.string ⟨#[]⟩)]) 80 rfl Try.underlying58 info65 rfl (by decide) (by omega) v159 y158 ((rd_T60 l0 x4_1).f0) _ _ _ (fun _ => True) (fun _ => False) rfl rfl ?aO ?aR (fun _ _ h => h) (fun _ h => h.elim) ?aF ?aB ?aS ?aL ?_; (case aR => repeat (first | exact (Kd.C_below HR161_0.out HB.out) | (with_reducible refine Kd.C_alloc ?_ _) | (with_reducible refine Kd.C_drewN ?_ _) | (with_reducible refine Kd.C_drew ?_))); (case aB => exact bw); (case aF => exact (fun _ _ => trivial)); (case aO => exact (lf HO160)); (case aS => exact (below_size bw)); (case aL => have := LMc6.out; omega); intro v163 w10 ho hb hg hat; rw [← Ny162.out] at ho; have n0_ := Aside0.mk (Kd.S_after (ok := (fun _ => True)) (by (with_reducible repeat (first | apply Kd.S_alloc | apply Kd.S_drewN | apply Kd.S_drew)); exact HO_3.out) hg hat); have n1_ := Aside0.mk (hb); have n2_ := Aside0.mk (ho); clear HO_3; clear HB; clear HO160; have HO_3 := n0_; have HB := n1_; have HO164 := n2_; clear n0_ n1_ n2_; clear ho hb hg hat; obtain ⟨Ao11, co11, eo11⟩ := Kd.R_slice HO164.out; subst eo11) | ((with_reducible refine gate_builtin (b := .append) (xs := #[.tmp 12, .tmp 21]) rfl ?_); at_builtin; refine Kd.S_append k60 (w0 := w) w.heap.size rfl (.tmp 12) (.tmp 21) 38 60 (.agg #[(.slice none 0 0)]) 24 rfl Try.underlying38 info60 rfl (by decide) (by omega) u3 x3_1 (⟨y162⟩ : S60) [.slice Ao11 y162.length co11] (fun _ => True) (fun k_ => some k_ = (.slice Ao11 y162.length co11 : Value).ownBlock) rfl rfl ?aP (fun k_ hk_ => ((Kd.R_mono (ok' := fun k_ => ((fun _ => True)) k_ ∧ some k_ ≠ (u3 : Value).ownBlock) (Kd.R_apart' (HO164.out) (Kd.S_typed HO_3.out) (by decide)) (fun k_ hk => ⟨trivial, hk.2⟩))).1 k_ hk_.symm) ?aF ?aO ?aB ?aS ?aL ?_; (case aP => exact k60_mkM _ _ _ (⟨y162⟩ : S60) (Kd.R_mono (Kd.R_tight rfl (Kd.R_mono (ok' := fun k_ => ((fun _ => True)) k_ ∧ some k_ ≠ (u3 : Value).ownBlock) (Kd.R_apart' (HO164.out) (Kd.S_typed HO_3.out) (by decide)) (fun k_ hk => ⟨trivial, hk.2⟩))) (fun _ h_ => h_))); (case aB => exact bw); (case aF => exact (fun _ _ => trivial)); (case aO => exact (by (with_reducible repeat (first | apply Kd.S_alloc | apply Kd.S_drewN | apply Kd.S_drew)); exact Kd.S_mono HO_3.out (fun k_ hk => ⟨trivial, fun e_ => hk.2 e_⟩))); (case aS => exact (below_size bw)); (case aL => have := LMc7.out; omega); intro v166 w12 ho hb hg hat; rw [← Ny165.out] at ho; have n0_ := Aside0.mk (hb); have n1_ := Aside0.mk (ho); clear HB; clear HO_3; clear HO164; have HB := n0_; have HO167 := n1_; clear n0_ n1_; clear ho hb hg hat))
       go_roundg k1
       case measure => have := HK1.out; omega
       case rel => exact ⟨(y165), (wrap64 (x4_1 + 1)), (by first | rfl | (simp; done) | (simp [*]; done)), H', ⟨by have := HK1.out; omega⟩, ⟨by (with_reducible repeat (first | apply Kd.S_alloc | apply Kd.S_drewN | apply Kd.S_drew)); exact HO167.out⟩, ⟨bw⟩⟩
      ·rw [if_neg c7] at H
       exact absurd H (by simp)
     ·rw [if_neg c6] at H
      exact absurd H (by simp)
    ·rw [if_neg c5] at H
     exact absurd H (by simp)
   ·rw [if_neg c4] at H
    have c4b0 : decide (x4_1 < (l0.length : Int)) = false := decide_eq_false c4
    clear c4
    obtain rfl := Option.some.inj H
    go_wp2
    go_ret
    exact ⟨_, by first | rfl | (simp [errW_none, errW_some] <;> rfl) | (simp [*, errW_none, errW_some] <;> rfl), by (with_reducible repeat (first | apply Kd.S_alloc | apply Kd.S_drewN | apply Kd.S_drew)); exact HO_3.out, bw⟩

end Go.Proofs.Ytjlggfdmfchncaa.Q

namespace Go.Proofs.Ytjlggfdmfchncaa.Q
open Go.RowKit Go.Proofs.YtjlggfdmfchncaaW.PrintWords Go.Proofs.YtjlggfdmfchncaaW.PrintLast Go.Proofs.YtjlggfdmfchncaaW.PrintMore
set_option linter.unusedVariables false
set_option linter.unusedSimpArgs false

/-! ### spec_l7Copy: function 16 -/
def spec_l7Copy.l0 : Nat → Int → List (S40) → List (S40) → Option ((List (S40)))
 | 0, _, _, _ => none
 | k + 1, x4, x169000, x171000 => if x4 < (x169000.length : Int) then (if 0 ≤ x4 then ((spec_l7CopyRuns.f k ((rd_T40 x169000 x4).f1)).bind fun t173 => (if x171000.length < 3518437208883 then (spec_l7Copy.l0 k (wrap64 (x4 + 1)) x169000 (x171000 ++ [(⟨(rd_T40 x169000 x4).f0, t173⟩ : S40)])) else (none))) else (none)) else (some x171000)
def spec_l7Copy.f (k : Nat) (l0_0 : List (S40)) : Option ((List (S40))) := spec_l7Copy.l0 k 0 l0_0 ([] : List (S40))
def spec_l7Copy.T5 : Bool × List (List Nat × List Nat) := (true, [([], []), ([0], [0]), ([], []), ([2], [2]), ([], []), ([3, 4], [3, 4]), ([5], [5]), ([6], [6]), ([], []), ([8], [8]), ([], []), ([9, 10], [9, 10]), ([11], [11]), ([12], [12]), ([13], [13]), ([7, 14], [7, 14]), ([15], [15]), ([1, 16, 14], [1, 16]), ([0, 1, 2, 3, 4, 5, 6, 7, 8, 9, 10, 11, 12, 13, 14, 15, 16, 17], []), ([18, 17, 17, 0, 1, 2, 3, 4, 5, 6, 7, 8, 9, 10, 11, 12, 13, 14, 15, 16, 17], [17, 18])])
def spec_l7Copy.B5 : List Nat := [0, 1, 0, 4, 0, 28, 60, 124, 0, 256, 0, 1792, 3840, 7936, 16128, 32764, 65532, 131071, 262143, 524287]
theorem spec_l7Copy.tab5 : rtab .any (opsOf Try.f16 5) = spec_l7Copy.T5 := by kernel_rfl
theorem spec_l7Copy.bits5 : waitsOk spec_l7Copy.T5.2 spec_l7Copy.B5 = true := by kernel_rfl
set_option maxHeartbeats 8000000 in
set_option maxRecDepth 100000 in
theorem spec_l7Copy.calls (k : Nat) (A0_0 : Option Addr) (c0_0 : Nat) (l0_0 : List (S40)) (r : List (S40)) (w : World) (hr0_0 : Kd.C k40 w A0_0 l0_0.length l0_0) (hc0_0 : l0_0.length ≤ c0_0) (h : spec_l7Copy.f k l0_0 = some r) :
  Calls Try.prog 16 #[.agg #[.slice A0_0 l0_0.length c0_0]] w fun e w' => ∃ v0_ : Value, e = .returned (.agg #[v0_]) ∧ Kd.R k40 40 w' w.heap.size (fun _ => True) v0_ r ∧ Below w.heap.size w w' := by
 have hu28 := Try.underlying28
 have hu40 := Try.underlying40
 have HR0_0 := Aside0.mk hr0_0
 have HC0_0 := Aside0.mk hc0_0
 clear hr0_0 hc0_0
 have HB := Aside0.mk (Below.refl w.heap.size w)
 have H : (spec_l7Copy.l0 k 0 l0_0 ([] : List (S40))) = some r := h
 clear h
 have H' := Aside0.mk H
 clear H
 go_enter Try.func16, Try.ntmps16
 go_wp2_with (first | ((with_reducible refine gate_dst (N := 1) rfl ?_); refine box_event ?hg (N := 1) ?hd (cs := #[.slice A0_0 l0_0.length c0_0]) (t := 28) ?hr ?_; (case hd => rfl); (case hg => rfl); (case hr => first | (go_simp; done) | (go_simp; rfl)); intro gb168 hg w2 hbox hb; have n0_ := Aside0.mk (below_step bw hb); have n1_ := Aside0.mk (hbox); have n2_ := Aside0.mk ((by rw [hg]; exact (below_size bw) : w.heap.size ≤ gb168)); have n3_ := Aside0.mk ((by rw [hg]; exact (below_size bw) : w.heap.size ≤ gb168)); clear HB; have HB := n0_; have BK168 := n1_; have GW168 := n2_; have GE168 := n3_; clear n0_ n1_ n2_ n3_; clear hb hbox hg) | ((with_reducible refine gate_dst (N := 2) rfl ?_); refine box_event ?hg (N := 2) ?hd (cs := #[.slice none 0 0]) (t := 28) ?hr ?_; (case hd => rfl); (case hg => rfl); (case hr => first | (go_simp; done) | (go_simp; rfl)); intro gb169 hg w3 hbox hb; have n0_ := Aside0.mk (blk_below (g := gb168) (o := .cells #[.slice A0_0 l0_0.length c0_0] 28 (0, 0)) (lb BK168) hb); have n1_ := Aside0.mk (below_step bw hb); have n2_ := Aside0.mk (hbox); have n3_ := Aside0.mk ((by rw [hg]; exact (below_size bw) : w.heap.size ≤ gb169)); have n4_ := Aside0.mk ((by rw [hg]; exact (below_size bw) : w.heap.size ≤ gb169)); have n5_ := Aside0.mk ((by rw [hg]; exact Nat.ne_of_lt (blk_lt (g := gb168) (o := .cells #[.slice A0_0 l0_0.length c0_0] 28 (0, 0)) (lb BK168)) : gb168 ≠ gb169)); have n6_ := Aside0.mk ((by rw [hg]; exact Nat.ne_of_gt (blk_lt (g := gb168) (o := .cells #[.slice A0_0 l0_0.length c0_0] 28 (0, 0)) (lb BK168)) : gb169 ≠ gb168)); clear BK168; clear HB; have BK168 := n0_; have HB := n1_; have BK169 := n2_; have GW169 := n3_; have GE169 := n4_; have NB168_169 := n5_; have NB169_168 := n6_; clear n0_ n1_ n2_ n3_ n4_ n5_ n6_; clear hb hbox hg) | ((with_reducible refine gate_dst (N := 3) rfl ?_); refine box_event ?hg (N := 3) ?hd (cs := #[.slice none 0 0]) (t := 28) ?hr ?_; (case hd => rfl); (case hg => rfl); (case hr => first | (go_simp; done) | (go_simp; rfl)); intro gb170 hg w4 hbox hb; have n0_ := Aside0.mk (blk_below (g := gb168) (o := .cells #[.slice A0_0 l0_0.length c0_0] 28 (0, 0)) (lb BK168) hb); have n1_ := Aside0.mk (blk_below (g := gb169) (o := .cells #[.slice none 0 0] 28 (0, 0)) (lb BK169) hb); have n2_ := Aside0.mk (below_step bw hb); have n3_ := Aside0.mk (hbox); have n4_ := Aside0.mk ((by rw [hg]; exact (below_size bw) : w.heap.size ≤ gb170)); have n5_ := Aside0.mk ((by rw [hg]; exact (below_size bw) : w.heap.size ≤ gb170)); have n6_ := Aside0.mk ((by rw [hg]; exact Nat.ne_of_lt (blk_lt (g := gb168) (o := .cells #[.slice A0_0 l0_0.length c0_0] 28 (0, 0)) (lb BK168)) : gb168 ≠ gb170)); have n7_ := Aside0.mk ((by rw [hg]; exact Nat.ne_of_gt (blk_lt (g := gb168) (o := .cells #[.slice A0_0 l0_0.length c0_0] 28 (0, 0)) (lb BK168)) : gb170 ≠ gb168)); have n8_ := Aside0.mk ((by rw [hg]; exact Nat.ne_of_lt (blk_lt (g := gb169) (o := .cells #[.slice none 0 0] 28 (0, 0)) (lb BK169)) : gb169 ≠ gb170)); have n9_ := Aside0.mk ((by rw [hg]; exact Nat.ne_of_gt (blk_lt (g := gb169) (o := .cells #[.slice none 0 0] 28 (0, 0)) (lb BK169)) : gb170 ≠ gb169)); clear BK168; clear BK169; clear HB; have BK168 := n0_; have BK169 := n1_; have HB := n2_; have BK170 := n3_; have GW170 := n4_; have GE170 := n5_; have NB168_170 := n6_; have NB170_168 := n7_; have NB169_170 := n8_; have NB170_169 := n9_; clear n0_ n1_ n2_ n3_ n4_ n5_ n6_ n7_ n8_ n9_; clear hb hbox hg; have hnb5 := NB170_168.out; have hnc5 := NB168_170.out; have hnb6 := NB170_169.out; have hnc6 := NB169_170.out; have hcz7_0 : w4.cell? ⟨gb170, 0, none⟩ = some (.slice none 0 0) := (blk_cell BK170.out 0).trans rfl; have hfz7_0 := blk_frozen BK170.out 0))
 go_loopg [4] k (fun kq v4 w' => ∃ (x4_1 : Int) (x171000_1 : List (S40)) (u171000 : Value), v4 = .int .i64 x4_1 ∧ Aside0 (spec_l7Copy.l0 kq x4_1 l0_0 x171000_1 = some r) ∧ Aside0 (kq ≤ k) ∧ Aside0 (Kd.R k40 40 w' w.heap.size (fun _ => True) u171000 x171000_1) ∧ Aside0 (w'.heap[gb168]? = some (.cells #[(.slice A0_0 l0_0.length c0_0)] 28 (0, 0))) ∧ Aside0 (w'.heap[gb169]? = some (.cells #[(.slice none 0 0)] 28 (0, 0))) ∧ Aside0 (w'.heap[gb170]? = some (.cells #[u171000] 28 (0, 0))) ∧ Aside0 (Below w.heap.size w w'))
 case atStart => exact ⟨(0), (([] : List (S40))), (.slice none 0 0), (by first | rfl | (simp; done) | (simp [*]; done)), H', ⟨Nat.le_refl _⟩, ⟨by first | exact Kd.R_nil _ _ _ _ _ | exact Kd.N_nil _ _ _ _ _ | exact Kd.V_nil _ _ _ _ _ | exact Kd.Q_nil _ _ _ _ _ | exact Kd.S_nil _ _ _ _ _⟩, ⟨by (with_reducible repeat (first | refine blk_drewN ?_ _ | refine blk_drew ?_ | refine blk_alloc ?_ _)); refine blk_far ?_ NB168_170.out _; (with_reducible repeat (first | refine blk_drewN ?_ _ | refine blk_drew ?_ | refine blk_alloc ?_ _)); exact BK168.out⟩, ⟨by (with_reducible repeat (first | refine blk_drewN ?_ _ | refine blk_drew ?_ | refine blk_alloc ?_ _)); refine blk_far ?_ NB169_170.out _; (with_reducible repeat (first | refine blk_drewN ?_ _ | refine blk_drew ?_ | refine blk_alloc ?_ _)); exact BK169.out⟩, ⟨by (with_reducible repeat (first | refine blk_drewN ?_ _ | refine blk_drew ?_ | refine blk_alloc ?_ _)); refine blk_put (cs := #[.slice none 0 0]) ?_ 0 _ rfl; (with_reducible repeat (first | refine blk_drewN ?_ _ | refine blk_drew ?_ | refine blk_alloc ?_ _)); exact BK170.out⟩, ⟨bw⟩⟩
 case round =>
  clear H'
  try clear c1
  try clear p2
  try clear c5
  try clear c6
  try clear hcz7_0
  try clear hfz7_0
  obtain ⟨x4_1, x171000_1, u171000, rfl, HA, HK1, HO_171000, BK168, BK169, BK170, HB⟩ := hrel
  cases gk with
  | zero => exact absurd HA.out (by simp [spec_l7Copy.l0])
  | succ k1 =>
   have H := HA.out
   clear HA
   simp only [spec_l7Copy.l0] at H
   by_cases c8 : x4_1 < (l0_0.length : Int)
   ·rw [if_pos c8] at H
    have c8b0 : decide (x4_1 < (l0_0.length : Int)) = true := decide_eq_true c8
    clear c8
    by_cases c9 : 0 ≤ x4_1
    ·rw [if_pos c9] at H
     have c9b0 : decide (0 ≤ x4_1) = true := decide_eq_true c9
     clear c9
     replace H := Option.bind_eq_some_iff.mp H
     obtain ⟨t173, A100, H⟩ := H
     replace H : (if x171000_1.length < 3518437208883 then (spec_l7Copy.l0 k1 (wrap64 (x4_1 + 1)) l0_0 (x171000_1 ++ [(⟨(rd_T40 l0_0 x4_1).f0, t173⟩ : S40)])) else (none)) = some r := H
     have A10 := Aside0.mk A100
     clear A100
     by_cases c11 : x171000_1.length < 3518437208883
     ·rw [if_pos c11] at H
      have LMc11 := Aside0.mk c11
      clear c11
      obtain ⟨y176, hy176⟩ : ∃ y_ : List (S40), y_ = (x171000_1 ++ [(⟨(rd_T40 l0_0 x4_1).f0, t173⟩ : S40)]) := ⟨_, rfl⟩
      replace H : (spec_l7Copy.l0 k1 (wrap64 (x4_1 + 1)) l0_0 y176) = some r := by first | (rw [hy176]; with_reducible exact H) | (have H2_ := (Option.bind_some _ _).symm.trans H; rw [hy176]; with_reducible exact H2_) | (have H2_ := (Option.bind_some _ _).symm.trans H; with_reducible exact H2_) | with_reducible exact H | (rw [hy176]; exact H) | exact H
      have Ny176 := Aside0.mk hy176
      clear hy176
      have H' := Aside0.mk H
      clear H
      have hnb12 := NB168_169.out
      have hnc12 := NB169_168.out
      have hnb13 := NB168_170.out
      have hnc13 := NB170_168.out
      have hcz14_0 : wr.cell? ⟨gb168, 0, none⟩ = some (.slice A0_0 l0_0.length c0_0) := (blk_cell BK168.out 0).trans rfl
      have hfz14_0 := blk_frozen BK168.out 0
      try go_wp2
      have n0_ := Aside0.mk (Kd.R_drew HO_171000.out)
      have n1_ := Aside0.mk (blk_drew BK168.out)
      have n2_ := Aside0.mk (blk_drew BK169.out)
      have n3_ := Aside0.mk (blk_drew BK170.out)
      have n4_ := Aside0.mk (below_drew1 HB.out)
      clear HO_171000
      clear BK168
      clear BK169
      clear BK170
      clear HB
      have HO_171000 := n0_
      have BK168 := n1_
      have BK169 := n2_
      have BK170 := n3_
      have HB := n4_
      clear n0_ n1_ n2_ n3_ n4_
      have p171 : 0 ≤ (x4_1 : Int) := of_decide_eq_true (by first | (with_reducible assumption) | assumption)
      have q171 : x4_1 < (l0_0.length : Int) := of_decide_eq_true (by first | (with_reducible assumption) | assumption)
      obtain ⟨ad171, A171_1, c171_1, e171, hx171_0, hx171_1, hl171_1, hi171_1⟩ := at_T40 HR0_0.out x4_1 p171 q171
      have hw171_1 := hx171_1
      have hw171_0 := hx171_0
      cases e171
      replace hx171_0 := (HB.out.cell (World.block_lt_of_cell? w _ hx171_0)).trans hx171_0
      replace hx171_1 := (HB.out.cell (World.block_lt_of_cell? w _ hx171_1)).trans hx171_1
      have HR171_1 := Aside0.mk hi171_1
      have HC171_1 := Aside0.mk hl171_1
      clear hi171_1 hl171_1
      replace p171 := eq_true p171
      replace q171 := eq_true q171
      have p172 : 0 ≤ (x4_1 : Int) := of_decide_eq_true (by first | (with_reducible assumption) | assumption)
      have q172 : x4_1 < (l0_0.length : Int) := of_decide_eq_true (by first | (with_reducible assumption) | assumption)
      obtain ⟨ad172, A172_1, c172_1, e172, hx172_0, hx172_1, hl172_1, hi172_1⟩ := at_T40 HR0_0.out x4_1 p172 q172
      have hw172_1 := hx172_1
      have hw172_0 := hx172_0
      obtain rfl : ad171 = ad172 := (by injection e172)
      replace hx172_0 := (HB.out.cell (World.block_lt_of_cell? w _ hx172_0)).trans hx172_0
      replace hx172_1 := (HB.out.cell (World.block_lt_of_cell? w _ hx172_1)).trans hx172_1
      have HR172_1 := Aside0.mk hi172_1
      have HC172_1 := Aside0.mk hl172_1
      clear hi172_1 hl172_1
      replace p172 := eq_true p172
      replace q172 := eq_true q172
      have ea_ := Option.some.inj (hx171_1.symm.trans hx172_1)
      injection ea_ with ea_ en_ ec_
      subst ea_
      subst ec_
      clear en_
      refine start_ (n := 20) (S := fun w' => w'.cell? ⟨gb170, 0, none⟩ = some (u171000) ∧ w'.cell? ⟨gb168, 0, none⟩ = some (.slice (some ad171) l0_0.length c0_0) ∧ w'.cell? (ad171.add ((x4_1).toNat * 2)) = some (.string ((rd_T40 l0_0 x4_1).f0)) ∧ w'.cell? ⟨(ad171.add ((x4_1).toNat * 2)).block, (ad171.add ((x4_1).toNat * 2)).off + 1, none⟩ = some (.slice A171_1 ((rd_T40 l0_0 x4_1).f1).length c171_1) ∧ w'.cell? (ad171.add ((x4_1).toNat * 2)) = some (.string ((rd_T40 l0_0 x4_1).f0)) ∧ w'.cell? ⟨(ad171.add ((x4_1).toNat * 2)).block, (ad171.add ((x4_1).toNat * 2)).off + 1, none⟩ = some (.slice A171_1 ((rd_T40 l0_0 x4_1).f1).length c171_1)) (ds := [19]) #[false, false, false, false, false, false, false, false, false, false, false, false, false, false, false, false, false, false, false, false] (by kernel_rfl) rfl rfl ⟨(blk_cell BK170.out 0).trans rfl, (blk_cell BK168.out 0).trans rfl, ((HB.out.cell (World.block_lt_of_cell? w _ hw171_0)).trans hw171_0), ((HB.out.cell (World.block_lt_of_cell? w _ hw171_1)).trans hw171_1), ((HB.out.cell (World.block_lt_of_cell? w _ hw172_0)).trans hw172_0), ((HB.out.cell (World.block_lt_of_cell? w _ hw172_1)).trans hw172_1)⟩ (fun hHeld => ?_); refine with_tabW spec_l7Copy.tab5 spec_l7Copy.bits5 (fun HT_ HW_ => ?_)
      generalize wr.drew = w15 at HO_171000 BK168 BK169 BK170 HB HR171_1 HR172_1 hx171_0 hx171_1 hx172_0 hx172_1 hHeld ⊢
      refine pure_ (i := 0) (N := some 13) (v := ?_) (a' := ?_) #[true, false, false, false, false, false, false, false, false, false, false, false, false, false, false, false, false, false, false, false] rfl rfl (any_of HT_.out (by kernel_rfl)) (fun _ _ _ h => h) (Or.inl ⟨by rfl, ?_⟩) ?_ ?_
      rotate_left
      ·intro w'
       go_simp
       with_reducible rfl
      rotate_left
      ·simp only [Act.put, List.setIfInBounds_toArray, List.set_cons_zero, List.set_cons_succ, i64_w, i32_w]
       rfl
      refine pure_ (i := 2) (N := some 15) (v := ?_) (a' := ?_) #[true, false, true, false, false, false, false, false, false, false, false, false, false, false, false, false, false, false, false, false] rfl rfl (any_of HT_.out (by kernel_rfl)) (fun _ _ _ h => h) (Or.inl ⟨by rfl, ?_⟩) ?_ ?_
      rotate_left
      ·intro w'
       go_simp
       with_reducible rfl
      rotate_left
      ·simp only [Act.put, List.setIfInBounds_toArray, List.set_cons_zero, List.set_cons_succ, i64_w, i32_w]
       rfl
      refine pure_ (i := 4) (N := some 17) (v := ?_) (a' := ?_) #[true, false, true, false, true, false, false, false, false, false, false, false, false, false, false, false, false, false, false, false] rfl rfl (any_of HT_.out (by kernel_rfl)) (fun _ _ _ h => h) (Or.inl ⟨by rfl, ?_⟩) ?_ ?_
      rotate_left
      ·intro w'
       go_simp
       with_reducible rfl
      rotate_left
      ·simp only [Act.put, List.setIfInBounds_toArray, List.set_cons_zero, List.set_cons_succ, i64_w, i32_w]
       rfl
      refine pure_ (i := 8) (N := some 21) (v := ?_) (a' := ?_) #[true, false, true, false, true, false, false, false, true, false, false, false, false, false, false, false, false, false, false, false] rfl rfl (any_of HT_.out (by kernel_rfl)) (fun _ _ _ h => h) (Or.inl ⟨by rfl, ?_⟩) ?_ ?_
      rotate_left
      ·intro w'
       go_simp
       with_reducible rfl
      rotate_left
      ·simp only [Act.put, List.setIfInBounds_toArray, List.set_cons_zero, List.set_cons_succ, i64_w, i32_w]
       rfl
      refine pure_ (i := 10) (N := some 23) (v := ?_) (a' := ?_) #[true, false, true, false, true, false, false, false, true, false, true, false, false, false, false, false, false, false, false, false] rfl rfl (any_of HT_.out (by kernel_rfl)) (fun _ _ _ h => h) (Or.inl ⟨by rfl, ?_⟩) ?_ ?_
      rotate_left
      ·intro w'
       go_simp
       with_reducible rfl
      rotate_left
      ·simp only [Act.put, List.setIfInBounds_toArray, List.set_cons_zero, List.set_cons_succ, i64_w, i32_w]
       rfl
      refine take_ (i := 1) (N := some 14) (v := ?_) (a' := ?_) #[true, true, true, false, true, false, false, false, true, false, true, false, false, false, false, false, false, false, false, false] rfl rfl (take_ofW HT_.out HW_.out (by kernel_rfl)) (fun _ _ _ h => h) (Or.inl ⟨by rfl, ?_⟩) hHeld ?_ ?_
      rotate_left
      ·rintro w' ⟨s0, s1, s2, s3, s4, s5⟩
       go_simp
       with_reducible rfl
      rotate_left
      ·simp only [Act.put, List.setIfInBounds_toArray, List.set_cons_zero, List.set_cons_succ, i64_w, i32_w]
       rfl
      refine take_ (i := 3) (N := some 16) (v := ?_) (a' := ?_) #[true, true, true, true, true, false, false, false, true, false, true, false, false, false, false, false, false, false, false, false] rfl rfl (take_ofW HT_.out HW_.out (by kernel_rfl)) (fun _ _ _ h => h) (Or.inl ⟨by rfl, ?_⟩) hHeld ?_ ?_
      rotate_left
      ·rintro w' ⟨s0, s1, s2, s3, s4, s5⟩
       go_simp
       with_reducible rfl
      rotate_left
      ·simp only [Act.put, List.setIfInBounds_toArray, List.set_cons_zero, List.set_cons_succ, i64_w, i32_w]
       rfl
      refine pure_ (i := 5) (N := some 18) (v := ?_) (a' := ?_) #[true, true, true, true, true, true, false, false, true, false, true, false, false, false, false, false, false, false, false, false] rfl rfl (any_of HT_.out (by kernel_rfl)) (fun _ _ _ h => h) (Or.inl ⟨by rfl, ?_⟩) ?_ ?_
      rotate_left
      ·intro w'
       go_simp
       with_reducible rfl
      rotate_left
      ·simp only [Act.put, List.setIfInBounds_toArray, List.set_cons_zero, List.set_cons_succ, i64_w, i32_w]
       rfl
      refine pure_ (i := 6) (N := some 19) (v := ?_) (a' := ?_) #[true, true, true, true, true, true, true, false, true, false, true, false, false, false, false, false, false, false, false, false] rfl rfl (any_of HT_.out (by kernel_rfl)) (fun _ _ _ h => h) (Or.inl ⟨by rfl, ?_⟩) ?_ ?_
      rotate_left
      ·intro w'
       go_simp
       with_reducible rfl
      rotate_left
      ·simp only [Act.put, List.setIfInBounds_toArray, List.set_cons_zero, List.set_cons_succ, i64_w, i32_w]
       rfl
      refine take_ (i := 7) (N := some 20) (v := ?_) (a' := ?_) #[true, true, true, true, true, true, true, true, true, false, true, false, false, false, false, false, false, false, false, false] rfl rfl (take_ofW HT_.out HW_.out (by kernel_rfl)) (fun _ _ _ h => h) (Or.inl ⟨by rfl, ?_⟩) hHeld ?_ ?_
      rotate_left
      ·rintro w' ⟨s0, s1, s2, s3, s4, s5⟩
       go_simp
       with_reducible rfl
      rotate_left
      ·simp only [Act.put, List.setIfInBounds_toArray, List.set_cons_zero, List.set_cons_succ, i64_w, i32_w]
       rfl
      refine take_ (i := 9) (N := some 22) (v := ?_) (a' := ?_) #[true, true, true, true, true, true, true, true, true, true, true, false, false, false, false, false, false, false, false, false] rfl rfl (take_ofW HT_.out HW_.out (by kernel_rfl)) (fun _ _ _ h => h) (Or.inl ⟨by rfl, ?_⟩) hHeld ?_ ?_
      rotate_left
      ·rintro w' ⟨s0, s1, s2, s3, s4, s5⟩
       go_simp
       with_reducible rfl
      rotate_left
      ·simp only [Act.put, List.setIfInBounds_toArray, List.set_cons_zero, List.set_cons_succ, i64_w, i32_w]
       rfl
      refine pure_ (i := 11) (N := some 24) (v := ?_) (a' := ?_) #[true, true, true, true, true, true, true, true, true, true, true, true, false, false, false, false, false, false, false, false] rfl rfl (any_of HT_.out (by kernel_rfl)) (fun _ _ _ h => h) (Or.inl ⟨by rfl, ?_⟩) ?_ ?_
      rotate_left
      ·intro w'
       go_simp
       with_reducible rfl
      rotate_left
      ·simp only [Act.put, List.setIfInBounds_toArray, List.set_cons_zero, List.set_cons_succ, i64_w, i32_w]
       rfl
      refine pure_ (i := 12) (N := some 25) (v := ?_) (a' := ?_) #[true, true, true, true, true, true, true, true, true, true, true, true, true, false, false, false, false, false, false, false] rfl rfl (any_of HT_.out (by kernel_rfl)) (fun _ _ _ h => h) (Or.inl ⟨by rfl, ?_⟩) ?_ ?_
      rotate_left
      ·intro w'
       go_simp
       with_reducible rfl
      rotate_left
      ·simp only [Act.put, List.setIfInBounds_toArray, List.set_cons_zero, List.set_cons_succ, i64_w, i32_w]
       rfl
      refine take_ (i := 13) (N := some 26) (v := ?_) (a' := ?_) #[true, true, true, true, true, true, true, true, true, true, true, true, true, true, false, false, false, false, false, false] rfl rfl (take_ofW HT_.out HW_.out (by kernel_rfl)) (fun _ _ _ h => h) (Or.inl ⟨by rfl, ?_⟩) hHeld ?_ ?_
      rotate_left
      ·rintro w' ⟨s0, s1, s2, s3, s4, s5⟩
       go_simp
       with_reducible rfl
      rotate_left
      ·simp only [Act.put, List.setIfInBounds_toArray, List.set_cons_zero, List.set_cons_succ, i64_w, i32_w]
       rfl
      refine one_ (i := 14) (N := some 27) #[true, true, true, true, true, true, true, true, true, true, true, true, true, true, true, false, false, false, false, false] rfl rfl (one_of HT_.out (by kernel_rfl)) (by decide) (fun K hK => ?_)
      refine goes_ Try.func18 (by kernel_rfl) rfl #[.slice A171_1 ((rd_T40 l0_0 x4_1).f1).length c171_1] (by rfl) rfl rfl (by (try simp only [List.map_toArray, List.map_cons, List.map_nil]); first | done | rfl | (simp only [List.length_drop, List.length_take]; rfl)) ?_
      with_reducible refine (spec_l7CopyRuns.calls k1 _ _ ((rd_T40 l0_0 x4_1).f1) t173 _ ?side1 ?side2 A10.out).mono ?_
      (case side1 => repeat (first | exact (Kd.C_below HR172_1.out HB.out) | (with_reducible refine Kd.C_alloc ?_ _) | (with_reducible refine Kd.C_drewN ?_ _) | (with_reducible refine Kd.C_drew ?_)))
      (case side2 => exact HC172_1.out)
      rintro e w16 ⟨v174, rfl, ho0, hb⟩
      refine ⟨_, rfl, ?_⟩
      have n0_ := Aside0.mk (Kd.R_elder' (lf HO_171000) (Kd.S_base ho0) hb)
      have n1_ := Aside0.mk (Kd.S_lower ho0 (below_size bw))
      have n2_ := Aside0.mk (blk_below (g := gb168) (o := .cells #[.slice (some ad171) l0_0.length c0_0] 28 (0, 0)) (lb BK168) hb)
      have n3_ := Aside0.mk (blk_below (g := gb169) (o := .cells #[.slice none 0 0] 28 (0, 0)) (lb BK169) hb)
      have n4_ := Aside0.mk (blk_below (g := gb170) (o := .cells #[u171000] 28 (0, 0)) (lb BK170) hb)
      have n5_ := Aside0.mk (below_step bw hb)
      clear HO_171000
      clear BK168
      clear BK169
      clear BK170
      clear HB
      have HO_171000 := n0_
      have HO175 := n1_
      have BK168 := n2_
      have BK169 := n3_
      have BK170 := n4_
      have HB := n5_
      clear n0_ n1_ n2_ n3_ n4_ n5_
      (try clear hb)
      (try clear hb2)
      (try clear hk)
      (try clear hi)
      (try clear ho0)
      obtain ⟨Ao17, co17, eo17⟩ := Kd.S_slice HO175.out
      (first | subst eo17 | (injection eo17 with f1_ f2_ f3_; have f4_ := f1_.symm; have f5_ := f3_.symm; clear f1_ f2_ f3_; subst f4_; subst f5_))
      refine hK.out _ _ ⟨(blk_cell BK170.out 0).trans rfl, (blk_cell BK168.out 0).trans rfl, ((HB.out.cell (World.block_lt_of_cell? w _ hw171_0)).trans hw171_0), ((HB.out.cell (World.block_lt_of_cell? w _ hw171_1)).trans hw171_1), ((HB.out.cell (World.block_lt_of_cell? w _ hw172_0)).trans hw172_0), ((HB.out.cell (World.block_lt_of_cell? w _ hw172_1)).trans hw172_1)⟩ (fun hHeld => ?_)
      clear hK K
      refine norm_ (a' := ?_) ?_ ?_
      rotate_left
      ·show Act.put _ (some 27) _ = _
       simp only [Act.put, List.setIfInBounds_toArray, List.set_cons_zero, List.set_cons_succ, i64_w, i32_w]
       rfl
      refine pure_ (i := 15) (N := some 28) (v := ?_) (a' := ?_) #[true, true, true, true, true, true, true, true, true, true, true, true, true, true, true, true, false, false, false, false] rfl rfl (any_of HT_.out (by kernel_rfl)) (fun _ _ _ h => h) (Or.inl ⟨by rfl, ?_⟩) ?_ ?_
      rotate_left
      ·intro w'
       go_simp
       with_reducible rfl
      rotate_left
      ·simp only [Act.put, List.setIfInBounds_toArray, List.set_cons_zero, List.set_cons_succ, i64_w, i32_w]
       rfl
      refine one_ (i := 16) (N := some 29) #[true, true, true, true, true, true, true, true, true, true, true, true, true, true, true, true, true, false, false, false] rfl rfl (one_of HT_.out (by kernel_rfl)) (by decide) (fun K hK => ?_)
      refine value_ (w1 := ?_) (v := ?_) (by rfl) rfl ?_ ?_
      rotate_left 2
      ·go_simp
       constructor
       ·rfl
       ·rfl
      refine hK.out _ _ ⟨(blk_cell (blk_alloc BK170.out _) 0).trans rfl, (blk_cell (blk_alloc BK168.out _) 0).trans rfl, (World.cell?_alloc_lt _ _ _ (World.block_lt_of_cell? _ _ (((HB.out.cell (World.block_lt_of_cell? w _ hw171_0)).trans hw171_0)))).trans (((HB.out.cell (World.block_lt_of_cell? w _ hw171_0)).trans hw171_0)), (World.cell?_alloc_lt _ _ _ (World.block_lt_of_cell? _ _ (((HB.out.cell (World.block_lt_of_cell? w _ hw171_1)).trans hw171_1)))).trans (((HB.out.cell (World.block_lt_of_cell? w _ hw171_1)).trans hw171_1)), (World.cell?_alloc_lt _ _ _ (World.block_lt_of_cell? _ _ (((HB.out.cell (World.block_lt_of_cell? w _ hw172_0)).trans hw172_0)))).trans (((HB.out.cell (World.block_lt_of_cell? w _ hw172_0)).trans hw172_0)), (World.cell?_alloc_lt _ _ _ (World.block_lt_of_cell? _ _ (((HB.out.cell (World.block_lt_of_cell? w _ hw172_1)).trans hw172_1)))).trans (((HB.out.cell (World.block_lt_of_cell? w _ hw172_1)).trans hw172_1))⟩ (fun hHeld => ?_)
      clear hK K
      refine norm_ (a' := ?_) ?_ ?_
      rotate_left
      ·show Act.put _ (some 29) _ = _
       simp only [Act.put, List.setIfInBounds_toArray, List.set_cons_zero, List.set_cons_succ, i64_w, i32_w]
       rfl
      refine one_ (i := 17) (N := some 30) #[true, true, true, true, true, true, true, true, true, true, true, true, true, true, true, true, true, true, false, false] rfl rfl (one_of HT_.out (by kernel_rfl)) (by decide) (fun K hK => ?_)
      refine Kd.R_append_step k40 (w0 := w) w.heap.size (by rfl) (.tmp 14) (.tmp 29) 26 40 (.agg #[(.string ⟨#[]⟩), (.slice none 0 0)]) 40 rfl Try.underlying26 info40 rfl (by decide) (by omega) u171000 x171000_1 (⟨(rd_T40 l0_0 x4_1).f0, t173⟩ : S40) [.string ((rd_T40 l0_0 x4_1).f0), .slice Ao17 t173.length co17] (fun _ => True) (fun k_ => ((fun _ => True)) k_ ∧ some k_ ≠ (u171000 : Value).ownBlock) rfl rfl ?aP (fun _ hk => hk) ?aF ?aO ?aB ?aS ?aL ?_
      (case aP => exact k40_mkM _ _ _ (⟨(rd_T40 l0_0 x4_1).f0, t173⟩ : S40) (Kd.R_mono (Kd.R_apart' ((Kd.S_R HO175.out)) (Kd.R_typed HO_171000.out) (by decide)) (fun k_ hk => ⟨trivial, hk.2⟩)))
      (case aB => exact bw)
      (case aF => exact (fun _ _ => trivial))
      (case aO => exact (by (with_reducible repeat (first | apply Kd.R_alloc | apply Kd.R_drewN | apply Kd.R_drew)); exact Kd.R_mono HO_171000.out (fun _ hk => trivial)))
      (case aS => exact (below_size bw))
      (case aL => have := LMc11.out; omega)
      intro v177 w18 ho hb hg hat
      rw [← Ny176.out] at ho
      have n0_ := Aside0.mk (blk_grown (g := gb168) (o := .cells #[.slice (some ad171) l0_0.length c0_0] 28 (0, 0)) (lb BK168) hg (Kd.R_ne HO_171000.out BK168.out (by decide)))
      have n1_ := Aside0.mk (blk_grown (g := gb169) (o := .cells #[.slice none 0 0] 28 (0, 0)) (lb BK169) hg (Kd.R_ne HO_171000.out BK169.out (by decide)))
      have n2_ := Aside0.mk (blk_grown (g := gb170) (o := .cells #[u171000] 28 (0, 0)) (lb BK170) hg (Kd.R_ne HO_171000.out BK170.out (by decide)))
      have n3_ := Aside0.mk (hb)
      have n4_ := Aside0.mk (ho)
      clear BK168
      clear BK169
      clear BK170
      clear HB
      clear HO_171000
      clear HO175
      have BK168 := n0_
      have BK169 := n1_
      have BK170 := n2_
      have HB := n3_
      have HO178 := n4_
      clear n0_ n1_ n2_ n3_ n4_
      clear ho hb hg hat
      obtain ⟨Ao19, co19, eo19⟩ := Kd.R_slice HO178.out
      (first | subst eo19 | (injection eo19 with f1_ f2_ f3_; have f4_ := f1_.symm; have f5_ := f3_.symm; clear f1_ f2_ f3_; subst f4_; subst f5_))
      refine hK.out _ _ ⟨(blk_cell BK170.out 0).trans rfl, (blk_cell BK168.out 0).trans rfl, ((HB.out.cell (World.block_lt_of_cell? w _ hw171_0)).trans hw171_0), ((HB.out.cell (World.block_lt_of_cell? w _ hw171_1)).trans hw171_1), ((HB.out.cell (World.block_lt_of_cell? w _ hw172_0)).trans hw172_0), ((HB.out.cell (World.block_lt_of_cell? w _ hw172_1)).trans hw172_1)⟩ (fun hHeld => ?_)
      clear hK K
      refine norm_ (a' := ?_) ?_ ?_
      rotate_left
      ·show Act.put _ (some 30) _ = _
       simp only [Act.put, List.setIfInBounds_toArray, List.set_cons_zero, List.set_cons_succ, i64_w, i32_w]
       rfl
      refine pure_ (i := 18) (N := some 31) (v := ?_) (a' := ?_) #[true, true, true, true, true, true, true, true, true, true, true, true, true, true, true, true, true, true, true, false] rfl rfl (any_of HT_.out (by kernel_rfl)) (fun _ _ _ h => h) (Or.inl ⟨by rfl, ?_⟩) ?_ ?_
      rotate_left
      ·intro w'
       go_simp
       with_reducible rfl
      rotate_left
      ·simp only [Act.put, List.setIfInBounds_toArray, List.set_cons_zero, List.set_cons_succ, i64_w, i32_w]
       rfl
      refine last_ (i := 19) (N := none) #[true, true, true, true, true, true, true, true, true, true, true, true, true, true, true, true, true, true, true, true] rfl rfl (one_of HT_.out (by kernel_rfl)) (by decide) (fun K hK => ?_)
      have hs20 : w18.cell? ⟨gb170, 0, none⟩ = some (u171000) := (blk_cell BK170.out 0).trans rfl
      have hfs20 := blk_frozen BK170.out 0
      have hns20_0 := NB168_170.out
      have hns20_1 := NB169_170.out
      have hms20_0 := NB170_168.out
      have hms20_1 := NB170_169.out
      refine skip_ (w1 := ?_) (by rfl) rfl ?_ ?_
      rotate_left
      ·go_simp
       rfl
      refine hK.out _ _ ?_
      clear hK K
      refine done_ (done_of HT_.out (by kernel_rfl)) ?_
      try go_wp2
      go_roundg k1
      case measure => have := HK1.out; omega
      case rel => exact ⟨(wrap64 (x4_1 + 1)), (y176), (.slice Ao19 y176.length co19), (by first | rfl | (simp; done) | (simp [*]; done)), H', ⟨by have := HK1.out; omega⟩, ⟨by (with_reducible repeat (first | apply Kd.R_alloc | apply Kd.R_drewN | apply Kd.R_drew)); exact Kd.R_mono (Kd.R_far (p := ⟨gb170, 0, none⟩) (Kd.R_types HO178.out BK170.out (by decide)) (fun _ hk => hk.2) (.slice Ao19 y176.length co19)) (fun _ hk => trivial)⟩, ⟨by (with_reducible repeat (first | refine blk_drewN ?_ _ | refine blk_drew ?_ | refine blk_alloc ?_ _)); refine blk_far ?_ NB168_170.out _; (with_reducible repeat (first | refine blk_drewN ?_ _ | refine blk_drew ?_ | refine blk_alloc ?_ _)); exact BK168.out⟩, ⟨by (with_reducible repeat (first | refine blk_drewN ?_ _ | refine blk_drew ?_ | refine blk_alloc ?_ _)); refine blk_far ?_ NB169_170.out _; (with_reducible repeat (first | refine blk_drewN ?_ _ | refine blk_drew ?_ | refine blk_alloc ?_ _)); exact BK169.out⟩, ⟨by (with_reducible repeat (first | refine blk_drewN ?_ _ | refine blk_drew ?_ | refine blk_alloc ?_ _)); refine blk_put (cs := #[u171000]) ?_ 0 _ rfl; (with_reducible repeat (first | refine blk_drewN ?_ _ | refine blk_drew ?_ | refine blk_alloc ?_ _)); exact BK170.out⟩, ⟨bw⟩⟩
     ·rw [if_neg c11] at H
      exact absurd H (by simp)
    ·rw [if_neg c9] at H
     exact absurd H (by simp)
   ·rw [if_neg c8] at H
    have c8b0 : decide (x4_1 < (l0_0.length : Int)) = false := decide_eq_false c8
    clear c8
    obtain rfl := Option.some.inj H
    have hnb21 := NB168_169.out
    have hnc21 := NB169_168.out
    have hnb22 := NB168_170.out
    have hnc22 := NB170_168.out
    have hcz23_0 : wr.cell? ⟨gb168, 0, none⟩ = some (.slice A0_0 l0_0.length c0_0) := (blk_cell BK168.out 0).trans rfl
    have hfz23_0 := blk_frozen BK168.out 0
    have hnb24 := NB170_169.out
    have hnc24 := NB169_170.out
    have hcz25_0 : wr.cell? ⟨gb170, 0, none⟩ = some (u171000) := (blk_cell BK170.out 0).trans rfl
    have hfz25_0 := blk_frozen BK170.out 0
    obtain ⟨Ao26, co26, eo26⟩ := Kd.R_slice HO_171000.out
    subst eo26
    have hcz27_0 : wr.cell? ⟨gb169, 0, none⟩ = some (.slice none 0 0) := (blk_cell BK169.out 0).trans rfl
    have hfz27_0 := blk_frozen BK169.out 0
    go_wp2
    refine bodyPost_ret (results_cell_row rfl _ _ gb169 28 #[.slice Ao26 x171000_1.length co26] (0, 0) _ rfl (by (with_reducible repeat (first | refine blk_drewN ?_ _ | refine blk_drew ?_ | refine blk_alloc ?_ _)); refine blk_put (cs := #[.slice none 0 0]) ?_ 0 _ rfl; (with_reducible repeat (first | refine blk_drewN ?_ _ | refine blk_drew ?_ | refine blk_alloc ?_ _)); exact BK169.out) Try.underlying28 rfl (by kernel_rfl)) rfl ?_
    exact ⟨_, by first | rfl | (simp [errW_none, errW_some] <;> rfl) | (simp [*, errW_none, errW_some] <;> rfl), by (with_reducible repeat (first | apply Kd.R_alloc | apply Kd.R_drewN | apply Kd.R_drew)); exact Kd.R_mono (Kd.R_far (p := ⟨gb169, 0, none⟩) (Kd.R_types HO_171000.out BK169.out (by decide)) (fun _ hk => hk.2) (.slice Ao26 x171000_1.length co26)) (fun _ hk => trivial), bw⟩

end Go.Proofs.Ytjlggfdmfchncaa.Q

namespace Go.Proofs.Ytjlggfdmfchncaa.Q
open Go.RowKit Go.Proofs.YtjlggfdmfchncaaW.PrintWords Go.Proofs.YtjlggfdmfchncaaW.PrintLast Go.Proofs.YtjlggfdmfchncaaW.PrintMore
set_option linter.unusedVariables false
set_option linter.unusedSimpArgs false
theorem copyRuns_loop (rs : List IR) (hl : rs.length ≤ 1048576) (hq : ∀ q ∈ rs, q.f0.length ≤ 1048576) : ∀ (rest pre : List IR), rs = pre ++ rest → Ev (fun k => spec_l7CopyRuns.l0 k rs pre (pre.length : Int)) rs := by
  intro rest
  induction rest with
  | nil => intro pre e; exact Ev.shift 1 fun k => by simp only [spec_l7CopyRuns.l0]; rw [if_neg (by rw [e]; simp), e]; simp
  | cons x rest ih =>
    intro pre e
    have hlt : pre.length < rs.length := by rw [e]; exact len_cut _ _ _
    have hd : rd_T60 rs (pre.length : Int) = x := by unfold rd_T60; rw [Int.toNat_natCast, e, getD_cut]
    have h := ih (pre ++ [x]) (by simp [e])
    rw [List.length_append, List.length_singleton] at h
    refine Ev.round (fun k => ?_) h
    simp only [spec_l7CopyRuns.l0]
    have hx := hq x (by rw [e]; simp)
    rw [if_pos (by omega), hd]
    simp only [Option.bind_some, List.nil_append, List.length_nil]
    rw [if_pos (by omega), if_pos (by omega), if_pos (by omega), wrap_nat _ (by omega)]
theorem copyRuns_is (rs : List IR) (hl : rs.length ≤ 1048576) (hq : ∀ q ∈ rs, q.f0.length ≤ 1048576) : Ev (fun k => spec_l7CopyRuns.f k rs) rs := copyRuns_loop rs hl hq rs [] rfl
theorem copy_loop (ts : List IT) (hs : SmS ts) : ∀ (rest pre : List IT), ts = pre ++ rest → Ev (fun k => spec_l7Copy.l0 k (pre.length : Int) ts pre) ts := by
  intro rest
  induction rest with
  | nil => intro pre e; exact Ev.shift 1 fun k => by simp only [spec_l7Copy.l0]; rw [if_neg (by rw [e]; simp), e]; simp
  | cons x rest ih =>
    intro pre e
    have hlt : pre.length < ts.length := by rw [e]; exact len_cut _ _ _
    have hd : rd_T40 ts (pre.length : Int) = x := by unfold rd_T40; rw [Int.toNat_natCast, e, getD_cut]
    have h := ih (pre ++ [x]) (by simp [e])
    rw [List.length_append, List.length_singleton] at h
    have hx := hs.2 x (by rw [e]; simp)
    have hl := hs.1
    refine Ev.round (f := fun k => (spec_l7CopyRuns.f k x.f1).bind fun t => spec_l7Copy.l0 k ((pre.length + 1 : Nat) : Int) ts (pre ++ [(⟨x.f0, t⟩ : IT)])) (fun k => ?_) (Ev.bind (copyRuns_is x.f1 hx.1 hx.2) h)
    simp only [spec_l7Copy.l0]
    rw [if_pos (by omega), if_pos (by omega), hd]
    simp only [show pre.length < 3518437208883 by omega, if_true]
    rw [wrap_nat _ (by omega)]
theorem copy_is (ts : List IT) (hs : SmS ts) : Ev (fun k => spec_l7Copy.f k ts) ts := copy_loop ts hs ts [] rfl
theorem lcopy_call (A : Option Addr) (c : Nat) (ts : List IT) (w : World) (hr : Kd.C k40 w A ts.length ts) (hc : ts.length ≤ c) (hs : SmS ts) :
    Calls Try.prog 16 #[.agg #[.slice A ts.length c]] w fun e w' => ∃ v, e = .returned (.agg #[v]) ∧ Kd.R k40 40 w' w.heap.size (fun _ => True) v ts ∧ Below w.heap.size w w' := by
  obtain ⟨K, hK⟩ := copy_is ts hs
  exact spec_l7Copy.calls K A c ts _ w hr hc (hK K (Nat.le_refl _))
/-! rows as cells -/
section
variable {α : Type} {d : Kd α} {e base n cap g : Nat} {W w : World} {ok : Nat → Prop} {v : Value} {xs : List α} {rows : List (List Value)} {A : Option Addr}
theorem raw_of_R (h : Kd.R d e W base ok v xs) : ∃ rows : List (List Value), rows.length = xs.length ∧ (Kd.raw d.sz).R e W base (fun _ => True) v rows ∧ ∀ (m : Nat) (x : α), xs[m]? = some x → ∃ cm, rows[m]? = some cm ∧ d.M W base (fun k => ok k ∧ some k ≠ v.ownBlock) x cm := by
  obtain ⟨hok0, inner, ho, hr⟩ := h
  have hp : ∀ m x, xs[m]? = some x → d.M W base (fun k => ok k ∧ some k ≠ v.ownBlock) x ((inner.drop (m * d.sz)).take d.sz) := fun m x hx => hr.2 m x hx
  refine ⟨(List.range xs.length).map fun j => (inner.drop (j * d.sz)).take d.sz, by rw [List.length_map, List.length_range], ⟨fun _ _ => trivial, inner, ?_, ?_, fun j p hj => ?_⟩, fun m x hx => ?_⟩
  · rw [List.length_map, List.length_range]; exact ho
  · rw [List.length_map, List.length_range]; exact hr.1
  · rw [List.getElem?_map] at hj
    obtain ⟨j', hj', rfl⟩ := Option.map_eq_some_iff.1 hj
    obtain ⟨hl, he⟩ := List.getElem?_eq_some_iff.1 hj'
    rw [List.getElem_range] at he
    subst he
    rw [List.length_range] at hl
    have hm := d.K_of_M (hp j _ (List.getElem?_eq_getElem hl))
    exact ⟨rfl, d.K_len hm, d.K_one hm⟩
  · have hm : m < xs.length := (List.getElem?_eq_some_iff.1 hx).1
    exact ⟨_, by rw [List.getElem?_map, List.getElem?_eq_getElem (by rw [List.length_range]; exact hm), List.getElem_range]; rfl, hp m x hx⟩
theorem C_of_raw (h : (Kd.raw d.sz).C w A rows.length rows) (hl : rows.length = xs.length) (hK : ∀ (m : Nat) (x : α), xs[m]? = some x → ∃ cm, rows[m]? = some cm ∧ d.K w x cm) : Kd.C d w A xs.length xs := by
  refine ⟨rfl, by have := h.2.1; rw [hl] at this; exact this, fun h0 => ?_⟩
  obtain ⟨ad, rfl, hc⟩ := h.2.2 (by rw [hl]; exact h0)
  refine ⟨ad, rfl, fun j p hj => ?_⟩
  obtain ⟨cm, h1, h2⟩ := hK j p hj
  obtain ⟨c, h3, h4, h5⟩ := hc j cm h1
  have : c = cm := h4.1
  subst this
  exact ⟨c, h3, h2, h5⟩
end
theorem kb_cell {Wc W : World} {g : Nat} {a : Addr} {v : Value} (h : KeepBut Wc W g none) (hc : Wc.cell? a = some v) (ha : a.block ≠ g) : W.cell? a = some v :=
  (World.cell?_of_block (h.2 _ (World.block_lt_of_cell? Wc a hc) ha (by simp))).trans hc
end Go.Proofs.Ytjlggfdmfchncaa.Q

namespace Go.Proofs.Ytjlggfdmfchncaa.Q
open Go.RowKit Go.Proofs.YtjlggfdmfchncaaW.PrintWords Go.Proofs.YtjlggfdmfchncaaW.PrintLast Go.Proofs.YtjlggfdmfchncaaW.PrintMore
set_option linter.unusedVariables false
set_option linter.unusedSimpArgs false
instance kbI0 {w W : World} {g : Nat} [h : K0 (KeepBut w W g none)] : K0 (KeepBut w W.drew g none) := ⟨⟨h.out.1, h.out.2⟩⟩
instance kbI1 {w W : World} {g m : Nat} [h : K0 (KeepBut w W g none)] : K0 (KeepBut w (W.drewN m) g none) := ⟨h.out.trans (KeepBut.of_below (pw_below_drewN (Below.refl _ _) m) g none) (.inl rfl)⟩
instance kbI2 {w W : World} {g : Nat} {o : Obj} [h : K0 (KeepBut w W g none)] : K0 (KeepBut w (W.alloc o) g none) := ⟨h.out.trans (KeepBut.of_below (Below.alloc (Below.refl _ _) (Nat.le_refl _) o) g none) (.inl rfl)⟩
theorem cell_drew {W : World} {g : Nat} {t : TypeId} {cs : Array Value} (h : W.heap[g]? = some (.cells cs t (0, 0))) (i : Nat) : W.drew.cell? ⟨g, i, none⟩ = cs[i]? := blk_cell (w := W.drew) h i
/-- Each element by its cells. -/
def PwR (K : S40 → List Value → Prop) (xs : List S40) (rows : List (List Value)) : Prop := rows.length = xs.length ∧ ∀ (m : Nat) (x : S40), xs[m]? = some x → ∃ cm, rows[m]? = some cm ∧ K x cm
theorem PwR.app {K : S40 → List Value → Prop} {xs ys : List S40} {rs qs : List (List Value)} (h : PwR K xs rs) (h' : PwR K ys qs) : PwR K (xs ++ ys) (rs ++ qs) := by
  refine ⟨by rw [List.length_append, List.length_append, h.1, h'.1], fun m x hx => ?_⟩
  rcases Nat.lt_or_ge m xs.length with hl | hl
  · rw [List.getElem?_append_left hl] at hx
    rw [List.getElem?_append_left (by rw [h.1]; exact hl)]
    exact h.2 m x hx
  · rw [List.getElem?_append_right hl] at hx
    rw [List.getElem?_append_right (by rw [h.1]; exact hl), h.1]
    exact h'.2 _ x hx
theorem PwR.take {K : S40 → List Value → Prop} {xs : List S40} {rs : List (List Value)} (h : PwR K xs rs) (a : Nat) : PwR K (xs.take a) (rs.take a) := by
  refine ⟨by rw [List.length_take, List.length_take, h.1], fun m x hx => ?_⟩
  rw [List.getElem?_take] at hx ⊢
  split at hx
  · rename_i hl; rw [if_pos hl]; exact h.2 m x hx
  · cases hx
theorem PwR.drop {K : S40 → List Value → Prop} {xs : List S40} {rs : List (List Value)} (h : PwR K xs rs) (b : Nat) : PwR K (xs.drop b) (rs.drop b) := by
  refine ⟨by rw [List.length_drop, List.length_drop, h.1], fun m x hx => ?_⟩
  rw [List.getElem?_drop] at hx ⊢
  exact h.2 _ x hx
/-- The out's row under way: its box g9, its cells. -/
def StP (W : World) (B g9 o : Nat) (v : Value) (rows : List (List Value)) : Prop := W.heap[g9]? = some (.cells #[v] 28 (0, 0)) ∧ (Kd.raw 2).R 40 W B (fun k => B ≤ k) v rows ∧ B ≤ W.heap.size
set_option maxHeartbeats 8000000 in
set_option maxRecDepth 100000 in
theorem replace_call (A : Option Addr) (c : Nat) (ts : List IT) (a b : Nat) (A3 : Option Addr) (c3 : Nat) (more : List IT) (w : World) (hr : Kd.C k40 w A ts.length ts) (hc : ts.length ≤ c) (hs : SmS ts) (hab : a ≤ b) (hbn : b ≤ ts.length) (z : Nat) (hz : z < w.heap.size) (rm : List (List Value)) (hm : (Kd.raw 2).C w A3 more.length rm ∧ ∀ W, KeepBut w W z none → PwR (k40.K W) more rm) (hml : more.length ≤ 1048576) :
    Calls Try.prog 19 #[.agg #[.slice A ts.length c], .int .i64 a, .int .i64 b, .slice A3 more.length c3] w fun e w' => ∃ B cb, e = .returned (.agg #[.slice B (ts.take a ++ more ++ ts.drop b).length cb]) ∧ (ts.take a ++ more ++ ts.drop b).length ≤ cb ∧ (∀ W, KeepBut w' W z none → Kd.C k40 W B (ts.take a ++ more ++ ts.drop b).length (ts.take a ++ more ++ ts.drop b)) ∧ Below w.heap.size w w' := by
  have kr : K0 (Below w.heap.size w w) := ⟨Below.refl _ _⟩
  obtain ⟨wb, hwb⟩ : ∃ wb, wb = ((w.alloc (.cells #[.slice A ts.length c] 28)).alloc (.cells #[.slice none 0 0] 28)).alloc (.cells #[.slice none 0 0] 28) := ⟨_, rfl⟩
  have hb0 : Below w.heap.size w wb := hwb ▸ kk
  have h1 : wb.heap[w.heap.size]? = some (.cells #[.slice A ts.length c] 28 (0, 0)) := hwb ▸ blk_alloc (blk_alloc (heap_alloc_new w _) _) _
  have h2 : wb.heap[w.heap.size + 1]? = some (.cells #[.slice none 0 0] 28 (0, 0)) := hwb ▸ old1 w _ _ _
  have h3 : wb.heap[w.heap.size + 1 + 1]? = some (.cells #[.slice none 0 0] 28 (0, 0)) := hwb ▸ new2 w _ _ _
  have y0 := clk ((blk_cell h1 0).trans rfl : wb.cell? ⟨w.heap.size, 0, none⟩ = some (.slice A ts.length c))
  obtain ⟨o, ho⟩ : ∃ o, o = w.heap.size + 1 := ⟨_, rfl⟩
  obtain ⟨g9, hg9⟩ : ∃ g, g = w.heap.size + 1 + 1 := ⟨_, rfl⟩
  have H0 := Aside0.mk (And.intro hb0 (And.intro (Kd.C_below hr hb0) (And.intro hc (And.intro hs (And.intro (show w.heap.size ≤ o ∧ o ≠ g9 ∧ w.heap.size ≤ g9 by omega) (And.intro (ho ▸ h2) (And.intro (hg9 ▸ h3) (And.intro hm (And.intro hml (And.intro hab (And.intro hbn hz)))))))))))
  have kb : K0 (Below wb.heap.size wb wb) := ⟨Below.refl _ _⟩
  clear hr hc hs hb0 h1 h2 h3 hm hml hab hbn hz
  go_enter Try.func19, Try.ntmps19
  go_upto_region 2 with (fail)
  rw [← hwb, ← hg9, ← ho]
  clear hwb ho hg9
  go_wp2_with fail
  refine (lcopy_call A c ts wb H0.out.2.1 H0.out.2.2.1 H0.out.2.2.2.1).mono ?_
  rintro ex W1 ⟨v, rfl, hR, hb⟩
  obtain ⟨P, p, rfl⟩ := Kd.R_slice hR
  obtain ⟨g10, hg10⟩ : ∃ g, g = W1.heap.size := ⟨_, rfl⟩
  obtain ⟨wc, hwc⟩ : ∃ wc, wc = W1.alloc (.cells #[.slice P ts.length p] 28) := ⟨_, rfl⟩
  have hbc : Below W1.heap.size W1 wc := hwc ▸ Below.alloc (Below.refl _ _) (Nat.le_refl _) _
  have hbwc : Below wb.heap.size wb wc := hb.trans (hbc.mono hb.size)
  have h10 : wc.heap[g10]? = some (.cells #[.slice P ts.length p] 28 (0, 0)) := hwc ▸ hg10 ▸ heap_alloc_new W1 _
  obtain ⟨rc, hrl, hrR, hrM⟩ := raw_of_R (Kd.R_below hR hbc)
  have h9 := (hbwc.block g9 (blk_lt H0.out.2.2.2.2.2.2.1)).trans H0.out.2.2.2.2.2.2.1
  have hoc := (hbwc.block o (blk_lt H0.out.2.2.2.2.2.1)).trans H0.out.2.2.2.2.2.1
  have h109 : g10 ≠ g9 := by have := blk_lt H0.out.2.2.2.2.2.2.1; have := hb.size; omega
  have HC := Aside0.mk (And.intro hbwc (And.intro hrl (And.intro hrR (And.intro hrM (And.intro h10 (And.intro h109 (And.intro h9 hoc)))))))
  have kp : K0 (KeepBut wc wc g9 none) := ⟨KeepBut.refl _ _ _⟩
  have z10 : ∀ W [K0 (KeepBut wc W g9 none)], W.cell? ⟨g10, 0, none⟩ = some (.slice P ts.length p) := fun W k => kb_cell k.out ((blk_cell HC.out.2.2.2.2.1 0).trans rfl) HC.out.2.2.2.2.2.1
  have HS0 := Aside0.mk (show StP wc wc.heap.size g9 o (.slice none 0 0) (rc.take 0) from ⟨h9, Kd.R_nil _ _ _ _ _, Nat.le_refl _⟩)
  have hl9 : g9 < wc.heap.size := blk_lt h9
  have hlo : o < wc.heap.size := blk_lt hoc
  have HB0 := Aside0.mk (And.intro (KeepBut.refl wc g9 none) (And.intro (H0.out.1.trans (hbwc.mono H0.out.1.size)) (And.intro hl9 hlo)))
  clear hR hb hbc hbwc h10 hrl hrR hrM h9 hoc h109 y0 kb hl9 hlo
  go_upto_region 3 with (fail)
  rw [← hwc, ← hg10]
  clear hwc hg10
  go_wp2_with fail
  have hP : 0 < ts.length → ∃ gc, P = some ⟨gc, 0, none⟩ ∧ gc ≠ g9 := fun h0 => by
    obtain ⟨gc, cap, hv, hgb, hgl, -⟩ := Kd.R_form HC.out.2.2.1 (by rw [HC.out.2.1]; exact h0)
    injection hv with hv _ _
    exact ⟨gc, hv, by have := blk_lt H0.out.2.2.2.2.2.2.1; omega⟩
  go_loopw [11] (fun v11 W => ∃ (j : Nat) (v9 : Value), 0 ≤ j ∧ j ≤ a ∧ v11 = .int .i64 j ∧ Aside0 (StP W wc.heap.size g9 o v9 (rc.take j)) ∧ Aside0 (KeepBut wc W g9 none ∧ Below w.heap.size w W ∧ g9 < wc.heap.size ∧ o < wc.heap.size)) (fun v11 _ => a - (intOf v11).toNat)
  case atStart => exact ⟨0, _, by omega, by omega, rfl, HS0, HB0⟩
  case round =>
    clear HS0 HB0
    obtain ⟨j, v9, hj0, hj, rfl, HS, HB⟩ := hrel
    have kW : K0 (KeepBut wc wr g9 none) := ⟨HB.out.1⟩
    by_cases hlt : j < a
    · have dl : decide ((j : Int) < (a : Int)) = true := decide_eq_true (by omega)
      have hjn : j < ts.length := by have := H0.out.2.2.2.2.2.2.2.2.2; omega
      have hwj : IntKind.i64.wrap ((j : Int) + 1) = ((j + 1 : Nat) : Int) := by have := H0.out.2.2.2.1.1; rw [IntKind.wrap_i64]; omega
      obtain ⟨gc, rfl, hgc⟩ := hP (by omega)
      obtain ⟨x, hxj⟩ : ∃ x, ts[j]? = some x := ⟨_, List.getElem?_eq_getElem hjn⟩
      obtain ⟨cm, hcm, hM⟩ := HC.out.2.2.2.1 j x hxj
      obtain ⟨vx, rfl, hRx⟩ := k40_openM hM
      obtain ⟨Ax, cx, rfl⟩ := Kd.R_slice hRx
      have y0 : ∀ W [K0 (KeepBut wc W g9 none)], W.cell? ⟨gc, j * 2, none⟩ = some (.string x.f0) := fun W k => kb_cell k.out (raw_cell HC.out.2.2.1 hcm (j := 0) rfl).1 hgc
      have y1 : ∀ W [K0 (KeepBut wc W g9 none)], W.cell? ⟨gc, j * 2 + 1, none⟩ = some (.slice Ax x.f1.length cx) := fun W k => kb_cell k.out (raw_cell HC.out.2.2.1 hcm (j := 1) rfl).1 hgc
      have htk : rc.take (j + 1) = rc.take j ++ [[.string x.f0, .slice Ax x.f1.length cx]] := by rw [List.take_add_one, hcm]; rfl
      have hln : (rc.take j).length ≤ 4000000 := by have := H0.out.2.2.2.1.1; have := H0.out.2.2.2.2.2.2.2.2.1; have := HC.out.2.1; simp only [List.length_append, List.length_take, List.length_drop]; first | omega | (have := HM.out.1; omega)
      have HX := Aside0.mk (And.intro htk hln)
      obtain ⟨A9, c9, rfl⟩ := Kd.R_slice HS.out.2.1
      obtain ⟨n9, hn9⟩ : ∃ n, (rc.take j).length = n := ⟨_, rfl⟩
      rw [hn9] at HS
      have HN := Aside0.mk hn9
      clear hn9 htk hln hM hRx hcm hxj
      go_upto_region 6 with (fail)
      have kd : K0 (KeepBut wc wr.drew g9 none) := inferInstance
      have o1 : wr.drew.cell? ⟨g9, 0, none⟩ = some (.slice A9 n9 c9) := (cell_drew HS.out.1 0).trans rfl
      have ha9 : (wr.drew.alloc (.cells #[.string x.f0, .slice Ax x.f1.length cx] 40)).heap[g9]? = some (.cells #[.slice A9 n9 c9] 28 (0, 0)) := blk_alloc (w := wr.drew) HS.out.1 _
      have o2 : (wr.alloc (.cells #[.string x.f0, .slice Ax x.f1.length cx] 40)).drew.cell? ⟨g9, 0, none⟩ = some (.slice A9 n9 c9) := (blk_cell ha9 0).trans rfl
      have ka : K0 (KeepBut wc (wr.drew.alloc (.cells #[.string x.f0, .slice Ax x.f1.length cx] 40)) g9 none) := inferInstance
      clear ha9
      refine sp_region (S := fun (W' : World) => K0 (KeepBut wc W' g9 none)) (.n 0 (.n 2 (.n 3 (.n 4 (.n 5 (.n 6 (.two 1 7 (.y 7 (.y 8 (.n 9 (.y 10 .done)))) (.y 1 (.y 8 (.n 9 (.y 10 .done))))))))))) (by kernel_rfl) (by kernel_rfl) kd (fun hS => ?_)
      repeat (refine sp_n ?_ ?_ rfl ?_ ?_ ?_; rotate_left 2; (intro W hW; go_simp; first | done | with_reducible rfl); (simp only [List.setIfInBounds_toArray, List.set_cons_zero, List.set_cons_succ]; try rfl))
      refine sp_2n rfl rfl ?_ ?_
      all_goals (intro hS K hK)
      · go_wp2_with fail
        refine hK.out _ _ kd (fun hS => ?_)
        refine sp_1n rfl (fun hS K hK => ?_)
        go_wp2_with fail
        refine hK.out _ _ ka (fun hS => ?_)
        refine sp_1n rfl (fun hS K hK => ?_)
        refine Eq.mp (if_pos yes_n) (Kd.R_append_step (ops := #[]) (Kc := K) (Kd.raw 2) (w0 := wr.drew) (W := wr.drew) wc.heap.size yes_n (.tmp 22) (.tmp 28) 26 40 (.agg #[(.string ⟨#[]⟩), (.slice none 0 0)]) 40 rfl Try.underlying26 info40 rfl (by decide) (by omega) (.slice A9 n9 c9) (rc.take j) [.string x.f0, .slice Ax x.f1.length cx] [.string x.f0, .slice Ax x.f1.length cx] (fun k => wc.heap.size ≤ k) (fun _ => False) rfl rfl ⟨rfl, rfl, fun u hu => by simp at hu; rcases hu with rfl | rfl <;> rfl⟩ (fun _ h => h.elim) (fun k hk => Nat.le_trans HS.out.2.2 hk) (Kd.R_drew HS.out.2.1) (Below.refl _ _) HS.out.2.2 (by have := HX.out.2; omega) ?_)
        intro v5 w5 hR5 hb5 hg5 hat
        obtain ⟨A5, m5, c5, rfl⟩ : ∃ A m c, v5 = .slice A m c := by obtain ⟨A, c, h⟩ := Kd.R_slice hR5; exact ⟨_, _, _, h⟩
        have hne : some g9 ≠ Value.ownBlock (.slice A9 n9 c9) := fun e => by have := Kd.R_base HS.out.2.1 g9 e.symm; have := HB.out.2.2.1; omega
        have h59 : w5.heap[g9]? = some (.cells #[.slice A9 n9 c9] 28 (0, 0)) := (hg5.block g9 (blk_lt HS.out.1) hne).trans HS.out.1
        have k5 : K0 (KeepBut wc w5 g9 none) := ⟨Nat.le_trans kd.out.1 hg5.size, fun i hi hi9 _ => (hg5.block i (Nat.lt_of_lt_of_le hi kd.out.1) (fun e => by have := Kd.R_base HS.out.2.1 i e.symm; omega)).trans (kd.out.2 i hi hi9 (by simp))⟩
        have k6 : K0 (KeepBut wc (w5.setCell ⟨g9, 0, none⟩ (.slice A5 m5 c5)) g9 none) := ⟨k5.out.set_ 0 _⟩
        have q0 : w5.cell? ⟨g9, 0, none⟩ = some (.slice A9 n9 c9) := (blk_cell h59 0).trans rfl
        have fq := blk_frozen h59 0
        have hB5 : Below w.heap.size w w5 := (below_drew1 HB.out.2.1).grown hg5 HB.out.2.1.size (fun q hq => by have := Kd.R_base HS.out.2.1 q hq; have := HB.out.2.2.2; have := H0.out.2.2.2.2.1; omega)
        have HG := Aside0.mk (And.intro (show StP (w5.setCell ⟨g9, 0, none⟩ (.slice A5 m5 c5)) wc.heap.size g9 o (.slice A5 m5 c5) (rc.take (j + 1)) from ⟨blk_put h59 0 _ rfl, by rw [HX.out.1]; exact Kd.R_far hR5 (fun k hk => by have := HB.out.2.2.1; show k ≠ g9; omega) _, by show _ ≤ (w5.heap.modify _ _).size; simp; exact Nat.le_trans HS.out.2.2 hg5.size⟩) (And.intro k6.out (hB5.setCell (p := ⟨g9, 0, none⟩) (by have := H0.out.2.2.2.2.1.2.2; show w.heap.size ≤ g9; omega) (.slice A5 m5 c5))))
        clear hR5 hb5 hg5 hat hne h59 hB5
        refine hK.out _ _ k5 (fun hS => ?_)
        repeat (refine sp_n ?_ ?_ rfl ?_ ?_ ?_; rotate_left 2; (intro W hW; go_simp; first | done | with_reducible rfl); (simp only [List.setIfInBounds_toArray, List.set_cons_zero, List.set_cons_succ]; try rfl))
        refine sp_1n rfl (fun hS K hK => ?_)
        go_wp2_with fail
        refine hK.out _ _ k6 (fun hS => ?_)
        refine sp_done (fun hS => ?_)
        go_wp2_with fail
        go_roundw
        case measure => simp only [intOf]; omega
        case rel => exact ⟨j + 1, .slice A5 m5 c5, by omega, by omega, by rw [Int.natCast_add]; rfl, ⟨HG.out.1⟩, ⟨HG.out.2.1, HG.out.2.2, HB.out.2.2⟩⟩
      · go_wp2_with fail
        refine hK.out _ _ ka (fun hS => ?_)
        refine sp_1n rfl (fun hS K hK => ?_)
        go_wp2_with fail
        refine hK.out _ _ ka (fun hS => ?_)
        refine sp_1n rfl (fun hS K hK => ?_)
        refine Eq.mp (if_pos yes_n) (Kd.R_append_step (ops := #[]) (Kc := K) (Kd.raw 2) (w0 := wr.drew) (W := wr.drew) wc.heap.size yes_n (.tmp 22) (.tmp 28) 26 40 (.agg #[(.string ⟨#[]⟩), (.slice none 0 0)]) 40 rfl Try.underlying26 info40 rfl (by decide) (by omega) (.slice A9 n9 c9) (rc.take j) [.string x.f0, .slice Ax x.f1.length cx] [.string x.f0, .slice Ax x.f1.length cx] (fun k => wc.heap.size ≤ k) (fun _ => False) rfl rfl ⟨rfl, rfl, fun u hu => by simp at hu; rcases hu with rfl | rfl <;> rfl⟩ (fun _ h => h.elim) (fun k hk => Nat.le_trans HS.out.2.2 hk) (Kd.R_drew HS.out.2.1) (Below.refl _ _) HS.out.2.2 (by have := HX.out.2; omega) ?_)
        intro v5 w5 hR5 hb5 hg5 hat
        obtain ⟨A5, m5, c5, rfl⟩ : ∃ A m c, v5 = .slice A m c := by obtain ⟨A, c, h⟩ := Kd.R_slice hR5; exact ⟨_, _, _, h⟩
        have hne : some g9 ≠ Value.ownBlock (.slice A9 n9 c9) := fun e => by have := Kd.R_base HS.out.2.1 g9 e.symm; have := HB.out.2.2.1; omega
        have h59 : w5.heap[g9]? = some (.cells #[.slice A9 n9 c9] 28 (0, 0)) := (hg5.block g9 (blk_lt HS.out.1) hne).trans HS.out.1
        have k5 : K0 (KeepBut wc w5 g9 none) := ⟨Nat.le_trans kd.out.1 hg5.size, fun i hi hi9 _ => (hg5.block i (Nat.lt_of_lt_of_le hi kd.out.1) (fun e => by have := Kd.R_base HS.out.2.1 i e.symm; omega)).trans (kd.out.2 i hi hi9 (by simp))⟩
        have k6 : K0 (KeepBut wc (w5.setCell ⟨g9, 0, none⟩ (.slice A5 m5 c5)) g9 none) := ⟨k5.out.set_ 0 _⟩
        have q0 : w5.cell? ⟨g9, 0, none⟩ = some (.slice A9 n9 c9) := (blk_cell h59 0).trans rfl
        have fq := blk_frozen h59 0
        have hB5 : Below w.heap.size w w5 := (below_drew1 HB.out.2.1).grown hg5 HB.out.2.1.size (fun q hq => by have := Kd.R_base HS.out.2.1 q hq; have := HB.out.2.2.2; have := H0.out.2.2.2.2.1; omega)
        have HG := Aside0.mk (And.intro (show StP (w5.setCell ⟨g9, 0, none⟩ (.slice A5 m5 c5)) wc.heap.size g9 o (.slice A5 m5 c5) (rc.take (j + 1)) from ⟨blk_put h59 0 _ rfl, by rw [HX.out.1]; exact Kd.R_far hR5 (fun k hk => by have := HB.out.2.2.1; show k ≠ g9; omega) _, by show _ ≤ (w5.heap.modify _ _).size; simp; exact Nat.le_trans HS.out.2.2 hg5.size⟩) (And.intro k6.out (hB5.setCell (p := ⟨g9, 0, none⟩) (by have := H0.out.2.2.2.2.1.2.2; show w.heap.size ≤ g9; omega) (.slice A5 m5 c5))))
        clear hR5 hb5 hg5 hat hne h59 hB5
        refine hK.out _ _ k5 (fun hS => ?_)
        repeat (refine sp_n ?_ ?_ rfl ?_ ?_ ?_; rotate_left 2; (intro W hW; go_simp; first | done | with_reducible rfl); (simp only [List.setIfInBounds_toArray, List.set_cons_zero, List.set_cons_succ]; try rfl))
        refine sp_1n rfl (fun hS K hK => ?_)
        go_wp2_with fail
        refine hK.out _ _ k6 (fun hS => ?_)
        refine sp_done (fun hS => ?_)
        go_wp2_with fail
        go_roundw
        case measure => simp only [intOf]; omega
        case rel => exact ⟨j + 1, .slice A5 m5 c5, by omega, by omega, by rw [Int.natCast_add]; rfl, ⟨HG.out.1⟩, ⟨HG.out.2.1, HG.out.2.2, HB.out.2.2⟩⟩
    · obtain rfl : j = a := by omega
      have dl : decide ((j : Int) < (j : Int)) = false := decide_eq_false (by omega)
      obtain ⟨hmC, hmK⟩ := H0.out.2.2.2.2.2.2.2.1
      have hml : rm.length = more.length := hmC.1
      obtain ⟨A9, c9, rfl⟩ := Kd.R_slice HS.out.2.1
      obtain ⟨n9, hn9⟩ : ∃ n, (rc.take j).length = n := ⟨_, rfl⟩
      rw [hn9] at HS
      have hn9' : n9 ≤ 1048576 := by rw [← hn9, List.length_take]; have := H0.out.2.2.2.1.1; have := HC.out.2.1; omega
      have hmC2 : ReadsRow ((Kd.raw 2).K wr) 2 wr A3 more.length rm := Kd.C_below hmC HB.out.2.1
      have o1 : wr.cell? ⟨g9, 0, none⟩ = some (.slice A9 n9 c9) := (blk_cell HS.out.1 0).trans rfl
      have HM := Aside0.mk (And.intro hml (And.intro hmK (And.intro hmC2 (And.intro hn9 hn9'))))
      clear hml hmC hmC2 hmK hn9 hn9'
      go_wp2_with (at_builtin; go_loud (refine Kd.R_append_rows (Kd.raw 2) (w0 := wr) (W := wr) (Rr := (Kd.raw 2).K wr) wc.heap.size rfl (.tmp 32) (.tmp 33) 26 40 (.agg #[(.string ⟨#[]⟩), (.slice none 0 0)]) 40 rfl Try.underlying26 info40 rfl (by decide) (by omega) (.slice A9 n9 c9) (rc.take j) rm A3 more.length c3 (fun k => wc.heap.size ≤ k) (fun _ => False) rfl rfl HS.out.2.1 HM.out.2.2.1 (fun _ _ h => h) (fun _ h => h.elim) (fun k hk => Nat.le_trans HS.out.2.2 hk) (Below.refl _ _) HS.out.2.2 (by have := H0.out.2.2.2.2.2.2.2.2.1; have := HM.out.2.2.2; omega) ?_; intro v5 w5 hR5 hb5 hg5 hat; obtain ⟨A5, m5, c5, rfl⟩ : ∃ A m c, v5 = .slice A m c := (by obtain ⟨A, c, h⟩ := Kd.R_slice hR5; exact ⟨_, _, _, h⟩); have hne : some g9 ≠ Value.ownBlock (.slice A9 n9 c9) := (fun e => by have := Kd.R_base HS.out.2.1 g9 e.symm; have := HB.out.2.2.1; omega); have h59 : w5.heap[g9]? = some (.cells #[.slice A9 n9 c9] 28 (0, 0)) := (hg5.block g9 (blk_lt HS.out.1) hne).trans HS.out.1; have k5 : KeepBut wc w5 g9 none := ⟨Nat.le_trans HB.out.1.1 hg5.size, fun i hi hi9 _ => (hg5.block i (Nat.lt_of_lt_of_le hi HB.out.1.1) (fun e => by have := Kd.R_base HS.out.2.1 i e.symm; omega)).trans (HB.out.1.2 i hi hi9 (by simp))⟩; have q0 : w5.cell? ⟨g9, 0, none⟩ = some (.slice A9 n9 c9) := (blk_cell h59 0).trans rfl; have fq := blk_frozen h59 0; have hB5 : Below w.heap.size w w5 := HB.out.2.1.grown hg5 HB.out.2.1.size (fun q hq => by have := Kd.R_base HS.out.2.1 q hq; have := HB.out.2.2.2; have := H0.out.2.2.2.2.1; omega); have HG := Aside0.mk (And.intro (show StP (w5.setCell ⟨g9, 0, none⟩ (.slice A5 m5 c5)) wc.heap.size g9 o (.slice A5 m5 c5) (rc.take j ++ rm) from ⟨blk_put h59 0 _ rfl, Kd.R_far hR5 (fun k hk => by have := HB.out.2.2.1; show k ≠ g9; omega) _, by show _ ≤ (w5.heap.modify _ _).size; simp; exact Nat.le_trans HS.out.2.2 hg5.size⟩) (And.intro (k5.set_ 0 (.slice A5 m5 c5)) (hB5.setCell (p := ⟨g9, 0, none⟩) (by have := H0.out.2.2.2.2.1.2.2; show w.heap.size ≤ g9; omega) (.slice A5 m5 c5)))); clear hR5 hb5 hg5 hat hne h59 hB5 k5))
      generalize w5.setCell ⟨g9, 0, none⟩ (.slice A5 m5 c5) = W6 at *
      have HS0 := Aside0.mk (show StP W6 wc.heap.size g9 o (.slice A5 m5 c5) (rc.take j ++ rm ++ (rc.take b).drop b) from by rw [List.drop_eq_nil_of_le (by rw [List.length_take]; omega), List.append_nil]; exact HG.out.1)
      have HB0 := Aside0.mk (And.intro HG.out.2.1 (And.intro HG.out.2.2 HB.out.2.2))
      obtain ⟨a, ha⟩ : ∃ a, a = j := ⟨_, rfl⟩
      subst ha
      clear HG HS HB kW o1 dl hj hlt
      go_loopw [12] (fun v11 W => ∃ (j : Nat) (v9 : Value), b ≤ j ∧ j ≤ ts.length ∧ v11 = .int .i64 j ∧ Aside0 (StP W wc.heap.size g9 o v9 (rc.take a ++ rm ++ (rc.take j).drop b)) ∧ Aside0 (KeepBut wc W g9 none ∧ Below w.heap.size w W ∧ g9 < wc.heap.size ∧ o < wc.heap.size)) (fun v11 _ => ts.length - (intOf v11).toNat)

      case atStart => exact ⟨b, _, Nat.le_refl _, H0.out.2.2.2.2.2.2.2.2.2.2.1, rfl, HS0, HB0⟩
      case round =>
        clear HS0 HB0
        obtain ⟨j, v9, hj0, hj, rfl, HS, HB⟩ := hrel
        have kW : K0 (KeepBut wc wr g9 none) := ⟨HB.out.1⟩
        by_cases hlt : j < ts.length
        · have dl : decide ((j : Int) < (ts.length : Int)) = true := decide_eq_true (by omega)
          have hjn : j < ts.length := by have := H0.out.2.2.2.2.2.2.2.2.2; omega
          have hwj : IntKind.i64.wrap ((j : Int) + 1) = ((j + 1 : Nat) : Int) := by have := H0.out.2.2.2.1.1; rw [IntKind.wrap_i64]; omega
          obtain ⟨gc, rfl, hgc⟩ := hP (by omega)
          obtain ⟨x, hxj⟩ : ∃ x, ts[j]? = some x := ⟨_, List.getElem?_eq_getElem hjn⟩
          obtain ⟨cm, hcm, hM⟩ := HC.out.2.2.2.1 j x hxj
          obtain ⟨vx, rfl, hRx⟩ := k40_openM hM
          obtain ⟨Ax, cx, rfl⟩ := Kd.R_slice hRx
          have y0 : ∀ W [K0 (KeepBut wc W g9 none)], W.cell? ⟨gc, j * 2, none⟩ = some (.string x.f0) := fun W k => kb_cell k.out (raw_cell HC.out.2.2.1 hcm (j := 0) rfl).1 hgc
          have y1 : ∀ W [K0 (KeepBut wc W g9 none)], W.cell? ⟨gc, j * 2 + 1, none⟩ = some (.slice Ax x.f1.length cx) := fun W k => kb_cell k.out (raw_cell HC.out.2.2.1 hcm (j := 1) rfl).1 hgc
          have htk : rc.take a ++ rm ++ (rc.take (j + 1)).drop b = rc.take a ++ rm ++ (rc.take j).drop b ++ [[.string x.f0, .slice Ax x.f1.length cx]] := by rw [List.take_add_one, hcm, List.drop_append_of_le_length (by rw [List.length_take]; have := HC.out.2.1; omega), ← List.append_assoc]; rfl
          have hln : (rc.take a ++ rm ++ (rc.take j).drop b).length ≤ 4000000 := by have := H0.out.2.2.2.1.1; have := H0.out.2.2.2.2.2.2.2.2.1; have := HC.out.2.1; simp only [List.length_append, List.length_take, List.length_drop]; first | omega | (have := HM.out.1; omega)
          have HX := Aside0.mk (And.intro htk hln)
          obtain ⟨A9, c9, rfl⟩ := Kd.R_slice HS.out.2.1
          obtain ⟨n9, hn9⟩ : ∃ n, (rc.take a ++ rm ++ (rc.take j).drop b).length = n := ⟨_, rfl⟩
          rw [hn9] at HS
          have HN := Aside0.mk hn9
          clear hn9 htk hln hM hRx hcm hxj
          go_upto_region 11 with (fail)
          have kd : K0 (KeepBut wc wr.drew g9 none) := inferInstance
          have o1 : wr.drew.cell? ⟨g9, 0, none⟩ = some (.slice A9 n9 c9) := (cell_drew HS.out.1 0).trans rfl
          have ha9 : (wr.drew.alloc (.cells #[.string x.f0, .slice Ax x.f1.length cx] 40)).heap[g9]? = some (.cells #[.slice A9 n9 c9] 28 (0, 0)) := blk_alloc (w := wr.drew) HS.out.1 _
          have o2 : (wr.alloc (.cells #[.string x.f0, .slice Ax x.f1.length cx] 40)).drew.cell? ⟨g9, 0, none⟩ = some (.slice A9 n9 c9) := (blk_cell ha9 0).trans rfl
          have ka : K0 (KeepBut wc (wr.drew.alloc (.cells #[.string x.f0, .slice Ax x.f1.length cx] 40)) g9 none) := inferInstance
          clear ha9
          refine sp_region (S := fun (W' : World) => K0 (KeepBut wc W' g9 none)) (.n 0 (.n 2 (.n 3 (.n 4 (.n 5 (.n 6 (.two 1 7 (.y 7 (.y 8 (.n 9 (.y 10 .done)))) (.y 1 (.y 8 (.n 9 (.y 10 .done))))))))))) (by kernel_rfl) (by kernel_rfl) kd (fun hS => ?_)
          repeat (refine sp_n ?_ ?_ rfl ?_ ?_ ?_; rotate_left 2; (intro W hW; go_simp; first | done | with_reducible rfl); (simp only [List.setIfInBounds_toArray, List.set_cons_zero, List.set_cons_succ]; try rfl))
          refine sp_2n rfl rfl ?_ ?_
          all_goals (intro hS K hK)
          · go_wp2_with fail
            refine hK.out _ _ kd (fun hS => ?_)
            refine sp_1n rfl (fun hS K hK => ?_)
            go_wp2_with fail
            refine hK.out _ _ ka (fun hS => ?_)
            refine sp_1n rfl (fun hS K hK => ?_)
            refine Eq.mp (if_pos yes_n) (Kd.R_append_step (ops := #[]) (Kc := K) (Kd.raw 2) (w0 := wr.drew) (W := wr.drew) wc.heap.size yes_n (.tmp 45) (.tmp 51) 26 40 (.agg #[(.string ⟨#[]⟩), (.slice none 0 0)]) 40 rfl Try.underlying26 info40 rfl (by decide) (by omega) (.slice A9 n9 c9) (rc.take a ++ rm ++ (rc.take j).drop b) [.string x.f0, .slice Ax x.f1.length cx] [.string x.f0, .slice Ax x.f1.length cx] (fun k => wc.heap.size ≤ k) (fun _ => False) rfl rfl ⟨rfl, rfl, fun u hu => by simp at hu; rcases hu with rfl | rfl <;> rfl⟩ (fun _ h => h.elim) (fun k hk => Nat.le_trans HS.out.2.2 hk) (Kd.R_drew HS.out.2.1) (Below.refl _ _) HS.out.2.2 (by have := HX.out.2; omega) ?_)
            intro v5 w5 hR5 hb5 hg5 hat
            obtain ⟨A5, m5, c5, rfl⟩ : ∃ A m c, v5 = .slice A m c := by obtain ⟨A, c, h⟩ := Kd.R_slice hR5; exact ⟨_, _, _, h⟩
            have hne : some g9 ≠ Value.ownBlock (.slice A9 n9 c9) := fun e => by have := Kd.R_base HS.out.2.1 g9 e.symm; have := HB.out.2.2.1; omega
            have h59 : w5.heap[g9]? = some (.cells #[.slice A9 n9 c9] 28 (0, 0)) := (hg5.block g9 (blk_lt HS.out.1) hne).trans HS.out.1
            have k5 : K0 (KeepBut wc w5 g9 none) := ⟨Nat.le_trans kd.out.1 hg5.size, fun i hi hi9 _ => (hg5.block i (Nat.lt_of_lt_of_le hi kd.out.1) (fun e => by have := Kd.R_base HS.out.2.1 i e.symm; omega)).trans (kd.out.2 i hi hi9 (by simp))⟩
            have k6 : K0 (KeepBut wc (w5.setCell ⟨g9, 0, none⟩ (.slice A5 m5 c5)) g9 none) := ⟨k5.out.set_ 0 _⟩
            have q0 : w5.cell? ⟨g9, 0, none⟩ = some (.slice A9 n9 c9) := (blk_cell h59 0).trans rfl
            have fq := blk_frozen h59 0
            have hB5 : Below w.heap.size w w5 := (below_drew1 HB.out.2.1).grown hg5 HB.out.2.1.size (fun q hq => by have := Kd.R_base HS.out.2.1 q hq; have := HB.out.2.2.2; have := H0.out.2.2.2.2.1; omega)
            have HG := Aside0.mk (And.intro (show StP (w5.setCell ⟨g9, 0, none⟩ (.slice A5 m5 c5)) wc.heap.size g9 o (.slice A5 m5 c5) (rc.take a ++ rm ++ (rc.take (j + 1)).drop b) from ⟨blk_put h59 0 _ rfl, by rw [HX.out.1]; exact Kd.R_far hR5 (fun k hk => by have := HB.out.2.2.1; show k ≠ g9; omega) _, by show _ ≤ (w5.heap.modify _ _).size; simp; exact Nat.le_trans HS.out.2.2 hg5.size⟩) (And.intro k6.out (hB5.setCell (p := ⟨g9, 0, none⟩) (by have := H0.out.2.2.2.2.1.2.2; show w.heap.size ≤ g9; omega) (.slice A5 m5 c5))))
            clear hR5 hb5 hg5 hat hne h59 hB5
            refine hK.out _ _ k5 (fun hS => ?_)
            repeat (refine sp_n ?_ ?_ rfl ?_ ?_ ?_; rotate_left 2; (intro W hW; go_simp; first | done | with_reducible rfl); (simp only [List.setIfInBounds_toArray, List.set_cons_zero, List.set_cons_succ]; try rfl))
            refine sp_1n rfl (fun hS K hK => ?_)
            go_wp2_with fail
            refine hK.out _ _ k6 (fun hS => ?_)
            refine sp_done (fun hS => ?_)
            go_wp2_with fail
            go_roundw
            case measure => simp only [intOf]; omega
            case rel => exact ⟨j + 1, .slice A5 m5 c5, by omega, by omega, by rw [Int.natCast_add]; rfl, ⟨HG.out.1⟩, ⟨HG.out.2.1, HG.out.2.2, HB.out.2.2⟩⟩
          · go_wp2_with fail
            refine hK.out _ _ ka (fun hS => ?_)
            refine sp_1n rfl (fun hS K hK => ?_)
            go_wp2_with fail
            refine hK.out _ _ ka (fun hS => ?_)
            refine sp_1n rfl (fun hS K hK => ?_)
            refine Eq.mp (if_pos yes_n) (Kd.R_append_step (ops := #[]) (Kc := K) (Kd.raw 2) (w0 := wr.drew) (W := wr.drew) wc.heap.size yes_n (.tmp 45) (.tmp 51) 26 40 (.agg #[(.string ⟨#[]⟩), (.slice none 0 0)]) 40 rfl Try.underlying26 info40 rfl (by decide) (by omega) (.slice A9 n9 c9) (rc.take a ++ rm ++ (rc.take j).drop b) [.string x.f0, .slice Ax x.f1.length cx] [.string x.f0, .slice Ax x.f1.length cx] (fun k => wc.heap.size ≤ k) (fun _ => False) rfl rfl ⟨rfl, rfl, fun u hu => by simp at hu; rcases hu with rfl | rfl <;> rfl⟩ (fun _ h => h.elim) (fun k hk => Nat.le_trans HS.out.2.2 hk) (Kd.R_drew HS.out.2.1) (Below.refl _ _) HS.out.2.2 (by have := HX.out.2; omega) ?_)
            intro v5 w5 hR5 hb5 hg5 hat
            obtain ⟨A5, m5, c5, rfl⟩ : ∃ A m c, v5 = .slice A m c := by obtain ⟨A, c, h⟩ := Kd.R_slice hR5; exact ⟨_, _, _, h⟩
            have hne : some g9 ≠ Value.ownBlock (.slice A9 n9 c9) := fun e => by have := Kd.R_base HS.out.2.1 g9 e.symm; have := HB.out.2.2.1; omega
            have h59 : w5.heap[g9]? = some (.cells #[.slice A9 n9 c9] 28 (0, 0)) := (hg5.block g9 (blk_lt HS.out.1) hne).trans HS.out.1
            have k5 : K0 (KeepBut wc w5 g9 none) := ⟨Nat.le_trans kd.out.1 hg5.size, fun i hi hi9 _ => (hg5.block i (Nat.lt_of_lt_of_le hi kd.out.1) (fun e => by have := Kd.R_base HS.out.2.1 i e.symm; omega)).trans (kd.out.2 i hi hi9 (by simp))⟩
            have k6 : K0 (KeepBut wc (w5.setCell ⟨g9, 0, none⟩ (.slice A5 m5 c5)) g9 none) := ⟨k5.out.set_ 0 _⟩
            have q0 : w5.cell? ⟨g9, 0, none⟩ = some (.slice A9 n9 c9) := (blk_cell h59 0).trans rfl
            have fq := blk_frozen h59 0
            have hB5 : Below w.heap.size w w5 := (below_drew1 HB.out.2.1).grown hg5 HB.out.2.1.size (fun q hq => by have := Kd.R_base HS.out.2.1 q hq; have := HB.out.2.2.2; have := H0.out.2.2.2.2.1; omega)
            have HG := Aside0.mk (And.intro (show StP (w5.setCell ⟨g9, 0, none⟩ (.slice A5 m5 c5)) wc.heap.size g9 o (.slice A5 m5 c5) (rc.take a ++ rm ++ (rc.take (j + 1)).drop b) from ⟨blk_put h59 0 _ rfl, by rw [HX.out.1]; exact Kd.R_far hR5 (fun k hk => by have := HB.out.2.2.1; show k ≠ g9; omega) _, by show _ ≤ (w5.heap.modify _ _).size; simp; exact Nat.le_trans HS.out.2.2 hg5.size⟩) (And.intro k6.out (hB5.setCell (p := ⟨g9, 0, none⟩) (by have := H0.out.2.2.2.2.1.2.2; show w.heap.size ≤ g9; omega) (.slice A5 m5 c5))))
            clear hR5 hb5 hg5 hat hne h59 hB5
            refine hK.out _ _ k5 (fun hS => ?_)
            repeat (refine sp_n ?_ ?_ rfl ?_ ?_ ?_; rotate_left 2; (intro W hW; go_simp; first | done | with_reducible rfl); (simp only [List.setIfInBounds_toArray, List.set_cons_zero, List.set_cons_succ]; try rfl))
            refine sp_1n rfl (fun hS K hK => ?_)
            go_wp2_with fail
            refine hK.out _ _ k6 (fun hS => ?_)
            refine sp_done (fun hS => ?_)
            go_wp2_with fail
            go_roundw
            case measure => simp only [intOf]; omega
            case rel => exact ⟨j + 1, .slice A5 m5 c5, by omega, by omega, by rw [Int.natCast_add]; rfl, ⟨HG.out.1⟩, ⟨HG.out.2.1, HG.out.2.2, HB.out.2.2⟩⟩

        · obtain rfl : j = ts.length := by omega
          have dl : decide ((ts.length : Int) < (ts.length : Int)) = false := decide_eq_false (by omega)
          obtain ⟨A9, c9, rfl⟩ := Kd.R_slice HS.out.2.1
          obtain ⟨n9, hn9⟩ : ∃ n, (rc.take a ++ rm ++ (rc.take ts.length).drop b).length = n := ⟨_, rfl⟩
          rw [hn9] at HS
          have o1 : wr.cell? ⟨g9, 0, none⟩ = some (.slice A9 n9 c9) := (blk_cell HS.out.1 0).trans rfl
          have ho8 := (HB.out.1.2 o HB.out.2.2.2 H0.out.2.2.2.2.1.2.1 (by simp)).trans HC.out.2.2.2.2.2.2.2
          have o2 : wr.cell? ⟨o, 0, none⟩ = some (.slice none 0 0) := (blk_cell ho8 0).trans rfl
          have fo := blk_frozen ho8 0
          have hco : ∀ u : Value, Below w.heap.size w (wr.setCell ⟨o, 0, none⟩ u) := fun u => HB.out.2.1.setCell (p := ⟨o, 0, none⟩) H0.out.2.2.2.2.1.1 u
          have hoB : o < wb.heap.size := blk_lt H0.out.2.2.2.2.2.1
          have hgB : g9 < wb.heap.size := blk_lt H0.out.2.2.2.2.2.2.1
          have hrt : rc.take ts.length = rc := by rw [← HC.out.2.1, List.take_length]
          rw [hrt] at HS hn9
          have hzw := H0.out.2.2.2.2.2.2.2.2.2.2.2
          have hwb := H0.out.1.size
          have hwc := HC.out.1.size
          have hRo : (Kd.raw 2).R 40 (wr.setCell ⟨o, 0, none⟩ (.slice A9 n9 c9)) wc.heap.size (fun k => wc.heap.size ≤ k) (.slice A9 n9 c9) (rc.take a ++ rm ++ rc.drop b) := Kd.R_far (p := ⟨o, 0, none⟩) HS.out.2.1 (fun k hk => by show k ≠ o; have := HB.out.2.2.2; omega) (.slice A9 n9 c9)
          obtain ⟨hn, hle, -⟩ := Kd.R_reads' hRo
          have hbo := hco (.slice A9 n9 c9)
          have hCf : n9 = (ts.take a ++ more ++ ts.drop b).length ∧ ∀ W, KeepBut (wr.setCell ⟨o, 0, none⟩ (.slice A9 n9 c9)) W z none → Kd.C k40 W A9 n9 (ts.take a ++ more ++ ts.drop b) := by
            have hlen : (rc.take a ++ rm ++ rc.drop b).length = (ts.take a ++ more ++ ts.drop b).length := by simp [HC.out.2.1, HM.out.1]
            refine ⟨hn.trans hlen, fun W hW => ?_⟩
            have hCr := (Kd.R_reads' (Kd.R_step (w1 := W) hRo (fun k hk hlt => hW.2 k hlt (by omega) (by simp)))).2.2
            have kM : ∀ x cm, k40.M wc wb.heap.size (fun k => True ∧ some k ≠ (Value.slice P ts.length p).ownBlock) x cm → k40.K W x cm := fun x cm h =>
              k40.K_of_M (k40.M_move (fun k hk => (hW.2 k (by show k < (wr.heap.modify _ _).size; simp; exact Nat.lt_of_lt_of_le hk.2.2.1 HB.out.1.1) (by have := hk.2.1; omega) (by simp)).trans ((Below.heap_setCell wr ⟨o, 0, none⟩ _ k (by show k ≠ o; have := hk.2.1; omega)).trans (HB.out.1.2 k hk.2.2.1 (by have := hk.2.1; omega) (by simp)))) (k40.M_bound h))
            have hpc : PwR (k40.K W) ts rc := ⟨HC.out.2.1, fun m x hx => by
              obtain ⟨cm, h1, h2⟩ := HC.out.2.2.2.1 m x hx
              exact ⟨cm, h1, kM x cm h2⟩⟩
            have hpm : PwR (k40.K W) more rm := HM.out.2.1 W ⟨Nat.le_trans hbo.size hW.1, fun i hi hiz _ => (hW.2 i (Nat.lt_of_lt_of_le hi hbo.size) hiz (by simp)).trans (hbo.block i hi)⟩
            have hpa := ((hpc.take a).app hpm).app (hpc.drop b)
            have h := C_of_raw (d := k40) (w := W) hCr hpa.1 hpa.2
            rw [← hlen, ← hn] at h
            exact h
          have HF := Aside0.mk (And.intro hCf.2 (And.intro hCf.1 (And.intro hle (And.intro hbo ho8))))
          clear hCf hn hle hRo hrt hoB hgB hco ho8 hn9 hzw hwb hwc hbo
          go_wp2_with fail
          refine bodyPost_ret (results_cell_row rfl _ _ o 28 _ (0, 0) _ rfl (blk_put HF.out.2.2.2.2 0 (.slice A9 n9 c9) (cs' := #[.slice A9 n9 c9]) rfl) Try.underlying28 rfl (by kernel_rfl)) rfl ⟨A9, c9, ?_, ?_, ?_, HF.out.2.2.2.1⟩
          · rw [← HF.out.2.1]
          · rw [← HF.out.2.1]; exact HF.out.2.2.1
          · rw [← HF.out.2.1]; exact HF.out.1
end Go.Proofs.Ytjlggfdmfchncaa.Q

namespace Go.Proofs.Ytjlggfdmfchncaa.Q
open Go.RowKit Go.Proofs.YtjlggfdmfchncaaW.PrintWords Go.Proofs.YtjlggfdmfchncaaW.PrintLast Go.Proofs.YtjlggfdmfchncaaW.PrintMore
set_option linter.unusedVariables false
set_option linter.unusedSimpArgs false
theorem size_nil (b : ByteArray) : b.size = 0 ↔ b.toList = [] := by
  obtain ⟨⟨l⟩⟩ := b
  simp [ByteArray.size]
set_option maxHeartbeats 8000000 in
set_option maxRecDepth 100000 in
theorem ssplit_call (A : Option Addr) (c : Nat) (ts : List IT) (row : ByteArray) (w : World) (hr : Kd.C k40 w A ts.length ts) (hc : ts.length ≤ c) (hs : SmS ts) :
    Calls Try.prog 12 #[.agg #[.slice A ts.length c], .string row] w fun e w' => ∃ B cb r, Splits ts row r ∧ e = .returned (.agg #[.slice B r.length cb]) ∧ r.length ≤ cb ∧ Kd.C k40 w' B r.length r ∧ Below w.heap.size w w' := by
  have kr : K0 (Below w.heap.size w w) := ⟨Below.refl _ _⟩
  obtain ⟨wb, hwb⟩ : ∃ wb, wb = (w.alloc (.cells #[.slice A ts.length c] 28)).alloc (.cells #[.slice none 0 0] 28) := ⟨_, rfl⟩
  have hb0 : Below w.heap.size w wb := hwb ▸ kk
  have h1 : wb.heap[w.heap.size]? = some (.cells #[.slice A ts.length c] 28 (0, 0)) := hwb ▸ blk_alloc (heap_alloc_new w _) _
  have h2 : wb.heap[w.heap.size + 1]? = some (.cells #[.slice none 0 0] 28 (0, 0)) := hwb ▸ new1 w _ _
  have y0 := clk ((blk_cell h1 0).trans rfl : wb.cell? ⟨w.heap.size, 0, none⟩ = some (.slice A ts.length c))
  obtain ⟨o, ho⟩ : ∃ o, o = w.heap.size + 1 := ⟨_, rfl⟩
  have H0 := Aside0.mk (And.intro hb0 (And.intro (Kd.C_below hr hb0) (And.intro hc (And.intro hs (And.intro (show w.heap.size + 1 = o from ho.symm) (ho ▸ h2))))))
  have y4 := clk ((blk_cell H0.out.2.2.2.2.2 0).trans rfl : wb.cell? ⟨o, 0, none⟩ = some (.slice none 0 0))
  have kb : K0 (Below wb.heap.size wb wb) := ⟨Below.refl _ _⟩
  have HW := Aside0.mk hr
  have tw : ∀ W [K0 (Below wb.heap.size wb W)], K0 (Below w.heap.size w W) := fun W k => ⟨H0.out.1.trans (k.out.mono H0.out.1.size)⟩
  clear hr hc hs hb0 h1 h2
  have fin : ∀ (W : World) (B : Option Addr) (cb : Nat) (r : List IT), Below wb.heap.size wb W → Kd.R k40 40 W wb.heap.size (fun _ => True) (.slice B r.length cb) r → r.length ≤ cb ∧ Kd.C k40 (W.setCell ⟨o, 0, none⟩ (.slice B r.length cb)) B r.length r ∧ Below w.heap.size w (W.setCell ⟨o, 0, none⟩ (.slice B r.length cb)) ∧ W.heap[o]? = some (.cells #[.slice none 0 0] 28 (0, 0)) := fun W B cb r hb hR => by
    have hlo := blk_lt H0.out.2.2.2.2.2
    obtain ⟨h1, h2, h3⟩ := Kd.R_reads' (Kd.R_far (p := ⟨o, 0, none⟩) (Kd.R_mono (ok' := fun k => k ≠ o) (Kd.R_bound hR) (fun k hk => by have := hk.2.1; omega)) (fun k hk => hk) (.slice B r.length cb))
    exact ⟨h2, h3, ((H0.out.1.trans (hb.mono H0.out.1.size))).setCell (p := ⟨o, 0, none⟩) (by show w.heap.size ≤ o; have := H0.out.2.2.2.2.1; omega) _, (hb.block o hlo).trans H0.out.2.2.2.2.2⟩
  have FIN := Aside0.mk fin
  clear fin
  go_enter Try.func12, Try.ntmps12
  go_upto_region 1 with (fail)
  rw [← hwb, ← ho]
  clear hwb ho
  go_wp2_with fail
  refine (vspec_call A c ts wb H0.out.2.1 H0.out.2.2.1 H0.out.2.2.2.1).mono ?_
  rintro ex W2 ⟨rfl, hb⟩
  have k2 : K0 (Below wb.heap.size wb W2) := ⟨hb⟩
  clear hb
  by_cases hst : staysS ts row
  · have HF := Aside0.mk (show Splits ts row ts from .inl ⟨hst, rfl⟩)
    have hst' : vstore ts = false ∨ (vstore ts = true ∧ ((row.size : Int) == (0 : Int)) = true) ∨ (vstore ts = true ∧ ((row.size : Int) == (0 : Int)) = false ∧ decide ((64 : Int) < (row.size : Int)) = true) ∨ (vstore ts = true ∧ ((row.size : Int) == (0 : Int)) = false ∧ decide ((64 : Int) < (row.size : Int)) = false ∧ ((ts.length : Int) == (100 : Int)) = true) := by
      by_cases a1 : vstore ts = true
      · by_cases a2 : row.size = 0
        · exact .inr (.inl ⟨a1, beq_iff_eq.2 (by omega)⟩)
        · by_cases a3 : 64 < row.size
          · exact .inr (.inr (.inl ⟨a1, beq_eq_false_iff_ne.2 (by omega), decide_eq_true (by omega)⟩))
          · refine .inr (.inr (.inr ⟨a1, beq_eq_false_iff_ne.2 (by omega), decide_eq_false (by omega), beq_iff_eq.2 ?_⟩))
            rcases hst with h | h | h | h
            · rw [a1] at h; cases h
            · exact absurd ((size_nil row).2 h) a2
            · exact absurd h a3
            · omega
      · exact .inl (by simpa using a1)
    clear hst
    rcases hst' with a1 | ⟨a1, a2⟩ | ⟨a1, a2, a3⟩ | ⟨a1, a2, a3, a4⟩
    all_goals
      go_wp2_with fail
      refine (lcopy_call A c ts W2 (Kd.C_below H0.out.2.1 k2.out) H0.out.2.2.1 H0.out.2.2.2.1).mono ?_
      rintro ex W3 ⟨v, rfl, hR, hb⟩
      obtain ⟨P, p, rfl⟩ := Kd.R_slice hR
      have h := FIN.out W3 P p ts (k2.out.trans (hb.mono k2.out.size)) (Kd.R_lower hR k2.out.size)
      have fo := blk_frozen h.2.2.2 0
      have o0 : W3.cell? ⟨o, 0, none⟩ = some (.slice none 0 0) := (blk_cell h.2.2.2 0).trans rfl
      have HE := Aside0.mk h
      clear h hR hb
      go_wp2_with fail
      refine bodyPost_ret (results_cell_row rfl _ _ o 28 _ (0, 0) _ rfl (blk_put HE.out.2.2.2 0 (.slice P ts.length p) (cs' := #[.slice P ts.length p]) rfl) Try.underlying28 rfl (by kernel_rfl)) rfl ⟨P, p, ts, HF.out, rfl, HE.out.1, HE.out.2.1, HE.out.2.2.1⟩
  have a1 : vstore ts = true := by
    cases hv : vstore ts
    · exact absurd (.inl hv) hst
    · rfl
  have a2 : ((row.size : Int) == (0 : Int)) = false := beq_eq_false_iff_ne.2 (fun h => hst (.inr (.inl ((size_nil row).1 (by omega)))))
  have a3 : decide ((64 : Int) < (row.size : Int)) = false := decide_eq_false (fun h => hst (.inr (.inr (.inl (by omega)))))
  have a4 : ((ts.length : Int) == (100 : Int)) = false := beq_eq_false_iff_ne.2 (fun h => hst (.inr (.inr (.inr (by omega)))))
  have HV := Aside0.mk (And.intro hst (rise_of a1))
  clear hst
  go_wp2_with fail
  refine (l7Holder_call A c ts row W2 (Kd.C_below H0.out.2.1 k2.out) (by have := H0.out.2.2.2.1.1; omega) HV.out.2).mono ?_
  rintro ex W3 ⟨i, hi, rfl, hb⟩
  have k3 : K0 (Below wb.heap.size wb W3) := ⟨k2.out.trans (hb.mono k2.out.size)⟩
  have HI := Aside0.mk hi
  clear hb hi k2 a1 a2 a3 a4
  have hil : i < ts.length := HI.out.1
  obtain ⟨ad, A1, c1, e0, y1, y2, hx1, hx2⟩ := at_T40 HW.out (i : Int) (by omega) (by omega)
  subst e0
  obtain ⟨xi, hXi⟩ : ∃ x, tA ts i = x := ⟨_, rfl⟩
  rw [show rd_T40 ts (i : Int) = xi from hXi] at y1 y2 hx1 hx2
  rw [Int.toNat_natCast] at y1 y2
  have y1 := clk y1
  have y2 := clk y2
  have hm := H0.out.2.2.2.1.2 xi (hXi ▸ tA_mem hil)
  have HX := Aside0.mk (And.intro hXi (And.intro hx1 (And.intro hx2 (And.intro hm hil))))
  clear hXi hx1 hx2 hm
  obtain ⟨gt, hgt⟩ : ∃ q, q = W3.heap.size := ⟨_, rfl⟩
  obtain ⟨wt, hwt⟩ : ∃ W, W = W3.alloc (.cells #[.string xi.f0, .slice A1 xi.f1.length c1] 40) := ⟨_, rfl⟩
  have ht : wt.heap[gt]? = some (.cells #[.string xi.f0, .slice A1 xi.f1.length c1] 40 (0, 0)) := hwt ▸ hgt ▸ heap_alloc_new W3 _
  have hbt : Below W3.heap.size W3 wt := hwt ▸ Below.alloc (Below.refl _ _) (Nat.le_refl _) _
  have kt : K0 (Below wb.heap.size wb wt) := ⟨k3.out.trans (hbt.mono k3.out.size)⟩
  have t0 := clk ((blk_cell ht 0).trans rfl : wt.cell? ⟨gt, 0, none⟩ = some (.string xi.f0))
  have t1 := clk ((blk_cell ht 1).trans rfl : wt.cell? ⟨gt, 1, none⟩ = some (.slice A1 xi.f1.length c1))
  have ktt : K0 (Below wt.heap.size wt wt) := ⟨Below.refl _ _⟩
  have HT := Aside0.mk kt.out
  have tt : ∀ W [K0 (Below wt.heap.size wt W)], K0 (Below wb.heap.size wb W) := fun W k => ⟨HT.out.trans (k.out.mono HT.out.size)⟩
  clear ht hbt
  go_upto_region 5 with (fail)
  rw [← hwt, ← hgt]
  clear hwt hgt k3 y1 y2
  by_cases hsame : xi.f0.toList = row.toList
  · have dq : (xi.f0.toList == row.toList) = true := beq_iff_eq.2 hsame
    have HF := Aside0.mk (show Splits ts row ts from .inr ⟨HV.out.1, i, HI.out, .inl ⟨by rw [HX.out.1]; exact hsame, rfl⟩⟩)
    clear hsame
    go_wp2_with fail
    refine (lcopy_call (some ad) c ts wt (Kd.C_below H0.out.2.1 kt.out) H0.out.2.2.1 H0.out.2.2.2.1).mono ?_
    rintro ex W3 ⟨v, rfl, hR, hb⟩
    obtain ⟨P, p, rfl⟩ := Kd.R_slice hR
    have h := FIN.out W3 P p ts (kt.out.trans (hb.mono kt.out.size)) (Kd.R_lower hR kt.out.size)
    have fo := blk_frozen h.2.2.2 0
    have o0 : W3.cell? ⟨o, 0, none⟩ = some (.slice none 0 0) := (blk_cell h.2.2.2 0).trans rfl
    have HE := Aside0.mk h
    clear h hR hb
    go_wp2_with fail
    refine bodyPost_ret (results_cell_row rfl _ _ o 28 _ (0, 0) _ rfl (blk_put HE.out.2.2.2 0 (.slice P ts.length p) (cs' := #[.slice P ts.length p]) rfl) Try.underlying28 rfl (by kernel_rfl)) rfl ⟨P, p, ts, HF.out, rfl, HE.out.1, HE.out.2.1, HE.out.2.2.1⟩
  have dq : (xi.f0.toList == row.toList) = false := beq_eq_false_iff_ne.2 hsame
  have HF := Aside0.mk hsame
  clear hsame
  go_upto_region 7 with (fail)
  have kd : K0 (Below wt.heap.size wt wt.drew) := ⟨below_drew1 (Below.refl _ _)⟩
  refine sp_region (S := fun W' => K0 (Below wt.heap.size wt W')) (.n 0 (.n 1 (.n 2 (.n 3 (.n 4 (.n 5 (.two 6 8 (.n 7 (.y 8 (.y 9 .done))) (.y 6 (.n 7 (.y 9 .done)))))))))) (by kernel_rfl) (by kernel_rfl) kd (fun hS => ?_)
  repeat (refine sp_n ?_ ?_ rfl ?_ ?_ ?_; rotate_left 2; (intro W hW; go_simp; first | done | with_reducible rfl); (simp only [List.setIfInBounds_toArray, List.set_cons_zero, List.set_cons_succ]; try rfl))
  have HC1 := Aside0.mk (fun (W : World) (k : K0 (Below wt.heap.size wt W)) => sruns_call A1 c1 xi.f1 ⟨#[]⟩ true row W (Kd.C_below HX.out.2.2.1 (H0.out.1.trans ((HT.out.trans (k.out.mono HT.out.size)).mono H0.out.1.size))) HX.out.2.1 HX.out.2.2.2.1.1 HX.out.2.2.2.1.2)
  have HC2 := Aside0.mk (fun (W : World) (k : K0 (Below wt.heap.size wt W)) => sruns_call A1 c1 xi.f1 row false ⟨#[]⟩ W (Kd.C_below HX.out.2.2.1 (H0.out.1.trans ((HT.out.trans (k.out.mono HT.out.size)).mono H0.out.1.size))) HX.out.2.1 HX.out.2.2.2.1.1 HX.out.2.2.2.1.2)
  obtain ⟨pa, hpa⟩ : ∃ q, partRs ⟨#[]⟩ true row xi.f1 = q := ⟨_, rfl⟩
  obtain ⟨pb, hpb⟩ : ∃ q, partRs row false ⟨#[]⟩ xi.f1 = q := ⟨_, rfl⟩
  rw [hpa] at HC1
  rw [hpb] at HC2
  have HPa := Aside0.mk (And.intro hpa hpb)
  clear hpa hpb
  refine sp_2n rfl rfl ?p1 ?q1
  case' p1 =>
    intro hS K hK
    go_simp
    go_at_call 28
    refine (HC1.out wt.drew kd).mono ?_
    rintro ex W5 ⟨v5, rfl, hS5, hb5⟩
    obtain ⟨A5, c5, rfl⟩ := Kd.S_slice hS5
    have k5 : K0 (Below wt.heap.size wt W5) := ⟨kd.out.trans (hb5.mono kd.out.size)⟩
    refine hK.out _ _ k5 (fun hS => ?_)
    repeat (refine sp_n ?_ ?_ rfl ?_ ?_ ?_; rotate_left 2; (intro W hW; go_simp; first | done | with_reducible rfl); (simp only [List.setIfInBounds_toArray, List.set_cons_zero, List.set_cons_succ]; try rfl))
    refine sp_1n rfl ?_
    intro hS K hK
    go_wp2_with fail
    obtain ⟨g7, hg7⟩ : ∃ q, q = W5.heap.size := ⟨_, rfl⟩
    obtain ⟨W6, hW6⟩ : ∃ W, W = W5.alloc (.cells #[.string ⟨#[]⟩, .slice none 0 0] 40) := ⟨_, rfl⟩
    have h7 : W6.heap[g7]? = some (.cells #[.string ⟨#[]⟩, .slice none 0 0] 40 (0, 0)) := hW6 ▸ hg7 ▸ heap_alloc_new W5 _
    have hb6 : Below W5.heap.size W5 W6 := hW6 ▸ Below.alloc (Below.refl _ _) (Nat.le_refl _) _
    have k6 : K0 (Below wt.heap.size wt W6) := ⟨k5.out.trans (hb6.mono k5.out.size)⟩
    have hS6 : Kd.S k60 60 W6 wt.heap.size (fun q => q ≠ g7) (.slice A5 pa.length c5) pa := Kd.S_below (Kd.S_mono (ok' := fun q => q ≠ g7) (Kd.S_bound hS5) (fun q hq => by have := hq.2.2.1; omega)) hb6
    have hgt7 : wt.heap.size ≤ g7 := by have := k5.out.size; omega
    rw [← hW6, ← hg7]
    clear hW6 hg7 hS5 hb5 hb6
    refine hK.out _ _ k6 (fun hS => ?_)
  case' q1 =>
    intro hS K hK
    go_wp2_with fail
    obtain ⟨g7, hg7⟩ : ∃ q, q = wt.heap.size := ⟨_, rfl⟩
    obtain ⟨Wx, hWx⟩ : ∃ W, W = (wt.alloc (.cells #[.string ⟨#[]⟩, .slice none 0 0] 40)).drew := ⟨_, rfl⟩
    have hx7 : Wx.heap[g7]? = some (.cells #[.string ⟨#[]⟩, .slice none 0 0] 40 (0, 0)) := hWx ▸ hg7 ▸ heap_alloc_new wt _
    have hbx : Below wt.heap.size wt Wx := hWx ▸ below_drew1 (Below.alloc (Below.refl _ _) (Nat.le_refl _) _)
    have hxs : Wx.heap.size = wt.heap.size + 1 := hWx ▸ sz_al wt _
    have kx : K0 (Below wt.heap.size wt Wx) := ⟨hbx⟩
    rw [← hWx, show wt.heap.size = g7 from hg7.symm]
    have HG7 := Aside0.mk hg7
    clear hWx hbx hg7
    refine hK.out _ _ kx (fun hS => ?_)
    refine sp_1n rfl ?_
    intro hS K hK
    go_simp
    go_at_call 28
    refine (HC1.out Wx kx).mono ?_
    rintro ex W5 ⟨v5, rfl, hS5, hb5⟩
    obtain ⟨A5, c5, rfl⟩ := Kd.S_slice hS5
    have k5 : K0 (Below wt.heap.size wt W5) := ⟨kx.out.trans (hb5.mono kx.out.size)⟩
    obtain ⟨W6, hW6⟩ : ∃ W, W = W5 := ⟨_, rfl⟩
    have h7 : W6.heap[g7]? = some (.cells #[.string ⟨#[]⟩, .slice none 0 0] 40 (0, 0)) := hW6 ▸ (hb5.block g7 (blk_lt hx7)).trans hx7
    have k6 : K0 (Below wt.heap.size wt W6) := hW6 ▸ k5
    have hS6 : Kd.S k60 60 W6 wt.heap.size (fun q => q ≠ g7) (.slice A5 pa.length c5) pa := hW6 ▸ Kd.S_lower (Kd.S_mono (ok' := fun q => q ≠ g7) (Kd.S_bound hS5) (fun q hq => by have := hq.2.1; have := blk_lt hx7; omega)) kx.out.size
    have hgt7 : wt.heap.size ≤ g7 := by have := HG7.out; omega
    rw [← hW6]
    clear hW6 hS5 hb5 hx7 hxs kx
    refine hK.out _ _ k6 (fun hS => ?_)
    repeat (refine sp_n ?_ ?_ rfl ?_ ?_ ?_; rotate_left 2; (intro W hW; go_simp; first | done | with_reducible rfl); (simp only [List.setIfInBounds_toArray, List.set_cons_zero, List.set_cons_succ]; try rfl))
  all_goals
    refine sp_1n rfl ?_
    intro hS K hK
    have q0 : W6.cell? ⟨g7, 0, none⟩ = some (.string ⟨#[]⟩) := (blk_cell h7 0).trans rfl
    have q1 : W6.cell? ⟨g7, 1, none⟩ = some (.slice none 0 0) := (blk_cell h7 1).trans rfl
    have f0 := blk_frozen h7 0
    have f1 := blk_frozen h7 1
    obtain ⟨W7, hW7⟩ : ∃ W, W = (W6.setCell ⟨g7, 0, none⟩ (.string xi.f0)).setCell ⟨g7, 1, none⟩ (.slice A5 pa.length c5) := ⟨_, rfl⟩
    have h77 : W7.heap[g7]? = some (.cells #[.string xi.f0, .slice A5 pa.length c5] 40 (0, 0)) := hW7 ▸ blk_put (blk_put h7 0 (.string xi.f0) (cs' := #[.string xi.f0, .slice none 0 0]) rfl) 1 _ rfl
    have k7 : K0 (Below wt.heap.size wt W7) := ⟨hW7 ▸ (k6.out.setCell (p := ⟨g7, 0, none⟩) hgt7 _).setCell (p := ⟨g7, 1, none⟩) hgt7 _⟩
    have hS7 : Kd.S k60 60 W7 wt.heap.size (fun q => q ≠ g7) (.slice A5 pa.length c5) pa := hW7 ▸ Kd.S_far (p := ⟨g7, 1, none⟩) (Kd.S_far (p := ⟨g7, 0, none⟩) hS6 (fun q hq => hq) _) (fun q hq => hq) _
    go_wp2_with fail
    rw [← hW7]
    clear hW7
    refine hK.out _ _ k7 (fun hS => ?_)
    refine sp_done (fun hS => ?_)
    clear hK hS q0 q1 f0 f1 k6 h7 hS6 hgt7 k5 kd
    obtain ⟨k, hk⟩ : ∃ k, k = i + 1 := ⟨_, rfl⟩
    have hw1 : IntKind.i64.wrap ((i : Int) + 1) = (k : Int) := by have := HI.out.1; have := H0.out.2.2.2.1.1; rw [IntKind.wrap_i64]; omega
    have HKi := Aside0.mk hk
    clear hk
    go_wp2_with fail
    refine (HC2.out W7 k7).mono ?_
    rintro ex W8 ⟨v8, rfl, hS8, hb8⟩
    obtain ⟨A8, c8, rfl⟩ := Kd.S_slice hS8
    obtain ⟨g8, hg8⟩ : ∃ q, q = W8.heap.size := ⟨_, rfl⟩
    obtain ⟨W9, hW9⟩ : ∃ W, W = W8.alloc (.cells #[.string row, .slice A8 pb.length c8] 40) := ⟨_, rfl⟩
    have h9 : W9.heap[g8]? = some (.cells #[.string row, .slice A8 pb.length c8] 40 (0, 0)) := hW9 ▸ hg8 ▸ heap_alloc_new W8 _
    have hb9 : Below W8.heap.size W8 W9 := hW9 ▸ Below.alloc (Below.refl _ _) (Nat.le_refl _) _
    have hb79 : Below W7.heap.size W7 W9 := hb8.trans (hb9.mono hb8.size)
    have h79 := (hb79.block g7 (blk_lt h77)).trans h77
    have k8 : K0 (Below wt.heap.size wt W8) := ⟨k7.out.trans (hb8.mono k7.out.size)⟩
    have k9 : K0 (Below wt.heap.size wt W9) := ⟨k7.out.trans (hb79.mono k7.out.size)⟩
    have m0 : W9.cell? ⟨g7, 0, none⟩ = some (.string xi.f0) := (blk_cell h79 0).trans rfl
    have m1 : W9.cell? ⟨g7, 1, none⟩ = some (.slice A5 pa.length c5) := (blk_cell h79 1).trans rfl
    have m2 : W9.cell? ⟨g8, 0, none⟩ = some (.string row) := (blk_cell h9 0).trans rfl
    have m3 : W9.cell? ⟨g8, 1, none⟩ = some (.slice A8 pb.length c8) := (blk_cell h9 1).trans rfl
    obtain ⟨Wl, hWl⟩ : ∃ W, W = W9.alloc (.cells #[.string xi.f0, .slice A5 pa.length c5, .string row, .slice A8 pb.length c8] 40) := ⟨_, rfl⟩
    have hl0 : Wl.heap[W9.heap.size]? = some (.cells #[.string xi.f0, .slice A5 pa.length c5, .string row, .slice A8 pb.length c8] 40 (0, 0)) := hWl ▸ heap_alloc_new W9 _
    have hbl : Below W9.heap.size W9 Wl := hWl ▸ Below.alloc (Below.refl _ _) (Nat.le_refl _) _
    have hb7l : Below W7.heap.size W7 Wl := hb79.trans (hbl.mono hb79.size)
    have hb8l : Below W8.heap.size W8 Wl := hb9.trans (hbl.mono hb9.size)
    have hbwl : Below wb.heap.size wb Wl := HT.out.trans ((k9.out.trans (hbl.mono k9.out.size)).mono HT.out.size)
    have hlo : o < wb.heap.size := blk_lt H0.out.2.2.2.2.2
    have hwt : wb.heap.size ≤ wt.heap.size := HT.out.size
    have hC1 : (Kd.raw 2).C Wl (some ⟨W9.heap.size, 0, none⟩) 2 [[.string xi.f0, .slice A5 pa.length c5], [.string row, .slice A8 pb.length c8]] := ⟨rfl, by decide, fun _ => ⟨_, rfl, fun j p hj => by
      obtain ⟨hj0, hp⟩ := List.getElem?_eq_some_iff.1 hj
      have hj2 : j = 0 ∨ j = 1 := by simp at hj0; omega
      rcases hj2 with rfl | rfl
      · subst hp
        refine ⟨_, rfl, ⟨rfl, rfl, fun u hu => by simp at hu; rcases hu with rfl | rfl <;> rfl⟩, fun q u hu => ?_⟩
        rw [add_at, blk_cell hl0]
        rw [Nat.zero_mul, Nat.zero_add, Nat.zero_add]
        match q, hu with
        | 0, hu => simpa using hu
        | 1, hu => simpa using hu
        | (m + 2), hu => simp at hu
      · subst hp
        refine ⟨_, rfl, ⟨rfl, rfl, fun u hu => by simp at hu; rcases hu with rfl | rfl <;> rfl⟩, fun q u hu => ?_⟩
        rw [add_at, blk_cell hl0]
        match q, hu with
        | 0, hu => exact hu
        | 1, hu => exact hu
        | (m + 2), hu => simp at hu⟩⟩
    have hPw : ∀ W, KeepBut Wl W o none → PwR (k40.K W) [(⟨xi.f0, pa⟩ : IT), (⟨row, pb⟩ : IT)] [[.string xi.f0, .slice A5 pa.length c5], [.string row, .slice A8 pb.length c8]] := fun W hW => by
      have hRa := Kd.R_step (w1 := W) (Kd.R_mono (ok' := fun q => wt.heap.size ≤ q) (Kd.R_bound (Kd.S_R (Kd.S_below hS7 hb7l))) (fun q hq => hq.2.1)) (fun q hq hlt => hW.2 q hlt (by omega) (by simp))
      have hRb := Kd.R_step (w1 := W) (Kd.R_mono (ok' := fun q => W7.heap.size ≤ q) (Kd.R_bound (Kd.S_R (Kd.S_below hS8 hb8l))) (fun q hq => hq.2.1)) (fun q hq hlt => hW.2 q hlt (by have := k7.out.size; omega) (by simp))
      obtain ⟨-, a2, a3⟩ := Kd.R_reads' hRa
      obtain ⟨-, b2, b3⟩ := Kd.R_reads' hRb
      refine ⟨rfl, fun m x hx => ?_⟩
      match m, hx with
      | 0, hx => cases hx; exact ⟨_, rfl, k40_mk W (⟨xi.f0, pa⟩ : IT) (A1 := A5) (c1 := c5) a2 a3⟩
      | 1, hx => cases hx; exact ⟨_, rfl, k40_mk W (⟨row, pb⟩ : IT) (A1 := A8) (c1 := c8) b2 b3⟩
      | (m + 2), hx => simp at hx
    have hkl : k ≤ ts.length := by have := HX.out.2.2.2.2; have := HKi.out; omega
    have hR := replace_call (some ad) c ts i k (some ⟨W9.heap.size, 0, none⟩) 2 [(⟨xi.f0, pa⟩ : IT), (⟨row, pb⟩ : IT)] Wl (Kd.C_below H0.out.2.1 hbwl) H0.out.2.2.1 H0.out.2.2.2.1 (by have := HKi.out; omega) hkl o (Nat.lt_of_lt_of_le hlo hbwl.size) _ ⟨hC1, hPw⟩ (show 2 ≤ 1048576 by decide)
    have hr0 : ts.take i ++ [(⟨xi.f0, pa⟩ : IT), (⟨row, pb⟩ : IT)] ++ ts.drop k = splitAt ts i row := by unfold splitAt; rw [HKi.out, HX.out.1, HPa.out.1, HPa.out.2]
    rw [hr0] at hR
    obtain ⟨r, hr⟩ : ∃ r, splitAt ts i row = r := ⟨_, rfl⟩
    rw [hr] at hR
    have HR := Aside0.mk (And.intro hR (And.intro hr (And.intro hbwl hlo)))
    clear hC1 hPw hR hr0 hr hbwl hl0 hbl hb7l hb8l hb79 h79 h9 hb9 hS7 hS8 hb8 h77 hkl hwt hlo
    go_upto_region 9 with (fail)
    rw [← hW9, ← hg8]
    clear hW9 hg8 k8
    go_wp2_with fail
    rw [← hWl]
    clear hWl
    refine HR.out.1.mono ?_
    rintro ex Wm ⟨B, cb, rfl, hle, hCm, hbm⟩
    have hbwm : Below wb.heap.size wb Wm := HR.out.2.2.1.trans (hbm.mono HR.out.2.2.1.size)
    have hom := (hbwm.block o HR.out.2.2.2).trans H0.out.2.2.2.2.2
    have o8 : Wm.cell? ⟨o, 0, none⟩ = some (.slice none 0 0) := (blk_cell hom 0).trans rfl
    have fo := blk_frozen hom 0
    have HE := Aside0.mk (And.intro hle (And.intro (hCm (Wm.setCell ⟨o, 0, none⟩ (.slice B r.length cb)) ((KeepBut.refl Wm o none).set_ 0 _)) (And.intro ((H0.out.1.trans (hbwm.mono H0.out.1.size)).setCell (p := ⟨o, 0, none⟩) (by show w.heap.size ≤ o; have := H0.out.2.2.2.2.1; omega) (.slice B r.length cb)) hom)))
    clear hle hCm hbm hbwm hom
    go_wp2_with fail
    refine bodyPost_ret (results_cell_row rfl _ _ o 28 _ (0, 0) _ rfl (blk_put HE.out.2.2.2 0 (.slice B r.length cb) (cs' := #[.slice B r.length cb]) rfl) Try.underlying28 rfl (by kernel_rfl)) rfl ⟨B, cb, r, .inr ⟨HV.out.1, i, HI.out, .inr ⟨by rw [HX.out.1]; exact HF.out, HR.out.2.1.symm⟩⟩, rfl, HE.out.1, HE.out.2.1, HE.out.2.2.1⟩
end Go.Proofs.Ytjlggfdmfchncaa.Q

namespace Go.Proofs.Ytjlggfdmfchncaa.Q
open Go.RowKit Go.Proofs.YtjlggfdmfchncaaW.PrintWords Go.Proofs.YtjlggfdmfchncaaW.PrintLast Go.Proofs.YtjlggfdmfchncaaW.PrintMore
set_option linter.unusedVariables false
set_option linter.unusedSimpArgs false

/-! ### laws_markText: function 44 -/
def laws_markText.l0 : Nat → Int → ByteArray → Option (ByteArray)
 | 0, _, _ => none
 | k + 1, x0, x3 => if x0 > 0 then ((some (([(wrap64 (48 + (Int.tmod x0 10))) % 256] : List Int) : List Int)).bind fun y352 => (if (strOfNums y352).size + x3.size ≤ 9223372036854775807 then (laws_markText.l0 k (wrap64 (Int.tdiv x0 10)) ((strOfNums y352) ++ x3)) else (none))) else (if 1 + x3.size ≤ 9223372036854775807 then (some ((⟨#[109]⟩ : ByteArray) ++ x3)) else (none))
def laws_markText.f (k : Nat) (a0 : Int) : Option (ByteArray) := if a0 ≤ 0 then (some (⟨#[109, 48]⟩ : ByteArray)) else (laws_markText.l0 k a0 (⟨#[]⟩ : ByteArray))
set_option maxHeartbeats 8000000 in
set_option maxRecDepth 100000 in
theorem laws_markText.calls (k : Nat) (a0 : Int) (r : ByteArray) (w : World) (h : laws_markText.f k a0 = some r) :
  Calls Try.prog 44 #[.int .i64 a0] w fun e w' => e = .returned (.string r) ∧ Below w.heap.size w w' := by
 have HB := Aside0.mk (Below.refl w.heap.size w)
 have H : (if a0 ≤ 0 then (some (⟨#[109, 48]⟩ : ByteArray)) else (laws_markText.l0 k a0 (⟨#[]⟩ : ByteArray))) = some r := h
 clear h
 by_cases c2 : a0 ≤ 0
 ·rw [if_pos c2] at H
  have c2b0 : decide (a0 ≤ 0) = true := decide_eq_true c2
  clear c2
  obtain rfl := Option.some.inj H
  go_enter Try.func44, Try.ntmps44
  go_wp2
  go_ret
  exact ⟨by first | rfl | (simp [errW_none, errW_some] <;> rfl) | (simp [*, errW_none, errW_some] <;> rfl), bw⟩
 ·rw [if_neg c2] at H
  have c2b0 : decide (a0 ≤ 0) = false := decide_eq_false c2
  clear c2
  have H' := Aside0.mk H
  clear H
  go_enter Try.func44, Try.ntmps44
  go_wp2
  go_loopg [0, 3] k (fun kq v0 v3 w' => ∃ (x0_1 : Int) (x3_1 : ByteArray), v0 = .int .i64 x0_1 ∧ v3 = .string x3_1 ∧ Aside0 (laws_markText.l0 kq x0_1 x3_1 = some r) ∧ Aside0 (kq ≤ k) ∧ Aside0 (Below w.heap.size w w'))
  case atStart => exact ⟨(a0), ((⟨#[]⟩ : ByteArray)), (by first | rfl | (simp; done) | (simp [*]; done)), (by first | rfl | (simp; done) | (simp [*]; done)), H', ⟨Nat.le_refl _⟩, ⟨bw⟩⟩
  case round =>
   clear H'
   try clear c2
   try clear c2b0
   try clear p2
   obtain ⟨x0_1, x3_1, rfl, rfl, HA, HK1, HB⟩ := hrel
   cases gk with
   | zero => exact absurd HA.out (by simp [laws_markText.l0])
   | succ k1 =>
    have H := HA.out
    clear HA
    simp only [laws_markText.l0] at H
    by_cases c3 : x0_1 > 0
    ·rw [if_pos c3] at H
     have c3b0 : decide (0 < x0_1) = true := decide_eq_true c3
     clear c3
     obtain ⟨y352, hy352⟩ : ∃ y_ : List Int, y_ = (([(wrap64 (48 + (Int.tmod x0_1 10))) % 256] : List Int)) := ⟨_, rfl⟩
     replace H : (if (strOfNums y352).size + x3_1.size ≤ 9223372036854775807 then (laws_markText.l0 k1 (wrap64 (Int.tdiv x0_1 10)) ((strOfNums y352) ++ x3_1)) else (none)) = some r := by first | (rw [hy352]; with_reducible exact H) | (have H2_ := (Option.bind_some _ _).symm.trans H; rw [hy352]; with_reducible exact H2_) | (have H2_ := (Option.bind_some _ _).symm.trans H; with_reducible exact H2_) | with_reducible exact H | (rw [hy352]; exact H) | exact H
     have Ny352 := Aside0.mk hy352
     clear hy352
     by_cases c4 : (strOfNums y352).size + x3_1.size ≤ 9223372036854775807
     ·rw [if_pos c4] at H
      have c4b0 := eq_true c4
      have c4b1 : decide ((strOfNums y352).size + x3_1.size ≤ 9223372036854775807) = true := decide_eq_true c4
      try have c4b2 : (9223372036854775807 < (strOfNums y352).size + x3_1.size) = False := eq_false (Nat.not_lt.2 c4)
      have H' := Aside0.mk H
      clear H
      go_wp2_with (first | ((with_reducible refine gate_dst (N := 12) rfl ?_); refine Kd.R_lit (Kd.int .u8) _ 5 ?hg (N := 12) ?hd (xs := ([(wrap64 (48 + (Int.tmod x0_1 10))) % 256] : List Int)) (inner := [.int .u8 ((wrap64 (48 + (Int.tmod x0_1 10))) % 256)]) (ok := fun _ => True) (okp := fun _ => True) ?hr ?hp (fun _ hk => hk) trivial (Below.refl _ _) (Nat.le_refl _) (by simp) ?_; (case hd => rfl); (case hg => rfl); (case hr => first | (go_simp; done) | (go_simp; rfl)); (case hp => exact (Reps.one (show Kd.M (Kd.int .u8) _ _ _ ((wrap64 (48 + (Int.tmod x0_1 10))) % 256) [.int .u8 ((wrap64 (48 + (Int.tmod x0_1 10))) % 256)] from rfl) (Reps.none _ _))); intro v353 w5 ho6 hb hg_ hnew_; clear hg_ hnew_; (first | rw [← Ny352.out] at ho6 | (simp only [Int.reduceToNat] at ho6; rw [← Ny352.out] at ho6)); have n0_ := Aside0.mk (Kd.R_lower ho6 (below_size bw)); have n1_ := Aside0.mk (below_step bw hb); clear HB; have HO354 := n0_; have HB := n1_; clear n0_ n1_; clear hb ho6; have hcv7 := own_string (P := Try.prog) Try.underlying83 Try.underlying5 Try.underlying9 (Kd.own_of_R HO354.out)))
      go_roundg k1
      case measure => have := HK1.out; omega
      case rel => exact ⟨(wrap64 (Int.tdiv x0_1 10)), ((strOfNums y352) ++ x3_1), (by first | rfl | (simp; done) | (simp [*]; done)), (by first | rfl | (simp; done) | (simp [*]; done)), H', ⟨by have := HK1.out; omega⟩, ⟨bw⟩⟩
     ·rw [if_neg c4] at H
      exact absurd H (by simp)
    ·rw [if_neg c3] at H
     have c3b0 : decide (0 < x0_1) = false := decide_eq_false c3
     clear c3
     by_cases c8 : 1 + x3_1.size ≤ 9223372036854775807
     ·rw [if_pos c8] at H
      have c8b0 := eq_true c8
      have c8b1 : decide (1 + x3_1.size ≤ 9223372036854775807) = true := decide_eq_true c8
      try have c8b2 : (9223372036854775807 < 1 + x3_1.size) = False := eq_false (Nat.not_lt.2 c8)
      obtain rfl := Option.some.inj H
      go_wp2
      go_ret
      exact ⟨by first | rfl | (simp [errW_none, errW_some] <;> rfl) | (simp [*, errW_none, errW_some] <;> rfl), bw⟩
     ·rw [if_neg c8] at H
      exact absurd H (by simp)

end Go.Proofs.Ytjlggfdmfchncaa.Q

namespace Go.Proofs.Ytjlggfdmfchncaa.Q
open Go.RowKit Go.Proofs.YtjlggfdmfchncaaW.PrintWords Go.Proofs.YtjlggfdmfchncaaW.PrintLast
set_option linter.unusedVariables false
set_option linter.unusedSimpArgs false
theorem mkOne (x : Int) : (strOfNums [x]).size = 1 := by first | rfl | simp [strOfNums]
theorem mkText_loop : ∀ (f : Nat) (x : Int) (s : ByteArray), 0 ≤ x → x ≤ 9223372036854775807 → x < 10 ^ f → s.size + f < 1000 → ∃ t, Ev (fun k => laws_markText.l0 k x s) t
  | 0, x, s, h0, hm, h1, hs => by
    have h2 : x = 0 := by simp at h1; omega
    subst h2
    exact ⟨_, Ev.shift 1 fun k => by simp only [laws_markText.l0]; rw [if_neg (by omega), if_pos (by omega)]⟩
  | f + 1, x, s, h0, hm, h1, hs => by
    by_cases h2 : x > 0
    · have hx : wrap64 (Int.tdiv x 10) = x / 10 := by
        rw [Int.tdiv_eq_ediv_of_nonneg h0]
        exact wrap_id _ (by omega) (by omega)
      obtain ⟨t, ht⟩ := mkText_loop f (x / 10) (strOfNums [(wrap64 (48 + (Int.tmod x 10))) % 256] ++ s) (by omega) (by omega) (by rw [Int.pow_succ] at h1; omega) (by rw [ByteArray.size_append, mkOne]; omega)
      refine ⟨t, Ev.round (fun k => ?_) ht⟩
      simp only [laws_markText.l0]; rw [if_pos h2]; simp only [Option.bind_some]; rw [if_pos (by rw [mkOne]; omega), hx]
    · exact ⟨_, Ev.shift 1 fun k => by simp only [laws_markText.l0]; rw [if_neg h2, if_pos (by omega)]⟩
theorem mkText_ev (x : Int) (h0 : 0 ≤ x) (h1 : x ≤ 9223372036854775807) : ∃ t, Ev (fun k => laws_markText.f k x) t := by
  unfold laws_markText.f
  by_cases h : x ≤ 0
  · exact ⟨_, Ev.if_pos h (Ev.now _)⟩
  · obtain ⟨t, ht⟩ := mkText_loop 19 x ⟨#[]⟩ h0 h1 (by omega) (by decide)
    exact ⟨t, Ev.if_neg h ht⟩
noncomputable def mkT (x : Int) : ByteArray := if h : 0 ≤ x ∧ x ≤ 9223372036854775807 then Classical.choose (mkText_ev x h.1 h.2) else ⟨#[]⟩
theorem mkT_ev (x : Int) (h0 : 0 ≤ x) (h1 : x ≤ 9223372036854775807) : Ev (fun k => laws_markText.f k x) (mkT x) := by
  unfold mkT
  rw [dif_pos ⟨h0, h1⟩]
  exact Classical.choose_spec (mkText_ev x h0 h1)
theorem mkT_call (x : Int) (h0 : 0 ≤ x) (h1 : x ≤ 9223372036854775807) (w : World) : Calls Try.prog 44 #[.int .i64 x] w fun e w' => e = .returned (.string (mkT x)) ∧ Below w.heap.size w w' := by
  obtain ⟨K, hK⟩ := mkT_ev x h0 h1
  exact laws_markText.calls K x (mkT x) w (hK K (Nat.le_refl _))
end Go.Proofs.Ytjlggfdmfchncaa.Q
