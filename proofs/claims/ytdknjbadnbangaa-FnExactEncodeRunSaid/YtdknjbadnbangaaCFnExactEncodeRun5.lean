/- FnExactEncodeRun: the row of the law: its arguments opened, its walk, its statement over lists (PrFnExactEncodeRun). No condition. -/
import Derived.Test.YtdknjbadnbangaaCFnExactEncodeRun4

namespace Go.Proofs.Ytdknjbadnbangaa.Q
open Go.RowKit Go.Proofs.YtdknjbadnbangaaW.PrintWords Go.Proofs.YtdknjbadnbangaaW.PrintLast Go.Proofs.YtdknjbadnbangaaW.PrintMore
set_option linter.unusedVariables false
set_option linter.unusedSimpArgs false

set_option maxHeartbeats 8000000 in
set_option maxRecDepth 100000 in
theorem impl_appendBlock.callsF (k : Nat) (P0_ : Nat → Prop) (u9000_ : Value) (l0 : List Int) (A1 : Option Addr) (c1 : Nat) (l1 : List (S35)) (r : List Int) (w0 w : World) (hB : Below w0.heap.size w0 w) (ho0 : RF w w0.heap.size P0_ u9000_ l0) (hr1 : ∀ W_, Kept w W_ (fun k_ => P0_ k_) → Kd.C k35 W_ A1 l1.length l1) (hc1 : l1.length ≤ c1) (h : impl_appendBlock.f k l0 l1 = some r) :
  Calls Try.prog 90 #[u9000_, .slice A1 l1.length c1] w fun e w' => ∃ v0_ : Value, e = .returned (v0_) ∧ RF w' w0.heap.size (fun k_ => (P0_ k_ ∨ w.heap.size ≤ k_)) v0_ r ∧ Below w0.heap.size w0 w' ∧ Kept w w' (fun k_ => P0_ k_) := by
 have hu35 := Try.underlying35
 have HO0 := Aside0.mk (show RF w w0.heap.size (fun k_ => (P0_ k_ ∨ w.heap.size ≤ k_)) u9000_ l0 from RF_mono ho0 (fun k_ hk => (.inl hk)))
 have HR1 := Aside0.mk hr1
 have HC1 := Aside0.mk hc1
 clear hr1 hc1
 have HK := Aside0.mk (Kept.refl w (fun k_ => P0_ k_))
 have HW0 := Aside0.mk hB.size
 have HB := Aside0.mk hB
 clear hB
 have H : (impl_appendBlock.l0 k l0 (⟨#[]⟩ : ByteArray) l1 (l1.length : Int) 0) = some r := h
 clear h
 have H' := Aside0.mk H
 clear H
 go_enter Try.func90, Try.ntmps90
 go_wp2
 go_loopg [0, 5, 11] k (fun kq v0 v5 v11 w' => ∃ (x0_1 : List Int) (x5_1 : ByteArray) (x11_1 : Int), v5 = .string x5_1 ∧ v11 = .int .i64 x11_1 ∧ Aside0 (impl_appendBlock.l0 kq x0_1 x5_1 l1 (l1.length : Int) x11_1 = some r) ∧ Aside0 (kq ≤ k) ∧ Aside0 (RF w' w0.heap.size (fun k_ => (P0_ k_ ∨ w.heap.size ≤ k_)) v0 x0_1) ∧ Aside0 (Kept w w' (fun k_ => P0_ k_)) ∧ Aside0 (Below w0.heap.size w0 w'))
 case atStart => exact ⟨(l0), ((⟨#[]⟩ : ByteArray)), (0), (by first | rfl | (simp; done) | (simp [*]; done)), (by first | rfl | (simp; done) | (simp [*]; done)), H', ⟨Nat.le_refl _⟩, ⟨by (with_reducible repeat (first | apply RF_alloc | apply RF_drewN | apply RF_drew)); exact HO0.out⟩, ⟨by repeat (first | (with_reducible first | exact HK.out | apply Kept.alloc | apply Kept.drewN | apply Kept.drew) | exact HK.out)⟩, ⟨bw⟩⟩
 case round =>
  clear H'
  try clear c1
  try clear p2
  obtain ⟨x0_1, x5_1, x11_1, rfl, rfl, HA, HK1, HO_0, HK, HB⟩ := hrel
  cases gk with
  | zero => exact absurd HA.out (by simp [impl_appendBlock.l0])
  | succ k1 =>
   have H := HA.out
   clear HA
   simp only [impl_appendBlock.l0] at H
   by_cases c3 : x11_1 < (l1.length : Int)
   ·rw [if_pos c3] at H
    have c3b0 : decide (x11_1 < (l1.length : Int)) = true := decide_eq_true c3
    clear c3
    by_cases c4 : 0 ≤ x11_1
    ·rw [if_pos c4] at H
     have c4b0 : decide (0 ≤ x11_1) = true := decide_eq_true c4
     clear c4
     by_cases c5 : x11_1 < (l1.length : Int)
     ·rw [if_pos c5] at H
      have c5b0 : decide (x11_1 < (l1.length : Int)) = true := decide_eq_true c5
      clear c5
      replace H := Option.bind_eq_some_iff.mp H
      obtain ⟨t724, A60, H⟩ := H
      replace H : ((impl_appendNum.f k1 x0_1 (IntKind.u64.wrap (t724))).bind fun t725 => (if 0 ≤ t724 then (if t724 ≤ (((rd_T35 l1 x11_1).f0).size : Int) then ((impl_appendStr.f k1 t725 (((rd_T35 l1 x11_1).f0).extract (t724 : Int).toNat ((rd_T35 l1 x11_1).f0).size)).bind fun t728 => ((impl_appendStr.f k1 t728 ((rd_T35 l1 x11_1).f1)).bind fun t731 => ((impl_appendStr.f k1 t731 ((rd_T35 l1 x11_1).f2)).bind fun t734 => ((impl_appendNum.f k1 t734 ((rd_T35 l1 x11_1).f3)).bind fun t737 => ((impl_appendNum.f k1 t737 (IntKind.u64.wrap ((rd_T35 l1 x11_1).f4))).bind fun t740 => ((impl_appendStr.f k1 t740 ((rd_T35 l1 x11_1).f5)).bind fun t743 => (impl_appendBlock.l0 k1 t743 ((rd_T35 l1 x11_1).f0) l1 (l1.length : Int) (wrap64 (x11_1 + 1))))))))) else (none)) else (none))) = some r := H
      have A6 := Aside0.mk A60
      clear A60
      replace H := Option.bind_eq_some_iff.mp H
      obtain ⟨t725, A70, H⟩ := H
      replace H : (if 0 ≤ t724 then (if t724 ≤ (((rd_T35 l1 x11_1).f0).size : Int) then ((impl_appendStr.f k1 t725 (((rd_T35 l1 x11_1).f0).extract (t724 : Int).toNat ((rd_T35 l1 x11_1).f0).size)).bind fun t728 => ((impl_appendStr.f k1 t728 ((rd_T35 l1 x11_1).f1)).bind fun t731 => ((impl_appendStr.f k1 t731 ((rd_T35 l1 x11_1).f2)).bind fun t734 => ((impl_appendNum.f k1 t734 ((rd_T35 l1 x11_1).f3)).bind fun t737 => ((impl_appendNum.f k1 t737 (IntKind.u64.wrap ((rd_T35 l1 x11_1).f4))).bind fun t740 => ((impl_appendStr.f k1 t740 ((rd_T35 l1 x11_1).f5)).bind fun t743 => (impl_appendBlock.l0 k1 t743 ((rd_T35 l1 x11_1).f0) l1 (l1.length : Int) (wrap64 (x11_1 + 1))))))))) else (none)) else (none)) = some r := H
      have A7 := Aside0.mk A70
      clear A70
      by_cases c8 : 0 ≤ t724
      ·rw [if_pos c8] at H
       have c8b0 := eq_true c8
       have c8b1 : decide (0 ≤ t724) = true := decide_eq_true c8
       clear c8
       by_cases c9 : t724 ≤ (((rd_T35 l1 x11_1).f0).size : Int)
       ·rw [if_pos c9] at H
        have c9b0 := eq_true c9
        have c9b1 : decide (t724 ≤ (((rd_T35 l1 x11_1).f0).size : Int)) = true := decide_eq_true c9
        clear c9
        replace H := Option.bind_eq_some_iff.mp H
        obtain ⟨t728, A100, H⟩ := H
        replace H : ((impl_appendStr.f k1 t728 ((rd_T35 l1 x11_1).f1)).bind fun t731 => ((impl_appendStr.f k1 t731 ((rd_T35 l1 x11_1).f2)).bind fun t734 => ((impl_appendNum.f k1 t734 ((rd_T35 l1 x11_1).f3)).bind fun t737 => ((impl_appendNum.f k1 t737 (IntKind.u64.wrap ((rd_T35 l1 x11_1).f4))).bind fun t740 => ((impl_appendStr.f k1 t740 ((rd_T35 l1 x11_1).f5)).bind fun t743 => (impl_appendBlock.l0 k1 t743 ((rd_T35 l1 x11_1).f0) l1 (l1.length : Int) (wrap64 (x11_1 + 1)))))))) = some r := H
        have A10 := Aside0.mk A100
        clear A100
        replace H := Option.bind_eq_some_iff.mp H
        obtain ⟨t731, A110, H⟩ := H
        replace H : ((impl_appendStr.f k1 t731 ((rd_T35 l1 x11_1).f2)).bind fun t734 => ((impl_appendNum.f k1 t734 ((rd_T35 l1 x11_1).f3)).bind fun t737 => ((impl_appendNum.f k1 t737 (IntKind.u64.wrap ((rd_T35 l1 x11_1).f4))).bind fun t740 => ((impl_appendStr.f k1 t740 ((rd_T35 l1 x11_1).f5)).bind fun t743 => (impl_appendBlock.l0 k1 t743 ((rd_T35 l1 x11_1).f0) l1 (l1.length : Int) (wrap64 (x11_1 + 1))))))) = some r := H
        have A11 := Aside0.mk A110
        clear A110
        replace H := Option.bind_eq_some_iff.mp H
        obtain ⟨t734, A120, H⟩ := H
        replace H : ((impl_appendNum.f k1 t734 ((rd_T35 l1 x11_1).f3)).bind fun t737 => ((impl_appendNum.f k1 t737 (IntKind.u64.wrap ((rd_T35 l1 x11_1).f4))).bind fun t740 => ((impl_appendStr.f k1 t740 ((rd_T35 l1 x11_1).f5)).bind fun t743 => (impl_appendBlock.l0 k1 t743 ((rd_T35 l1 x11_1).f0) l1 (l1.length : Int) (wrap64 (x11_1 + 1)))))) = some r := H
        have A12 := Aside0.mk A120
        clear A120
        replace H := Option.bind_eq_some_iff.mp H
        obtain ⟨t737, A130, H⟩ := H
        replace H : ((impl_appendNum.f k1 t737 (IntKind.u64.wrap ((rd_T35 l1 x11_1).f4))).bind fun t740 => ((impl_appendStr.f k1 t740 ((rd_T35 l1 x11_1).f5)).bind fun t743 => (impl_appendBlock.l0 k1 t743 ((rd_T35 l1 x11_1).f0) l1 (l1.length : Int) (wrap64 (x11_1 + 1))))) = some r := H
        have A13 := Aside0.mk A130
        clear A130
        replace H := Option.bind_eq_some_iff.mp H
        obtain ⟨t740, A140, H⟩ := H
        replace H : ((impl_appendStr.f k1 t740 ((rd_T35 l1 x11_1).f5)).bind fun t743 => (impl_appendBlock.l0 k1 t743 ((rd_T35 l1 x11_1).f0) l1 (l1.length : Int) (wrap64 (x11_1 + 1)))) = some r := H
        have A14 := Aside0.mk A140
        clear A140
        replace H := Option.bind_eq_some_iff.mp H
        obtain ⟨t743, A150, H⟩ := H
        replace H : (impl_appendBlock.l0 k1 t743 ((rd_T35 l1 x11_1).f0) l1 (l1.length : Int) (wrap64 (x11_1 + 1))) = some r := H
        have A15 := Aside0.mk A150
        clear A150
        have H' := Aside0.mk H
        clear H
        have p722 : 0 ≤ (x11_1 : Int) := of_decide_eq_true (by first | (with_reducible assumption) | assumption)
        have q722 : x11_1 < (l1.length : Int) := of_decide_eq_true (by first | (with_reducible assumption) | assumption)
        obtain ⟨ad722, e722, hx722_0, hx722_1, hx722_2, hx722_3, hx722_4, hx722_5⟩ := at_T35 (Kd.C_kept_now HR1.out HK.out) x11_1 p722 q722
        cases e722
        replace p722 := eq_true p722
        replace q722 := eq_true q722
        try go_wp2_with (first | ((with_reducible refine gate_dst (N := 7) rfl ?_); refine box_event ?hg (N := 7) ?hd (cs := #[.string (⟨#[]⟩ : ByteArray), .string (⟨#[]⟩ : ByteArray), .string (⟨#[]⟩ : ByteArray), .int .u64 0, .int .i64 0, .string (⟨#[]⟩ : ByteArray)]) (t := 35) ?hr ?_; (case hd => rfl); (case hg => rfl); (case hr => first | (go_simp; done) | (go_simp; rfl)); intro gb723 hg w16 hbox hb; have n0_ := Aside0.mk (RF_below (by (with_reducible repeat (first | apply RF_alloc | apply RF_drewN | apply RF_drew)); exact HO_0.out) hb); have n1_ := Aside0.mk (Kept.below (S := (fun k_ => P0_ k_)) (by repeat (first | (with_reducible first | exact HK.out | apply Kept.alloc | apply Kept.drewN | apply Kept.drew) | exact HK.out)) hb); have n2_ := Aside0.mk (below_step bw hb); have n3_ := Aside0.mk (hbox); have n4_ := Aside0.mk ((by rw [hg]; exact (by first | exact HK.out.1 | exact (show Kept w _ (fun k_ => P0_ k_) from by repeat (first | (with_reducible first | exact HK.out | apply Kept.alloc | apply Kept.drewN | apply Kept.drew) | exact HK.out)).1) : w.heap.size ≤ gb723)); have n5_ := Aside0.mk ((by rw [hg]; exact (below_size bw) : w0.heap.size ≤ gb723)); clear HO_0; clear HK; clear HB; have HO_0 := n0_; have HK := n1_; have HB := n2_; have BK723 := n3_; have GW723 := n4_; have GE723 := n5_; clear n0_ n1_ n2_ n3_ n4_ n5_; clear hb hbox hg; have hcz17_0 : w16.cell? ⟨gb723, 0, none⟩ = some (.string (⟨#[]⟩ : ByteArray)) := (blk_cell BK723.out 0).trans rfl; have hcz17_1 : w16.cell? ⟨gb723, 1, none⟩ = some (.string (⟨#[]⟩ : ByteArray)) := (blk_cell BK723.out 1).trans rfl; have hcz17_2 : w16.cell? ⟨gb723, 2, none⟩ = some (.string (⟨#[]⟩ : ByteArray)) := (blk_cell BK723.out 2).trans rfl; have hcz17_3 : w16.cell? ⟨gb723, 3, none⟩ = some (.int .u64 0) := (blk_cell BK723.out 3).trans rfl; have hcz17_4 : w16.cell? ⟨gb723, 4, none⟩ = some (.int .i64 0) := (blk_cell BK723.out 4).trans rfl; have hcz17_5 : w16.cell? ⟨gb723, 5, none⟩ = some (.string (⟨#[]⟩ : ByteArray)) := (blk_cell BK723.out 5).trans rfl; have hfz17_0 := blk_frozen BK723.out 0; have hfz17_1 := blk_frozen BK723.out 1; have hfz17_2 := blk_frozen BK723.out 2; have hfz17_3 := blk_frozen BK723.out 3; have hfz17_4 := blk_frozen BK723.out 4; have hfz17_5 := blk_frozen BK723.out 5) | ((with_reducible refine at_fn (f := 116) rfl ?_); refine goesL_ (some 18) rfl rfl Try.func116 (by kernel_rfl) rfl #[.string x5_1, .string ((rd_T35 l1 x11_1).f0)] rfl (by (try simp only [List.map_toArray, List.map_cons, List.map_nil]); first | done | rfl | (simp only [List.length_drop, List.length_take]; rfl)) ?_; (with_reducible refine (impl_shared.calls k1 x5_1 ((rd_T35 l1 x11_1).f0) t724 _ A6.out).mono ?_); rintro e w' ⟨rfl, ⟨nd, rfl⟩⟩; refine ⟨_, rfl, ?_⟩))
        have n0_ : Aside0 (RF ((((((w16.setCell ⟨gb723, 0, none⟩ (.string ((rd_T35 l1 x11_1).f0))).setCell ⟨gb723, 1, none⟩ (.string ((rd_T35 l1 x11_1).f1))).setCell ⟨gb723, 2, none⟩ (.string ((rd_T35 l1 x11_1).f2))).setCell ⟨gb723, 3, none⟩ (.int .u64 ((rd_T35 l1 x11_1).f3))).setCell ⟨gb723, 4, none⟩ (.int .i64 ((rd_T35 l1 x11_1).f4))).setCell ⟨gb723, 5, none⟩ (.string ((rd_T35 l1 x11_1).f5))) w0.heap.size (fun k_ => (P0_ k_ ∨ w.heap.size ≤ k_)) u0 x0_1) := ⟨by (with_reducible repeat (first | apply Kd.R_alloc | apply Kd.R_drewN | apply Kd.R_drew)); exact RF_mono (RF_far (p := ⟨gb723, 5, none⟩) (RF_far (p := ⟨gb723, 4, none⟩) (RF_far (p := ⟨gb723, 3, none⟩) (RF_far (p := ⟨gb723, 2, none⟩) (RF_far (p := ⟨gb723, 1, none⟩) (RF_far (p := ⟨gb723, 0, none⟩) (RF_types HO_0.out BK723.out (by decide)) (fun _ hk => hk.2) (.string ((rd_T35 l1 x11_1).f0))) (fun _ hk => hk.2) (.string ((rd_T35 l1 x11_1).f1))) (fun _ hk => hk.2) (.string ((rd_T35 l1 x11_1).f2))) (fun _ hk => hk.2) (.int .u64 ((rd_T35 l1 x11_1).f3))) (fun _ hk => hk.2) (.int .i64 ((rd_T35 l1 x11_1).f4))) (fun _ hk => hk.2) (.string ((rd_T35 l1 x11_1).f5))) (fun _ hk => hk.1)⟩
        have n1_ : Aside0 (((((((w16.setCell ⟨gb723, 0, none⟩ (.string ((rd_T35 l1 x11_1).f0))).setCell ⟨gb723, 1, none⟩ (.string ((rd_T35 l1 x11_1).f1))).setCell ⟨gb723, 2, none⟩ (.string ((rd_T35 l1 x11_1).f2))).setCell ⟨gb723, 3, none⟩ (.int .u64 ((rd_T35 l1 x11_1).f3))).setCell ⟨gb723, 4, none⟩ (.int .i64 ((rd_T35 l1 x11_1).f4))).setCell ⟨gb723, 5, none⟩ (.string ((rd_T35 l1 x11_1).f5))).heap[gb723]? = some (.cells #[.string ((rd_T35 l1 x11_1).f0), .string ((rd_T35 l1 x11_1).f1), .string ((rd_T35 l1 x11_1).f2), .int .u64 ((rd_T35 l1 x11_1).f3), .int .i64 ((rd_T35 l1 x11_1).f4), .string ((rd_T35 l1 x11_1).f5)] 35 (0, 0))) := ⟨by (with_reducible repeat (first | refine blk_drewN ?_ _ | refine blk_drew ?_ | refine blk_alloc ?_ _)); refine blk_put (cs := #[.string ((rd_T35 l1 x11_1).f0), .string ((rd_T35 l1 x11_1).f1), .string ((rd_T35 l1 x11_1).f2), .int .u64 ((rd_T35 l1 x11_1).f3), .int .i64 ((rd_T35 l1 x11_1).f4), .string (⟨#[]⟩ : ByteArray)]) ?_ 5 _ rfl; (with_reducible repeat (first | refine blk_drewN ?_ _ | refine blk_drew ?_ | refine blk_alloc ?_ _)); refine blk_put (cs := #[.string ((rd_T35 l1 x11_1).f0), .string ((rd_T35 l1 x11_1).f1), .string ((rd_T35 l1 x11_1).f2), .int .u64 ((rd_T35 l1 x11_1).f3), .int .i64 0, .string (⟨#[]⟩ : ByteArray)]) ?_ 4 _ rfl; (with_reducible repeat (first | refine blk_drewN ?_ _ | refine blk_drew ?_ | refine blk_alloc ?_ _)); refine blk_put (cs := #[.string ((rd_T35 l1 x11_1).f0), .string ((rd_T35 l1 x11_1).f1), .string ((rd_T35 l1 x11_1).f2), .int .u64 0, .int .i64 0, .string (⟨#[]⟩ : ByteArray)]) ?_ 3 _ rfl; (with_reducible repeat (first | refine blk_drewN ?_ _ | refine blk_drew ?_ | refine blk_alloc ?_ _)); refine blk_put (cs := #[.string ((rd_T35 l1 x11_1).f0), .string ((rd_T35 l1 x11_1).f1), .string (⟨#[]⟩ : ByteArray), .int .u64 0, .int .i64 0, .string (⟨#[]⟩ : ByteArray)]) ?_ 2 _ rfl; (with_reducible repeat (first | refine blk_drewN ?_ _ | refine blk_drew ?_ | refine blk_alloc ?_ _)); refine blk_put (cs := #[.string ((rd_T35 l1 x11_1).f0), .string (⟨#[]⟩ : ByteArray), .string (⟨#[]⟩ : ByteArray), .int .u64 0, .int .i64 0, .string (⟨#[]⟩ : ByteArray)]) ?_ 1 _ rfl; (with_reducible repeat (first | refine blk_drewN ?_ _ | refine blk_drew ?_ | refine blk_alloc ?_ _)); refine blk_put (cs := #[.string (⟨#[]⟩ : ByteArray), .string (⟨#[]⟩ : ByteArray), .string (⟨#[]⟩ : ByteArray), .int .u64 0, .int .i64 0, .string (⟨#[]⟩ : ByteArray)]) ?_ 0 _ rfl; (with_reducible repeat (first | refine blk_drewN ?_ _ | refine blk_drew ?_ | refine blk_alloc ?_ _)); exact BK723.out⟩
        have n2_ : Aside0 (Kept w ((((((w16.setCell ⟨gb723, 0, none⟩ (.string ((rd_T35 l1 x11_1).f0))).setCell ⟨gb723, 1, none⟩ (.string ((rd_T35 l1 x11_1).f1))).setCell ⟨gb723, 2, none⟩ (.string ((rd_T35 l1 x11_1).f2))).setCell ⟨gb723, 3, none⟩ (.int .u64 ((rd_T35 l1 x11_1).f3))).setCell ⟨gb723, 4, none⟩ (.int .i64 ((rd_T35 l1 x11_1).f4))).setCell ⟨gb723, 5, none⟩ (.string ((rd_T35 l1 x11_1).f5))) (fun k_ => P0_ k_)) := ⟨by repeat (first | (with_reducible first | exact HK.out | apply Kept.alloc | apply Kept.drewN | apply Kept.drew | refine Kept.setCell ?_ (.inr GW723.out) _) | exact HK.out)⟩
        have n3_ : Aside0 (Below w0.heap.size w0 ((((((w16.setCell ⟨gb723, 0, none⟩ (.string ((rd_T35 l1 x11_1).f0))).setCell ⟨gb723, 1, none⟩ (.string ((rd_T35 l1 x11_1).f1))).setCell ⟨gb723, 2, none⟩ (.string ((rd_T35 l1 x11_1).f2))).setCell ⟨gb723, 3, none⟩ (.int .u64 ((rd_T35 l1 x11_1).f3))).setCell ⟨gb723, 4, none⟩ (.int .i64 ((rd_T35 l1 x11_1).f4))).setCell ⟨gb723, 5, none⟩ (.string ((rd_T35 l1 x11_1).f5)))) := ⟨bw⟩
        (try clear HO_0)
        (try clear BK723)
        (try clear HK)
        (try clear HB)
        generalize ((((((w16.setCell ⟨gb723, 0, none⟩ (.string ((rd_T35 l1 x11_1).f0))).setCell ⟨gb723, 1, none⟩ (.string ((rd_T35 l1 x11_1).f1))).setCell ⟨gb723, 2, none⟩ (.string ((rd_T35 l1 x11_1).f2))).setCell ⟨gb723, 3, none⟩ (.int .u64 ((rd_T35 l1 x11_1).f3))).setCell ⟨gb723, 4, none⟩ (.int .i64 ((rd_T35 l1 x11_1).f4))).setCell ⟨gb723, 5, none⟩ (.string ((rd_T35 l1 x11_1).f5))) = w18 at n0_ n1_ n2_ n3_ ⊢
        have HO_0 := n0_
        have BK723 := n1_
        have HK := n2_
        have HB := n3_
        clear n0_ n1_ n2_ n3_
        (try (rw [drewN_self w18]; generalize hq_ : World.drewN w18 _ = w18; have n0_ : Aside0 (RF w18 w0.heap.size (fun k_ => (P0_ k_ ∨ w.heap.size ≤ k_)) u0 x0_1) := ⟨by rw [← hq_]; exact (by (with_reducible repeat (first | apply RF_alloc | apply RF_drewN | apply RF_drew)); exact HO_0.out)⟩; have n1_ : Aside0 (w18.heap[gb723]? = some (.cells #[.string ((rd_T35 l1 x11_1).f0), .string ((rd_T35 l1 x11_1).f1), .string ((rd_T35 l1 x11_1).f2), .int .u64 ((rd_T35 l1 x11_1).f3), .int .i64 ((rd_T35 l1 x11_1).f4), .string ((rd_T35 l1 x11_1).f5)] 35 (0, 0))) := ⟨by rw [← hq_]; exact (lb BK723)⟩; have n2_ : Aside0 (Kept w w18 (fun k_ => P0_ k_)) := ⟨by rw [← hq_]; exact (by repeat (first | (with_reducible first | exact HK.out | apply Kept.alloc | apply Kept.drewN | apply Kept.drew | refine Kept.setCell ?_ (.inr GW723.out) _) | exact HK.out))⟩; have n3_ : Aside0 (Below w0.heap.size w0 w18) := ⟨by rw [← hq_]; exact bw⟩; clear HO_0 BK723 HK HB hq_; have HO_0 := n0_; have BK723 := n1_; have HK := n2_; have HB := n3_; clear n0_ n1_ n2_ n3_))
        have n0_ := Aside0.mk (RF_drew HO_0.out)
        have n1_ := Aside0.mk (blk_drew BK723.out)
        have n2_ := Aside0.mk (Kept.drew HK.out)
        have n3_ := Aside0.mk (below_drew1 HB.out)
        clear HO_0
        clear BK723
        clear HK
        clear HB
        have HO_0 := n0_
        have BK723 := n1_
        have HK := n2_
        have HB := n3_
        clear n0_ n1_ n2_ n3_
        obtain ⟨Ao20, co20, eo20⟩ := RF_slice HO_0.out
        (first | subst eo20 | (injection eo20 with f1_ f2_ f3_; have f4_ := f1_.symm; have f5_ := f3_.symm; clear f1_ f2_ f3_; subst f4_; subst f5_))
        refine start_ (n := 10) (S := fun w' => w'.cell? ⟨gb723, 0, none⟩ = some (.string ((rd_T35 l1 x11_1).f0)) ∧ w'.cell? ⟨gb723, 1, none⟩ = some (.string ((rd_T35 l1 x11_1).f1)) ∧ w'.cell? ⟨gb723, 2, none⟩ = some (.string ((rd_T35 l1 x11_1).f2)) ∧ w'.cell? ⟨gb723, 3, none⟩ = some (.int .u64 ((rd_T35 l1 x11_1).f3)) ∧ w'.cell? ⟨gb723, 4, none⟩ = some (.int .i64 ((rd_T35 l1 x11_1).f4)) ∧ w'.cell? ⟨gb723, 5, none⟩ = some (.string ((rd_T35 l1 x11_1).f5))) (ds := []) #[false, false, false, false, false, false, false, false, false, false] (by kernel_rfl) rfl rfl ⟨(blk_cell BK723.out 0).trans rfl, (blk_cell BK723.out 1).trans rfl, (blk_cell BK723.out 2).trans rfl, (blk_cell BK723.out 3).trans rfl, (blk_cell BK723.out 4).trans rfl, (blk_cell BK723.out 5).trans rfl⟩ (fun hHeld => ?_); refine with_tabW impl_appendBlock.tab6 impl_appendBlock.bits6 (fun HT_ HW_ => ?_)
        generalize w18.drew = w19 at HO_0 BK723 HK HB hHeld ⊢
        refine pure_ (i := 0) (N := some 19) (v := ?_) (a' := ?_) #[true, false, false, false, false, false, false, false, false, false] rfl rfl (any_of HT_.out (by kernel_rfl)) (fun _ _ _ h => h) (Or.inl ⟨by rfl, ?_⟩) ?_ ?_
        rotate_left
        ·intro w'
         go_simp
         with_reducible rfl
        rotate_left
        ·simp only [Act.put, List.setIfInBounds_toArray, List.set_cons_zero, List.set_cons_succ, i64_w, i32_w]
         rfl
        refine pure_ (i := 1) (N := some 20) (v := ?_) (a' := ?_) #[true, true, false, false, false, false, false, false, false, false] rfl rfl (any_of HT_.out (by kernel_rfl)) (fun _ _ _ h => h) (Or.inl ⟨by rfl, ?_⟩) ?_ ?_
        rotate_left
        ·intro w'
         go_simp
         with_reducible rfl
        rotate_left
        ·simp only [Act.put, List.setIfInBounds_toArray, List.set_cons_zero, List.set_cons_succ, i64_w, i32_w]
         rfl
        refine pure_ (i := 2) (N := some 21) (v := ?_) (a' := ?_) #[true, true, true, false, false, false, false, false, false, false] rfl rfl (any_of HT_.out (by kernel_rfl)) (fun _ _ _ h => h) (Or.inl ⟨by rfl, ?_⟩) ?_ ?_
        rotate_left
        ·intro w'
         go_simp
         with_reducible rfl
        rotate_left
        ·simp only [Act.put, List.setIfInBounds_toArray, List.set_cons_zero, List.set_cons_succ, i64_w, i32_w]
         rfl
        refine pure_ (i := 4) (N := some 23) (v := ?_) (a' := ?_) #[true, true, true, false, true, false, false, false, false, false] rfl rfl (any_of HT_.out (by kernel_rfl)) (fun _ _ _ h => h) (Or.inl ⟨by rfl, ?_⟩) ?_ ?_
        rotate_left
        ·intro w'
         go_simp
         with_reducible rfl
        rotate_left
        ·simp only [Act.put, List.setIfInBounds_toArray, List.set_cons_zero, List.set_cons_succ, i64_w, i32_w]
         rfl
        refine pure_ (i := 6) (N := some 25) (v := ?_) (a' := ?_) #[true, true, true, false, true, false, true, false, false, false] rfl rfl (any_of HT_.out (by kernel_rfl)) (fun _ _ _ h => h) (Or.inl ⟨by rfl, ?_⟩) ?_ ?_
        rotate_left
        ·intro w'
         go_simp
         with_reducible rfl
        rotate_left
        ·simp only [Act.put, List.setIfInBounds_toArray, List.set_cons_zero, List.set_cons_succ, i64_w, i32_w]
         rfl
        refine take_ (i := 5) (N := some 24) (v := ?_) (a' := ?_) #[true, true, true, false, true, true, true, false, false, false] rfl rfl (take_ofW HT_.out HW_.out (by kernel_rfl)) (fun _ _ _ h => h) (Or.inl ⟨by rfl, ?_⟩) hHeld ?_ ?_
        rotate_left
        ·rintro w' ⟨s0, s1, s2, s3, s4, s5⟩
         go_simp
         with_reducible rfl
        rotate_left
        ·simp only [Act.put, List.setIfInBounds_toArray, List.set_cons_zero, List.set_cons_succ, i64_w, i32_w]
         rfl
        refine pure_ (i := 7) (N := some 26) (v := ?_) (a' := ?_) #[true, true, true, false, true, true, true, true, false, false] rfl rfl (any_of HT_.out (by kernel_rfl)) (fun _ _ _ h => h) (Or.inl ⟨by rfl, ?_⟩) ?_ ?_
        rotate_left
        ·intro w'
         go_simp
         with_reducible rfl
        rotate_left
        ·simp only [Act.put, List.setIfInBounds_toArray, List.set_cons_zero, List.set_cons_succ, i64_w, i32_w]
         rfl
        refine one_ (i := 3) (N := some 22) #[true, true, true, true, true, true, true, true, false, false] rfl rfl (one_of HT_.out (by kernel_rfl)) (by decide) (fun K hK => ?_)
        refine goes_ Try.func89 (by kernel_rfl) rfl #[.slice Ao20 x0_1.length co20, .int .u64 (IntKind.u64.wrap (t724))] (by rfl) rfl rfl (by (try simp only [List.map_toArray, List.map_cons, List.map_nil]); first | done | rfl | (simp only [List.length_drop, List.length_take]; rfl)) ?_
        with_reducible refine (impl_appendNum.callsF k1 (fun k_ => some k_ = (.slice Ao20 x0_1.length co20 : Value).ownBlock) (.slice Ao20 x0_1.length co20) x0_1 (IntKind.u64.wrap (t724)) t725 w0 _ ?side1 ?side2 A7.out).mono ?_
        (case side1 => repeat (first | (with_reducible first | exact HB.out | apply below_alloc | apply pw_below_drewN | apply below_drew1 | refine below_set ?_ GE723.out) | exact HB.out))
        (case side2 => exact RF_tight rfl HO_0.out)
        rintro e w21 ⟨v726, rfl, ho0, hb, hkp⟩
        refine ⟨_, rfl, ?_⟩
        have n0_ := Aside0.mk (blk_kept (lb BK723) hkp (fun hs_ => (fun e_ => (RF_ne HO_0.out BK723.out (by decide)) e_) hs_))
        have n1_ := Aside0.mk (Kd.R_mono (ok' := fun k_ => (P0_ k_ ∨ w.heap.size ≤ k_)) ho0 (fun k_ hk_ => Or.elim hk_ (fun hs_ => (HO_0.out.own k_ (hs_).symm)) (fun hn_ => (.inr (Nat.le_trans (by first | exact HK.out.1 | exact (show Kept w _ (fun k_ => P0_ k_) from by repeat (first | (with_reducible first | exact HK.out | apply Kept.alloc | apply Kept.drewN | apply Kept.drew | refine Kept.setCell ?_ (.inr GW723.out) _) | exact HK.out)).1) hn_)))))
        have n2_ := Aside0.mk (Kept.then_ (S := (fun k_ => P0_ k_)) (by repeat (first | (with_reducible first | exact HK.out | apply Kept.alloc | apply Kept.drewN | apply Kept.drew | refine Kept.setCell ?_ (.inr GW723.out) _) | exact HK.out)) hkp (fun k_ hs_ => (fun e_ => (HO_0.out.own k_ e_.symm)) hs_))
        have n3_ := Aside0.mk (hb)
        clear BK723
        clear HK
        clear HB
        clear HO_0
        have BK723 := n0_
        have HO727 := n1_
        have HK := n2_
        have HB := n3_
        clear n0_ n1_ n2_ n3_
        (try clear hb)
        (try clear hkp)
        (try clear ho0)
        obtain ⟨Ao22, co22, eo22⟩ := Kd.R_slice HO727.out
        (first | subst eo22 | (injection eo22 with f1_ f2_ f3_; have f4_ := f1_.symm; have f5_ := f3_.symm; clear f1_ f2_ f3_; subst f4_; subst f5_))
        refine hK.out _ _ ⟨(blk_cell BK723.out 0).trans rfl, (blk_cell BK723.out 1).trans rfl, (blk_cell BK723.out 2).trans rfl, (blk_cell BK723.out 3).trans rfl, (blk_cell BK723.out 4).trans rfl, (blk_cell BK723.out 5).trans rfl⟩ (fun hHeld => ?_)
        clear hK K
        refine norm_ (a' := ?_) ?_ ?_
        rotate_left
        ·show Act.put _ (some 22) _ = _
         simp only [Act.put, List.setIfInBounds_toArray, List.set_cons_zero, List.set_cons_succ, i64_w, i32_w]
         rfl
        refine one_ (i := 8) (N := some 27) #[true, true, true, true, true, true, true, true, true, false] rfl rfl (one_of HT_.out (by kernel_rfl)) (by decide) (fun K hK => ?_)
        refine goes_ Try.func91 (by kernel_rfl) rfl #[.slice Ao22 t725.length co22, .string (((rd_T35 l1 x11_1).f0).extract (t724 : Int).toNat ((rd_T35 l1 x11_1).f0).size)] (by rfl) rfl rfl (by (try simp only [List.map_toArray, List.map_cons, List.map_nil]); first | done | rfl | (simp only [List.length_drop, List.length_take]; rfl)) ?_
        with_reducible refine (impl_appendStr.calls k1 (fun k_ => some k_ = (.slice Ao22 t725.length co22 : Value).ownBlock) (.slice Ao22 t725.length co22) t725 (((rd_T35 l1 x11_1).f0).extract (t724 : Int).toNat ((rd_T35 l1 x11_1).f0).size) t728 w0 _ ?side1 ?side2 A10.out).mono ?_
        (case side1 => repeat (first | (with_reducible first | exact HB.out | apply below_alloc | apply pw_below_drewN | apply below_drew1 | refine below_set ?_ GE723.out) | exact HB.out))
        (case side2 => exact Kd.R_tight rfl HO727.out)
        rintro e w23 ⟨v729, rfl, ho0, hb, hkp⟩
        refine ⟨_, rfl, ?_⟩
        have n0_ := Aside0.mk (blk_kept (lb BK723) hkp (fun hs_ => (fun e_ => (Kd.R_ne HO727.out BK723.out (by decide)) e_) hs_))
        have n1_ := Aside0.mk (Kd.R_mono (ok' := fun k_ => (P0_ k_ ∨ w.heap.size ≤ k_)) ho0 (fun k_ hk_ => Or.elim hk_ (fun hs_ => (HO727.out.1 k_ (hs_).symm)) (fun hn_ => (.inr (Nat.le_trans (by first | exact HK.out.1 | exact (show Kept w _ (fun k_ => P0_ k_) from by repeat (first | (with_reducible first | exact HK.out | apply Kept.alloc | apply Kept.drewN | apply Kept.drew | refine Kept.setCell ?_ (.inr GW723.out) _) | exact HK.out)).1) hn_)))))
        have n2_ := Aside0.mk (Kept.then_ (S := (fun k_ => P0_ k_)) (by repeat (first | (with_reducible first | exact HK.out | apply Kept.alloc | apply Kept.drewN | apply Kept.drew | refine Kept.setCell ?_ (.inr GW723.out) _) | exact HK.out)) hkp (fun k_ hs_ => (fun e_ => (HO727.out.1 k_ e_.symm)) hs_))
        have n3_ := Aside0.mk (hb)
        clear BK723
        clear HK
        clear HB
        clear HO727
        have BK723 := n0_
        have HO730 := n1_
        have HK := n2_
        have HB := n3_
        clear n0_ n1_ n2_ n3_
        (try clear hb)
        (try clear hkp)
        (try clear ho0)
        refine hK.out _ _ ⟨(blk_cell BK723.out 0).trans rfl, (blk_cell BK723.out 1).trans rfl, (blk_cell BK723.out 2).trans rfl, (blk_cell BK723.out 3).trans rfl, (blk_cell BK723.out 4).trans rfl, (blk_cell BK723.out 5).trans rfl⟩ (fun hHeld => ?_)
        clear hK K
        refine norm_ (a' := ?_) ?_ ?_
        rotate_left
        ·show Act.put _ (some 27) _ = _
         simp only [Act.put, List.setIfInBounds_toArray, List.set_cons_zero, List.set_cons_succ, i64_w, i32_w]
         rfl
        refine pure_ (i := 9) (N := some 0) (v := ?_) (a' := ?_) #[true, true, true, true, true, true, true, true, true, true] rfl rfl (any_of HT_.out (by kernel_rfl)) (fun _ _ _ h => h) (Or.inl ⟨by rfl, ?_⟩) ?_ ?_
        rotate_left
        ·intro w'
         go_simp
         with_reducible rfl
        rotate_left
        ·simp only [Act.put, List.setIfInBounds_toArray, List.set_cons_zero, List.set_cons_succ, i64_w, i32_w]
         rfl
        refine done_ (done_of HT_.out (by kernel_rfl)) ?_
        try go_wp2
        have n0_ := Aside0.mk (Kd.R_drew HO730.out)
        have n1_ := Aside0.mk (blk_drew BK723.out)
        have n2_ := Aside0.mk (Kept.drew HK.out)
        have n3_ := Aside0.mk (below_drew1 HB.out)
        clear HO730
        clear BK723
        clear HK
        clear HB
        have HO730 := n0_
        have BK723 := n1_
        have HK := n2_
        have HB := n3_
        clear n0_ n1_ n2_ n3_
        obtain ⟨Ao25, co25, eo25⟩ := Kd.R_slice HO730.out
        (first | subst eo25 | (injection eo25 with f1_ f2_ f3_; have f4_ := f1_.symm; have f5_ := f3_.symm; clear f1_ f2_ f3_; subst f4_; subst f5_))
        refine start_ (n := 8) (S := fun w' => w'.cell? ⟨gb723, 0, none⟩ = some (.string ((rd_T35 l1 x11_1).f0)) ∧ w'.cell? ⟨gb723, 1, none⟩ = some (.string ((rd_T35 l1 x11_1).f1)) ∧ w'.cell? ⟨gb723, 2, none⟩ = some (.string ((rd_T35 l1 x11_1).f2)) ∧ w'.cell? ⟨gb723, 3, none⟩ = some (.int .u64 ((rd_T35 l1 x11_1).f3)) ∧ w'.cell? ⟨gb723, 4, none⟩ = some (.int .i64 ((rd_T35 l1 x11_1).f4)) ∧ w'.cell? ⟨gb723, 5, none⟩ = some (.string ((rd_T35 l1 x11_1).f5))) (ds := []) #[false, false, false, false, false, false, false, false] (by kernel_rfl) rfl rfl ⟨(blk_cell BK723.out 0).trans rfl, (blk_cell BK723.out 1).trans rfl, (blk_cell BK723.out 2).trans rfl, (blk_cell BK723.out 3).trans rfl, (blk_cell BK723.out 4).trans rfl, (blk_cell BK723.out 5).trans rfl⟩ (fun hHeld => ?_); refine with_tabW impl_appendBlock.tab7 impl_appendBlock.bits7 (fun HT_ HW_ => ?_)
        generalize w23.drew = w24 at HO730 BK723 HK HB hHeld ⊢
        refine pure_ (i := 0) (N := some 28) (v := ?_) (a' := ?_) #[true, false, false, false, false, false, false, false] rfl rfl (any_of HT_.out (by kernel_rfl)) (fun _ _ _ h => h) (Or.inl ⟨by rfl, ?_⟩) ?_ ?_
        rotate_left
        ·intro w'
         go_simp
         with_reducible rfl
        rotate_left
        ·simp only [Act.put, List.setIfInBounds_toArray, List.set_cons_zero, List.set_cons_succ, i64_w, i32_w]
         rfl
        refine pure_ (i := 1) (N := some 29) (v := ?_) (a' := ?_) #[true, true, false, false, false, false, false, false] rfl rfl (any_of HT_.out (by kernel_rfl)) (fun _ _ _ h => h) (Or.inl ⟨by rfl, ?_⟩) ?_ ?_
        rotate_left
        ·intro w'
         go_simp
         with_reducible rfl
        rotate_left
        ·simp only [Act.put, List.setIfInBounds_toArray, List.set_cons_zero, List.set_cons_succ, i64_w, i32_w]
         rfl
        refine pure_ (i := 4) (N := some 32) (v := ?_) (a' := ?_) #[true, true, false, false, true, false, false, false] rfl rfl (any_of HT_.out (by kernel_rfl)) (fun _ _ _ h => h) (Or.inl ⟨by rfl, ?_⟩) ?_ ?_
        rotate_left
        ·intro w'
         go_simp
         with_reducible rfl
        rotate_left
        ·simp only [Act.put, List.setIfInBounds_toArray, List.set_cons_zero, List.set_cons_succ, i64_w, i32_w]
         rfl
        refine take_ (i := 2) (N := some 30) (v := ?_) (a' := ?_) #[true, true, true, false, true, false, false, false] rfl rfl (take_ofW HT_.out HW_.out (by kernel_rfl)) (fun _ _ _ h => h) (Or.inl ⟨by rfl, ?_⟩) hHeld ?_ ?_
        rotate_left
        ·rintro w' ⟨s0, s1, s2, s3, s4, s5⟩
         go_simp
         with_reducible rfl
        rotate_left
        ·simp only [Act.put, List.setIfInBounds_toArray, List.set_cons_zero, List.set_cons_succ, i64_w, i32_w]
         rfl
        refine take_ (i := 5) (N := some 33) (v := ?_) (a' := ?_) #[true, true, true, false, true, true, false, false] rfl rfl (take_ofW HT_.out HW_.out (by kernel_rfl)) (fun _ _ _ h => h) (Or.inl ⟨by rfl, ?_⟩) hHeld ?_ ?_
        rotate_left
        ·rintro w' ⟨s0, s1, s2, s3, s4, s5⟩
         go_simp
         with_reducible rfl
        rotate_left
        ·simp only [Act.put, List.setIfInBounds_toArray, List.set_cons_zero, List.set_cons_succ, i64_w, i32_w]
         rfl
        refine one_ (i := 3) (N := some 31) #[true, true, true, true, true, true, false, false] rfl rfl (one_of HT_.out (by kernel_rfl)) (by decide) (fun K hK => ?_)
        refine goes_ Try.func91 (by kernel_rfl) rfl #[.slice Ao25 t728.length co25, .string ((rd_T35 l1 x11_1).f1)] (by rfl) rfl rfl (by (try simp only [List.map_toArray, List.map_cons, List.map_nil]); first | done | rfl | (simp only [List.length_drop, List.length_take]; rfl)) ?_
        with_reducible refine (impl_appendStr.calls k1 (fun k_ => some k_ = (.slice Ao25 t728.length co25 : Value).ownBlock) (.slice Ao25 t728.length co25) t728 ((rd_T35 l1 x11_1).f1) t731 w0 _ ?side1 ?side2 A11.out).mono ?_
        (case side1 => repeat (first | (with_reducible first | exact HB.out | apply below_alloc | apply pw_below_drewN | apply below_drew1 | refine below_set ?_ GE723.out) | exact HB.out))
        (case side2 => exact Kd.R_tight rfl HO730.out)
        rintro e w26 ⟨v732, rfl, ho0, hb, hkp⟩
        refine ⟨_, rfl, ?_⟩
        have n0_ := Aside0.mk (blk_kept (lb BK723) hkp (fun hs_ => (fun e_ => (Kd.R_ne HO730.out BK723.out (by decide)) e_) hs_))
        have n1_ := Aside0.mk (Kd.R_mono (ok' := fun k_ => (P0_ k_ ∨ w.heap.size ≤ k_)) ho0 (fun k_ hk_ => Or.elim hk_ (fun hs_ => (HO730.out.1 k_ (hs_).symm)) (fun hn_ => (.inr (Nat.le_trans (by first | exact HK.out.1 | exact (show Kept w _ (fun k_ => P0_ k_) from by repeat (first | (with_reducible first | exact HK.out | apply Kept.alloc | apply Kept.drewN | apply Kept.drew | refine Kept.setCell ?_ (.inr GW723.out) _) | exact HK.out)).1) hn_)))))
        have n2_ := Aside0.mk (Kept.then_ (S := (fun k_ => P0_ k_)) (by repeat (first | (with_reducible first | exact HK.out | apply Kept.alloc | apply Kept.drewN | apply Kept.drew | refine Kept.setCell ?_ (.inr GW723.out) _) | exact HK.out)) hkp (fun k_ hs_ => (fun e_ => (HO730.out.1 k_ e_.symm)) hs_))
        have n3_ := Aside0.mk (hb)
        clear BK723
        clear HK
        clear HB
        clear HO730
        have BK723 := n0_
        have HO733 := n1_
        have HK := n2_
        have HB := n3_
        clear n0_ n1_ n2_ n3_
        (try clear hb)
        (try clear hkp)
        (try clear ho0)
        obtain ⟨Ao27, co27, eo27⟩ := Kd.R_slice HO733.out
        (first | subst eo27 | (injection eo27 with f1_ f2_ f3_; have f4_ := f1_.symm; have f5_ := f3_.symm; clear f1_ f2_ f3_; subst f4_; subst f5_))
        refine hK.out _ _ ⟨(blk_cell BK723.out 0).trans rfl, (blk_cell BK723.out 1).trans rfl, (blk_cell BK723.out 2).trans rfl, (blk_cell BK723.out 3).trans rfl, (blk_cell BK723.out 4).trans rfl, (blk_cell BK723.out 5).trans rfl⟩ (fun hHeld => ?_)
        clear hK K
        refine norm_ (a' := ?_) ?_ ?_
        rotate_left
        ·show Act.put _ (some 31) _ = _
         simp only [Act.put, List.setIfInBounds_toArray, List.set_cons_zero, List.set_cons_succ, i64_w, i32_w]
         rfl
        refine one_ (i := 6) (N := some 34) #[true, true, true, true, true, true, true, false] rfl rfl (one_of HT_.out (by kernel_rfl)) (by decide) (fun K hK => ?_)
        refine goes_ Try.func91 (by kernel_rfl) rfl #[.slice Ao27 t731.length co27, .string ((rd_T35 l1 x11_1).f2)] (by rfl) rfl rfl (by (try simp only [List.map_toArray, List.map_cons, List.map_nil]); first | done | rfl | (simp only [List.length_drop, List.length_take]; rfl)) ?_
        with_reducible refine (impl_appendStr.calls k1 (fun k_ => some k_ = (.slice Ao27 t731.length co27 : Value).ownBlock) (.slice Ao27 t731.length co27) t731 ((rd_T35 l1 x11_1).f2) t734 w0 _ ?side1 ?side2 A12.out).mono ?_
        (case side1 => repeat (first | (with_reducible first | exact HB.out | apply below_alloc | apply pw_below_drewN | apply below_drew1 | refine below_set ?_ GE723.out) | exact HB.out))
        (case side2 => exact Kd.R_tight rfl HO733.out)
        rintro e w28 ⟨v735, rfl, ho0, hb, hkp⟩
        refine ⟨_, rfl, ?_⟩
        have n0_ := Aside0.mk (blk_kept (lb BK723) hkp (fun hs_ => (fun e_ => (Kd.R_ne HO733.out BK723.out (by decide)) e_) hs_))
        have n1_ := Aside0.mk (Kd.R_mono (ok' := fun k_ => (P0_ k_ ∨ w.heap.size ≤ k_)) ho0 (fun k_ hk_ => Or.elim hk_ (fun hs_ => (HO733.out.1 k_ (hs_).symm)) (fun hn_ => (.inr (Nat.le_trans (by first | exact HK.out.1 | exact (show Kept w _ (fun k_ => P0_ k_) from by repeat (first | (with_reducible first | exact HK.out | apply Kept.alloc | apply Kept.drewN | apply Kept.drew | refine Kept.setCell ?_ (.inr GW723.out) _) | exact HK.out)).1) hn_)))))
        have n2_ := Aside0.mk (Kept.then_ (S := (fun k_ => P0_ k_)) (by repeat (first | (with_reducible first | exact HK.out | apply Kept.alloc | apply Kept.drewN | apply Kept.drew | refine Kept.setCell ?_ (.inr GW723.out) _) | exact HK.out)) hkp (fun k_ hs_ => (fun e_ => (HO733.out.1 k_ e_.symm)) hs_))
        have n3_ := Aside0.mk (hb)
        clear BK723
        clear HK
        clear HB
        clear HO733
        have BK723 := n0_
        have HO736 := n1_
        have HK := n2_
        have HB := n3_
        clear n0_ n1_ n2_ n3_
        (try clear hb)
        (try clear hkp)
        (try clear ho0)
        refine hK.out _ _ ⟨(blk_cell BK723.out 0).trans rfl, (blk_cell BK723.out 1).trans rfl, (blk_cell BK723.out 2).trans rfl, (blk_cell BK723.out 3).trans rfl, (blk_cell BK723.out 4).trans rfl, (blk_cell BK723.out 5).trans rfl⟩ (fun hHeld => ?_)
        clear hK K
        refine norm_ (a' := ?_) ?_ ?_
        rotate_left
        ·show Act.put _ (some 34) _ = _
         simp only [Act.put, List.setIfInBounds_toArray, List.set_cons_zero, List.set_cons_succ, i64_w, i32_w]
         rfl
        refine pure_ (i := 7) (N := some 0) (v := ?_) (a' := ?_) #[true, true, true, true, true, true, true, true] rfl rfl (any_of HT_.out (by kernel_rfl)) (fun _ _ _ h => h) (Or.inl ⟨by rfl, ?_⟩) ?_ ?_
        rotate_left
        ·intro w'
         go_simp
         with_reducible rfl
        rotate_left
        ·simp only [Act.put, List.setIfInBounds_toArray, List.set_cons_zero, List.set_cons_succ, i64_w, i32_w]
         rfl
        refine done_ (done_of HT_.out (by kernel_rfl)) ?_
        try go_wp2
        have n0_ := Aside0.mk (Kd.R_drew HO736.out)
        have n1_ := Aside0.mk (blk_drew BK723.out)
        have n2_ := Aside0.mk (Kept.drew HK.out)
        have n3_ := Aside0.mk (below_drew1 HB.out)
        clear HO736
        clear BK723
        clear HK
        clear HB
        have HO736 := n0_
        have BK723 := n1_
        have HK := n2_
        have HB := n3_
        clear n0_ n1_ n2_ n3_
        obtain ⟨Ao30, co30, eo30⟩ := Kd.R_slice HO736.out
        (first | subst eo30 | (injection eo30 with f1_ f2_ f3_; have f4_ := f1_.symm; have f5_ := f3_.symm; clear f1_ f2_ f3_; subst f4_; subst f5_))
        refine start_ (n := 9) (S := fun w' => w'.cell? ⟨gb723, 0, none⟩ = some (.string ((rd_T35 l1 x11_1).f0)) ∧ w'.cell? ⟨gb723, 1, none⟩ = some (.string ((rd_T35 l1 x11_1).f1)) ∧ w'.cell? ⟨gb723, 2, none⟩ = some (.string ((rd_T35 l1 x11_1).f2)) ∧ w'.cell? ⟨gb723, 3, none⟩ = some (.int .u64 ((rd_T35 l1 x11_1).f3)) ∧ w'.cell? ⟨gb723, 4, none⟩ = some (.int .i64 ((rd_T35 l1 x11_1).f4)) ∧ w'.cell? ⟨gb723, 5, none⟩ = some (.string ((rd_T35 l1 x11_1).f5))) (ds := []) #[false, false, false, false, false, false, false, false, false] (by kernel_rfl) rfl rfl ⟨(blk_cell BK723.out 0).trans rfl, (blk_cell BK723.out 1).trans rfl, (blk_cell BK723.out 2).trans rfl, (blk_cell BK723.out 3).trans rfl, (blk_cell BK723.out 4).trans rfl, (blk_cell BK723.out 5).trans rfl⟩ (fun hHeld => ?_); refine with_tabW impl_appendBlock.tab8 impl_appendBlock.bits8 (fun HT_ HW_ => ?_)
        generalize w28.drew = w29 at HO736 BK723 HK HB hHeld ⊢
        refine pure_ (i := 0) (N := some 35) (v := ?_) (a' := ?_) #[true, false, false, false, false, false, false, false, false] rfl rfl (any_of HT_.out (by kernel_rfl)) (fun _ _ _ h => h) (Or.inl ⟨by rfl, ?_⟩) ?_ ?_
        rotate_left
        ·intro w'
         go_simp
         with_reducible rfl
        rotate_left
        ·simp only [Act.put, List.setIfInBounds_toArray, List.set_cons_zero, List.set_cons_succ, i64_w, i32_w]
         rfl
        refine pure_ (i := 1) (N := some 36) (v := ?_) (a' := ?_) #[true, true, false, false, false, false, false, false, false] rfl rfl (any_of HT_.out (by kernel_rfl)) (fun _ _ _ h => h) (Or.inl ⟨by rfl, ?_⟩) ?_ ?_
        rotate_left
        ·intro w'
         go_simp
         with_reducible rfl
        rotate_left
        ·simp only [Act.put, List.setIfInBounds_toArray, List.set_cons_zero, List.set_cons_succ, i64_w, i32_w]
         rfl
        refine pure_ (i := 4) (N := some 39) (v := ?_) (a' := ?_) #[true, true, false, false, true, false, false, false, false] rfl rfl (any_of HT_.out (by kernel_rfl)) (fun _ _ _ h => h) (Or.inl ⟨by rfl, ?_⟩) ?_ ?_
        rotate_left
        ·intro w'
         go_simp
         with_reducible rfl
        rotate_left
        ·simp only [Act.put, List.setIfInBounds_toArray, List.set_cons_zero, List.set_cons_succ, i64_w, i32_w]
         rfl
        refine take_ (i := 2) (N := some 37) (v := ?_) (a' := ?_) #[true, true, true, false, true, false, false, false, false] rfl rfl (take_ofW HT_.out HW_.out (by kernel_rfl)) (fun _ _ _ h => h) (Or.inl ⟨by rfl, ?_⟩) hHeld ?_ ?_
        rotate_left
        ·rintro w' ⟨s0, s1, s2, s3, s4, s5⟩
         go_simp
         with_reducible rfl
        rotate_left
        ·simp only [Act.put, List.setIfInBounds_toArray, List.set_cons_zero, List.set_cons_succ, i64_w, i32_w]
         rfl
        refine take_ (i := 5) (N := some 40) (v := ?_) (a' := ?_) #[true, true, true, false, true, true, false, false, false] rfl rfl (take_ofW HT_.out HW_.out (by kernel_rfl)) (fun _ _ _ h => h) (Or.inl ⟨by rfl, ?_⟩) hHeld ?_ ?_
        rotate_left
        ·rintro w' ⟨s0, s1, s2, s3, s4, s5⟩
         go_simp
         with_reducible rfl
        rotate_left
        ·simp only [Act.put, List.setIfInBounds_toArray, List.set_cons_zero, List.set_cons_succ, i64_w, i32_w]
         rfl
        refine pure_ (i := 6) (N := some 41) (v := ?_) (a' := ?_) #[true, true, true, false, true, true, true, false, false] rfl rfl (any_of HT_.out (by kernel_rfl)) (fun _ _ _ h => h) (Or.inl ⟨by rfl, ?_⟩) ?_ ?_
        rotate_left
        ·intro w'
         go_simp
         with_reducible rfl
        rotate_left
        ·simp only [Act.put, List.setIfInBounds_toArray, List.set_cons_zero, List.set_cons_succ, i64_w, i32_w]
         rfl
        refine one_ (i := 3) (N := some 38) #[true, true, true, true, true, true, true, false, false] rfl rfl (one_of HT_.out (by kernel_rfl)) (by decide) (fun K hK => ?_)
        refine goes_ Try.func89 (by kernel_rfl) rfl #[.slice Ao30 t734.length co30, .int .u64 ((rd_T35 l1 x11_1).f3)] (by rfl) rfl rfl (by (try simp only [List.map_toArray, List.map_cons, List.map_nil]); first | done | rfl | (simp only [List.length_drop, List.length_take]; rfl)) ?_
        with_reducible refine (impl_appendNum.calls k1 (fun k_ => some k_ = (.slice Ao30 t734.length co30 : Value).ownBlock) (.slice Ao30 t734.length co30) t734 ((rd_T35 l1 x11_1).f3) t737 w0 _ ?side1 ?side2 A13.out).mono ?_
        (case side1 => repeat (first | (with_reducible first | exact HB.out | apply below_alloc | apply pw_below_drewN | apply below_drew1 | refine below_set ?_ GE723.out) | exact HB.out))
        (case side2 => exact Kd.R_tight rfl HO736.out)
        rintro e w31 ⟨v738, rfl, ho0, hb, hkp⟩
        refine ⟨_, rfl, ?_⟩
        have n0_ := Aside0.mk (blk_kept (lb BK723) hkp (fun hs_ => (fun e_ => (Kd.R_ne HO736.out BK723.out (by decide)) e_) hs_))
        have n1_ := Aside0.mk (Kd.R_mono (ok' := fun k_ => (P0_ k_ ∨ w.heap.size ≤ k_)) ho0 (fun k_ hk_ => Or.elim hk_ (fun hs_ => (HO736.out.1 k_ (hs_).symm)) (fun hn_ => (.inr (Nat.le_trans (by first | exact HK.out.1 | exact (show Kept w _ (fun k_ => P0_ k_) from by repeat (first | (with_reducible first | exact HK.out | apply Kept.alloc | apply Kept.drewN | apply Kept.drew | refine Kept.setCell ?_ (.inr GW723.out) _) | exact HK.out)).1) hn_)))))
        have n2_ := Aside0.mk (Kept.then_ (S := (fun k_ => P0_ k_)) (by repeat (first | (with_reducible first | exact HK.out | apply Kept.alloc | apply Kept.drewN | apply Kept.drew | refine Kept.setCell ?_ (.inr GW723.out) _) | exact HK.out)) hkp (fun k_ hs_ => (fun e_ => (HO736.out.1 k_ e_.symm)) hs_))
        have n3_ := Aside0.mk (hb)
        clear BK723
        clear HK
        clear HB
        clear HO736
        have BK723 := n0_
        have HO739 := n1_
        have HK := n2_
        have HB := n3_
        clear n0_ n1_ n2_ n3_
        (try clear hb)
        (try clear hkp)
        (try clear ho0)
        obtain ⟨Ao32, co32, eo32⟩ := Kd.R_slice HO739.out
        (first | subst eo32 | (injection eo32 with f1_ f2_ f3_; have f4_ := f1_.symm; have f5_ := f3_.symm; clear f1_ f2_ f3_; subst f4_; subst f5_))
        refine hK.out _ _ ⟨(blk_cell BK723.out 0).trans rfl, (blk_cell BK723.out 1).trans rfl, (blk_cell BK723.out 2).trans rfl, (blk_cell BK723.out 3).trans rfl, (blk_cell BK723.out 4).trans rfl, (blk_cell BK723.out 5).trans rfl⟩ (fun hHeld => ?_)
        clear hK K
        refine norm_ (a' := ?_) ?_ ?_
        rotate_left
        ·show Act.put _ (some 38) _ = _
         simp only [Act.put, List.setIfInBounds_toArray, List.set_cons_zero, List.set_cons_succ, i64_w, i32_w]
         rfl
        refine one_ (i := 7) (N := some 42) #[true, true, true, true, true, true, true, true, false] rfl rfl (one_of HT_.out (by kernel_rfl)) (by decide) (fun K hK => ?_)
        refine goes_ Try.func89 (by kernel_rfl) rfl #[.slice Ao32 t737.length co32, .int .u64 (IntKind.u64.wrap ((rd_T35 l1 x11_1).f4))] (by rfl) rfl rfl (by (try simp only [List.map_toArray, List.map_cons, List.map_nil]); first | done | rfl | (simp only [List.length_drop, List.length_take]; rfl)) ?_
        with_reducible refine (impl_appendNum.calls k1 (fun k_ => some k_ = (.slice Ao32 t737.length co32 : Value).ownBlock) (.slice Ao32 t737.length co32) t737 (IntKind.u64.wrap ((rd_T35 l1 x11_1).f4)) t740 w0 _ ?side1 ?side2 A14.out).mono ?_
        (case side1 => repeat (first | (with_reducible first | exact HB.out | apply below_alloc | apply pw_below_drewN | apply below_drew1 | refine below_set ?_ GE723.out) | exact HB.out))
        (case side2 => exact Kd.R_tight rfl HO739.out)
        rintro e w33 ⟨v741, rfl, ho0, hb, hkp⟩
        refine ⟨_, rfl, ?_⟩
        have n0_ := Aside0.mk (blk_kept (lb BK723) hkp (fun hs_ => (fun e_ => (Kd.R_ne HO739.out BK723.out (by decide)) e_) hs_))
        have n1_ := Aside0.mk (Kd.R_mono (ok' := fun k_ => (P0_ k_ ∨ w.heap.size ≤ k_)) ho0 (fun k_ hk_ => Or.elim hk_ (fun hs_ => (HO739.out.1 k_ (hs_).symm)) (fun hn_ => (.inr (Nat.le_trans (by first | exact HK.out.1 | exact (show Kept w _ (fun k_ => P0_ k_) from by repeat (first | (with_reducible first | exact HK.out | apply Kept.alloc | apply Kept.drewN | apply Kept.drew | refine Kept.setCell ?_ (.inr GW723.out) _) | exact HK.out)).1) hn_)))))
        have n2_ := Aside0.mk (Kept.then_ (S := (fun k_ => P0_ k_)) (by repeat (first | (with_reducible first | exact HK.out | apply Kept.alloc | apply Kept.drewN | apply Kept.drew | refine Kept.setCell ?_ (.inr GW723.out) _) | exact HK.out)) hkp (fun k_ hs_ => (fun e_ => (HO739.out.1 k_ e_.symm)) hs_))
        have n3_ := Aside0.mk (hb)
        clear BK723
        clear HK
        clear HB
        clear HO739
        have BK723 := n0_
        have HO742 := n1_
        have HK := n2_
        have HB := n3_
        clear n0_ n1_ n2_ n3_
        (try clear hb)
        (try clear hkp)
        (try clear ho0)
        refine hK.out _ _ ⟨(blk_cell BK723.out 0).trans rfl, (blk_cell BK723.out 1).trans rfl, (blk_cell BK723.out 2).trans rfl, (blk_cell BK723.out 3).trans rfl, (blk_cell BK723.out 4).trans rfl, (blk_cell BK723.out 5).trans rfl⟩ (fun hHeld => ?_)
        clear hK K
        refine norm_ (a' := ?_) ?_ ?_
        rotate_left
        ·show Act.put _ (some 42) _ = _
         simp only [Act.put, List.setIfInBounds_toArray, List.set_cons_zero, List.set_cons_succ, i64_w, i32_w]
         rfl
        refine pure_ (i := 8) (N := some 0) (v := ?_) (a' := ?_) #[true, true, true, true, true, true, true, true, true] rfl rfl (any_of HT_.out (by kernel_rfl)) (fun _ _ _ h => h) (Or.inl ⟨by rfl, ?_⟩) ?_ ?_
        rotate_left
        ·intro w'
         go_simp
         with_reducible rfl
        rotate_left
        ·simp only [Act.put, List.setIfInBounds_toArray, List.set_cons_zero, List.set_cons_succ, i64_w, i32_w]
         rfl
        refine done_ (done_of HT_.out (by kernel_rfl)) ?_
        have hcz34_0 : w33.cell? ⟨gb723, 0, none⟩ = some (.string ((rd_T35 l1 x11_1).f0)) := (blk_cell BK723.out 0).trans rfl
        have hcz34_1 : w33.cell? ⟨gb723, 1, none⟩ = some (.string ((rd_T35 l1 x11_1).f1)) := (blk_cell BK723.out 1).trans rfl
        have hcz34_2 : w33.cell? ⟨gb723, 2, none⟩ = some (.string ((rd_T35 l1 x11_1).f2)) := (blk_cell BK723.out 2).trans rfl
        have hcz34_3 : w33.cell? ⟨gb723, 3, none⟩ = some (.int .u64 ((rd_T35 l1 x11_1).f3)) := (blk_cell BK723.out 3).trans rfl
        have hcz34_4 : w33.cell? ⟨gb723, 4, none⟩ = some (.int .i64 ((rd_T35 l1 x11_1).f4)) := (blk_cell BK723.out 4).trans rfl
        have hcz34_5 : w33.cell? ⟨gb723, 5, none⟩ = some (.string ((rd_T35 l1 x11_1).f5)) := (blk_cell BK723.out 5).trans rfl
        have hfz34_0 := blk_frozen BK723.out 0
        have hfz34_1 := blk_frozen BK723.out 1
        have hfz34_2 := blk_frozen BK723.out 2
        have hfz34_3 := blk_frozen BK723.out 3
        have hfz34_4 := blk_frozen BK723.out 4
        have hfz34_5 := blk_frozen BK723.out 5
        obtain ⟨Ao35, co35, eo35⟩ := Kd.R_slice HO742.out
        subst eo35
        try go_wp2_with (first | ((with_reducible refine at_fn (f := 91) rfl ?_); refine goesL_ (some 46) rfl rfl Try.func91 (by kernel_rfl) rfl #[.slice Ao35 t740.length co35, .string ((rd_T35 l1 x11_1).f5)] rfl (by (try simp only [List.map_toArray, List.map_cons, List.map_nil]); first | done | rfl | (simp only [List.length_drop, List.length_take]; rfl)) ?_; (with_reducible refine (impl_appendStr.calls k1 (fun k_ => some k_ = (.slice Ao35 t740.length co35 : Value).ownBlock) (.slice Ao35 t740.length co35) t740 ((rd_T35 l1 x11_1).f5) t743 w0 _ ?side1 ?side2 A15.out).mono ?_); (case side1 => repeat (first | (with_reducible first | exact HB.out | apply below_alloc | apply pw_below_drewN | apply below_drew1 | refine below_set ?_ GE723.out) | exact HB.out)); (case side2 => exact Kd.R_tight rfl HO742.out); rintro e w36 ⟨v744, rfl, ho0, hb, hkp⟩; refine ⟨_, rfl, ?_⟩; have n0_ := Aside0.mk (blk_kept (lb BK723) hkp (fun hs_ => (fun e_ => (Kd.R_ne HO742.out BK723.out (by decide)) e_) hs_)); have n1_ := Aside0.mk (Kd.R_mono (ok' := fun k_ => (P0_ k_ ∨ w.heap.size ≤ k_)) ho0 (fun k_ hk_ => Or.elim hk_ (fun hs_ => (HO742.out.1 k_ (hs_).symm)) (fun hn_ => (.inr (Nat.le_trans (by first | exact HK.out.1 | exact (show Kept w _ (fun k_ => P0_ k_) from by repeat (first | (with_reducible first | exact HK.out | apply Kept.alloc | apply Kept.drewN | apply Kept.drew | refine Kept.setCell ?_ (.inr GW723.out) _) | exact HK.out)).1) hn_))))); have n2_ := Aside0.mk (Kept.then_ (S := (fun k_ => P0_ k_)) (by repeat (first | (with_reducible first | exact HK.out | apply Kept.alloc | apply Kept.drewN | apply Kept.drew | refine Kept.setCell ?_ (.inr GW723.out) _) | exact HK.out)) hkp (fun k_ hs_ => (fun e_ => (HO742.out.1 k_ e_.symm)) hs_)); have n3_ := Aside0.mk (hb); clear BK723; clear HK; clear HB; clear HO742; have BK723 := n0_; have HO745 := n1_; have HK := n2_; have HB := n3_; clear n0_ n1_ n2_ n3_; (try clear hb); (try clear hkp); (try clear ho0); have hcz37_0 : w36.cell? ⟨gb723, 0, none⟩ = some (.string ((rd_T35 l1 x11_1).f0)) := (blk_cell BK723.out 0).trans rfl; have hcz37_1 : w36.cell? ⟨gb723, 1, none⟩ = some (.string ((rd_T35 l1 x11_1).f1)) := (blk_cell BK723.out 1).trans rfl; have hcz37_2 : w36.cell? ⟨gb723, 2, none⟩ = some (.string ((rd_T35 l1 x11_1).f2)) := (blk_cell BK723.out 2).trans rfl; have hcz37_3 : w36.cell? ⟨gb723, 3, none⟩ = some (.int .u64 ((rd_T35 l1 x11_1).f3)) := (blk_cell BK723.out 3).trans rfl; have hcz37_4 : w36.cell? ⟨gb723, 4, none⟩ = some (.int .i64 ((rd_T35 l1 x11_1).f4)) := (blk_cell BK723.out 4).trans rfl; have hcz37_5 : w36.cell? ⟨gb723, 5, none⟩ = some (.string ((rd_T35 l1 x11_1).f5)) := (blk_cell BK723.out 5).trans rfl; have hfz37_0 := blk_frozen BK723.out 0; have hfz37_1 := blk_frozen BK723.out 1; have hfz37_2 := blk_frozen BK723.out 2; have hfz37_3 := blk_frozen BK723.out 3; have hfz37_4 := blk_frozen BK723.out 4; have hfz37_5 := blk_frozen BK723.out 5))
        go_roundg k1
        case measure => have := HK1.out; omega
        case rel => exact ⟨(t743), ((rd_T35 l1 x11_1).f0), (wrap64 (x11_1 + 1)), (by first | rfl | (simp; done) | (simp [*]; done)), (by first | rfl | (simp; done) | (simp [*]; done)), H', ⟨by have := HK1.out; omega⟩, ⟨RF.of_R (lf HO745)⟩, ⟨by repeat (first | (with_reducible first | exact HK.out | apply Kept.alloc | apply Kept.drewN | apply Kept.drew | refine Kept.setCell ?_ (.inr GW723.out) _) | exact HK.out)⟩, ⟨bw⟩⟩
       ·rw [if_neg c9] at H
        exact absurd H (by simp)
      ·rw [if_neg c8] at H
       exact absurd H (by simp)
     ·rw [if_neg c5] at H
      exact absurd H (by simp)
    ·rw [if_neg c4] at H
     exact absurd H (by simp)
   ·rw [if_neg c3] at H
    have c3b0 : decide (x11_1 < (l1.length : Int)) = false := decide_eq_false c3
    clear c3
    obtain rfl := Option.some.inj H
    go_wp2
    go_ret
    exact ⟨_, by first | rfl | (simp [errW_none, errW_some] <;> rfl) | (simp [*, errW_none, errW_some] <;> rfl), by (with_reducible repeat (first | apply RF_alloc | apply RF_drewN | apply RF_drew)); exact HO_0.out, bw, by repeat (first | (with_reducible first | exact HK.out | apply Kept.alloc | apply Kept.drewN | apply Kept.drew) | exact HK.out)⟩

end Go.Proofs.Ytdknjbadnbangaa.Q

namespace Go.Proofs.Ytdknjbadnbangaa.Q
open Go.RowKit Go.Proofs.YtdknjbadnbangaaW.PrintWords Go.Proofs.YtdknjbadnbangaaW.PrintLast Go.Proofs.YtdknjbadnbangaaW.PrintMore
set_option linter.unusedVariables false
set_option linter.unusedSimpArgs false

set_option maxHeartbeats 8000000 in
set_option maxRecDepth 100000 in
theorem impl_appendFixed.callsF (P0_ : Nat → Prop) (u9000_ : Value) (l0 : List Int) (a1 : Int) (r : List Int) (w0 w : World) (hB : Below w0.heap.size w0 w) (ho0 : RF w w0.heap.size P0_ u9000_ l0) (h : impl_appendFixed.f l0 a1 = some r) :
  Calls Try.prog 92 #[u9000_, .int .u32 a1] w fun e w' => ∃ v0_ : Value, e = .returned (v0_) ∧ Kd.R (Kd.int .u8) 5 w' w0.heap.size (fun k_ => (P0_ k_ ∨ w.heap.size ≤ k_)) v0_ r ∧ Below w0.heap.size w0 w' ∧ Kept w w' (fun k_ => P0_ k_) := by
 have HO0 := Aside0.mk (show RF w w0.heap.size (fun k_ => (P0_ k_ ∨ w.heap.size ≤ k_)) u9000_ l0 from RF_mono ho0 (fun k_ hk => (.inl hk)))
 have HK := Aside0.mk (Kept.refl w (fun k_ => P0_ k_))
 have HW0 := Aside0.mk hB.size
 have HB := Aside0.mk hB
 clear hB
 have H : ((some (([(a1) % 256, (a1 / 256) % 256, (a1 / 65536) % 256, (a1 / 16777216) % 256] : List Int) : List Int)).bind fun y746 => (if l0.length + y746.length < 140737488355328 then (some (l0 ++ y746)) else (none))) = some r := h
 clear h
 obtain ⟨y746, hy746⟩ : ∃ y_ : List Int, y_ = (([(a1) % 256, (a1 / 256) % 256, (a1 / 65536) % 256, (a1 / 16777216) % 256] : List Int)) := ⟨_, rfl⟩
 replace H : (if l0.length + y746.length < 140737488355328 then (some (l0 ++ y746)) else (none)) = some r := by first | (rw [hy746]; with_reducible exact H) | (have H2_ := (Option.bind_some _ _).symm.trans H; rw [hy746]; with_reducible exact H2_) | (have H2_ := (Option.bind_some _ _).symm.trans H; with_reducible exact H2_) | with_reducible exact H | (rw [hy746]; exact H) | exact H
 have Ny746 := Aside0.mk hy746
 clear hy746
 by_cases c3 : l0.length + y746.length < 140737488355328
 ·rw [if_pos c3] at H
  have LMc3 := Aside0.mk c3
  clear c3
  obtain ⟨y749, hy749⟩ : ∃ y_ : List Int, y_ = (l0 ++ y746) := ⟨_, rfl⟩
  replace H : (some y749) = some r := by first | (rw [hy749]; with_reducible exact H) | (have H2_ := (Option.bind_some _ _).symm.trans H; rw [hy749]; with_reducible exact H2_) | (have H2_ := (Option.bind_some _ _).symm.trans H; with_reducible exact H2_) | with_reducible exact H | (rw [hy749]; exact H) | exact H
  have Ny749 := Aside0.mk hy749
  clear hy749
  obtain rfl := Option.some.inj H
  go_enter Try.func92, Try.ntmps92
  go_wp2_with (first | ((with_reducible refine gate_dst (N := 17) rfl ?_); refine Kd.R_lit (Kd.int .u8) _ 5 ?hg (N := 17) ?hd (xs := ([(a1) % 256, (a1 / 256) % 256, (a1 / 65536) % 256, (a1 / 16777216) % 256] : List Int)) (inner := [.int .u8 ((a1) % 256), .int .u8 ((a1 / 256) % 256), .int .u8 ((a1 / 65536) % 256), .int .u8 ((a1 / 16777216) % 256)]) (ok := fun _ => True) (okp := fun _ => True) ?hr ?hp (fun _ hk => hk) trivial (Below.refl _ _) (Nat.le_refl _) (by simp) ?_; (case hd => rfl); (case hg => rfl); (case hr => first | (go_simp; done) | (go_simp; rfl)); (case hp => exact (Reps.one (show Kd.M (Kd.int .u8) _ _ _ ((a1) % 256) [.int .u8 ((a1) % 256)] from rfl) (Reps.one (show Kd.M (Kd.int .u8) _ _ _ ((a1 / 256) % 256) [.int .u8 ((a1 / 256) % 256)] from rfl) (Reps.one (show Kd.M (Kd.int .u8) _ _ _ ((a1 / 65536) % 256) [.int .u8 ((a1 / 65536) % 256)] from rfl) (Reps.one (show Kd.M (Kd.int .u8) _ _ _ ((a1 / 16777216) % 256) [.int .u8 ((a1 / 16777216) % 256)] from rfl) (Reps.none _ _)))))); intro v747 w4 ho5 hb hg_ hnew_; clear hg_ hnew_; (first | rw [← Ny746.out] at ho5 | (simp only [Int.reduceToNat] at ho5; rw [← Ny746.out] at ho5)); have n0_ := Aside0.mk (RF_elder' (by (with_reducible repeat (first | apply RF_alloc | apply RF_drewN | apply RF_drew)); exact HO0.out) (Kd.R_base ho5) hb); have n1_ := Aside0.mk (Kd.R_lower (Kd.R_new' (Kd.R_newM (M := fun k_ => (P0_ k_ ∨ w.heap.size ≤ k_)) ho5 (by first | exact HK.out.1 | exact (show Kept w _ (fun k_ => P0_ k_) from by repeat (first | (with_reducible first | exact HK.out | apply Kept.alloc | apply Kept.drewN | apply Kept.drew) | exact HK.out)).1) (fun k_ h_ => .inr h_)) (RF_lt (by (with_reducible repeat (first | apply RF_alloc | apply RF_drewN | apply RF_drew)); exact HO0.out))) (below_size bw)); have n2_ := Aside0.mk (Kept.below (S := (fun k_ => P0_ k_)) (by repeat (first | (with_reducible first | exact HK.out | apply Kept.alloc | apply Kept.drewN | apply Kept.drew) | exact HK.out)) hb); have n3_ := Aside0.mk (below_step bw hb); clear HO0; clear HK; clear HB; have HO0 := n0_; have HO748 := n1_; have HK := n2_; have HB := n3_; clear n0_ n1_ n2_ n3_; clear hb ho5; obtain ⟨Ao7, co7, eo7⟩ := Kd.R_slice HO748.out; subst eo7) | ((with_reducible refine gate_builtin (b := .append) (xs := #[.tmp 5, .tmp 17]) rfl ?_); at_builtin; refine RF_append_rows1 (Kd.int .u8) rfl (w0 := w0) w0.heap.size rfl (.tmp 5) (.tmp 17) 38 5 (.int .u8 0) 1 rfl Try.underlying38 info5 rfl (by decide) (by omega) u9000_ l0 y746 _ _ _ (fun k_ => (P0_ k_ ∨ w.heap.size ≤ k_) ∧ some k_ ≠ (.slice Ao7 y746.length co7 : Value).ownBlock) (fun _ => False) rfl rfl ?aO ?aR (fun _ h => h.elim) ?aF ?aB ?aS ?aL rfl rfl rfl ?aM ?_; (case aM => rw [Ny746.out]; exact Nat.succ_pos _); (case aR => repeat (first | exact (Kd.R_reads' HO748.out).2.2 | (with_reducible refine Kd.C_alloc ?_ _) | (with_reducible refine Kd.C_drewN ?_ _) | (with_reducible refine Kd.C_drew ?_))); (case aB => exact bw); (case aF => exact (fun k_ hk => ⟨(.inr (Nat.le_trans (by first | exact HK.out.1 | exact (show Kept w _ (fun k_ => P0_ k_) from by repeat (first | (with_reducible first | exact HK.out | apply Kept.alloc | apply Kept.drewN | apply Kept.drew) | exact HK.out)).1) hk)), Kd.fresh' (Kd.R_lt (lf HO748)) k_ hk⟩)); (case aO => exact (by (with_reducible repeat (first | apply RF_alloc | apply RF_drewN | apply RF_drew)); exact HO0.out)); (case aS => exact (below_size bw)); (case aL => have := LMc3.out; omega); intro v750 w6 ho hb hg hat; rw [← Ny749.out] at ho; have n0_ := Aside0.mk (Kd.R_after (ok := (fun k_ => (P0_ k_ ∨ w.heap.size ≤ k_))) (by (with_reducible repeat (first | apply Kd.R_alloc | apply Kd.R_drewN | apply Kd.R_drew)); exact Kd.R_mono HO748.out (fun _ hk => ⟨hk.1.1, hk.2⟩)) hg hat); have n1_ := Aside0.mk (hb); have n2_ := Aside0.mk (Kept.of_grown (S := (fun k_ => P0_ k_)) hg (by repeat (first | (with_reducible first | exact HK.out | apply Kept.alloc | apply Kept.drewN | apply Kept.drew) | exact HK.out)) (fun k_ e_ => (HO0.out.own k_ e_).1)); have n3_ := Aside0.mk (ho); clear HO748; clear HB; clear HK; clear HO0; have HO748 := n0_; have HB := n1_; have HK := n2_; have HO751 := n3_; clear n0_ n1_ n2_ n3_; clear ho hb hg hat))
  go_ret
  exact ⟨_, by first | rfl | (simp [errW_none, errW_some] <;> rfl) | (simp [*, errW_none, errW_some] <;> rfl), by (with_reducible repeat (first | apply Kd.R_alloc | apply Kd.R_drewN | apply Kd.R_drew)); exact Kd.R_mono HO751.out (fun _ hk => hk.1), bw, by repeat (first | (with_reducible first | exact HK.out | apply Kept.alloc | apply Kept.drewN | apply Kept.drew) | exact HK.out)⟩
 ·rw [if_neg c3] at H
  exact absurd H (by simp)

end Go.Proofs.Ytdknjbadnbangaa.Q

namespace Go.Proofs.Ytdknjbadnbangaa.Q
open Go.RowKit Go.Proofs.YtdknjbadnbangaaW.PrintWords Go.Proofs.YtdknjbadnbangaaW.PrintLast Go.Proofs.YtdknjbadnbangaaW.PrintMore
attribute [local go_sem] max2_int min2_int max_two min_two max_three min_three max_four min_four   -- for this text's walks alone
set_option linter.unusedVariables false
set_option linter.unusedSimpArgs false

/-! ### impl_EncodeRun: function 55 -/
mutual
def impl_EncodeRun.j0 : Nat → Int → Bool → List (S35) → Option (List Int)
 | 0, _, _, _ => none
 | k + 1, x1, x21, x753000 => if x21 = true then (some ([] : List Int)) else (if x1 = 0 then (none) else ((impl_appendNum.f k ([] : List Int) (IntKind.u64.wrap (wrap64 (Int.tdiv (wrap64 ((wrap64 ((x753000.length : Int) + x1)) - 1)) x1)))).bind fun t757 => (impl_EncodeRun.l0 k x1 (([82, 85, 78, 49] : List Int)) t757 (wrap64 (Int.tdiv (wrap64 ((wrap64 ((x753000.length : Int) + x1)) - 1)) x1)) 0 x753000)))
def impl_EncodeRun.l0 : Nat → Int → List Int → List Int → Int → Int → List (S35) → Option (List Int)
 | 0, _, _, _, _, _, _ => none
 | k + 1, x1, x5, x7, x35, x36, x753000 => if x36 < x35 then (if 0 ≤ (wrap64 (x36 * x1)) then (if (wrap64 (x36 * x1)) ≤ (mn (wrap64 ((wrap64 (x36 + 1)) * x1)) (x753000.length : Int)) then (if (mn (wrap64 ((wrap64 (x36 + 1)) * x1)) (x753000.length : Int)) ≤ (x753000.length : Int) then ((some ((x753000.take ((mn (wrap64 ((wrap64 (x36 + 1)) * x1)) (x753000.length : Int)) : Int).toNat).drop ((wrap64 (x36 * x1)) : Int).toNat : List (S35))).bind fun y760 => ((impl_appendBlock.f k x5 y760).bind fun t764 => ((impl_appendNum.f k x7 (IntKind.u64.wrap (wrap64 ((t764.length : Int) - (x5.length : Int))))).bind fun t767 => ((impl_appendNum.f k t767 (IntKind.u64.wrap ((y760.length : Int)))).bind fun t770 => (if 0 < (y760.length : Int) then ((impl_appendStr.f k t770 ((rd_T35 y760 0).f0)).bind fun t774 => (if 0 ≤ (x5.length : Int) then (if (x5.length : Int) ≤ (t764.length : Int) then ((impl_Crc32.f (t764.drop ((x5.length : Int) : Int).toNat)).bind fun t781 => ((impl_appendFixed.f t764 t781).bind fun t782 => (impl_EncodeRun.l0 k x1 t782 t774 x35 (wrap64 (x36 + 1)) x753000))) else (none)) else (none))) else (none)))))) else (none)) else (none)) else (none)) else (if x5.length + x7.length < 140737488355328 then ((impl_Crc32.f x7).bind fun t788 => ((impl_appendFixed.f (x5 ++ x7) t788).bind fun t789 => ((impl_appendFixed.f t789 (((x7.length : Int)) % 4294967296)).bind fun t792 => (some t792)))) else (none))
end
def impl_EncodeRun.f (k : Nat) (l0_0 : List (S35)) (a1 : Int) : Option (List Int) := (impl_ValidRun.f k l0_0).bind fun t753 => (if t753 = true then (if a1 < 1 then (impl_EncodeRun.j0 k a1 true l0_0) else (impl_EncodeRun.j0 k a1 (decide (a1 > 1000)) l0_0)) else (impl_EncodeRun.j0 k a1 true l0_0))
set_option maxHeartbeats 8000000 in
set_option maxRecDepth 100000 in
theorem impl_EncodeRun.calls (k : Nat) (A0_0 : Option Addr) (c0_0 : Nat) (l0_0 : List (S35)) (a1 : Int) (r : List Int) (w : World) (hr0_0 : Kd.C k35 w A0_0 l0_0.length l0_0) (hc0_0 : l0_0.length ≤ c0_0) (h : impl_EncodeRun.f k l0_0 a1 = some r) :
  Calls Try.prog 55 #[.agg #[.slice A0_0 l0_0.length c0_0], .int .i64 a1] w fun e w' => ∃ v0_ : Value, e = .returned (v0_) ∧ Kd.R (Kd.int .u8) 5 w' w.heap.size (fun _ => True) v0_ r ∧ Below w.heap.size w w' := by
 have hu66 := Try.underlying66
 have HR0_0 := Aside0.mk hr0_0
 have HC0_0 := Aside0.mk hc0_0
 clear hr0_0 hc0_0
 have HB := Aside0.mk (Below.refl w.heap.size w)
 have H : ((impl_ValidRun.f k l0_0).bind fun t753 => (if t753 = true then (if a1 < 1 then (impl_EncodeRun.j0 k a1 true l0_0) else (impl_EncodeRun.j0 k a1 (decide (a1 > 1000)) l0_0)) else (impl_EncodeRun.j0 k a1 true l0_0))) = some r := h
 clear h
 have HC3 := Aside0.mk H
 clear H
 go_enter Try.func55, Try.ntmps55
 go_upto_region 1 with (first | ((with_reducible refine gate_dst (N := 2) rfl ?_); refine box_event ?hg (N := 2) ?hd (cs := #[.slice A0_0 l0_0.length c0_0]) (t := 66) ?hr ?_; (case hd => rfl); (case hg => rfl); (case hr => first | (go_simp; done) | (go_simp; rfl)); intro gb752 hg w4 hbox hb; have n0_ := Aside0.mk (below_step bw hb); have n1_ := Aside0.mk (hbox); have n2_ := Aside0.mk ((by rw [hg]; exact (below_size bw) : w.heap.size ≤ gb752)); have n3_ := Aside0.mk ((by rw [hg]; exact (below_size bw) : w.heap.size ≤ gb752)); clear HB; have HB := n0_; have BK752 := n1_; have GW752 := n2_; have GE752 := n3_; clear n0_ n1_ n2_ n3_; clear hb hbox hg))
 (try simp only [Act.put, List.setIfInBounds_toArray, List.set_cons_zero, List.set_cons_succ])
 go_cut [21] (fun v21 wc => ∃ (kq : Nat) (x21_2 : Bool), v21 = .bool x21_2 ∧ Aside0 (impl_EncodeRun.j0 kq a1 x21_2 l0_0 = some r) ∧ Aside0 (kq ≤ k) ∧ Aside0 (wc.heap[gb752]? = some (.cells #[(.slice A0_0 l0_0.length c0_0)] 66 (0, 0))) ∧ Aside0 (Below w.heap.size w wc))
 case first =>
  have H := HC3.out
  clear HC3
  replace H := Option.bind_eq_some_iff.mp H
  obtain ⟨t753, A50, H⟩ := H
  replace H : (if t753 = true then (if a1 < 1 then (impl_EncodeRun.j0 k a1 true l0_0) else (impl_EncodeRun.j0 k a1 (decide (a1 > 1000)) l0_0)) else (impl_EncodeRun.j0 k a1 true l0_0)) = some r := H
  have A5 := Aside0.mk A50
  clear A50
  by_cases c6 : t753 = true
  ·subst c6
   have H1 : (if a1 < 1 then (impl_EncodeRun.j0 k a1 true l0_0) else (impl_EncodeRun.j0 k a1 (decide (a1 > 1000)) l0_0)) = some r := by rw [if_pos rfl] at H; exact H
   clear H
   have H := H1
   clear H1
   by_cases c7 : a1 < 1
   ·rw [if_pos c7] at H
    have c7b0 : decide (a1 < 1) = true := decide_eq_true c7
    clear c7
    (first | rw [c7b0] | (simp only [i64_w, i32_w]; rw [c7b0]) | skip)
    have H' := Aside0.mk H
    clear H
    have hcz8_0 : w4.cell? ⟨gb752, 0, none⟩ = some (.slice A0_0 l0_0.length c0_0) := (blk_cell BK752.out 0).trans rfl
    have hfz8_0 := blk_frozen BK752.out 0
    go_wp2_with (first | ((with_reducible refine at_fn (f := 42) rfl ?_); refine goesL_ (some 12) rfl rfl Try.func42 (by kernel_rfl) rfl #[.agg #[.slice A0_0 l0_0.length c0_0]] rfl (by (try simp only [List.map_toArray, List.map_cons, List.map_nil]); first | done | rfl | (simp only [List.length_drop, List.length_take]; rfl)) ?_; (with_reducible refine (impl_ValidRun.calls k _ _ l0_0 true _ ?side1 ?side2 A5.out).mono ?_); (case side1 => repeat (first | exact (Kd.C_below HR0_0.out HB.out) | (with_reducible refine Kd.C_alloc ?_ _) | (with_reducible refine Kd.C_drewN ?_ _) | (with_reducible refine Kd.C_drew ?_))); (case side2 => exact HC0_0.out); rintro e w9 ⟨rfl, hb⟩; refine ⟨_, rfl, ?_⟩; have n0_ := Aside0.mk (blk_below (g := gb752) (o := .cells #[.slice A0_0 l0_0.length c0_0] 66 (0, 0)) (lb BK752) hb); have n1_ := Aside0.mk (below_step bw hb); clear BK752; clear HB; have BK752 := n0_; have HB := n1_; clear n0_ n1_; (try clear hb); (try clear hb2); (try clear hk); (try clear hi)))
    go_meet
    case rel => exact ⟨_, (true), (by first | rfl | (simp; done) | (simp [*]; done)), H', ⟨by first | omega | exact Nat.le_refl _⟩, ⟨lb BK752⟩, ⟨bw⟩⟩
   ·rw [if_neg c7] at H
    have c7b0 : decide (a1 < 1) = false := decide_eq_false c7
    clear c7
    (first | rw [c7b0] | (simp only [i64_w, i32_w]; rw [c7b0]) | skip)
    have H' := Aside0.mk H
    clear H
    have hcz10_0 : w4.cell? ⟨gb752, 0, none⟩ = some (.slice A0_0 l0_0.length c0_0) := (blk_cell BK752.out 0).trans rfl
    have hfz10_0 := blk_frozen BK752.out 0
    go_wp2_with (first | ((with_reducible refine at_fn (f := 42) rfl ?_); refine goesL_ (some 12) rfl rfl Try.func42 (by kernel_rfl) rfl #[.agg #[.slice A0_0 l0_0.length c0_0]] rfl (by (try simp only [List.map_toArray, List.map_cons, List.map_nil]); first | done | rfl | (simp only [List.length_drop, List.length_take]; rfl)) ?_; (with_reducible refine (impl_ValidRun.calls k _ _ l0_0 true _ ?side1 ?side2 A5.out).mono ?_); (case side1 => repeat (first | exact (Kd.C_below HR0_0.out HB.out) | (with_reducible refine Kd.C_alloc ?_ _) | (with_reducible refine Kd.C_drewN ?_ _) | (with_reducible refine Kd.C_drew ?_))); (case side2 => exact HC0_0.out); rintro e w11 ⟨rfl, hb⟩; refine ⟨_, rfl, ?_⟩; have n0_ := Aside0.mk (blk_below (g := gb752) (o := .cells #[.slice A0_0 l0_0.length c0_0] 66 (0, 0)) (lb BK752) hb); have n1_ := Aside0.mk (below_step bw hb); clear BK752; clear HB; have BK752 := n0_; have HB := n1_; clear n0_ n1_; (try clear hb); (try clear hb2); (try clear hk); (try clear hi)))
    go_meet
    case rel => exact ⟨_, (decide (a1 > 1000)), (by first | rfl | (simp; done) | (simp [*]; done)), H', ⟨by first | omega | exact Nat.le_refl _⟩, ⟨lb BK752⟩, ⟨bw⟩⟩
  ·replace c6 := Bool.eq_false_iff.mpr c6
   subst c6
   have H1 : (impl_EncodeRun.j0 k a1 true l0_0) = some r := by rw [if_neg (show ¬ (false = true) by decide)] at H; exact H
   clear H
   have H := H1
   clear H1
   have H' := Aside0.mk H
   clear H
   have hcz12_0 : w4.cell? ⟨gb752, 0, none⟩ = some (.slice A0_0 l0_0.length c0_0) := (blk_cell BK752.out 0).trans rfl
   have hfz12_0 := blk_frozen BK752.out 0
   go_wp2_with (first | ((with_reducible refine at_fn (f := 42) rfl ?_); refine goesL_ (some 12) rfl rfl Try.func42 (by kernel_rfl) rfl #[.agg #[.slice A0_0 l0_0.length c0_0]] rfl (by (try simp only [List.map_toArray, List.map_cons, List.map_nil]); first | done | rfl | (simp only [List.length_drop, List.length_take]; rfl)) ?_; (with_reducible refine (impl_ValidRun.calls k _ _ l0_0 false _ ?side1 ?side2 A5.out).mono ?_); (case side1 => repeat (first | exact (Kd.C_below HR0_0.out HB.out) | (with_reducible refine Kd.C_alloc ?_ _) | (with_reducible refine Kd.C_drewN ?_ _) | (with_reducible refine Kd.C_drew ?_))); (case side2 => exact HC0_0.out); rintro e w13 ⟨rfl, hb⟩; refine ⟨_, rfl, ?_⟩; have n0_ := Aside0.mk (blk_below (g := gb752) (o := .cells #[.slice A0_0 l0_0.length c0_0] 66 (0, 0)) (lb BK752) hb); have n1_ := Aside0.mk (below_step bw hb); clear BK752; clear HB; have BK752 := n0_; have HB := n1_; clear n0_ n1_; (try clear hb); (try clear hb2); (try clear hk); (try clear hi)))
   go_meet
   case rel => exact ⟨_, (true), (by first | rfl | (simp; done) | (simp [*]; done)), H', ⟨by first | omega | exact Nat.le_refl _⟩, ⟨lb BK752⟩, ⟨bw⟩⟩
 case rest =>
  clear HC3
  try clear p2
  try clear c4
  try clear c5
  try clear c6
  try clear c7
  try clear c7b0
  try clear hcz10_0
  try clear hcz12_0
  try clear hcz8_0
  try clear hfz10_0
  try clear hfz12_0
  try clear hfz8_0
  obtain ⟨kq, x21_2, rfl, HA, HJ2, BK752, HB⟩ := hcut
  cases kq with
  | zero => exact absurd HA.out (by simp [impl_EncodeRun.j0])
  | succ kj2 =>
   have H := HA.out
   clear HA
   simp only [impl_EncodeRun.j0] at H
   by_cases c14 : x21_2 = true
   ·subst c14
    have H1 : (some ([] : List Int)) = some r := by rw [if_pos rfl] at H; exact H
    clear H
    have H := H1
    clear H1
    obtain rfl := Option.some.inj H
    go_wp2
    go_ret
    exact ⟨_, by first | rfl | (simp [errW_none, errW_some] <;> rfl) | (simp [*, errW_none, errW_some] <;> rfl), by first | exact Kd.R_nil _ _ _ _ _ | exact Kd.N_nil _ _ _ _ _ | exact Kd.V_nil _ _ _ _ _ | exact Kd.Q_nil _ _ _ _ _ | exact Kd.S_nil _ _ _ _ _, bw⟩
   ·replace c14 := Bool.eq_false_iff.mpr c14
    subst c14
    have H1 : (if a1 = 0 then (none) else ((impl_appendNum.f kj2 ([] : List Int) (IntKind.u64.wrap (wrap64 (Int.tdiv (wrap64 ((wrap64 ((l0_0.length : Int) + a1)) - 1)) a1)))).bind fun t757 => (impl_EncodeRun.l0 kj2 a1 (([82, 85, 78, 49] : List Int)) t757 (wrap64 (Int.tdiv (wrap64 ((wrap64 ((l0_0.length : Int) + a1)) - 1)) a1)) 0 l0_0))) = some r := by rw [if_neg (show ¬ (false = true) by decide)] at H; exact H
    clear H
    have H := H1
    clear H1
    obtain ⟨y754, hy754⟩ : ∃ y_ : List Int, y_ = (([82, 85, 78, 49] : List Int)) := ⟨_, rfl⟩
    replace H : (if a1 = 0 then (none) else ((impl_appendNum.f kj2 ([] : List Int) (IntKind.u64.wrap (wrap64 (Int.tdiv (wrap64 ((wrap64 ((l0_0.length : Int) + a1)) - 1)) a1)))).bind fun t757 => (impl_EncodeRun.l0 kj2 a1 y754 t757 (wrap64 (Int.tdiv (wrap64 ((wrap64 ((l0_0.length : Int) + a1)) - 1)) a1)) 0 l0_0))) = some r := by first | (rw [hy754]; with_reducible exact H) | (have H2_ := (Option.bind_some _ _).symm.trans H; rw [hy754]; with_reducible exact H2_) | (have H2_ := (Option.bind_some _ _).symm.trans H; with_reducible exact H2_) | with_reducible exact H | (rw [hy754]; exact H) | exact H
    have Ny754 := Aside0.mk hy754
    clear hy754
    by_cases c15 : a1 = 0
    ·rw [if_pos c15] at H
     exact absurd H (by simp)
    ·rw [if_neg c15] at H
     have c15b0 : (a1 == 0) = false := beq_eq_false_iff_ne.mpr c15
     have c15b1 : (a1 != 0) = true := bne_iff_ne.mpr c15
     replace H := Option.bind_eq_some_iff.mp H
     obtain ⟨t757, A160, H⟩ := H
     replace H : (impl_EncodeRun.l0 kj2 a1 y754 t757 (wrap64 (Int.tdiv (wrap64 ((wrap64 ((l0_0.length : Int) + a1)) - 1)) a1)) 0 l0_0) = some r := H
     have A16 := Aside0.mk A160
     clear A160
     have H' := Aside0.mk H
     clear H
     obtain ⟨hm1, hm2, hm3, hm4⟩ := lit_facts (P := Try.prog) (t := 38) ([82, 85, 78, 49] : List Int) (by decide) (by decide) Try.underlying38 Try.underlying5 HB.out BK752.out
     replace hm1 : (convert 38 38 (.slice (some ⟨wc.heap.size, 0, none⟩) 4 4)).run Try.prog (wc.alloc (.cells #[.int .u8 82, .int .u8 85, .int .u8 78, .int .u8 49] 5)) = .ok (.slice (some ⟨wc.heap.size, 0, none⟩) 4 4) (marked wc 5 [82, 85, 78, 49]) := hm1
     have HO756 : Aside0 (RF (marked wc 5 [82, 85, 78, 49]) w.heap.size (fun _ => True) (.slice (some ⟨wc.heap.size, 0, none⟩) 4 4) y754) := ⟨by rw [Ny754.out]; exact hm2⟩
     clear HB BK752 hm2
     have HB := Aside0.mk hm3
     have BK752 := Aside0.mk hm4
     clear hm3 hm4
     have hcz_0 : (marked wc 5 [82, 85, 78, 49]).cell? ⟨gb752, 0, none⟩ = some (.slice A0_0 l0_0.length c0_0) := (blk_cell BK752.out 0).trans rfl
     have hfz_0 := blk_frozen BK752.out 0
     go_wp2_with (((with_reducible refine at_fn (f := 89) rfl ?_); refine goesL_ (some 34) rfl rfl Try.func89 (by kernel_rfl) rfl #[.slice none 0 0, .int .u64 (IntKind.u64.wrap (wrap64 (Int.tdiv (wrap64 ((wrap64 ((l0_0.length : Int) + a1)) - 1)) a1)))] rfl (by (try simp only [List.map_toArray, List.map_cons, List.map_nil]); first | done | rfl | (simp only [List.length_drop, List.length_take]; rfl)) ?_; (refine (impl_appendNum.calls kj2 (fun k_ => some k_ = (.slice none 0 0 : Value).ownBlock) (.slice none 0 0) ([] : List Int) (IntKind.u64.wrap (wrap64 (Int.tdiv (wrap64 ((wrap64 ((l0_0.length : Int) + a1)) - 1)) a1))) t757 w _ ?side1 ?side2 A16.out).mono ?_); (case side1 => repeat (first | (with_reducible first | exact HB.out | apply below_alloc | apply pw_below_drewN | apply below_drew1 | refine below_set ?_ GE752.out) | exact HB.out)); (case side2 => exact Kd.R_nil _ _ _ _ _); rintro e w20 ⟨v758, rfl, ho0, hb, hkp⟩; refine ⟨_, rfl, ?_⟩; have n0_ := Aside0.mk (blk_kept (lb BK752) hkp (fun hs_ => (fun e_ => by simp [Value.ownBlock] at e_) hs_)); have n1_ := Aside0.mk (RF_mono (ok' := fun k_ => some k_ ≠ (v758 : Value).ownBlock) (RF_keptB (HO756.out) hkp (fun k_ hk_ hs_ => (fun e_ => by simp [Value.ownBlock] at e_) hs_)) (fun k_ hk_ => fun e_ => Or.elim (ho0.1 k_ e_.symm) (fun hs_ => hk_.2.1 hs_) (fun hn_ => Nat.not_le.2 hk_.2.2 hn_))); have n2_ := Aside0.mk (Kd.R_mono (ok' := fun k_ => some k_ ≠ ((.slice (some ⟨wc.heap.size, 0, none⟩) 4 4) : Value).ownBlock) ho0 (fun k_ hk_ => Or.elim hk_ (fun hs_ => absurd hs_ (by simp [Value.ownBlock])) (fun hn_ => (Kd.fresh' (RF_lt (by (with_reducible repeat (first | apply RF_alloc | apply RF_drewN | apply RF_drew)); exact HO756.out)) k_ hn_)))); have n3_ := Aside0.mk (hb); clear BK752; clear HO756; clear HB; have BK752 := n0_; have HO756 := n1_; have HO759 := n2_; have HB := n3_; clear n0_ n1_ n2_ n3_; (try clear hb); (try clear hkp); (try clear ho0)))
     go_loopg [5, 7, 36] kj2 (fun kq v5 v7 v36 w' => ∃ (x5_2 : List Int) (x7_2 : List Int) (x36_2 : Int), v36 = .int .i64 x36_2 ∧ Aside0 (impl_EncodeRun.l0 kq a1 x5_2 x7_2 (wrap64 (Int.tdiv (wrap64 ((wrap64 ((l0_0.length : Int) + a1)) - 1)) a1)) x36_2 l0_0 = some r) ∧ Aside0 (kq ≤ kj2) ∧ Aside0 (RF w' w.heap.size (fun k_ => some k_ ≠ (v7 : Value).ownBlock) v5 x5_2) ∧ Aside0 (Kd.R (Kd.int .u8) 5 w' w.heap.size (fun k_ => some k_ ≠ (v5 : Value).ownBlock) v7 x7_2) ∧ Aside0 (w'.heap[gb752]? = some (.cells #[(.slice A0_0 l0_0.length c0_0)] 66 (0, 0))) ∧ Aside0 (Below w.heap.size w w'))
     case atStart => exact ⟨(y754), (t757), (0), (by first | rfl | (simp; done) | (simp [*]; done)), H', ⟨Nat.le_refl _⟩, ⟨by (with_reducible repeat (first | apply RF_alloc | apply RF_drewN | apply RF_drew)); exact HO756.out⟩, ⟨lf HO759⟩, ⟨lb BK752⟩, ⟨bw⟩⟩
     case round =>
      clear H'
      try clear c1
      try clear p2
      try clear c4
      try clear c5
      try clear c6
      try clear p6
      try clear c7
      try clear c7b0
      try clear c8
      try clear c14
      try clear c15
      try clear c15b0
      try clear c15b1
      try clear hcz10_0
      try clear hcz12_0
      try clear hcz19_0
      try clear hcz8_0
      try clear hfz10_0
      try clear hfz12_0
      try clear hfz19_0
      try clear hfz8_0
      try clear p2
      obtain ⟨x5_2, x7_2, x36_2, rfl, HA, HK2, HO_5, HO_7, BK752, HB⟩ := hrel
      cases gk with
      | zero => exact absurd HA.out (by simp [impl_EncodeRun.l0])
      | succ k2 =>
       have H := HA.out
       clear HA
       simp only [impl_EncodeRun.l0] at H
       by_cases c21 : x36_2 < (wrap64 (Int.tdiv (wrap64 ((wrap64 ((l0_0.length : Int) + a1)) - 1)) a1))
       ·rw [if_pos c21] at H
        have c21b0 : decide (x36_2 < (wrap64 (Int.tdiv (wrap64 ((wrap64 ((l0_0.length : Int) + a1)) - 1)) a1))) = true := decide_eq_true c21
        clear c21
        obtain ⟨ji22, hji22⟩ : ∃ j_ : Int, (mn (wrap64 ((wrap64 (x36_2 + 1)) * a1)) (l0_0.length : Int)) = j_ := ⟨_, rfl⟩
        replace H : (if 0 ≤ (wrap64 (x36_2 * a1)) then (if (wrap64 (x36_2 * a1)) ≤ (ji22) then (if (ji22) ≤ (l0_0.length : Int) then ((some ((l0_0.take ((ji22) : Int).toNat).drop ((wrap64 (x36_2 * a1)) : Int).toNat : List (S35))).bind fun y760 => ((impl_appendBlock.f k2 x5_2 y760).bind fun t764 => ((impl_appendNum.f k2 x7_2 (IntKind.u64.wrap (wrap64 ((t764.length : Int) - (x5_2.length : Int))))).bind fun t767 => ((impl_appendNum.f k2 t767 (IntKind.u64.wrap ((y760.length : Int)))).bind fun t770 => (if 0 < (y760.length : Int) then ((impl_appendStr.f k2 t770 ((rd_T35 y760 0).f0)).bind fun t774 => (if 0 ≤ (x5_2.length : Int) then (if (x5_2.length : Int) ≤ (t764.length : Int) then ((impl_Crc32.f (t764.drop ((x5_2.length : Int) : Int).toNat)).bind fun t781 => ((impl_appendFixed.f t764 t781).bind fun t782 => (impl_EncodeRun.l0 k2 a1 t782 t774 (wrap64 (Int.tdiv (wrap64 ((wrap64 ((l0_0.length : Int) + a1)) - 1)) a1)) (wrap64 (x36_2 + 1)) l0_0))) else (none)) else (none))) else (none)))))) else (none)) else (none)) else (none)) = some r := by first | (rw [hji22] at H; exact H) | (simp only [hji22] at H ⊢; exact H)
        have hji22_ : (if (l0_0.length : Int) < (wrap64 ((wrap64 (x36_2 + 1)) * a1)) then (l0_0.length : Int) else (wrap64 ((wrap64 (x36_2 + 1)) * a1))) = ji22 := hji22
        obtain ⟨ji23, hji23⟩ : ∃ j_ : Int, (wrap64 (x36_2 * a1)) = j_ := ⟨_, rfl⟩
        replace H : (if 0 ≤ (ji23) then (if (ji23) ≤ (ji22) then (if (ji22) ≤ (l0_0.length : Int) then ((some ((l0_0.take ((ji22) : Int).toNat).drop ((ji23) : Int).toNat : List (S35))).bind fun y760 => ((impl_appendBlock.f k2 x5_2 y760).bind fun t764 => ((impl_appendNum.f k2 x7_2 (IntKind.u64.wrap (wrap64 ((t764.length : Int) - (x5_2.length : Int))))).bind fun t767 => ((impl_appendNum.f k2 t767 (IntKind.u64.wrap ((y760.length : Int)))).bind fun t770 => (if 0 < (y760.length : Int) then ((impl_appendStr.f k2 t770 ((rd_T35 y760 0).f0)).bind fun t774 => (if 0 ≤ (x5_2.length : Int) then (if (x5_2.length : Int) ≤ (t764.length : Int) then ((impl_Crc32.f (t764.drop ((x5_2.length : Int) : Int).toNat)).bind fun t781 => ((impl_appendFixed.f t764 t781).bind fun t782 => (impl_EncodeRun.l0 k2 a1 t782 t774 (wrap64 (Int.tdiv (wrap64 ((wrap64 ((l0_0.length : Int) + a1)) - 1)) a1)) (wrap64 (x36_2 + 1)) l0_0))) else (none)) else (none))) else (none)))))) else (none)) else (none)) else (none)) = some r := by first | (rw [hji23] at H; exact H) | (simp only [hji23] at H ⊢; exact H)
        have hji23w : (IntKind.i64.wrap (x36_2 * a1)) = ji23 := (i64_w _).trans hji23
        by_cases c24 : 0 ≤ (ji23)
        ·rw [if_pos c24] at H
         have c24b0 := eq_true c24
         have c24b1 : decide (0 ≤ (ji23)) = true := decide_eq_true c24
         clear c24
         by_cases c25 : (ji23) ≤ (ji22)
         ·rw [if_pos c25] at H
          have c25b0 := eq_true c25
          have c25b1 : decide ((ji23) ≤ (ji22)) = true := decide_eq_true c25
          clear c25
          by_cases c26 : (ji22) ≤ (l0_0.length : Int)
          ·rw [if_pos c26] at H
           have c26b0 := eq_true c26
           have c26b1 : decide ((ji22) ≤ (l0_0.length : Int)) = true := decide_eq_true c26
           clear c26
           obtain ⟨y760, hy760⟩ : ∃ y_ : List (S35), y_ = ((l0_0.take ((ji22) : Int).toNat).drop ((ji23) : Int).toNat) := ⟨_, rfl⟩
           replace H : ((impl_appendBlock.f k2 x5_2 y760).bind fun t764 => ((impl_appendNum.f k2 x7_2 (IntKind.u64.wrap (wrap64 ((t764.length : Int) - (x5_2.length : Int))))).bind fun t767 => ((impl_appendNum.f k2 t767 (IntKind.u64.wrap ((y760.length : Int)))).bind fun t770 => (if 0 < (y760.length : Int) then ((impl_appendStr.f k2 t770 ((rd_T35 y760 0).f0)).bind fun t774 => (if 0 ≤ (x5_2.length : Int) then (if (x5_2.length : Int) ≤ (t764.length : Int) then ((impl_Crc32.f (t764.drop ((x5_2.length : Int) : Int).toNat)).bind fun t781 => ((impl_appendFixed.f t764 t781).bind fun t782 => (impl_EncodeRun.l0 k2 a1 t782 t774 (wrap64 (Int.tdiv (wrap64 ((wrap64 ((l0_0.length : Int) + a1)) - 1)) a1)) (wrap64 (x36_2 + 1)) l0_0))) else (none)) else (none))) else (none))))) = some r := by first | (rw [hy760]; with_reducible exact H) | (have H2_ := (Option.bind_some _ _).symm.trans H; rw [hy760]; with_reducible exact H2_) | (have H2_ := (Option.bind_some _ _).symm.trans H; with_reducible exact H2_) | with_reducible exact H | (rw [hy760]; exact H) | exact H
           have Ny760 := Aside0.mk hy760
           clear hy760
           replace H := Option.bind_eq_some_iff.mp H
           obtain ⟨t764, A270, H⟩ := H
           replace H : ((impl_appendNum.f k2 x7_2 (IntKind.u64.wrap (wrap64 ((t764.length : Int) - (x5_2.length : Int))))).bind fun t767 => ((impl_appendNum.f k2 t767 (IntKind.u64.wrap ((y760.length : Int)))).bind fun t770 => (if 0 < (y760.length : Int) then ((impl_appendStr.f k2 t770 ((rd_T35 y760 0).f0)).bind fun t774 => (if 0 ≤ (x5_2.length : Int) then (if (x5_2.length : Int) ≤ (t764.length : Int) then ((impl_Crc32.f (t764.drop ((x5_2.length : Int) : Int).toNat)).bind fun t781 => ((impl_appendFixed.f t764 t781).bind fun t782 => (impl_EncodeRun.l0 k2 a1 t782 t774 (wrap64 (Int.tdiv (wrap64 ((wrap64 ((l0_0.length : Int) + a1)) - 1)) a1)) (wrap64 (x36_2 + 1)) l0_0))) else (none)) else (none))) else (none)))) = some r := H
           have A27 := Aside0.mk A270
           clear A270
           replace H := Option.bind_eq_some_iff.mp H
           obtain ⟨t767, A280, H⟩ := H
           replace H : ((impl_appendNum.f k2 t767 (IntKind.u64.wrap ((y760.length : Int)))).bind fun t770 => (if 0 < (y760.length : Int) then ((impl_appendStr.f k2 t770 ((rd_T35 y760 0).f0)).bind fun t774 => (if 0 ≤ (x5_2.length : Int) then (if (x5_2.length : Int) ≤ (t764.length : Int) then ((impl_Crc32.f (t764.drop ((x5_2.length : Int) : Int).toNat)).bind fun t781 => ((impl_appendFixed.f t764 t781).bind fun t782 => (impl_EncodeRun.l0 k2 a1 t782 t774 (wrap64 (Int.tdiv (wrap64 ((wrap64 ((l0_0.length : Int) + a1)) - 1)) a1)) (wrap64 (x36_2 + 1)) l0_0))) else (none)) else (none))) else (none))) = some r := H
           have A28 := Aside0.mk A280
           clear A280
           replace H := Option.bind_eq_some_iff.mp H
           obtain ⟨t770, A290, H⟩ := H
           replace H : (if 0 < (y760.length : Int) then ((impl_appendStr.f k2 t770 ((rd_T35 y760 0).f0)).bind fun t774 => (if 0 ≤ (x5_2.length : Int) then (if (x5_2.length : Int) ≤ (t764.length : Int) then ((impl_Crc32.f (t764.drop ((x5_2.length : Int) : Int).toNat)).bind fun t781 => ((impl_appendFixed.f t764 t781).bind fun t782 => (impl_EncodeRun.l0 k2 a1 t782 t774 (wrap64 (Int.tdiv (wrap64 ((wrap64 ((l0_0.length : Int) + a1)) - 1)) a1)) (wrap64 (x36_2 + 1)) l0_0))) else (none)) else (none))) else (none)) = some r := H
           have A29 := Aside0.mk A290
           clear A290
           by_cases c30 : 0 < (y760.length : Int)
           ·rw [if_pos c30] at H
            have c30b0 : decide (0 < (y760.length : Int)) = true := decide_eq_true c30
            have c30b1 : decide (0 < y760.length) = true := decide_eq_true (by omega)
            clear c30
            replace H := Option.bind_eq_some_iff.mp H
            obtain ⟨t774, A310, H⟩ := H
            replace H : (if 0 ≤ (x5_2.length : Int) then (if (x5_2.length : Int) ≤ (t764.length : Int) then ((impl_Crc32.f (t764.drop ((x5_2.length : Int) : Int).toNat)).bind fun t781 => ((impl_appendFixed.f t764 t781).bind fun t782 => (impl_EncodeRun.l0 k2 a1 t782 t774 (wrap64 (Int.tdiv (wrap64 ((wrap64 ((l0_0.length : Int) + a1)) - 1)) a1)) (wrap64 (x36_2 + 1)) l0_0))) else (none)) else (none)) = some r := H
            have A31 := Aside0.mk A310
            clear A310
            by_cases c32 : 0 ≤ (x5_2.length : Int)
            ·rw [if_pos c32] at H
             have c32b0 := eq_true c32
             have c32b1 : decide (0 ≤ (x5_2.length : Int)) = true := decide_eq_true c32
             clear c32
             by_cases c33 : (x5_2.length : Int) ≤ (t764.length : Int)
             ·rw [if_pos c33] at H
              have c33b0 := eq_true c33
              have c33b1 : decide ((x5_2.length : Int) ≤ (t764.length : Int)) = true := decide_eq_true c33
              clear c33
              obtain ⟨y777, hy777⟩ : ∃ y_ : List Int, y_ = (t764.drop ((x5_2.length : Int) : Int).toNat) := ⟨_, rfl⟩
              replace H : ((impl_Crc32.f y777).bind fun t781 => ((impl_appendFixed.f t764 t781).bind fun t782 => (impl_EncodeRun.l0 k2 a1 t782 t774 (wrap64 (Int.tdiv (wrap64 ((wrap64 ((l0_0.length : Int) + a1)) - 1)) a1)) (wrap64 (x36_2 + 1)) l0_0))) = some r := by first | (rw [hy777]; with_reducible exact H) | (have H2_ := (Option.bind_some _ _).symm.trans H; rw [hy777]; with_reducible exact H2_) | (have H2_ := (Option.bind_some _ _).symm.trans H; with_reducible exact H2_) | with_reducible exact H | (rw [hy777]; exact H) | exact H
              have Ny777 := Aside0.mk hy777
              clear hy777
              replace H := Option.bind_eq_some_iff.mp H
              obtain ⟨t781, A340, H⟩ := H
              replace H : ((impl_appendFixed.f t764 t781).bind fun t782 => (impl_EncodeRun.l0 k2 a1 t782 t774 (wrap64 (Int.tdiv (wrap64 ((wrap64 ((l0_0.length : Int) + a1)) - 1)) a1)) (wrap64 (x36_2 + 1)) l0_0)) = some r := H
              have A34 := Aside0.mk A340
              clear A340
              replace H := Option.bind_eq_some_iff.mp H
              obtain ⟨t782, A350, H⟩ := H
              replace H : (impl_EncodeRun.l0 k2 a1 t782 t774 (wrap64 (Int.tdiv (wrap64 ((wrap64 ((l0_0.length : Int) + a1)) - 1)) a1)) (wrap64 (x36_2 + 1)) l0_0) = some r := H
              have A35 := Aside0.mk A350
              clear A350
              have H' := Aside0.mk H
              clear H
              have hcz36_0 : wr.cell? ⟨gb752, 0, none⟩ = some (.slice A0_0 l0_0.length c0_0) := (blk_cell BK752.out 0).trans rfl
              have hfz36_0 := blk_frozen BK752.out 0
              have q37 : ((ji22) : Int) ≤ ((l0_0.length : Int) : Int) := of_decide_eq_true (by first | (with_reducible assumption) | assumption)
              obtain ⟨i037, hi037, _, hsz37, _⟩ := info_parts info35
              have hroom37 : l0_0.length ≤ c0_0 := HC0_0.out
              have hC37 : Kd.C k35 _ A0_0 l0_0.length l0_0 := HR0_0.out
              have ql37 : ((ji23) : Int) ≤ ((ji22) : Int) := of_decide_eq_true (by first | (with_reducible assumption) | assumption)
              have q037 : (0 : Int) ≤ ((ji23) : Int) := of_decide_eq_true (by first | (with_reducible assumption) | assumption)
              have hcut37 := cut_mid (P := Try.prog) 64 35 .i64 .i64 Try.underlying64 hi037 6 hsz37 A0_0 l0_0.length c0_0 (ji23) (ji22) q037 ql37 q37 hroom37
              have hr37 := Kd.C_mid (lo := ((ji23) : Int).toNat) (hi := ((ji22) : Int).toNat) (c := c0_0) hC37 (by omega) (by omega) hroom37
              obtain ⟨A37, hA37⟩ : ∃ A1, A1 = (if c0_0 = ((ji23) : Int).toNat then A0_0 else (A0_0 : Option Addr).map (·.add (((ji23) : Int).toNat * 6))) := ⟨_, rfl⟩
              obtain ⟨c37, hc37⟩ : ∃ c1, c1 = c0_0 - ((ji23) : Int).toNat := ⟨_, rfl⟩
              have hy37 : y760.length = ((ji22) : Int).toNat - ((ji23) : Int).toNat := (by rw [Ny760.out, List.length_drop, List.length_take] <;> omega)
              rw [show ((l0_0).take ((ji22) : Int).toNat).drop ((ji23) : Int).toNat = y760 from Ny760.out.symm] at hr37
              replace hr37 : Kd.C k35 _ A37 y760.length y760 := (by rw [hA37]; exact hr37)
              rw [← hy37, ← hA37, ← hc37] at hcut37
              have HR763 := Aside0.mk hr37
              have HC763 := Aside0.mk (show y760.length ≤ c37 from by rw [hy37, hc37]; exact Nat.sub_le_sub_right (Nat.le_trans (by omega) hroom37) _)
              clear hr37 hC37 hroom37 hi037 hsz37 hc37
              have KY37 := Aside0.mk hy37
              have KA37 := Aside0.mk hA37
              clear hy37 hA37
              replace q37 := eq_true q37
              obtain ⟨Ao38, co38, eo38⟩ := RF_slice HO_5.out
              subst eo38
              go_wp2_with (first | ((with_reducible refine at_fn (f := 90) rfl ?_); refine goesL_ (some 57) rfl rfl Try.func90 (by kernel_rfl) rfl #[.slice Ao38 x5_2.length co38, .slice A37 y760.length c37] rfl (by (try simp only [List.map_toArray, List.map_cons, List.map_nil]); first | done | rfl | (simp only [List.length_drop, List.length_take]; rfl)) ?_; (with_reducible refine (impl_appendBlock.callsF k2 (fun k_ => some k_ = (.slice Ao38 x5_2.length co38 : Value).ownBlock) (.slice Ao38 x5_2.length co38) x5_2 _ _ y760 t764 w _ ?side1 ?side2 ?side3 ?side4 A27.out).mono ?_); (case side1 => repeat (first | (with_reducible first | exact HB.out | apply below_alloc | apply pw_below_drewN | apply below_drew1 | refine below_set ?_ GE752.out) | exact HB.out)); (case side2 => exact RF_tight rfl HO_5.out); (case side3 => exact Kd.C_kept_came k35_heap HR763.out bw (fun k_ hs_ => (fun e_ => RF_base HO_5.out k_ e_.symm) hs_)); (case side4 => exact HC763.out); rintro e w39 ⟨v765, rfl, ho0, hb, hkp⟩; refine ⟨_, rfl, ?_⟩; have n0_ := Aside0.mk (Kd.R_mono (ok' := fun k_ => some k_ ≠ (v765 : Value).ownBlock) (Kd.R_keptB (HO_7.out) hkp (fun k_ hk_ hs_ => (hk_) hs_)) (fun k_ hk_ => fun e_ => Or.elim (ho0.own k_ e_.symm) (fun hs_ => hk_.2.1 hs_) (fun hn_ => Nat.not_le.2 hk_.2.2 hn_))); have n1_ := Aside0.mk (blk_kept (lb BK752) hkp (fun hs_ => (fun e_ => (RF_ne HO_5.out BK752.out (by decide)) e_) hs_)); have n2_ := Aside0.mk (RF_mono (ok' := fun k_ => some k_ ≠ (u7 : Value).ownBlock) ho0 (fun k_ hk_ => Or.elim hk_ (fun hs_ => fun e_ => (((HO_7.out).1 k_ e_.symm)) hs_) (fun hn_ => (Kd.fresh' (Kd.R_lt (lf HO_7)) k_ hn_)))); have n3_ := Aside0.mk (hb); clear HO_7; clear BK752; clear HB; clear HO_5; have HO_7 := n0_; have BK752 := n1_; have HO766 := n2_; have HB := n3_; clear n0_ n1_ n2_ n3_; (try clear hb); (try clear hkp); (try clear ho0); obtain ⟨Ao40, co40, eo40⟩ := RF_slice HO766.out; subst eo40; obtain ⟨Ao41, co41, eo41⟩ := Kd.R_slice HO_7.out; subst eo41) | ((with_reducible refine at_fn (f := 89) rfl ?_); refine goesL_ (some 64) rfl rfl Try.func89 (by kernel_rfl) rfl #[.slice Ao41 x7_2.length co41, .int .u64 (IntKind.u64.wrap (wrap64 ((t764.length : Int) - (x5_2.length : Int))))] rfl (by (try simp only [List.map_toArray, List.map_cons, List.map_nil]); first | done | rfl | (simp only [List.length_drop, List.length_take]; rfl)) ?_; (with_reducible refine (impl_appendNum.calls k2 (fun k_ => some k_ = (.slice Ao41 x7_2.length co41 : Value).ownBlock) (.slice Ao41 x7_2.length co41) x7_2 (IntKind.u64.wrap (wrap64 ((t764.length : Int) - (x5_2.length : Int)))) t767 w _ ?side1 ?side2 A28.out).mono ?_); (case side1 => repeat (first | (with_reducible first | exact HB.out | apply below_alloc | apply pw_below_drewN | apply below_drew1 | refine below_set ?_ GE752.out) | exact HB.out)); (case side2 => exact Kd.R_tight rfl HO_7.out); rintro e w42 ⟨v768, rfl, ho0, hb, hkp⟩; refine ⟨_, rfl, ?_⟩; have n0_ := Aside0.mk (blk_kept (lb BK752) hkp (fun hs_ => (fun e_ => (Kd.R_ne HO_7.out BK752.out (by decide)) e_) hs_)); have n1_ := Aside0.mk (RF_mono (ok' := fun k_ => some k_ ≠ (v768 : Value).ownBlock) (RF_keptB (HO766.out) hkp (fun k_ hk_ hs_ => (hk_) hs_)) (fun k_ hk_ => fun e_ => Or.elim (ho0.1 k_ e_.symm) (fun hs_ => hk_.2.1 hs_) (fun hn_ => Nat.not_le.2 hk_.2.2 hn_))); have n2_ := Aside0.mk (Kd.R_mono (ok' := fun k_ => some k_ ≠ (.slice Ao40 t764.length co40 : Value).ownBlock) ho0 (fun k_ hk_ => Or.elim hk_ (fun hs_ => fun e_ => (((HO766.out).own k_ e_.symm)) hs_) (fun hn_ => (Kd.fresh' (RF_lt (by (with_reducible repeat (first | apply RF_alloc | apply RF_drewN | apply RF_drew)); exact HO766.out)) k_ hn_)))); have n3_ := Aside0.mk (hb); clear BK752; clear HO766; clear HB; clear HO_7; have BK752 := n0_; have HO766 := n1_; have HO769 := n2_; have HB := n3_; clear n0_ n1_ n2_ n3_; (try clear hb); (try clear hkp); (try clear ho0); obtain ⟨Ao43, co43, eo43⟩ := Kd.R_slice HO769.out; subst eo43) | ((with_reducible refine at_fn (f := 89) rfl ?_); refine goesL_ (some 68) rfl rfl Try.func89 (by kernel_rfl) rfl #[.slice Ao43 t767.length co43, .int .u64 (IntKind.u64.wrap ((y760.length : Int)))] rfl (by (try simp only [List.map_toArray, List.map_cons, List.map_nil]); first | done | rfl | (simp only [List.length_drop, List.length_take]; rfl)) ?_; (with_reducible refine (impl_appendNum.calls k2 (fun k_ => some k_ = (.slice Ao43 t767.length co43 : Value).ownBlock) (.slice Ao43 t767.length co43) t767 (IntKind.u64.wrap ((y760.length : Int))) t770 w _ ?side1 ?side2 A29.out).mono ?_); (case side1 => repeat (first | (with_reducible first | exact HB.out | apply below_alloc | apply pw_below_drewN | apply below_drew1 | refine below_set ?_ GE752.out) | exact HB.out)); (case side2 => exact Kd.R_tight rfl HO769.out); rintro e w44 ⟨v771, rfl, ho0, hb, hkp⟩; refine ⟨_, rfl, ?_⟩; have n0_ := Aside0.mk (blk_kept (lb BK752) hkp (fun hs_ => (fun e_ => (Kd.R_ne HO769.out BK752.out (by decide)) e_) hs_)); have n1_ := Aside0.mk (RF_mono (ok' := fun k_ => some k_ ≠ (v771 : Value).ownBlock) (RF_keptB (HO766.out) hkp (fun k_ hk_ hs_ => (hk_) hs_)) (fun k_ hk_ => fun e_ => Or.elim (ho0.1 k_ e_.symm) (fun hs_ => hk_.2.1 hs_) (fun hn_ => Nat.not_le.2 hk_.2.2 hn_))); have n2_ := Aside0.mk (Kd.R_mono (ok' := fun k_ => some k_ ≠ (.slice Ao40 t764.length co40 : Value).ownBlock) ho0 (fun k_ hk_ => Or.elim hk_ (fun hs_ => fun e_ => (((HO766.out).own k_ e_.symm)) hs_) (fun hn_ => (Kd.fresh' (RF_lt (by (with_reducible repeat (first | apply RF_alloc | apply RF_drewN | apply RF_drew)); exact HO766.out)) k_ hn_)))); have n3_ := Aside0.mk (hb); clear BK752; clear HO766; clear HB; clear HO769; have BK752 := n0_; have HO766 := n1_; have HO772 := n2_; have HB := n3_; clear n0_ n1_ n2_ n3_; (try clear hb); (try clear hkp); (try clear ho0); have p773 : 0 ≤ (0 : Int) := (by omega); have q773 : 0 < (y760.length : Int) := of_decide_eq_true (by first | (with_reducible assumption) | assumption); obtain ⟨ad773, e773, hx773_0, hx773_1, hx773_2, hx773_3, hx773_4, hx773_5⟩ := at_T35 HR763.out 0 p773 q773; cases e773; have qi773 : (0 < y760.length) = True := eq_true (by omega); (try rw [show ((0 : Int)).toNat = 0 from rfl] at hx773_0); (try rw [show 0 * 6 = 0 from rfl] at hx773_0); (try rw [Addr.add_zero'] at hx773_0); (try rw [show ((0 : Int)).toNat = 0 from rfl] at hx773_1); (try rw [show 0 * 6 = 0 from rfl] at hx773_1); (try rw [Addr.add_zero'] at hx773_1); (try rw [show ((0 : Int)).toNat = 0 from rfl] at hx773_2); (try rw [show 0 * 6 = 0 from rfl] at hx773_2); (try rw [Addr.add_zero'] at hx773_2); (try rw [show ((0 : Int)).toNat = 0 from rfl] at hx773_3); (try rw [show 0 * 6 = 0 from rfl] at hx773_3); (try rw [Addr.add_zero'] at hx773_3); (try rw [show ((0 : Int)).toNat = 0 from rfl] at hx773_4); (try rw [show 0 * 6 = 0 from rfl] at hx773_4); (try rw [Addr.add_zero'] at hx773_4); (try rw [show ((0 : Int)).toNat = 0 from rfl] at hx773_5); (try rw [show 0 * 6 = 0 from rfl] at hx773_5); (try rw [Addr.add_zero'] at hx773_5); replace hx773_0 := (HB.out.cell (World.block_lt_of_cell? w _ hx773_0)).trans hx773_0; replace hx773_1 := (HB.out.cell (World.block_lt_of_cell? w _ hx773_1)).trans hx773_1; replace hx773_2 := (HB.out.cell (World.block_lt_of_cell? w _ hx773_2)).trans hx773_2; replace hx773_3 := (HB.out.cell (World.block_lt_of_cell? w _ hx773_3)).trans hx773_3; replace hx773_4 := (HB.out.cell (World.block_lt_of_cell? w _ hx773_4)).trans hx773_4; replace hx773_5 := (HB.out.cell (World.block_lt_of_cell? w _ hx773_5)).trans hx773_5; replace p773 := eq_true p773; replace q773 := eq_true q773; obtain ⟨Ao45, co45, eo45⟩ := Kd.R_slice HO772.out; subst eo45) | ((with_reducible refine at_fn (f := 91) rfl ?_); refine goesL_ (some 74) rfl rfl Try.func91 (by kernel_rfl) rfl #[.slice Ao45 t770.length co45, .string ((rd_T35 y760 0).f0)] rfl (by (try simp only [List.map_toArray, List.map_cons, List.map_nil]); first | done | rfl | (simp only [List.length_drop, List.length_take]; rfl)) ?_; (with_reducible refine (impl_appendStr.calls k2 (fun k_ => some k_ = (.slice Ao45 t770.length co45 : Value).ownBlock) (.slice Ao45 t770.length co45) t770 ((rd_T35 y760 0).f0) t774 w _ ?side1 ?side2 A31.out).mono ?_); (case side1 => repeat (first | (with_reducible first | exact HB.out | apply below_alloc | apply pw_below_drewN | apply below_drew1 | refine below_set ?_ GE752.out) | exact HB.out)); (case side2 => exact Kd.R_tight rfl HO772.out); rintro e w46 ⟨v775, rfl, ho0, hb, hkp⟩; refine ⟨_, rfl, ?_⟩; have n0_ := Aside0.mk (blk_kept (lb BK752) hkp (fun hs_ => (fun e_ => (Kd.R_ne HO772.out BK752.out (by decide)) e_) hs_)); have n1_ := Aside0.mk (RF_mono (ok' := fun k_ => some k_ ≠ (v775 : Value).ownBlock) (RF_keptB (HO766.out) hkp (fun k_ hk_ hs_ => (hk_) hs_)) (fun k_ hk_ => fun e_ => Or.elim (ho0.1 k_ e_.symm) (fun hs_ => hk_.2.1 hs_) (fun hn_ => Nat.not_le.2 hk_.2.2 hn_))); have n2_ := Aside0.mk (Kd.R_mono (ok' := fun k_ => some k_ ≠ (.slice Ao40 t764.length co40 : Value).ownBlock) ho0 (fun k_ hk_ => Or.elim hk_ (fun hs_ => fun e_ => (((HO766.out).own k_ e_.symm)) hs_) (fun hn_ => (Kd.fresh' (RF_lt (by (with_reducible repeat (first | apply RF_alloc | apply RF_drewN | apply RF_drew)); exact HO766.out)) k_ hn_)))); have n3_ := Aside0.mk (hb); clear BK752; clear HO766; clear HB; clear HO772; have BK752 := n0_; have HO766 := n1_; have HO776 := n2_; have HB := n3_; clear n0_ n1_ n2_ n3_; (try clear hb); (try clear hkp); (try clear ho0); have q47 : ((x5_2.length : Int) : Int) ≤ ((t764.length : Int) : Int) := of_decide_eq_true (by first | (with_reducible assumption) | assumption); obtain ⟨i047, hi047, _, hsz47, _⟩ := info_parts info5; have hroom47 : t764.length ≤ co40 := (RF_reads' HO766.out).2.1; have hC47 : Kd.C (Kd.int .u8) _ Ao40 t764.length t764 := (RF_reads' HO766.out).2.2; have q047 : (0 : Int) ≤ ((x5_2.length : Int) : Int) := of_decide_eq_true (by first | (with_reducible assumption) | assumption); have hcut47 := cut_from (P := Try.prog) 38 5 .i64 Try.underlying38 hi047 1 hsz47 Ao40 t764.length co40 (x5_2.length : Int) q047 q47; have hr47 := Kd.C_drop (m := ((x5_2.length : Int) : Int).toNat) (c := co40) hC47 (by omega) hroom47; obtain ⟨A47, hA47⟩ : ∃ A1, A1 = (if co40 = ((x5_2.length : Int) : Int).toNat then Ao40 else (Ao40 : Option Addr).map (·.add (((x5_2.length : Int) : Int).toNat * 1))) := ⟨_, rfl⟩; obtain ⟨c47, hc47⟩ : ∃ c1, c1 = co40 - ((x5_2.length : Int) : Int).toNat := ⟨_, rfl⟩; have hy47 : y777.length = t764.length - ((x5_2.length : Int) : Int).toNat := (by rw [Ny777.out, List.length_drop] <;> omega); rw [show (t764).drop ((x5_2.length : Int) : Int).toNat = y777 from Ny777.out.symm] at hr47; replace hr47 : Kd.C (Kd.int .u8) _ A47 y777.length y777 := (by rw [hA47]; exact hr47); rw [← hy47, ← hA47, ← hc47] at hcut47; have HR780 := Aside0.mk hr47; have HC780 := Aside0.mk (show y777.length ≤ c47 from by rw [hy47, hc47]; exact Nat.sub_le_sub_right hroom47 _); clear hr47 hC47 hroom47 hi047 hsz47 hc47; have KY47 := Aside0.mk hy47; have KA47 := Aside0.mk hA47; clear hy47 hA47; have KL47 := Aside0.mk (show ((x5_2.length : Int) : Int).toNat ≤ t764.length from by omega); replace q47 := eq_true q47) | ((with_reducible refine at_fn (f := 25) rfl ?_); refine goesL_ (some 79) rfl rfl Try.func25 (by kernel_rfl) rfl #[.slice A47 y777.length c47] rfl (by (try simp only [List.map_toArray, List.map_cons, List.map_nil]); first | done | rfl | (simp only [List.length_drop, List.length_take]; rfl)) ?_; (with_reducible refine (impl_Crc32.calls _ _ y777 t781 _ ?side1 ?side2 A34.out).mono ?_); (case side1 => repeat (first | exact (by repeat (first | (with_reducible exact HR780.out) | (with_reducible refine Kd.C_alloc ?_ _) | (with_reducible refine Kd.C_drewN ?_ _) | (with_reducible refine Kd.C_drew ?_) | exact HR780.out)) | (with_reducible refine Kd.C_alloc ?_ _) | (with_reducible refine Kd.C_drewN ?_ _) | (with_reducible refine Kd.C_drew ?_))); (case side2 => exact HC780.out); rintro e w48 ⟨rfl, hb⟩; refine ⟨_, rfl, ?_⟩; have n0_ := Aside0.mk (RF_below (by (with_reducible repeat (first | apply RF_alloc | apply RF_drewN | apply RF_drew)); exact HO766.out) hb); have n1_ := Aside0.mk (Kd.R_below (lf HO776) hb); have n2_ := Aside0.mk (blk_below (g := gb752) (o := .cells #[.slice A0_0 l0_0.length c0_0] 66 (0, 0)) (lb BK752) hb); have n3_ := Aside0.mk (Kd.C_below (by repeat (first | (with_reducible exact HR780.out) | (with_reducible refine Kd.C_alloc ?_ _) | (with_reducible refine Kd.C_drewN ?_ _) | (with_reducible refine Kd.C_drew ?_) | exact HR780.out)) hb); have n4_ := Aside0.mk (below_step bw hb); clear HO766; clear HO776; clear BK752; clear HR780; clear HB; have HO766 := n0_; have HO776 := n1_; have BK752 := n2_; have HR780 := n3_; have HB := n4_; clear n0_ n1_ n2_ n3_ n4_; (try clear hb); (try clear hb2); (try clear hk); (try clear hi)) | ((with_reducible refine at_fn (f := 92) rfl ?_); refine goesL_ (some 80) rfl rfl Try.func92 (by kernel_rfl) rfl #[.slice Ao40 t764.length co40, .int .u32 t781] rfl (by (try simp only [List.map_toArray, List.map_cons, List.map_nil]); first | done | rfl | (simp only [List.length_drop, List.length_take]; rfl)) ?_; (with_reducible refine (impl_appendFixed.callsF (fun k_ => some k_ = (.slice Ao40 t764.length co40 : Value).ownBlock) (.slice Ao40 t764.length co40) t764 t781 t782 w _ ?side1 ?side2 A35.out).mono ?_); (case side1 => repeat (first | (with_reducible first | exact HB.out | apply below_alloc | apply pw_below_drewN | apply below_drew1 | refine below_set ?_ GE752.out) | exact HB.out)); (case side2 => exact RF_tight rfl HO766.out); rintro e w49 ⟨v783, rfl, ho0, hb, hkp⟩; refine ⟨_, rfl, ?_⟩; have n0_ := Aside0.mk (blk_kept (lb BK752) hkp (fun hs_ => (fun e_ => (RF_ne HO766.out BK752.out (by decide)) e_) hs_)); have n1_ := Aside0.mk (Kd.R_mono (ok' := fun k_ => some k_ ≠ (v783 : Value).ownBlock) (Kd.R_keptB (HO776.out) hkp (fun k_ hk_ hs_ => (hk_) hs_)) (fun k_ hk_ => fun e_ => Or.elim (ho0.1 k_ e_.symm) (fun hs_ => hk_.2.1 hs_) (fun hn_ => Nat.not_le.2 hk_.2.2 hn_))); have n2_ := Aside0.mk (Kd.R_mono (ok' := fun k_ => some k_ ≠ (v775 : Value).ownBlock) ho0 (fun k_ hk_ => Or.elim hk_ (fun hs_ => fun e_ => (((HO776.out).1 k_ e_.symm)) hs_) (fun hn_ => (Kd.fresh' (Kd.R_lt (lf HO776)) k_ hn_)))); have n3_ := Aside0.mk (hb); clear BK752; clear HO776; clear HB; clear HO766; have BK752 := n0_; have HO776 := n1_; have HO784 := n2_; have HB := n3_; clear n0_ n1_ n2_ n3_; (try clear hb); (try clear hkp); (try clear ho0)))
              go_roundg k2
              case measure => have := HJ2.out; have := HK2.out; omega
              case rel => exact ⟨(t782), (t774), (wrap64 (x36_2 + 1)), (by first | rfl | (simp; done) | (simp [*]; done)), H', ⟨by have := HJ2.out; have := HK2.out; omega⟩, ⟨RF.of_R (lf HO784)⟩, ⟨lf HO776⟩, ⟨lb BK752⟩, ⟨bw⟩⟩
             ·rw [if_neg c33] at H
              exact absurd H (by simp)
            ·rw [if_neg c32] at H
             exact absurd H (by simp)
           ·rw [if_neg c30] at H
            exact absurd H (by simp)
          ·rw [if_neg c26] at H
           exact absurd H (by simp)
         ·rw [if_neg c25] at H
          exact absurd H (by simp)
        ·rw [if_neg c24] at H
         exact absurd H (by simp)
       ·rw [if_neg c21] at H
        have c21b0 : decide (x36_2 < (wrap64 (Int.tdiv (wrap64 ((wrap64 ((l0_0.length : Int) + a1)) - 1)) a1))) = false := decide_eq_false c21
        clear c21
        by_cases c50 : x5_2.length + x7_2.length < 140737488355328
        ·rw [if_pos c50] at H
         have LMc50 := Aside0.mk c50
         clear c50
         obtain ⟨y785, hy785⟩ : ∃ y_ : List Int, y_ = (x5_2 ++ x7_2) := ⟨_, rfl⟩
         replace H : ((impl_Crc32.f x7_2).bind fun t788 => ((impl_appendFixed.f y785 t788).bind fun t789 => ((impl_appendFixed.f t789 (((x7_2.length : Int)) % 4294967296)).bind fun t792 => (some t792)))) = some r := by first | (rw [hy785]; with_reducible exact H) | (have H2_ := (Option.bind_some _ _).symm.trans H; rw [hy785]; with_reducible exact H2_) | (have H2_ := (Option.bind_some _ _).symm.trans H; with_reducible exact H2_) | with_reducible exact H | (rw [hy785]; exact H) | exact H
         have Ny785 := Aside0.mk hy785
         clear hy785
         replace H := Option.bind_eq_some_iff.mp H
         obtain ⟨t788, A510, H⟩ := H
         replace H : ((impl_appendFixed.f y785 t788).bind fun t789 => ((impl_appendFixed.f t789 (((x7_2.length : Int)) % 4294967296)).bind fun t792 => (some t792))) = some r := H
         have A51 := Aside0.mk A510
         clear A510
         replace H := Option.bind_eq_some_iff.mp H
         obtain ⟨t789, A520, H⟩ := H
         replace H : ((impl_appendFixed.f t789 (((x7_2.length : Int)) % 4294967296)).bind fun t792 => (some t792)) = some r := H
         have A52 := Aside0.mk A520
         clear A520
         replace H := Option.bind_eq_some_iff.mp H
         obtain ⟨t792, A530, H⟩ := H
         replace H : (some t792) = some r := H
         have A53 := Aside0.mk A530
         clear A530
         obtain rfl := Option.some.inj H
         obtain ⟨Ao55, co55, eo55⟩ := Kd.R_slice HO_7.out
         subst eo55
         go_wp2_with (first | ((with_reducible refine gate_builtin (b := .append) (xs := #[.tmp 82, .tmp 83]) rfl ?_); at_builtin; refine RF_append_rows (Kd.int .u8) rfl (w0 := w) w.heap.size rfl (.tmp 82) (.tmp 83) 38 5 (.int .u8 0) 1 rfl Try.underlying38 info5 rfl (by decide) (by omega) u5 x5_2 x7_2 _ _ _ (fun k_ => some k_ ≠ (.slice Ao55 x7_2.length co55 : Value).ownBlock) (fun _ => False) rfl rfl ?aO ?aR (fun _ h => h.elim) ?aF ?aB ?aS ?aL rfl rfl rfl ?_; (case aR => repeat (first | exact (Kd.R_reads' HO_7.out).2.2 | (with_reducible refine Kd.C_alloc ?_ _) | (with_reducible refine Kd.C_drewN ?_ _) | (with_reducible refine Kd.C_drew ?_))); (case aB => exact bw); (case aF => exact (fun k_ hk => Kd.fresh' (Kd.R_lt (lf HO_7)) k_ hk)); (case aO => exact (by (with_reducible repeat (first | apply RF_alloc | apply RF_drewN | apply RF_drew)); exact HO_5.out)); (case aS => exact (below_size bw)); (case aL => have := LMc50.out; omega); intro v786 w54 ho hb hg hat; rw [← Ny785.out] at ho; have n0_ := Aside0.mk (Kd.R_after (ok := (fun _ => True)) (by (with_reducible repeat (first | apply Kd.R_alloc | apply Kd.R_drewN | apply Kd.R_drew)); exact Kd.R_mono HO_7.out (fun _ hk => ⟨trivial, hk⟩)) hg hat); have n1_ := Aside0.mk (blk_grown (g := gb752) (o := .cells #[.slice A0_0 l0_0.length c0_0] 66 (0, 0)) (lb BK752) hg (RF_ne HO_5.out BK752.out (by decide))); have n2_ := Aside0.mk (hb); have n3_ := Aside0.mk (ho); clear HO_7; clear BK752; clear HB; clear HO_5; have HO_7 := n0_; have BK752 := n1_; have HB := n2_; have HO787 := n3_; clear n0_ n1_ n2_ n3_; clear ho hb hg hat) | ((with_reducible refine at_fn (f := 25) rfl ?_); refine goesL_ (some 87) rfl rfl Try.func25 (by kernel_rfl) rfl #[.slice Ao55 x7_2.length co55] rfl (by (try simp only [List.map_toArray, List.map_cons, List.map_nil]); first | done | rfl | (simp only [List.length_drop, List.length_take]; rfl)) ?_; (with_reducible refine (impl_Crc32.calls _ _ x7_2 t788 _ ?side1 ?side2 A51.out).mono ?_); (case side1 => repeat (first | exact (Kd.R_reads' HO_7.out).2.2 | (with_reducible refine Kd.C_alloc ?_ _) | (with_reducible refine Kd.C_drewN ?_ _) | (with_reducible refine Kd.C_drew ?_))); (case side2 => exact (Kd.R_reads' HO_7.out).2.1); rintro e w56 ⟨rfl, hb⟩; refine ⟨_, rfl, ?_⟩; have n0_ := Aside0.mk (Kd.R_below (lf HO_7) hb); have n1_ := Aside0.mk (RF_below (by (with_reducible repeat (first | apply RF_alloc | apply RF_drewN | apply RF_drew)); exact HO787.out) hb); have n2_ := Aside0.mk (blk_below (g := gb752) (o := .cells #[.slice A0_0 l0_0.length c0_0] 66 (0, 0)) (lb BK752) hb); have n3_ := Aside0.mk (below_step bw hb); clear HO_7; clear HO787; clear BK752; clear HB; have HO_7 := n0_; have HO787 := n1_; have BK752 := n2_; have HB := n3_; clear n0_ n1_ n2_ n3_; (try clear hb); (try clear hb2); (try clear hk); (try clear hi); obtain ⟨Ao57, co57, eo57⟩ := RF_slice HO787.out; subst eo57) | ((with_reducible refine at_fn (f := 92) rfl ?_); refine goesL_ (some 88) rfl rfl Try.func92 (by kernel_rfl) rfl #[.slice Ao57 y785.length co57, .int .u32 t788] rfl (by (try simp only [List.map_toArray, List.map_cons, List.map_nil]); first | done | rfl | (simp only [List.length_drop, List.length_take]; rfl)) ?_; (with_reducible refine (impl_appendFixed.callsF (fun k_ => some k_ = (.slice Ao57 y785.length co57 : Value).ownBlock) (.slice Ao57 y785.length co57) y785 t788 t789 w _ ?side1 ?side2 A52.out).mono ?_); (case side1 => repeat (first | (with_reducible first | exact HB.out | apply below_alloc | apply pw_below_drewN | apply below_drew1 | refine below_set ?_ GE752.out) | exact HB.out)); (case side2 => exact RF_tight rfl HO787.out); rintro e w58 ⟨v790, rfl, ho0, hb, hkp⟩; refine ⟨_, rfl, ?_⟩; have n0_ := Aside0.mk (Kd.R_mono (ok' := fun k_ => some k_ ≠ (v790 : Value).ownBlock) (Kd.R_keptB (HO_7.out) hkp (fun k_ hk_ hs_ => (hk_.2) hs_)) (fun k_ hk_ => fun e_ => Or.elim (ho0.1 k_ e_.symm) (fun hs_ => hk_.2.1 hs_) (fun hn_ => Nat.not_le.2 hk_.2.2 hn_))); have n1_ := Aside0.mk (blk_kept (lb BK752) hkp (fun hs_ => (fun e_ => (RF_ne HO787.out BK752.out (by decide)) e_) hs_)); have n2_ := Aside0.mk (Kd.R_mono (ok' := fun k_ => some k_ ≠ (.slice Ao55 x7_2.length co55 : Value).ownBlock) ho0 (fun k_ hk_ => Or.elim hk_ (fun hs_ => fun e_ => (((HO_7.out).1 k_ e_.symm).2) hs_) (fun hn_ => (Kd.fresh' (Kd.R_lt (lf HO_7)) k_ hn_)))); have n3_ := Aside0.mk (hb); clear HO_7; clear BK752; clear HB; clear HO787; have HO_7 := n0_; have BK752 := n1_; have HO791 := n2_; have HB := n3_; clear n0_ n1_ n2_ n3_; (try clear hb); (try clear hkp); (try clear ho0); obtain ⟨Ao59, co59, eo59⟩ := Kd.R_slice HO791.out; subst eo59) | ((with_reducible refine at_fn (f := 92) rfl ?_); refine goesL_ (some 92) rfl rfl Try.func92 (by kernel_rfl) rfl #[.slice Ao59 t789.length co59, .int .u32 (((x7_2.length : Int)) % 4294967296)] rfl (by (try simp only [List.map_toArray, List.map_cons, List.map_nil]); first | done | rfl | (simp only [List.length_drop, List.length_take]; rfl)) ?_; (with_reducible refine (impl_appendFixed.calls (fun k_ => some k_ = (.slice Ao59 t789.length co59 : Value).ownBlock) (.slice Ao59 t789.length co59) t789 (((x7_2.length : Int)) % 4294967296) t792 w _ ?side1 ?side2 A53.out).mono ?_); (case side1 => repeat (first | (with_reducible first | exact HB.out | apply below_alloc | apply pw_below_drewN | apply below_drew1 | refine below_set ?_ GE752.out) | exact HB.out)); (case side2 => exact Kd.R_tight rfl HO791.out); rintro e w60 ⟨v793, rfl, ho0, hb, hkp⟩; refine ⟨_, rfl, ?_⟩; have n0_ := Aside0.mk (Kd.R_mono (ok' := fun k_ => some k_ ≠ (v793 : Value).ownBlock) (Kd.R_keptB (HO_7.out) hkp (fun k_ hk_ hs_ => (hk_) hs_)) (fun k_ hk_ => fun e_ => Or.elim (ho0.1 k_ e_.symm) (fun hs_ => hk_.2.1 hs_) (fun hn_ => Nat.not_le.2 hk_.2.2 hn_))); have n1_ := Aside0.mk (blk_kept (lb BK752) hkp (fun hs_ => (fun e_ => (Kd.R_ne HO791.out BK752.out (by decide)) e_) hs_)); have n2_ := Aside0.mk (Kd.R_mono (ok' := fun k_ => some k_ ≠ (.slice Ao55 x7_2.length co55 : Value).ownBlock) ho0 (fun k_ hk_ => Or.elim hk_ (fun hs_ => fun e_ => (((HO_7.out).1 k_ e_.symm)) hs_) (fun hn_ => (Kd.fresh' (Kd.R_lt (lf HO_7)) k_ hn_)))); have n3_ := Aside0.mk (hb); clear HO_7; clear BK752; clear HB; clear HO791; have HO_7 := n0_; have BK752 := n1_; have HO794 := n2_; have HB := n3_; clear n0_ n1_ n2_ n3_; (try clear hb); (try clear hkp); (try clear ho0)))
         go_ret
         exact ⟨_, by first | rfl | (simp [errW_none, errW_some] <;> rfl) | (simp [*, errW_none, errW_some] <;> rfl), by (with_reducible repeat (first | apply Kd.R_alloc | apply Kd.R_drewN | apply Kd.R_drew)); exact Kd.R_mono HO794.out (fun _ hk => trivial), bw⟩
        ·rw [if_neg c50] at H
         exact absurd H (by simp)

end Go.Proofs.Ytdknjbadnbangaa.Q

namespace Go.Proofs.Ytdknjbadnbangaa.Q
open Go.RowKit Go.Proofs.YtdknjbadnbangaaW.PrintWords Go.Proofs.YtdknjbadnbangaaW.PrintLast Go.Proofs.YtdknjbadnbangaaW.PrintMore
set_option linter.unusedVariables false
set_option linter.unusedSimpArgs false

/-! ### laws_markText: function 100 -/
def laws_markText.l0 : Nat → Int → ByteArray → Option (ByteArray)
 | 0, _, _ => none
 | k + 1, x0, x3 => if x0 > 0 then ((some (([(wrap64 (48 + (Int.tmod x0 10))) % 256] : List Int) : List Int)).bind fun y251 => (if (strOfNums y251).size + x3.size ≤ 9223372036854775807 then (laws_markText.l0 k (wrap64 (Int.tdiv x0 10)) ((strOfNums y251) ++ x3)) else (none))) else (if 1 + x3.size ≤ 9223372036854775807 then (some ((⟨#[109]⟩ : ByteArray) ++ x3)) else (none))
def laws_markText.f (k : Nat) (a0 : Int) : Option (ByteArray) := if a0 ≤ 0 then (some (⟨#[109, 48]⟩ : ByteArray)) else (laws_markText.l0 k a0 (⟨#[]⟩ : ByteArray))
set_option maxHeartbeats 8000000 in
set_option maxRecDepth 100000 in
theorem laws_markText.calls (k : Nat) (a0 : Int) (r : ByteArray) (w : World) (h : laws_markText.f k a0 = some r) :
  Calls Try.prog 100 #[.int .i64 a0] w fun e w' => e = .returned (.string r) ∧ Below w.heap.size w w' := by
 have HB := Aside0.mk (Below.refl w.heap.size w)
 have H : (if a0 ≤ 0 then (some (⟨#[109, 48]⟩ : ByteArray)) else (laws_markText.l0 k a0 (⟨#[]⟩ : ByteArray))) = some r := h
 clear h
 by_cases c2 : a0 ≤ 0
 ·rw [if_pos c2] at H
  have c2b0 : decide (a0 ≤ 0) = true := decide_eq_true c2
  clear c2
  obtain rfl := Option.some.inj H
  go_enter Try.func100, Try.ntmps100
  go_wp2
  go_ret
  exact ⟨by first | rfl | (simp [errW_none, errW_some] <;> rfl) | (simp [*, errW_none, errW_some] <;> rfl), bw⟩
 ·rw [if_neg c2] at H
  have c2b0 : decide (a0 ≤ 0) = false := decide_eq_false c2
  clear c2
  have H' := Aside0.mk H
  clear H
  go_enter Try.func100, Try.ntmps100
  go_wp2
  go_loopg [0, 3] k (fun kq v0 v3 w' => ∃ (x0_1 : Int) (x3_1 : ByteArray), v0 = .int .i64 x0_1 ∧ v3 = .string x3_1 ∧ Aside0 (laws_markText.l0 kq x0_1 x3_1 = some r) ∧ Aside0 (kq ≤ k) ∧ Aside0 (Below w.heap.size w w'))
  case atStart => exact ⟨(a0), ((⟨#[]⟩ : ByteArray)), (by first | rfl | (simp; done) | (simp [*]; done)), (by first | rfl | (simp; done) | (simp [*]; done)), H', ⟨Nat.le_refl _⟩, ⟨bw⟩⟩
  case round =>
   clear H'
   try clear c1
   try clear c2
   try clear c2b0
   try clear p2
   obtain ⟨x0_1, x3_1, rfl, rfl, HA, HK1, HB⟩ := hrel
   cases gk with
   | zero => exact absurd HA.out (by simp [laws_markText.l0])
   | succ k1 =>
    have H := HA.out
    clear HA
    simp only [laws_markText.l0] at H
    by_cases c3 : x0_1 > 0
    ·rw [if_pos c3] at H
     have c3b0 : decide (0 < x0_1) = true := decide_eq_true c3
     clear c3
     obtain ⟨y251, hy251⟩ : ∃ y_ : List Int, y_ = (([(wrap64 (48 + (Int.tmod x0_1 10))) % 256] : List Int)) := ⟨_, rfl⟩
     replace H : (if (strOfNums y251).size + x3_1.size ≤ 9223372036854775807 then (laws_markText.l0 k1 (wrap64 (Int.tdiv x0_1 10)) ((strOfNums y251) ++ x3_1)) else (none)) = some r := by first | (rw [hy251]; with_reducible exact H) | (have H2_ := (Option.bind_some _ _).symm.trans H; rw [hy251]; with_reducible exact H2_) | (have H2_ := (Option.bind_some _ _).symm.trans H; with_reducible exact H2_) | with_reducible exact H | (rw [hy251]; exact H) | exact H
     have Ny251 := Aside0.mk hy251
     clear hy251
     by_cases c4 : (strOfNums y251).size + x3_1.size ≤ 9223372036854775807
     ·rw [if_pos c4] at H
      have c4b0 := eq_true c4
      have c4b1 : decide ((strOfNums y251).size + x3_1.size ≤ 9223372036854775807) = true := decide_eq_true c4
      try have c4b2 : (9223372036854775807 < (strOfNums y251).size + x3_1.size) = False := eq_false (Nat.not_lt.2 c4)
      have H' := Aside0.mk H
      clear H
      go_wp2_with (first | ((with_reducible refine gate_dst (N := 12) rfl ?_); refine Kd.R_lit (Kd.int .u8) _ 5 ?hg (N := 12) ?hd (xs := ([(wrap64 (48 + (Int.tmod x0_1 10))) % 256] : List Int)) (inner := [.int .u8 ((wrap64 (48 + (Int.tmod x0_1 10))) % 256)]) (ok := fun _ => True) (okp := fun _ => True) ?hr ?hp (fun _ hk => hk) trivial (Below.refl _ _) (Nat.le_refl _) (by simp) ?_; (case hd => rfl); (case hg => rfl); (case hr => first | (go_simp; done) | (go_simp; rfl)); (case hp => exact (Reps.one (show Kd.M (Kd.int .u8) _ _ _ ((wrap64 (48 + (Int.tmod x0_1 10))) % 256) [.int .u8 ((wrap64 (48 + (Int.tmod x0_1 10))) % 256)] from rfl) (Reps.none _ _))); intro v252 w5 ho6 hb hg_ hnew_; clear hg_ hnew_; (first | rw [← Ny251.out] at ho6 | (simp only [Int.reduceToNat] at ho6; rw [← Ny251.out] at ho6)); have n0_ := Aside0.mk (Kd.R_lower ho6 (below_size bw)); have n1_ := Aside0.mk (below_step bw hb); clear HB; have HO253 := n0_; have HB := n1_; clear n0_ n1_; clear hb ho6; have hcv7 := own_string (P := Try.prog) Try.underlying38 Try.underlying5 Try.underlying9 (Kd.own_of_R HO253.out)))
      go_roundg k1
      case measure => have := HK1.out; omega
      case rel => exact ⟨(wrap64 (Int.tdiv x0_1 10)), ((strOfNums y251) ++ x3_1), (by first | rfl | (simp; done) | (simp [*]; done)), (by first | rfl | (simp; done) | (simp [*]; done)), H', ⟨by have := HK1.out; omega⟩, ⟨bw⟩⟩
     ·rw [if_neg c4] at H
      exact absurd H (by simp)
    ·rw [if_neg c3] at H
     have c3b0 : decide (0 < x0_1) = false := decide_eq_false c3
     clear c3
     by_cases c8 : 1 + x3_1.size ≤ 9223372036854775807
     ·rw [if_pos c8] at H
      have c8b0 := eq_true c8
      have c8b1 : decide (1 + x3_1.size ≤ 9223372036854775807) = true := decide_eq_true c8
      try have c8b2 : (9223372036854775807 < 1 + x3_1.size) = False := eq_false (Nat.not_lt.2 c8)
      obtain rfl := Option.some.inj H
      go_wp2
      go_ret
      exact ⟨by first | rfl | (simp [errW_none, errW_some] <;> rfl) | (simp [*, errW_none, errW_some] <;> rfl), bw⟩
     ·rw [if_neg c8] at H
      exact absurd H (by simp)

end Go.Proofs.Ytdknjbadnbangaa.Q

namespace Go.Proofs.Ytdknjbadnbangaa.Q
open Go.RowKit Go.Proofs.YtdknjbadnbangaaW.PrintWords Go.Proofs.YtdknjbadnbangaaW.PrintLast Go.Proofs.YtdknjbadnbangaaW.PrintMore
set_option linter.unusedVariables false
set_option linter.unusedSimpArgs false

/-! ### laws_markEntryS: function 93 -/
def laws_markEntryS.l0 : Nat → List (S35) → Int → Int → Option (Int × (List (S35)))
 | 0, _, _, _ => none
 | k + 1, x0, x1, x5 => if x5 < (x0.length : Int) then ((laws_markText.f k x1).bind fun t254 => (if 0 ≤ x5 then ((some (x0.set (x5 : Int).toNat (⟨t254, (rd_T35 x0 x5).f1, (rd_T35 x0 x5).f2, (rd_T35 x0 x5).f3, (rd_T35 x0 x5).f4, (rd_T35 x0 x5).f5⟩ : S35) : List (S35))).bind fun y255 => ((laws_markText.f k (wrap64 (x1 + 1))).bind fun t256 => ((some (y255.set (x5 : Int).toNat (⟨(rd_T35 y255 x5).f0, t256, (rd_T35 y255 x5).f2, (rd_T35 y255 x5).f3, (rd_T35 y255 x5).f4, (rd_T35 y255 x5).f5⟩ : S35) : List (S35))).bind fun y257 => ((laws_markText.f k (wrap64 ((wrap64 (x1 + 1)) + 1))).bind fun t258 => ((some (y257.set (x5 : Int).toNat (⟨(rd_T35 y257 x5).f0, (rd_T35 y257 x5).f1, t258, (rd_T35 y257 x5).f3, (rd_T35 y257 x5).f4, (rd_T35 y257 x5).f5⟩ : S35) : List (S35))).bind fun y259 => ((some (y259.set (x5 : Int).toNat (⟨(rd_T35 y259 x5).f0, (rd_T35 y259 x5).f1, (rd_T35 y259 x5).f2, IntKind.u64.wrap (wrap64 ((wrap64 ((wrap64 (x1 + 1)) + 1)) + 1)), (rd_T35 y259 x5).f4, (rd_T35 y259 x5).f5⟩ : S35) : List (S35))).bind fun y260 => ((some (y260.set (x5 : Int).toNat (⟨(rd_T35 y260 x5).f0, (rd_T35 y260 x5).f1, (rd_T35 y260 x5).f2, (rd_T35 y260 x5).f3, wrap64 ((wrap64 ((wrap64 ((wrap64 (x1 + 1)) + 1)) + 1)) + 1), (rd_T35 y260 x5).f5⟩ : S35) : List (S35))).bind fun y261 => ((laws_markText.f k (wrap64 ((wrap64 ((wrap64 ((wrap64 ((wrap64 (x1 + 1)) + 1)) + 1)) + 1)) + 1))).bind fun t262 => (laws_markEntryS.l0 k (y261.set (x5 : Int).toNat (⟨(rd_T35 y261 x5).f0, (rd_T35 y261 x5).f1, (rd_T35 y261 x5).f2, (rd_T35 y261 x5).f3, (rd_T35 y261 x5).f4, t262⟩ : S35)) (wrap64 ((wrap64 ((wrap64 ((wrap64 ((wrap64 ((wrap64 (x1 + 1)) + 1)) + 1)) + 1)) + 1)) + 1)) (wrap64 (x5 + 1))))))))))) else (none))) else (some (x1, x0))
def laws_markEntryS.f (k : Nat) (l0 : List (S35)) (a1 : Int) : Option (Int × (List (S35))) := laws_markEntryS.l0 k l0 a1 0
set_option maxHeartbeats 8000000 in
set_option maxRecDepth 100000 in
theorem laws_markEntryS.calls (k : Nat) (P0_ : Nat → Prop) (u9000_ : Value) (l0 : List (S35)) (a1 : Int) (r1 : Int) (r2 : List (S35)) (w0 w : World) (hB : Below w0.heap.size w0 w) (ho0 : Kd.R k35 35 w w0.heap.size P0_ u9000_ l0) (h : laws_markEntryS.f k l0 a1 = some (r1, r2)) :
  Calls Try.prog 93 #[u9000_, .int .i64 a1] w fun e w' => e = .returned (.int .i64 r1) ∧ Kd.R k35 35 w' w0.heap.size (fun k_ => (P0_ k_ ∨ w.heap.size ≤ k_)) u9000_ r2 ∧ Below w0.heap.size w0 w' ∧ Kept w w' (fun k_ => P0_ k_) := by
 have HO0 := Aside0.mk (show Kd.R k35 35 w w0.heap.size (fun k_ => (P0_ k_ ∨ w.heap.size ≤ k_)) u9000_ l0 from Kd.R_mono ho0 (fun k_ hk => (.inl hk)))
 have HK := Aside0.mk (Kept.refl w (fun k_ => P0_ k_))
 have HW0 := Aside0.mk hB.size
 have HB := Aside0.mk hB
 clear hB
 have H : (laws_markEntryS.l0 k l0 a1 0) = some (r1, r2) := h
 clear h
 have H' := Aside0.mk H
 clear H
 go_enter Try.func93, Try.ntmps93
 go_wp2
 go_loopg [1, 5] k (fun kq v1 v5 w' => ∃ (x0_1 : List (S35)) (x1_1 : Int) (x5_1 : Int), v1 = .int .i64 x1_1 ∧ v5 = .int .i64 x5_1 ∧ Aside0 (laws_markEntryS.l0 kq x0_1 x1_1 x5_1 = some (r1, r2)) ∧ Aside0 (kq ≤ k) ∧ Aside0 (Kd.R k35 35 w' w0.heap.size (fun k_ => (P0_ k_ ∨ w.heap.size ≤ k_)) u9000_ x0_1) ∧ Aside0 (Kept w w' (fun k_ => P0_ k_)) ∧ Aside0 (Below w0.heap.size w0 w'))
 case atStart => exact ⟨(l0), (a1), (0), (by first | rfl | (simp; done) | (simp [*]; done)), (by first | rfl | (simp; done) | (simp [*]; done)), H', ⟨Nat.le_refl _⟩, ⟨lf HO0⟩, ⟨by repeat (first | (with_reducible first | exact HK.out | apply Kept.alloc | apply Kept.drewN | apply Kept.drew) | exact HK.out)⟩, ⟨bw⟩⟩
 case round =>
  clear H'
  try clear p2
  obtain ⟨x0_1, x1_1, x5_1, rfl, rfl, HA, HK1, HO_0, HK, HB⟩ := hrel
  cases gk with
  | zero => exact absurd HA.out (by simp [laws_markEntryS.l0])
  | succ k1 =>
   have H := HA.out
   clear HA
   simp only [laws_markEntryS.l0] at H
   by_cases c3 : x5_1 < (x0_1.length : Int)
   ·rw [if_pos c3] at H
    have c3b0 : decide (x5_1 < (x0_1.length : Int)) = true := decide_eq_true c3
    clear c3
    replace H := Option.bind_eq_some_iff.mp H
    obtain ⟨t254, A40, H⟩ := H
    replace H : (if 0 ≤ x5_1 then ((some (x0_1.set (x5_1 : Int).toNat (⟨t254, (rd_T35 x0_1 x5_1).f1, (rd_T35 x0_1 x5_1).f2, (rd_T35 x0_1 x5_1).f3, (rd_T35 x0_1 x5_1).f4, (rd_T35 x0_1 x5_1).f5⟩ : S35) : List (S35))).bind fun y255 => ((laws_markText.f k1 (wrap64 (x1_1 + 1))).bind fun t256 => ((some (y255.set (x5_1 : Int).toNat (⟨(rd_T35 y255 x5_1).f0, t256, (rd_T35 y255 x5_1).f2, (rd_T35 y255 x5_1).f3, (rd_T35 y255 x5_1).f4, (rd_T35 y255 x5_1).f5⟩ : S35) : List (S35))).bind fun y257 => ((laws_markText.f k1 (wrap64 ((wrap64 (x1_1 + 1)) + 1))).bind fun t258 => ((some (y257.set (x5_1 : Int).toNat (⟨(rd_T35 y257 x5_1).f0, (rd_T35 y257 x5_1).f1, t258, (rd_T35 y257 x5_1).f3, (rd_T35 y257 x5_1).f4, (rd_T35 y257 x5_1).f5⟩ : S35) : List (S35))).bind fun y259 => ((some (y259.set (x5_1 : Int).toNat (⟨(rd_T35 y259 x5_1).f0, (rd_T35 y259 x5_1).f1, (rd_T35 y259 x5_1).f2, IntKind.u64.wrap (wrap64 ((wrap64 ((wrap64 (x1_1 + 1)) + 1)) + 1)), (rd_T35 y259 x5_1).f4, (rd_T35 y259 x5_1).f5⟩ : S35) : List (S35))).bind fun y260 => ((some (y260.set (x5_1 : Int).toNat (⟨(rd_T35 y260 x5_1).f0, (rd_T35 y260 x5_1).f1, (rd_T35 y260 x5_1).f2, (rd_T35 y260 x5_1).f3, wrap64 ((wrap64 ((wrap64 ((wrap64 (x1_1 + 1)) + 1)) + 1)) + 1), (rd_T35 y260 x5_1).f5⟩ : S35) : List (S35))).bind fun y261 => ((laws_markText.f k1 (wrap64 ((wrap64 ((wrap64 ((wrap64 ((wrap64 (x1_1 + 1)) + 1)) + 1)) + 1)) + 1))).bind fun t262 => (laws_markEntryS.l0 k1 (y261.set (x5_1 : Int).toNat (⟨(rd_T35 y261 x5_1).f0, (rd_T35 y261 x5_1).f1, (rd_T35 y261 x5_1).f2, (rd_T35 y261 x5_1).f3, (rd_T35 y261 x5_1).f4, t262⟩ : S35)) (wrap64 ((wrap64 ((wrap64 ((wrap64 ((wrap64 ((wrap64 (x1_1 + 1)) + 1)) + 1)) + 1)) + 1)) + 1)) (wrap64 (x5_1 + 1))))))))))) else (none)) = some (r1, r2) := H
    have A4 := Aside0.mk A40
    clear A40
    by_cases c5 : 0 ≤ x5_1
    ·rw [if_pos c5] at H
     have c5b0 : decide (0 ≤ x5_1) = true := decide_eq_true c5
     clear c5
     obtain ⟨y255, hy255⟩ : ∃ y_ : List (S35), y_ = (x0_1.set (x5_1 : Int).toNat (⟨t254, (rd_T35 x0_1 x5_1).f1, (rd_T35 x0_1 x5_1).f2, (rd_T35 x0_1 x5_1).f3, (rd_T35 x0_1 x5_1).f4, (rd_T35 x0_1 x5_1).f5⟩ : S35)) := ⟨_, rfl⟩
     replace H : ((laws_markText.f k1 (wrap64 (x1_1 + 1))).bind fun t256 => ((some (y255.set (x5_1 : Int).toNat (⟨(rd_T35 y255 x5_1).f0, t256, (rd_T35 y255 x5_1).f2, (rd_T35 y255 x5_1).f3, (rd_T35 y255 x5_1).f4, (rd_T35 y255 x5_1).f5⟩ : S35) : List (S35))).bind fun y257 => ((laws_markText.f k1 (wrap64 ((wrap64 (x1_1 + 1)) + 1))).bind fun t258 => ((some (y257.set (x5_1 : Int).toNat (⟨(rd_T35 y257 x5_1).f0, (rd_T35 y257 x5_1).f1, t258, (rd_T35 y257 x5_1).f3, (rd_T35 y257 x5_1).f4, (rd_T35 y257 x5_1).f5⟩ : S35) : List (S35))).bind fun y259 => ((some (y259.set (x5_1 : Int).toNat (⟨(rd_T35 y259 x5_1).f0, (rd_T35 y259 x5_1).f1, (rd_T35 y259 x5_1).f2, IntKind.u64.wrap (wrap64 ((wrap64 ((wrap64 (x1_1 + 1)) + 1)) + 1)), (rd_T35 y259 x5_1).f4, (rd_T35 y259 x5_1).f5⟩ : S35) : List (S35))).bind fun y260 => ((some (y260.set (x5_1 : Int).toNat (⟨(rd_T35 y260 x5_1).f0, (rd_T35 y260 x5_1).f1, (rd_T35 y260 x5_1).f2, (rd_T35 y260 x5_1).f3, wrap64 ((wrap64 ((wrap64 ((wrap64 (x1_1 + 1)) + 1)) + 1)) + 1), (rd_T35 y260 x5_1).f5⟩ : S35) : List (S35))).bind fun y261 => ((laws_markText.f k1 (wrap64 ((wrap64 ((wrap64 ((wrap64 ((wrap64 (x1_1 + 1)) + 1)) + 1)) + 1)) + 1))).bind fun t262 => (laws_markEntryS.l0 k1 (y261.set (x5_1 : Int).toNat (⟨(rd_T35 y261 x5_1).f0, (rd_T35 y261 x5_1).f1, (rd_T35 y261 x5_1).f2, (rd_T35 y261 x5_1).f3, (rd_T35 y261 x5_1).f4, t262⟩ : S35)) (wrap64 ((wrap64 ((wrap64 ((wrap64 ((wrap64 ((wrap64 (x1_1 + 1)) + 1)) + 1)) + 1)) + 1)) + 1)) (wrap64 (x5_1 + 1)))))))))) = some (r1, r2) := by first | (rw [hy255]; with_reducible exact H) | (have H2_ := (Option.bind_some _ _).symm.trans H; rw [hy255]; with_reducible exact H2_) | (have H2_ := (Option.bind_some _ _).symm.trans H; with_reducible exact H2_) | with_reducible exact H | (rw [hy255]; exact H) | exact H
     have Ny255 := Aside0.mk hy255
     clear hy255
     replace H := Option.bind_eq_some_iff.mp H
     obtain ⟨t256, A70, H⟩ := H
     replace H : ((some (y255.set (x5_1 : Int).toNat (⟨(rd_T35 y255 x5_1).f0, t256, (rd_T35 y255 x5_1).f2, (rd_T35 y255 x5_1).f3, (rd_T35 y255 x5_1).f4, (rd_T35 y255 x5_1).f5⟩ : S35) : List (S35))).bind fun y257 => ((laws_markText.f k1 (wrap64 ((wrap64 (x1_1 + 1)) + 1))).bind fun t258 => ((some (y257.set (x5_1 : Int).toNat (⟨(rd_T35 y257 x5_1).f0, (rd_T35 y257 x5_1).f1, t258, (rd_T35 y257 x5_1).f3, (rd_T35 y257 x5_1).f4, (rd_T35 y257 x5_1).f5⟩ : S35) : List (S35))).bind fun y259 => ((some (y259.set (x5_1 : Int).toNat (⟨(rd_T35 y259 x5_1).f0, (rd_T35 y259 x5_1).f1, (rd_T35 y259 x5_1).f2, IntKind.u64.wrap (wrap64 ((wrap64 ((wrap64 (x1_1 + 1)) + 1)) + 1)), (rd_T35 y259 x5_1).f4, (rd_T35 y259 x5_1).f5⟩ : S35) : List (S35))).bind fun y260 => ((some (y260.set (x5_1 : Int).toNat (⟨(rd_T35 y260 x5_1).f0, (rd_T35 y260 x5_1).f1, (rd_T35 y260 x5_1).f2, (rd_T35 y260 x5_1).f3, wrap64 ((wrap64 ((wrap64 ((wrap64 (x1_1 + 1)) + 1)) + 1)) + 1), (rd_T35 y260 x5_1).f5⟩ : S35) : List (S35))).bind fun y261 => ((laws_markText.f k1 (wrap64 ((wrap64 ((wrap64 ((wrap64 ((wrap64 (x1_1 + 1)) + 1)) + 1)) + 1)) + 1))).bind fun t262 => (laws_markEntryS.l0 k1 (y261.set (x5_1 : Int).toNat (⟨(rd_T35 y261 x5_1).f0, (rd_T35 y261 x5_1).f1, (rd_T35 y261 x5_1).f2, (rd_T35 y261 x5_1).f3, (rd_T35 y261 x5_1).f4, t262⟩ : S35)) (wrap64 ((wrap64 ((wrap64 ((wrap64 ((wrap64 ((wrap64 (x1_1 + 1)) + 1)) + 1)) + 1)) + 1)) + 1)) (wrap64 (x5_1 + 1))))))))) = some (r1, r2) := H
     have A7 := Aside0.mk A70
     clear A70
     obtain ⟨y257, hy257⟩ : ∃ y_ : List (S35), y_ = (y255.set (x5_1 : Int).toNat (⟨(rd_T35 y255 x5_1).f0, t256, (rd_T35 y255 x5_1).f2, (rd_T35 y255 x5_1).f3, (rd_T35 y255 x5_1).f4, (rd_T35 y255 x5_1).f5⟩ : S35)) := ⟨_, rfl⟩
     replace H : ((laws_markText.f k1 (wrap64 ((wrap64 (x1_1 + 1)) + 1))).bind fun t258 => ((some (y257.set (x5_1 : Int).toNat (⟨(rd_T35 y257 x5_1).f0, (rd_T35 y257 x5_1).f1, t258, (rd_T35 y257 x5_1).f3, (rd_T35 y257 x5_1).f4, (rd_T35 y257 x5_1).f5⟩ : S35) : List (S35))).bind fun y259 => ((some (y259.set (x5_1 : Int).toNat (⟨(rd_T35 y259 x5_1).f0, (rd_T35 y259 x5_1).f1, (rd_T35 y259 x5_1).f2, IntKind.u64.wrap (wrap64 ((wrap64 ((wrap64 (x1_1 + 1)) + 1)) + 1)), (rd_T35 y259 x5_1).f4, (rd_T35 y259 x5_1).f5⟩ : S35) : List (S35))).bind fun y260 => ((some (y260.set (x5_1 : Int).toNat (⟨(rd_T35 y260 x5_1).f0, (rd_T35 y260 x5_1).f1, (rd_T35 y260 x5_1).f2, (rd_T35 y260 x5_1).f3, wrap64 ((wrap64 ((wrap64 ((wrap64 (x1_1 + 1)) + 1)) + 1)) + 1), (rd_T35 y260 x5_1).f5⟩ : S35) : List (S35))).bind fun y261 => ((laws_markText.f k1 (wrap64 ((wrap64 ((wrap64 ((wrap64 ((wrap64 (x1_1 + 1)) + 1)) + 1)) + 1)) + 1))).bind fun t262 => (laws_markEntryS.l0 k1 (y261.set (x5_1 : Int).toNat (⟨(rd_T35 y261 x5_1).f0, (rd_T35 y261 x5_1).f1, (rd_T35 y261 x5_1).f2, (rd_T35 y261 x5_1).f3, (rd_T35 y261 x5_1).f4, t262⟩ : S35)) (wrap64 ((wrap64 ((wrap64 ((wrap64 ((wrap64 ((wrap64 (x1_1 + 1)) + 1)) + 1)) + 1)) + 1)) + 1)) (wrap64 (x5_1 + 1)))))))) = some (r1, r2) := by first | (rw [hy257]; with_reducible exact H) | (have H2_ := (Option.bind_some _ _).symm.trans H; rw [hy257]; with_reducible exact H2_) | (have H2_ := (Option.bind_some _ _).symm.trans H; with_reducible exact H2_) | with_reducible exact H | (rw [hy257]; exact H) | exact H
     have Ny257 := Aside0.mk hy257
     clear hy257
     replace H := Option.bind_eq_some_iff.mp H
     obtain ⟨t258, A90, H⟩ := H
     replace H : ((some (y257.set (x5_1 : Int).toNat (⟨(rd_T35 y257 x5_1).f0, (rd_T35 y257 x5_1).f1, t258, (rd_T35 y257 x5_1).f3, (rd_T35 y257 x5_1).f4, (rd_T35 y257 x5_1).f5⟩ : S35) : List (S35))).bind fun y259 => ((some (y259.set (x5_1 : Int).toNat (⟨(rd_T35 y259 x5_1).f0, (rd_T35 y259 x5_1).f1, (rd_T35 y259 x5_1).f2, IntKind.u64.wrap (wrap64 ((wrap64 ((wrap64 (x1_1 + 1)) + 1)) + 1)), (rd_T35 y259 x5_1).f4, (rd_T35 y259 x5_1).f5⟩ : S35) : List (S35))).bind fun y260 => ((some (y260.set (x5_1 : Int).toNat (⟨(rd_T35 y260 x5_1).f0, (rd_T35 y260 x5_1).f1, (rd_T35 y260 x5_1).f2, (rd_T35 y260 x5_1).f3, wrap64 ((wrap64 ((wrap64 ((wrap64 (x1_1 + 1)) + 1)) + 1)) + 1), (rd_T35 y260 x5_1).f5⟩ : S35) : List (S35))).bind fun y261 => ((laws_markText.f k1 (wrap64 ((wrap64 ((wrap64 ((wrap64 ((wrap64 (x1_1 + 1)) + 1)) + 1)) + 1)) + 1))).bind fun t262 => (laws_markEntryS.l0 k1 (y261.set (x5_1 : Int).toNat (⟨(rd_T35 y261 x5_1).f0, (rd_T35 y261 x5_1).f1, (rd_T35 y261 x5_1).f2, (rd_T35 y261 x5_1).f3, (rd_T35 y261 x5_1).f4, t262⟩ : S35)) (wrap64 ((wrap64 ((wrap64 ((wrap64 ((wrap64 ((wrap64 (x1_1 + 1)) + 1)) + 1)) + 1)) + 1)) + 1)) (wrap64 (x5_1 + 1))))))) = some (r1, r2) := H
     have A9 := Aside0.mk A90
     clear A90
     obtain ⟨y259, hy259⟩ : ∃ y_ : List (S35), y_ = (y257.set (x5_1 : Int).toNat (⟨(rd_T35 y257 x5_1).f0, (rd_T35 y257 x5_1).f1, t258, (rd_T35 y257 x5_1).f3, (rd_T35 y257 x5_1).f4, (rd_T35 y257 x5_1).f5⟩ : S35)) := ⟨_, rfl⟩
     replace H : ((some (y259.set (x5_1 : Int).toNat (⟨(rd_T35 y259 x5_1).f0, (rd_T35 y259 x5_1).f1, (rd_T35 y259 x5_1).f2, IntKind.u64.wrap (wrap64 ((wrap64 ((wrap64 (x1_1 + 1)) + 1)) + 1)), (rd_T35 y259 x5_1).f4, (rd_T35 y259 x5_1).f5⟩ : S35) : List (S35))).bind fun y260 => ((some (y260.set (x5_1 : Int).toNat (⟨(rd_T35 y260 x5_1).f0, (rd_T35 y260 x5_1).f1, (rd_T35 y260 x5_1).f2, (rd_T35 y260 x5_1).f3, wrap64 ((wrap64 ((wrap64 ((wrap64 (x1_1 + 1)) + 1)) + 1)) + 1), (rd_T35 y260 x5_1).f5⟩ : S35) : List (S35))).bind fun y261 => ((laws_markText.f k1 (wrap64 ((wrap64 ((wrap64 ((wrap64 ((wrap64 (x1_1 + 1)) + 1)) + 1)) + 1)) + 1))).bind fun t262 => (laws_markEntryS.l0 k1 (y261.set (x5_1 : Int).toNat (⟨(rd_T35 y261 x5_1).f0, (rd_T35 y261 x5_1).f1, (rd_T35 y261 x5_1).f2, (rd_T35 y261 x5_1).f3, (rd_T35 y261 x5_1).f4, t262⟩ : S35)) (wrap64 ((wrap64 ((wrap64 ((wrap64 ((wrap64 ((wrap64 (x1_1 + 1)) + 1)) + 1)) + 1)) + 1)) + 1)) (wrap64 (x5_1 + 1)))))) = some (r1, r2) := by first | (rw [hy259]; with_reducible exact H) | (have H2_ := (Option.bind_some _ _).symm.trans H; rw [hy259]; with_reducible exact H2_) | (have H2_ := (Option.bind_some _ _).symm.trans H; with_reducible exact H2_) | with_reducible exact H | (rw [hy259]; exact H) | exact H
     have Ny259 := Aside0.mk hy259
     clear hy259
     obtain ⟨y260, hy260⟩ : ∃ y_ : List (S35), y_ = (y259.set (x5_1 : Int).toNat (⟨(rd_T35 y259 x5_1).f0, (rd_T35 y259 x5_1).f1, (rd_T35 y259 x5_1).f2, IntKind.u64.wrap (wrap64 ((wrap64 ((wrap64 (x1_1 + 1)) + 1)) + 1)), (rd_T35 y259 x5_1).f4, (rd_T35 y259 x5_1).f5⟩ : S35)) := ⟨_, rfl⟩
     replace H : ((some (y260.set (x5_1 : Int).toNat (⟨(rd_T35 y260 x5_1).f0, (rd_T35 y260 x5_1).f1, (rd_T35 y260 x5_1).f2, (rd_T35 y260 x5_1).f3, wrap64 ((wrap64 ((wrap64 ((wrap64 (x1_1 + 1)) + 1)) + 1)) + 1), (rd_T35 y260 x5_1).f5⟩ : S35) : List (S35))).bind fun y261 => ((laws_markText.f k1 (wrap64 ((wrap64 ((wrap64 ((wrap64 ((wrap64 (x1_1 + 1)) + 1)) + 1)) + 1)) + 1))).bind fun t262 => (laws_markEntryS.l0 k1 (y261.set (x5_1 : Int).toNat (⟨(rd_T35 y261 x5_1).f0, (rd_T35 y261 x5_1).f1, (rd_T35 y261 x5_1).f2, (rd_T35 y261 x5_1).f3, (rd_T35 y261 x5_1).f4, t262⟩ : S35)) (wrap64 ((wrap64 ((wrap64 ((wrap64 ((wrap64 ((wrap64 (x1_1 + 1)) + 1)) + 1)) + 1)) + 1)) + 1)) (wrap64 (x5_1 + 1))))) = some (r1, r2) := by first | (rw [hy260]; with_reducible exact H) | (have H2_ := (Option.bind_some _ _).symm.trans H; rw [hy260]; with_reducible exact H2_) | (have H2_ := (Option.bind_some _ _).symm.trans H; with_reducible exact H2_) | with_reducible exact H | (rw [hy260]; exact H) | exact H
     have Ny260 := Aside0.mk hy260
     clear hy260
     obtain ⟨y261, hy261⟩ : ∃ y_ : List (S35), y_ = (y260.set (x5_1 : Int).toNat (⟨(rd_T35 y260 x5_1).f0, (rd_T35 y260 x5_1).f1, (rd_T35 y260 x5_1).f2, (rd_T35 y260 x5_1).f3, wrap64 ((wrap64 ((wrap64 ((wrap64 (x1_1 + 1)) + 1)) + 1)) + 1), (rd_T35 y260 x5_1).f5⟩ : S35)) := ⟨_, rfl⟩
     replace H : ((laws_markText.f k1 (wrap64 ((wrap64 ((wrap64 ((wrap64 ((wrap64 (x1_1 + 1)) + 1)) + 1)) + 1)) + 1))).bind fun t262 => (laws_markEntryS.l0 k1 (y261.set (x5_1 : Int).toNat (⟨(rd_T35 y261 x5_1).f0, (rd_T35 y261 x5_1).f1, (rd_T35 y261 x5_1).f2, (rd_T35 y261 x5_1).f3, (rd_T35 y261 x5_1).f4, t262⟩ : S35)) (wrap64 ((wrap64 ((wrap64 ((wrap64 ((wrap64 ((wrap64 (x1_1 + 1)) + 1)) + 1)) + 1)) + 1)) + 1)) (wrap64 (x5_1 + 1)))) = some (r1, r2) := by first | (rw [hy261]; with_reducible exact H) | (have H2_ := (Option.bind_some _ _).symm.trans H; rw [hy261]; with_reducible exact H2_) | (have H2_ := (Option.bind_some _ _).symm.trans H; with_reducible exact H2_) | with_reducible exact H | (rw [hy261]; exact H) | exact H
     have Ny261 := Aside0.mk hy261
     clear hy261
     replace H := Option.bind_eq_some_iff.mp H
     obtain ⟨t262, A130, H⟩ := H
     replace H : (laws_markEntryS.l0 k1 (y261.set (x5_1 : Int).toNat (⟨(rd_T35 y261 x5_1).f0, (rd_T35 y261 x5_1).f1, (rd_T35 y261 x5_1).f2, (rd_T35 y261 x5_1).f3, (rd_T35 y261 x5_1).f4, t262⟩ : S35)) (wrap64 ((wrap64 ((wrap64 ((wrap64 ((wrap64 ((wrap64 (x1_1 + 1)) + 1)) + 1)) + 1)) + 1)) + 1)) (wrap64 (x5_1 + 1))) = some (r1, r2) := H
     have A13 := Aside0.mk A130
     clear A130
     obtain ⟨y263, hy263⟩ : ∃ y_ : List (S35), y_ = (y261.set (x5_1 : Int).toNat (⟨(rd_T35 y261 x5_1).f0, (rd_T35 y261 x5_1).f1, (rd_T35 y261 x5_1).f2, (rd_T35 y261 x5_1).f3, (rd_T35 y261 x5_1).f4, t262⟩ : S35)) := ⟨_, rfl⟩
     replace H : (laws_markEntryS.l0 k1 y263 (wrap64 ((wrap64 ((wrap64 ((wrap64 ((wrap64 ((wrap64 (x1_1 + 1)) + 1)) + 1)) + 1)) + 1)) + 1)) (wrap64 (x5_1 + 1))) = some (r1, r2) := by first | (rw [hy263]; with_reducible exact H) | (have H2_ := (Option.bind_some _ _).symm.trans H; rw [hy263]; with_reducible exact H2_) | (have H2_ := (Option.bind_some _ _).symm.trans H; with_reducible exact H2_) | with_reducible exact H | (rw [hy263]; exact H) | exact H
     have Ny263 := Aside0.mk hy263
     clear hy263
     have H' := Aside0.mk H
     clear H
     obtain ⟨Ao15, co15, eo15⟩ := Kd.R_slice HO_0.out
     subst eo15
     go_wp2_with (first | ((with_reducible refine at_fn (f := 100) rfl ?_); refine goesL_ (some 15) rfl rfl Try.func100 (by kernel_rfl) rfl #[.int .i64 x1_1] rfl (by (try simp only [List.map_toArray, List.map_cons, List.map_nil]); first | done | rfl | (simp only [List.length_drop, List.length_take]; rfl)) ?_; (with_reducible refine (laws_markText.calls k1 x1_1 t254 _ A4.out).mono ?_); rintro e w16 ⟨rfl, hb⟩; refine ⟨_, rfl, ?_⟩; have n0_ := Aside0.mk (Kd.R_below (lf HO_0) hb); have n1_ := Aside0.mk (Kept.below (S := (fun k_ => P0_ k_)) (by repeat (first | (with_reducible first | exact HK.out | apply Kept.alloc | apply Kept.drewN | apply Kept.drew) | exact HK.out)) hb); have n2_ := Aside0.mk (below_step bw hb); clear HO_0; clear HK; clear HB; have HO_0 := n0_; have HK := n1_; have HB := n2_; clear n0_ n1_ n2_; (try clear hb); (try clear hb2); (try clear hk); (try clear hi); have p6 : 0 ≤ (x5_1 : Int) := of_decide_eq_true (by first | (with_reducible assumption) | assumption); have q6 : (x5_1 : Int) < ((x0_1.length : Int) : Int) := of_decide_eq_true (by first | (with_reducible assumption) | assumption); obtain ⟨go6, co6, eo6, gb6, gl6, cl6, HG6⟩ := Kd.R_form HO_0.out (by omega); (first | cases eo6 | (injection eo6 with ea_ en_ ec_; (first | subst ea_ | (injection ea_ with ea_; subst ea_)); subst ec_; clear en_)); have GB6 := Aside0.mk gb6; have GG6 := Aside0.mk HG6; clear gb6 gl6 HG6; have HMgo6 := Aside0.mk (show (P0_ go6 ∨ w.heap.size ≤ go6) from (HO_0.out.1 _ rfl)); obtain ⟨ce6, hcl6, hM6, hcc6, hfr6⟩ := Kd.R_elem HO_0.out z35 (x5_1 : Int) p6 q6; obtain rfl := k35_openM hM6; have hx6_0 : w16.cell? ⟨go6, (x5_1 : Int).toNat * 6, none⟩ = some (.string ((rd_T35 x0_1 x5_1).f0)) := hcc6 0 _ rfl; have hx6_1 : w16.cell? ⟨go6, (x5_1 : Int).toNat * 6 + 1, none⟩ = some (.string ((rd_T35 x0_1 x5_1).f1)) := hcc6 1 _ rfl; have hx6_2 : w16.cell? ⟨go6, (x5_1 : Int).toNat * 6 + 2, none⟩ = some (.string ((rd_T35 x0_1 x5_1).f2)) := hcc6 2 _ rfl; have hx6_3 : w16.cell? ⟨go6, (x5_1 : Int).toNat * 6 + 3, none⟩ = some (.int .u64 ((rd_T35 x0_1 x5_1).f3)) := hcc6 3 _ rfl; have hx6_4 : w16.cell? ⟨go6, (x5_1 : Int).toNat * 6 + 4, none⟩ = some (.int .i64 ((rd_T35 x0_1 x5_1).f4)) := hcc6 4 _ rfl; have hx6_5 : w16.cell? ⟨go6, (x5_1 : Int).toNat * 6 + 5, none⟩ = some (.string ((rd_T35 x0_1 x5_1).f5)) := hcc6 5 _ rfl; have hf6_0 : w16.frozen? ⟨go6, (x5_1 : Int).toNat * 6, none⟩ = false := hfr6 0; have hf6_1 : w16.frozen? ⟨go6, (x5_1 : Int).toNat * 6 + 1, none⟩ = false := hfr6 1; have hf6_2 : w16.frozen? ⟨go6, (x5_1 : Int).toNat * 6 + 2, none⟩ = false := hfr6 2; have hf6_3 : w16.frozen? ⟨go6, (x5_1 : Int).toNat * 6 + 3, none⟩ = false := hfr6 3; have hf6_4 : w16.frozen? ⟨go6, (x5_1 : Int).toNat * 6 + 4, none⟩ = false := hfr6 4; have hf6_5 : w16.frozen? ⟨go6, (x5_1 : Int).toNat * 6 + 5, none⟩ = false := hfr6 5; clear hcl6 hcc6 hfr6 hM6; replace p6 := eq_true p6; replace q6 := eq_true q6; have HX17 := Aside0.mk (show Kd.R k35 35 w16 w0.heap.size (fun k_ => (P0_ k_ ∨ w.heap.size ≤ k_)) (.slice (some ⟨go6, 0, none⟩) x0_1.length co15) x0_1 from (lf HO_0)); obtain ⟨ce17, hcl17, hM17, hcc17, hfr17⟩ := Kd.R_elem HX17.out z35 (x5_1 : Int) (of_decide_eq_true (by first | (with_reducible assumption) | assumption)) (by have h_ : (x5_1 : Int) < ((x0_1.length : Int) : Int) := of_decide_eq_true (by first | (with_reducible assumption) | assumption); first | exact h_ | (have e_ := (Kd.R_reads' HO_0.out).1; omega) | simpa using h_); obtain rfl := k35_openM hM17; have HP17 := Kd.R_seg HX17.out (x5_1 : Int) (of_decide_eq_true (by first | (with_reducible assumption) | assumption)) (by have h_ : (x5_1 : Int) < ((x0_1.length : Int) : Int) := of_decide_eq_true (by first | (with_reducible assumption) | assumption); first | exact h_ | (have e_ := (Kd.R_reads' HO_0.out).1; omega) | simpa using h_) (seg := [.string t254]) (j := 0) hcl17 hcc17 (show 1 ≤ 6 from by decide) (x' := (⟨t254, (rd_T35 x0_1 x5_1).f1, (rd_T35 x0_1 x5_1).f2, (rd_T35 x0_1 x5_1).f3, (rd_T35 x0_1 x5_1).f4, (rd_T35 x0_1 x5_1).f5⟩ : S35)) (k35_mkM _ _ _ (⟨t254, (rd_T35 x0_1 x5_1).f1, (rd_T35 x0_1 x5_1).f2, (rd_T35 x0_1 x5_1).f3, (rd_T35 x0_1 x5_1).f4, (rd_T35 x0_1 x5_1).f5⟩ : S35) ) (fun _ hk => hk); have hx17_0 := hcc17 0 _ rfl; (try simp only [show (k35).sz = 6 from rfl, Nat.mul_one, Nat.add_zero] at hx17_0); have hf17_0 := hfr17 0; (try simp only [show (k35).sz = 6 from rfl, Nat.mul_one, Nat.add_zero] at hf17_0); clear hcl17 hcc17 hfr17 hM17) | ((with_reducible refine gate_store (t := 9) (p := 17) rfl ?_); refine store_event (t := 9) (p := 17) (v := ?vo_w18) (w1 := (w16.setCell ⟨go6, (x5_1 : Int).toNat * 6, none⟩ (.string t254))) ?hg ?ho ?hn ?hr ?_; (case ho => rfl); (case hg => rfl); (case hn => rfl); (case hr => first | (go_simp; done) | (go_simp; rfl)); intro w18 hw; have hg : w16.grownBy w18 (some go6) := (by rw [hw]; exact HP17.2); have hp_ : Kd.R k35 35 w18 w0.heap.size (fun k_ => (P0_ k_ ∨ w.heap.size ≤ k_)) (.slice (some ⟨go6, 0, none⟩) x0_1.length co15) y255 := (by rw [hw, Ny255.out]; exact HP17.1); clear HP17; have n0_ := Aside0.mk (hp_); have n1_ := Aside0.mk ((by rw [hw]; exact below_set (HB.out) GB6.out : Below w0.heap.size w0 w18)); have n2_ := Aside0.mk (Kept.of_grown (S := (fun k_ => P0_ k_)) hg (by repeat (first | (with_reducible first | exact HK.out | apply Kept.alloc | apply Kept.drewN | apply Kept.drew) | exact HK.out)) (fun k_ e_ => (HO_0.out.1 k_ e_))); clear HO_0; clear HB; clear HK; have HO_0 := n0_; have HB := n1_; have HK := n2_; clear n0_ n1_ n2_; clear hg hw hp_) | ((with_reducible refine at_fn (f := 100) rfl ?_); refine goesL_ (some 23) rfl rfl Try.func100 (by kernel_rfl) rfl #[.int .i64 (wrap64 (x1_1 + 1))] rfl (by (try simp only [List.map_toArray, List.map_cons, List.map_nil]); first | done | rfl | (simp only [List.length_drop, List.length_take]; rfl)) ?_; (with_reducible refine (laws_markText.calls k1 (wrap64 (x1_1 + 1)) t256 _ A7.out).mono ?_); rintro e w19 ⟨rfl, hb⟩; refine ⟨_, rfl, ?_⟩; have n0_ := Aside0.mk (Kd.R_below (lf HO_0) hb); have n1_ := Aside0.mk (Kept.below (S := (fun k_ => P0_ k_)) (by repeat (first | (with_reducible first | exact HK.out | apply Kept.alloc | apply Kept.drewN | apply Kept.drew) | exact HK.out)) hb); have n2_ := Aside0.mk (below_step bw hb); clear HO_0; clear HK; clear HB; have HO_0 := n0_; have HK := n1_; have HB := n2_; clear n0_ n1_ n2_; (try clear hb); (try clear hb2); (try clear hk); (try clear hi); have p8 : 0 ≤ (x5_1 : Int) := of_decide_eq_true (by first | (with_reducible assumption) | assumption); have q8 : (x5_1 : Int) < ((x0_1.length : Int) : Int) := of_decide_eq_true (by first | (with_reducible assumption) | assumption); obtain ⟨ce8, hcl8, hM8, hcc8, hfr8⟩ := Kd.R_elem HO_0.out z35 (x5_1 : Int) p8 q8; obtain rfl := k35_openM hM8; have hx8_0 : w19.cell? ⟨go6, (x5_1 : Int).toNat * 6, none⟩ = some (.string ((rd_T35 y255 x5_1).f0)) := hcc8 0 _ rfl; have hx8_1 : w19.cell? ⟨go6, (x5_1 : Int).toNat * 6 + 1, none⟩ = some (.string ((rd_T35 y255 x5_1).f1)) := hcc8 1 _ rfl; have hx8_2 : w19.cell? ⟨go6, (x5_1 : Int).toNat * 6 + 2, none⟩ = some (.string ((rd_T35 y255 x5_1).f2)) := hcc8 2 _ rfl; have hx8_3 : w19.cell? ⟨go6, (x5_1 : Int).toNat * 6 + 3, none⟩ = some (.int .u64 ((rd_T35 y255 x5_1).f3)) := hcc8 3 _ rfl; have hx8_4 : w19.cell? ⟨go6, (x5_1 : Int).toNat * 6 + 4, none⟩ = some (.int .i64 ((rd_T35 y255 x5_1).f4)) := hcc8 4 _ rfl; have hx8_5 : w19.cell? ⟨go6, (x5_1 : Int).toNat * 6 + 5, none⟩ = some (.string ((rd_T35 y255 x5_1).f5)) := hcc8 5 _ rfl; have hf8_0 : w19.frozen? ⟨go6, (x5_1 : Int).toNat * 6, none⟩ = false := hfr8 0; have hf8_1 : w19.frozen? ⟨go6, (x5_1 : Int).toNat * 6 + 1, none⟩ = false := hfr8 1; have hf8_2 : w19.frozen? ⟨go6, (x5_1 : Int).toNat * 6 + 2, none⟩ = false := hfr8 2; have hf8_3 : w19.frozen? ⟨go6, (x5_1 : Int).toNat * 6 + 3, none⟩ = false := hfr8 3; have hf8_4 : w19.frozen? ⟨go6, (x5_1 : Int).toNat * 6 + 4, none⟩ = false := hfr8 4; have hf8_5 : w19.frozen? ⟨go6, (x5_1 : Int).toNat * 6 + 5, none⟩ = false := hfr8 5; clear hcl8 hcc8 hfr8 hM8; replace p8 := eq_true p8; replace q8 := eq_true q8; have HX20 := Aside0.mk (show Kd.R k35 35 w19 w0.heap.size (fun k_ => (P0_ k_ ∨ w.heap.size ≤ k_)) (.slice (some ⟨go6, 0, none⟩) x0_1.length co15) y255 from (lf HO_0)); obtain ⟨ce20, hcl20, hM20, hcc20, hfr20⟩ := Kd.R_elem HX20.out z35 (x5_1 : Int) (of_decide_eq_true (by first | (with_reducible assumption) | assumption)) (by have h_ : (x5_1 : Int) < ((x0_1.length : Int) : Int) := of_decide_eq_true (by first | (with_reducible assumption) | assumption); first | exact h_ | (have e_ := (Kd.R_reads' HO_0.out).1; omega) | simpa using h_); obtain rfl := k35_openM hM20; have HP20 := Kd.R_seg HX20.out (x5_1 : Int) (of_decide_eq_true (by first | (with_reducible assumption) | assumption)) (by have h_ : (x5_1 : Int) < ((x0_1.length : Int) : Int) := of_decide_eq_true (by first | (with_reducible assumption) | assumption); first | exact h_ | (have e_ := (Kd.R_reads' HO_0.out).1; omega) | simpa using h_) (seg := [.string t256]) (j := 1) hcl20 hcc20 (show 2 ≤ 6 from by decide) (x' := (⟨(rd_T35 y255 x5_1).f0, t256, (rd_T35 y255 x5_1).f2, (rd_T35 y255 x5_1).f3, (rd_T35 y255 x5_1).f4, (rd_T35 y255 x5_1).f5⟩ : S35)) (k35_mkM _ _ _ (⟨(rd_T35 y255 x5_1).f0, t256, (rd_T35 y255 x5_1).f2, (rd_T35 y255 x5_1).f3, (rd_T35 y255 x5_1).f4, (rd_T35 y255 x5_1).f5⟩ : S35) ) (fun _ hk => hk); have hx20_1 := hcc20 1 _ rfl; (try simp only [show (k35).sz = 6 from rfl, Nat.mul_one, Nat.add_zero] at hx20_1); have hf20_1 := hfr20 1; (try simp only [show (k35).sz = 6 from rfl, Nat.mul_one, Nat.add_zero] at hf20_1); clear hcl20 hcc20 hfr20 hM20) | ((with_reducible refine gate_store (t := 9) (p := 25) rfl ?_); refine store_event (t := 9) (p := 25) (v := ?vo_w21) (w1 := (w19.setCell ⟨go6, (x5_1 : Int).toNat * 6 + 1, none⟩ (.string t256))) ?hg ?ho ?hn ?hr ?_; (case ho => rfl); (case hg => rfl); (case hn => rfl); (case hr => first | (go_simp; done) | (go_simp; rfl)); intro w21 hw; have hg : w19.grownBy w21 (some go6) := (by rw [hw]; exact HP20.2); have hp_ : Kd.R k35 35 w21 w0.heap.size (fun k_ => (P0_ k_ ∨ w.heap.size ≤ k_)) (.slice (some ⟨go6, 0, none⟩) x0_1.length co15) y257 := (by rw [hw, Ny257.out]; exact HP20.1); clear HP20; have n0_ := Aside0.mk (hp_); have n1_ := Aside0.mk ((by rw [hw]; exact below_set (HB.out) GB6.out : Below w0.heap.size w0 w21)); have n2_ := Aside0.mk (Kept.of_grown (S := (fun k_ => P0_ k_)) hg (by repeat (first | (with_reducible first | exact HK.out | apply Kept.alloc | apply Kept.drewN | apply Kept.drew) | exact HK.out)) (fun k_ e_ => (HO_0.out.1 k_ e_))); clear HO_0; clear HB; clear HK; have HO_0 := n0_; have HB := n1_; have HK := n2_; clear n0_ n1_ n2_; clear hg hw hp_) | ((with_reducible refine at_fn (f := 100) rfl ?_); refine goesL_ (some 31) rfl rfl Try.func100 (by kernel_rfl) rfl #[.int .i64 (wrap64 ((wrap64 (x1_1 + 1)) + 1))] rfl (by (try simp only [List.map_toArray, List.map_cons, List.map_nil]); first | done | rfl | (simp only [List.length_drop, List.length_take]; rfl)) ?_; (with_reducible refine (laws_markText.calls k1 (wrap64 ((wrap64 (x1_1 + 1)) + 1)) t258 _ A9.out).mono ?_); rintro e w22 ⟨rfl, hb⟩; refine ⟨_, rfl, ?_⟩; have n0_ := Aside0.mk (Kd.R_below (lf HO_0) hb); have n1_ := Aside0.mk (Kept.below (S := (fun k_ => P0_ k_)) (by repeat (first | (with_reducible first | exact HK.out | apply Kept.alloc | apply Kept.drewN | apply Kept.drew) | exact HK.out)) hb); have n2_ := Aside0.mk (below_step bw hb); clear HO_0; clear HK; clear HB; have HO_0 := n0_; have HK := n1_; have HB := n2_; clear n0_ n1_ n2_; (try clear hb); (try clear hb2); (try clear hk); (try clear hi); have p10 : 0 ≤ (x5_1 : Int) := of_decide_eq_true (by first | (with_reducible assumption) | assumption); have q10 : (x5_1 : Int) < ((x0_1.length : Int) : Int) := of_decide_eq_true (by first | (with_reducible assumption) | assumption); obtain ⟨ce10, hcl10, hM10, hcc10, hfr10⟩ := Kd.R_elem HO_0.out z35 (x5_1 : Int) p10 q10; obtain rfl := k35_openM hM10; have hx10_0 : w22.cell? ⟨go6, (x5_1 : Int).toNat * 6, none⟩ = some (.string ((rd_T35 y257 x5_1).f0)) := hcc10 0 _ rfl; have hx10_1 : w22.cell? ⟨go6, (x5_1 : Int).toNat * 6 + 1, none⟩ = some (.string ((rd_T35 y257 x5_1).f1)) := hcc10 1 _ rfl; have hx10_2 : w22.cell? ⟨go6, (x5_1 : Int).toNat * 6 + 2, none⟩ = some (.string ((rd_T35 y257 x5_1).f2)) := hcc10 2 _ rfl; have hx10_3 : w22.cell? ⟨go6, (x5_1 : Int).toNat * 6 + 3, none⟩ = some (.int .u64 ((rd_T35 y257 x5_1).f3)) := hcc10 3 _ rfl; have hx10_4 : w22.cell? ⟨go6, (x5_1 : Int).toNat * 6 + 4, none⟩ = some (.int .i64 ((rd_T35 y257 x5_1).f4)) := hcc10 4 _ rfl; have hx10_5 : w22.cell? ⟨go6, (x5_1 : Int).toNat * 6 + 5, none⟩ = some (.string ((rd_T35 y257 x5_1).f5)) := hcc10 5 _ rfl; have hf10_0 : w22.frozen? ⟨go6, (x5_1 : Int).toNat * 6, none⟩ = false := hfr10 0; have hf10_1 : w22.frozen? ⟨go6, (x5_1 : Int).toNat * 6 + 1, none⟩ = false := hfr10 1; have hf10_2 : w22.frozen? ⟨go6, (x5_1 : Int).toNat * 6 + 2, none⟩ = false := hfr10 2; have hf10_3 : w22.frozen? ⟨go6, (x5_1 : Int).toNat * 6 + 3, none⟩ = false := hfr10 3; have hf10_4 : w22.frozen? ⟨go6, (x5_1 : Int).toNat * 6 + 4, none⟩ = false := hfr10 4; have hf10_5 : w22.frozen? ⟨go6, (x5_1 : Int).toNat * 6 + 5, none⟩ = false := hfr10 5; clear hcl10 hcc10 hfr10 hM10; replace p10 := eq_true p10; replace q10 := eq_true q10; have HX23 := Aside0.mk (show Kd.R k35 35 w22 w0.heap.size (fun k_ => (P0_ k_ ∨ w.heap.size ≤ k_)) (.slice (some ⟨go6, 0, none⟩) x0_1.length co15) y257 from (lf HO_0)); obtain ⟨ce23, hcl23, hM23, hcc23, hfr23⟩ := Kd.R_elem HX23.out z35 (x5_1 : Int) (of_decide_eq_true (by first | (with_reducible assumption) | assumption)) (by have h_ : (x5_1 : Int) < ((x0_1.length : Int) : Int) := of_decide_eq_true (by first | (with_reducible assumption) | assumption); first | exact h_ | (have e_ := (Kd.R_reads' HO_0.out).1; omega) | simpa using h_); obtain rfl := k35_openM hM23; have HP23 := Kd.R_seg HX23.out (x5_1 : Int) (of_decide_eq_true (by first | (with_reducible assumption) | assumption)) (by have h_ : (x5_1 : Int) < ((x0_1.length : Int) : Int) := of_decide_eq_true (by first | (with_reducible assumption) | assumption); first | exact h_ | (have e_ := (Kd.R_reads' HO_0.out).1; omega) | simpa using h_) (seg := [.string t258]) (j := 2) hcl23 hcc23 (show 3 ≤ 6 from by decide) (x' := (⟨(rd_T35 y257 x5_1).f0, (rd_T35 y257 x5_1).f1, t258, (rd_T35 y257 x5_1).f3, (rd_T35 y257 x5_1).f4, (rd_T35 y257 x5_1).f5⟩ : S35)) (k35_mkM _ _ _ (⟨(rd_T35 y257 x5_1).f0, (rd_T35 y257 x5_1).f1, t258, (rd_T35 y257 x5_1).f3, (rd_T35 y257 x5_1).f4, (rd_T35 y257 x5_1).f5⟩ : S35) ) (fun _ hk => hk); have hx23_2 := hcc23 2 _ rfl; (try simp only [show (k35).sz = 6 from rfl, Nat.mul_one, Nat.add_zero] at hx23_2); have hf23_2 := hfr23 2; (try simp only [show (k35).sz = 6 from rfl, Nat.mul_one, Nat.add_zero] at hf23_2); clear hcl23 hcc23 hfr23 hM23) | ((with_reducible refine gate_store (t := 9) (p := 33) rfl ?_); refine store_event (t := 9) (p := 33) (v := ?vo_w24) (w1 := (w22.setCell ⟨go6, (x5_1 : Int).toNat * 6 + 2, none⟩ (.string t258))) ?hg ?ho ?hn ?hr ?_; (case ho => rfl); (case hg => rfl); (case hn => rfl); (case hr => first | (go_simp; done) | (go_simp; rfl)); intro w24 hw; have hg : w22.grownBy w24 (some go6) := (by rw [hw]; exact HP23.2); have hp_ : Kd.R k35 35 w24 w0.heap.size (fun k_ => (P0_ k_ ∨ w.heap.size ≤ k_)) (.slice (some ⟨go6, 0, none⟩) x0_1.length co15) y259 := (by rw [hw, Ny259.out]; exact HP23.1); clear HP23; have n0_ := Aside0.mk (hp_); have n1_ := Aside0.mk ((by rw [hw]; exact below_set (HB.out) GB6.out : Below w0.heap.size w0 w24)); have n2_ := Aside0.mk (Kept.of_grown (S := (fun k_ => P0_ k_)) hg (by repeat (first | (with_reducible first | exact HK.out | apply Kept.alloc | apply Kept.drewN | apply Kept.drew) | exact HK.out)) (fun k_ e_ => (HO_0.out.1 k_ e_))); clear HO_0; clear HB; clear HK; have HO_0 := n0_; have HB := n1_; have HK := n2_; clear n0_ n1_ n2_; clear hg hw hp_; have p11 : 0 ≤ (x5_1 : Int) := of_decide_eq_true (by first | (with_reducible assumption) | assumption); have q11 : (x5_1 : Int) < ((x0_1.length : Int) : Int) := of_decide_eq_true (by first | (with_reducible assumption) | assumption); obtain ⟨ce11, hcl11, hM11, hcc11, hfr11⟩ := Kd.R_elem HO_0.out z35 (x5_1 : Int) p11 q11; obtain rfl := k35_openM hM11; have hx11_0 : w24.cell? ⟨go6, (x5_1 : Int).toNat * 6, none⟩ = some (.string ((rd_T35 y259 x5_1).f0)) := hcc11 0 _ rfl; have hx11_1 : w24.cell? ⟨go6, (x5_1 : Int).toNat * 6 + 1, none⟩ = some (.string ((rd_T35 y259 x5_1).f1)) := hcc11 1 _ rfl; have hx11_2 : w24.cell? ⟨go6, (x5_1 : Int).toNat * 6 + 2, none⟩ = some (.string ((rd_T35 y259 x5_1).f2)) := hcc11 2 _ rfl; have hx11_3 : w24.cell? ⟨go6, (x5_1 : Int).toNat * 6 + 3, none⟩ = some (.int .u64 ((rd_T35 y259 x5_1).f3)) := hcc11 3 _ rfl; have hx11_4 : w24.cell? ⟨go6, (x5_1 : Int).toNat * 6 + 4, none⟩ = some (.int .i64 ((rd_T35 y259 x5_1).f4)) := hcc11 4 _ rfl; have hx11_5 : w24.cell? ⟨go6, (x5_1 : Int).toNat * 6 + 5, none⟩ = some (.string ((rd_T35 y259 x5_1).f5)) := hcc11 5 _ rfl; have hf11_0 : w24.frozen? ⟨go6, (x5_1 : Int).toNat * 6, none⟩ = false := hfr11 0; have hf11_1 : w24.frozen? ⟨go6, (x5_1 : Int).toNat * 6 + 1, none⟩ = false := hfr11 1; have hf11_2 : w24.frozen? ⟨go6, (x5_1 : Int).toNat * 6 + 2, none⟩ = false := hfr11 2; have hf11_3 : w24.frozen? ⟨go6, (x5_1 : Int).toNat * 6 + 3, none⟩ = false := hfr11 3; have hf11_4 : w24.frozen? ⟨go6, (x5_1 : Int).toNat * 6 + 4, none⟩ = false := hfr11 4; have hf11_5 : w24.frozen? ⟨go6, (x5_1 : Int).toNat * 6 + 5, none⟩ = false := hfr11 5; clear hcl11 hcc11 hfr11 hM11; replace p11 := eq_true p11; replace q11 := eq_true q11; have HX25 := Aside0.mk (show Kd.R k35 35 w24 w0.heap.size (fun k_ => (P0_ k_ ∨ w.heap.size ≤ k_)) (.slice (some ⟨go6, 0, none⟩) x0_1.length co15) y259 from (lf HO_0)); obtain ⟨ce25, hcl25, hM25, hcc25, hfr25⟩ := Kd.R_elem HX25.out z35 (x5_1 : Int) (of_decide_eq_true (by first | (with_reducible assumption) | assumption)) (by have h_ : (x5_1 : Int) < ((x0_1.length : Int) : Int) := of_decide_eq_true (by first | (with_reducible assumption) | assumption); first | exact h_ | (have e_ := (Kd.R_reads' HO_0.out).1; omega) | simpa using h_); obtain rfl := k35_openM hM25; have HP25 := Kd.R_seg HX25.out (x5_1 : Int) (of_decide_eq_true (by first | (with_reducible assumption) | assumption)) (by have h_ : (x5_1 : Int) < ((x0_1.length : Int) : Int) := of_decide_eq_true (by first | (with_reducible assumption) | assumption); first | exact h_ | (have e_ := (Kd.R_reads' HO_0.out).1; omega) | simpa using h_) (seg := [.int .u64 (IntKind.u64.wrap (wrap64 ((wrap64 ((wrap64 (x1_1 + 1)) + 1)) + 1)))]) (j := 3) hcl25 hcc25 (show 4 ≤ 6 from by decide) (x' := (⟨(rd_T35 y259 x5_1).f0, (rd_T35 y259 x5_1).f1, (rd_T35 y259 x5_1).f2, IntKind.u64.wrap (wrap64 ((wrap64 ((wrap64 (x1_1 + 1)) + 1)) + 1)), (rd_T35 y259 x5_1).f4, (rd_T35 y259 x5_1).f5⟩ : S35)) (k35_mkM _ _ _ (⟨(rd_T35 y259 x5_1).f0, (rd_T35 y259 x5_1).f1, (rd_T35 y259 x5_1).f2, IntKind.u64.wrap (wrap64 ((wrap64 ((wrap64 (x1_1 + 1)) + 1)) + 1)), (rd_T35 y259 x5_1).f4, (rd_T35 y259 x5_1).f5⟩ : S35) ) (fun _ hk => hk); have hx25_3 := hcc25 3 _ rfl; (try simp only [show (k35).sz = 6 from rfl, Nat.mul_one, Nat.add_zero] at hx25_3); have hf25_3 := hfr25 3; (try simp only [show (k35).sz = 6 from rfl, Nat.mul_one, Nat.add_zero] at hf25_3); clear hcl25 hcc25 hfr25 hM25) | ((with_reducible refine gate_store (t := 30) (p := 41) rfl ?_); refine store_event (t := 30) (p := 41) (v := ?vo_w26) (w1 := (w24.setCell ⟨go6, (x5_1 : Int).toNat * 6 + 3, none⟩ (.int .u64 (IntKind.u64.wrap (wrap64 ((wrap64 ((wrap64 (x1_1 + 1)) + 1)) + 1)))))) ?hg ?ho ?hn ?hr ?_; (case ho => rfl); (case hg => rfl); (case hn => rfl); (case hr => first | (go_simp; done) | (go_simp; rfl)); intro w26 hw; have hg : w24.grownBy w26 (some go6) := (by rw [hw]; exact HP25.2); have hp_ : Kd.R k35 35 w26 w0.heap.size (fun k_ => (P0_ k_ ∨ w.heap.size ≤ k_)) (.slice (some ⟨go6, 0, none⟩) x0_1.length co15) y260 := (by rw [hw, Ny260.out]; exact HP25.1); clear HP25; have n0_ := Aside0.mk (hp_); have n1_ := Aside0.mk ((by rw [hw]; exact below_set (HB.out) GB6.out : Below w0.heap.size w0 w26)); have n2_ := Aside0.mk (Kept.of_grown (S := (fun k_ => P0_ k_)) hg (by repeat (first | (with_reducible first | exact HK.out | apply Kept.alloc | apply Kept.drewN | apply Kept.drew) | exact HK.out)) (fun k_ e_ => (HO_0.out.1 k_ e_))); clear HO_0; clear HB; clear HK; have HO_0 := n0_; have HB := n1_; have HK := n2_; clear n0_ n1_ n2_; clear hg hw hp_; have p12 : 0 ≤ (x5_1 : Int) := of_decide_eq_true (by first | (with_reducible assumption) | assumption); have q12 : (x5_1 : Int) < ((x0_1.length : Int) : Int) := of_decide_eq_true (by first | (with_reducible assumption) | assumption); obtain ⟨ce12, hcl12, hM12, hcc12, hfr12⟩ := Kd.R_elem HO_0.out z35 (x5_1 : Int) p12 q12; obtain rfl := k35_openM hM12; have hx12_0 : w26.cell? ⟨go6, (x5_1 : Int).toNat * 6, none⟩ = some (.string ((rd_T35 y260 x5_1).f0)) := hcc12 0 _ rfl; have hx12_1 : w26.cell? ⟨go6, (x5_1 : Int).toNat * 6 + 1, none⟩ = some (.string ((rd_T35 y260 x5_1).f1)) := hcc12 1 _ rfl; have hx12_2 : w26.cell? ⟨go6, (x5_1 : Int).toNat * 6 + 2, none⟩ = some (.string ((rd_T35 y260 x5_1).f2)) := hcc12 2 _ rfl; have hx12_3 : w26.cell? ⟨go6, (x5_1 : Int).toNat * 6 + 3, none⟩ = some (.int .u64 ((rd_T35 y260 x5_1).f3)) := hcc12 3 _ rfl; have hx12_4 : w26.cell? ⟨go6, (x5_1 : Int).toNat * 6 + 4, none⟩ = some (.int .i64 ((rd_T35 y260 x5_1).f4)) := hcc12 4 _ rfl; have hx12_5 : w26.cell? ⟨go6, (x5_1 : Int).toNat * 6 + 5, none⟩ = some (.string ((rd_T35 y260 x5_1).f5)) := hcc12 5 _ rfl; have hf12_0 : w26.frozen? ⟨go6, (x5_1 : Int).toNat * 6, none⟩ = false := hfr12 0; have hf12_1 : w26.frozen? ⟨go6, (x5_1 : Int).toNat * 6 + 1, none⟩ = false := hfr12 1; have hf12_2 : w26.frozen? ⟨go6, (x5_1 : Int).toNat * 6 + 2, none⟩ = false := hfr12 2; have hf12_3 : w26.frozen? ⟨go6, (x5_1 : Int).toNat * 6 + 3, none⟩ = false := hfr12 3; have hf12_4 : w26.frozen? ⟨go6, (x5_1 : Int).toNat * 6 + 4, none⟩ = false := hfr12 4; have hf12_5 : w26.frozen? ⟨go6, (x5_1 : Int).toNat * 6 + 5, none⟩ = false := hfr12 5; clear hcl12 hcc12 hfr12 hM12; replace p12 := eq_true p12; replace q12 := eq_true q12; have HX27 := Aside0.mk (show Kd.R k35 35 w26 w0.heap.size (fun k_ => (P0_ k_ ∨ w.heap.size ≤ k_)) (.slice (some ⟨go6, 0, none⟩) x0_1.length co15) y260 from (lf HO_0)); obtain ⟨ce27, hcl27, hM27, hcc27, hfr27⟩ := Kd.R_elem HX27.out z35 (x5_1 : Int) (of_decide_eq_true (by first | (with_reducible assumption) | assumption)) (by have h_ : (x5_1 : Int) < ((x0_1.length : Int) : Int) := of_decide_eq_true (by first | (with_reducible assumption) | assumption); first | exact h_ | (have e_ := (Kd.R_reads' HO_0.out).1; omega) | simpa using h_); obtain rfl := k35_openM hM27; have HP27 := Kd.R_seg HX27.out (x5_1 : Int) (of_decide_eq_true (by first | (with_reducible assumption) | assumption)) (by have h_ : (x5_1 : Int) < ((x0_1.length : Int) : Int) := of_decide_eq_true (by first | (with_reducible assumption) | assumption); first | exact h_ | (have e_ := (Kd.R_reads' HO_0.out).1; omega) | simpa using h_) (seg := [.int .i64 (wrap64 ((wrap64 ((wrap64 ((wrap64 (x1_1 + 1)) + 1)) + 1)) + 1))]) (j := 4) hcl27 hcc27 (show 5 ≤ 6 from by decide) (x' := (⟨(rd_T35 y260 x5_1).f0, (rd_T35 y260 x5_1).f1, (rd_T35 y260 x5_1).f2, (rd_T35 y260 x5_1).f3, wrap64 ((wrap64 ((wrap64 ((wrap64 (x1_1 + 1)) + 1)) + 1)) + 1), (rd_T35 y260 x5_1).f5⟩ : S35)) (k35_mkM _ _ _ (⟨(rd_T35 y260 x5_1).f0, (rd_T35 y260 x5_1).f1, (rd_T35 y260 x5_1).f2, (rd_T35 y260 x5_1).f3, wrap64 ((wrap64 ((wrap64 ((wrap64 (x1_1 + 1)) + 1)) + 1)) + 1), (rd_T35 y260 x5_1).f5⟩ : S35) ) (fun _ hk => hk); have hx27_4 := hcc27 4 _ rfl; (try simp only [show (k35).sz = 6 from rfl, Nat.mul_one, Nat.add_zero] at hx27_4); have hf27_4 := hfr27 4; (try simp only [show (k35).sz = 6 from rfl, Nat.mul_one, Nat.add_zero] at hf27_4); clear hcl27 hcc27 hfr27 hM27) | ((with_reducible refine gate_store (t := 2) (p := 48) rfl ?_); refine store_event (t := 2) (p := 48) (v := ?vo_w28) (w1 := (w26.setCell ⟨go6, (x5_1 : Int).toNat * 6 + 4, none⟩ (.int .i64 (wrap64 ((wrap64 ((wrap64 ((wrap64 (x1_1 + 1)) + 1)) + 1)) + 1))))) ?hg ?ho ?hn ?hr ?_; (case ho => rfl); (case hg => rfl); (case hn => rfl); (case hr => first | (go_simp; done) | (go_simp; rfl)); intro w28 hw; have hg : w26.grownBy w28 (some go6) := (by rw [hw]; exact HP27.2); have hp_ : Kd.R k35 35 w28 w0.heap.size (fun k_ => (P0_ k_ ∨ w.heap.size ≤ k_)) (.slice (some ⟨go6, 0, none⟩) x0_1.length co15) y261 := (by rw [hw, Ny261.out]; exact HP27.1); clear HP27; have n0_ := Aside0.mk (hp_); have n1_ := Aside0.mk ((by rw [hw]; exact below_set (HB.out) GB6.out : Below w0.heap.size w0 w28)); have n2_ := Aside0.mk (Kept.of_grown (S := (fun k_ => P0_ k_)) hg (by repeat (first | (with_reducible first | exact HK.out | apply Kept.alloc | apply Kept.drewN | apply Kept.drew) | exact HK.out)) (fun k_ e_ => (HO_0.out.1 k_ e_))); clear HO_0; clear HB; clear HK; have HO_0 := n0_; have HB := n1_; have HK := n2_; clear n0_ n1_ n2_; clear hg hw hp_) | ((with_reducible refine at_fn (f := 100) rfl ?_); refine goesL_ (some 54) rfl rfl Try.func100 (by kernel_rfl) rfl #[.int .i64 (wrap64 ((wrap64 ((wrap64 ((wrap64 ((wrap64 (x1_1 + 1)) + 1)) + 1)) + 1)) + 1))] rfl (by (try simp only [List.map_toArray, List.map_cons, List.map_nil]); first | done | rfl | (simp only [List.length_drop, List.length_take]; rfl)) ?_; (with_reducible refine (laws_markText.calls k1 (wrap64 ((wrap64 ((wrap64 ((wrap64 ((wrap64 (x1_1 + 1)) + 1)) + 1)) + 1)) + 1)) t262 _ A13.out).mono ?_); rintro e w29 ⟨rfl, hb⟩; refine ⟨_, rfl, ?_⟩; have n0_ := Aside0.mk (Kd.R_below (lf HO_0) hb); have n1_ := Aside0.mk (Kept.below (S := (fun k_ => P0_ k_)) (by repeat (first | (with_reducible first | exact HK.out | apply Kept.alloc | apply Kept.drewN | apply Kept.drew) | exact HK.out)) hb); have n2_ := Aside0.mk (below_step bw hb); clear HO_0; clear HK; clear HB; have HO_0 := n0_; have HK := n1_; have HB := n2_; clear n0_ n1_ n2_; (try clear hb); (try clear hb2); (try clear hk); (try clear hi); have p14 : 0 ≤ (x5_1 : Int) := of_decide_eq_true (by first | (with_reducible assumption) | assumption); have q14 : (x5_1 : Int) < ((x0_1.length : Int) : Int) := of_decide_eq_true (by first | (with_reducible assumption) | assumption); obtain ⟨ce14, hcl14, hM14, hcc14, hfr14⟩ := Kd.R_elem HO_0.out z35 (x5_1 : Int) p14 q14; obtain rfl := k35_openM hM14; have hx14_0 : w29.cell? ⟨go6, (x5_1 : Int).toNat * 6, none⟩ = some (.string ((rd_T35 y261 x5_1).f0)) := hcc14 0 _ rfl; have hx14_1 : w29.cell? ⟨go6, (x5_1 : Int).toNat * 6 + 1, none⟩ = some (.string ((rd_T35 y261 x5_1).f1)) := hcc14 1 _ rfl; have hx14_2 : w29.cell? ⟨go6, (x5_1 : Int).toNat * 6 + 2, none⟩ = some (.string ((rd_T35 y261 x5_1).f2)) := hcc14 2 _ rfl; have hx14_3 : w29.cell? ⟨go6, (x5_1 : Int).toNat * 6 + 3, none⟩ = some (.int .u64 ((rd_T35 y261 x5_1).f3)) := hcc14 3 _ rfl; have hx14_4 : w29.cell? ⟨go6, (x5_1 : Int).toNat * 6 + 4, none⟩ = some (.int .i64 ((rd_T35 y261 x5_1).f4)) := hcc14 4 _ rfl; have hx14_5 : w29.cell? ⟨go6, (x5_1 : Int).toNat * 6 + 5, none⟩ = some (.string ((rd_T35 y261 x5_1).f5)) := hcc14 5 _ rfl; have hf14_0 : w29.frozen? ⟨go6, (x5_1 : Int).toNat * 6, none⟩ = false := hfr14 0; have hf14_1 : w29.frozen? ⟨go6, (x5_1 : Int).toNat * 6 + 1, none⟩ = false := hfr14 1; have hf14_2 : w29.frozen? ⟨go6, (x5_1 : Int).toNat * 6 + 2, none⟩ = false := hfr14 2; have hf14_3 : w29.frozen? ⟨go6, (x5_1 : Int).toNat * 6 + 3, none⟩ = false := hfr14 3; have hf14_4 : w29.frozen? ⟨go6, (x5_1 : Int).toNat * 6 + 4, none⟩ = false := hfr14 4; have hf14_5 : w29.frozen? ⟨go6, (x5_1 : Int).toNat * 6 + 5, none⟩ = false := hfr14 5; clear hcl14 hcc14 hfr14 hM14; replace p14 := eq_true p14; replace q14 := eq_true q14; have HX30 := Aside0.mk (show Kd.R k35 35 w29 w0.heap.size (fun k_ => (P0_ k_ ∨ w.heap.size ≤ k_)) (.slice (some ⟨go6, 0, none⟩) x0_1.length co15) y261 from (lf HO_0)); obtain ⟨ce30, hcl30, hM30, hcc30, hfr30⟩ := Kd.R_elem HX30.out z35 (x5_1 : Int) (of_decide_eq_true (by first | (with_reducible assumption) | assumption)) (by have h_ : (x5_1 : Int) < ((x0_1.length : Int) : Int) := of_decide_eq_true (by first | (with_reducible assumption) | assumption); first | exact h_ | (have e_ := (Kd.R_reads' HO_0.out).1; omega) | simpa using h_); obtain rfl := k35_openM hM30; have HP30 := Kd.R_seg HX30.out (x5_1 : Int) (of_decide_eq_true (by first | (with_reducible assumption) | assumption)) (by have h_ : (x5_1 : Int) < ((x0_1.length : Int) : Int) := of_decide_eq_true (by first | (with_reducible assumption) | assumption); first | exact h_ | (have e_ := (Kd.R_reads' HO_0.out).1; omega) | simpa using h_) (seg := [.string t262]) (j := 5) hcl30 hcc30 (show 6 ≤ 6 from by decide) (x' := (⟨(rd_T35 y261 x5_1).f0, (rd_T35 y261 x5_1).f1, (rd_T35 y261 x5_1).f2, (rd_T35 y261 x5_1).f3, (rd_T35 y261 x5_1).f4, t262⟩ : S35)) (k35_mkM _ _ _ (⟨(rd_T35 y261 x5_1).f0, (rd_T35 y261 x5_1).f1, (rd_T35 y261 x5_1).f2, (rd_T35 y261 x5_1).f3, (rd_T35 y261 x5_1).f4, t262⟩ : S35) ) (fun _ hk => hk); have hx30_5 := hcc30 5 _ rfl; (try simp only [show (k35).sz = 6 from rfl, Nat.mul_one, Nat.add_zero] at hx30_5); have hf30_5 := hfr30 5; (try simp only [show (k35).sz = 6 from rfl, Nat.mul_one, Nat.add_zero] at hf30_5); clear hcl30 hcc30 hfr30 hM30) | ((with_reducible refine gate_store (t := 9) (p := 56) rfl ?_); refine store_event (t := 9) (p := 56) (v := ?vo_w31) (w1 := (w29.setCell ⟨go6, (x5_1 : Int).toNat * 6 + 5, none⟩ (.string t262))) ?hg ?ho ?hn ?hr ?_; (case ho => rfl); (case hg => rfl); (case hn => rfl); (case hr => first | (go_simp; done) | (go_simp; rfl)); intro w31 hw; have hg : w29.grownBy w31 (some go6) := (by rw [hw]; exact HP30.2); have hp_ : Kd.R k35 35 w31 w0.heap.size (fun k_ => (P0_ k_ ∨ w.heap.size ≤ k_)) (.slice (some ⟨go6, 0, none⟩) x0_1.length co15) y263 := (by rw [hw, Ny263.out]; exact HP30.1); clear HP30; have n0_ := Aside0.mk (hp_); have n1_ := Aside0.mk ((by rw [hw]; exact below_set (HB.out) GB6.out : Below w0.heap.size w0 w31)); have n2_ := Aside0.mk (Kept.of_grown (S := (fun k_ => P0_ k_)) hg (by repeat (first | (with_reducible first | exact HK.out | apply Kept.alloc | apply Kept.drewN | apply Kept.drew) | exact HK.out)) (fun k_ e_ => (HO_0.out.1 k_ e_))); clear HO_0; clear HB; clear HK; have HO_0 := n0_; have HB := n1_; have HK := n2_; clear n0_ n1_ n2_; clear hg hw hp_))
     go_roundg k1
     case measure => have := HK1.out; omega
     case rel => exact ⟨(y263), (wrap64 ((wrap64 ((wrap64 ((wrap64 ((wrap64 ((wrap64 (x1_1 + 1)) + 1)) + 1)) + 1)) + 1)) + 1)), (wrap64 (x5_1 + 1)), (by first | rfl | (simp; done) | (simp [*]; done)), (by first | rfl | (simp; done) | (simp [*]; done)), H', ⟨by have := HK1.out; omega⟩, ⟨lf HO_0⟩, ⟨by repeat (first | (with_reducible first | exact HK.out | apply Kept.alloc | apply Kept.drewN | apply Kept.drew) | exact HK.out)⟩, ⟨bw⟩⟩
    ·rw [if_neg c5] at H
     exact absurd H (by simp)
   ·rw [if_neg c3] at H
    have c3b0 : decide (x5_1 < (x0_1.length : Int)) = false := decide_eq_false c3
    clear c3
    simp only [Option.some.injEq, Prod.mk.injEq] at H
    obtain ⟨rfl, rfl⟩ := H
    obtain ⟨Ao32, co32, eo32⟩ := Kd.R_slice HO_0.out
    subst eo32
    go_wp2
    go_ret
    exact ⟨by first | rfl | (simp [errW_none, errW_some] <;> rfl) | (simp [*, errW_none, errW_some] <;> rfl), lf HO_0, bw, by repeat (first | (with_reducible first | exact HK.out | apply Kept.alloc | apply Kept.drewN | apply Kept.drew) | exact HK.out)⟩

end Go.Proofs.Ytdknjbadnbangaa.Q

namespace Go.Proofs.Ytdknjbadnbangaa.Q
open Go.RowKit Go.Proofs.YtdknjbadnbangaaW.PrintWords Go.Proofs.YtdknjbadnbangaaW.PrintLast Go.Proofs.YtdknjbadnbangaaW.PrintMore
set_option linter.unusedVariables false
set_option linter.unusedSimpArgs false

/-! ### laws_markRun: function 56 -/
def laws_markRun.f (k : Nat) (l0_0 : List (S35)) (a1 : Int) : Option (Int × (List (S35))) := (laws_markEntryS.f k l0_0 a1).bind fun bt796 => (some (bt796.1, bt796.2))
set_option maxHeartbeats 8000000 in
set_option maxRecDepth 100000 in
theorem laws_markRun.calls (k : Nat) (P0_0_ : Nat → Prop) (u9000_ : Value) (l0_0 : List (S35)) (a1 : Int) (r1 : Int) (r2 : List (S35)) (w0 w : World) (hB : Below w0.heap.size w0 w) (ho0_0 : Kd.R k35 35 w w0.heap.size P0_0_ u9000_ l0_0) (h : laws_markRun.f k l0_0 a1 = some (r1, r2)) :
  Calls Try.prog 56 #[.agg #[u9000_], .int .i64 a1] w fun e w' => e = .returned (.int .i64 r1) ∧ Kd.R k35 35 w' w0.heap.size (fun k_ => (P0_0_ k_ ∨ w.heap.size ≤ k_)) u9000_ r2 ∧ Below w0.heap.size w0 w' ∧ Kept w w' (fun k_ => P0_0_ k_) := by
 have hu66 := Try.underlying66
 have HO0_0 := Aside0.mk (show Kd.R k35 35 w w0.heap.size (fun k_ => (P0_0_ k_ ∨ w.heap.size ≤ k_)) u9000_ l0_0 from Kd.R_mono ho0_0 (fun k_ hk => (.inl hk)))
 have HK := Aside0.mk (Kept.refl w (fun k_ => P0_0_ k_))
 have HW0 := Aside0.mk hB.size
 have HB := Aside0.mk hB
 clear hB
 have H : ((laws_markEntryS.f k l0_0 a1).bind fun bt796 => (some (bt796.1, bt796.2))) = some (r1, r2) := h
 clear h
 replace H := Option.bind_eq_some_iff.mp H
 obtain ⟨⟨t796, t797⟩, A30, H⟩ := H
 replace H : (some (t796, t797)) = some (r1, r2) := H
 have A3 := Aside0.mk A30
 clear A30
 simp only [Option.some.injEq, Prod.mk.injEq] at H
 obtain ⟨rfl, rfl⟩ := H
 obtain ⟨Ao4, co4, eo4⟩ := Kd.R_slice HO0_0.out
 subst eo4
 go_enter Try.func56, Try.ntmps56
 go_wp2_with (first | ((with_reducible refine gate_dst (N := 2) rfl ?_); refine box_event ?hg (N := 2) ?hd (cs := #[.slice Ao4 l0_0.length co4]) (t := 66) ?hr ?_; (case hd => rfl); (case hg => rfl); (case hr => first | (go_simp; done) | (go_simp; rfl)); intro gb795 hg w5 hbox hb; have n0_ := Aside0.mk (Kd.R_below (lf HO0_0) hb); have n1_ := Aside0.mk (Kept.below (S := (fun k_ => P0_0_ k_)) (by repeat (first | (with_reducible first | exact HK.out | apply Kept.alloc | apply Kept.drewN | apply Kept.drew) | exact HK.out)) hb); have n2_ := Aside0.mk (below_step bw hb); have n3_ := Aside0.mk (hbox); have n4_ := Aside0.mk ((by rw [hg]; exact (by first | exact HK.out.1 | exact (show Kept w _ (fun k_ => P0_0_ k_) from by repeat (first | (with_reducible first | exact HK.out | apply Kept.alloc | apply Kept.drewN | apply Kept.drew) | exact HK.out)).1) : w.heap.size ≤ gb795)); have n5_ := Aside0.mk ((by rw [hg]; exact (below_size bw) : w0.heap.size ≤ gb795)); clear HO0_0; clear HK; clear HB; have HO0_0 := n0_; have HK := n1_; have HB := n2_; have BK795 := n3_; have GW795 := n4_; have GE795 := n5_; clear n0_ n1_ n2_ n3_ n4_ n5_; clear hb hbox hg; have hcz6_0 : w5.cell? ⟨gb795, 0, none⟩ = some (.slice Ao4 l0_0.length co4) := (blk_cell BK795.out 0).trans rfl; have hfz6_0 := blk_frozen BK795.out 0) | ((with_reducible refine at_fn (f := 93) rfl ?_); refine goesL_ (some 8) rfl rfl Try.func93 (by kernel_rfl) rfl #[.slice Ao4 l0_0.length co4, .int .i64 a1] rfl (by (try simp only [List.map_toArray, List.map_cons, List.map_nil]); first | done | rfl | (simp only [List.length_drop, List.length_take]; rfl)) ?_; (with_reducible refine (laws_markEntryS.calls k (fun k_ => some k_ = (.slice Ao4 l0_0.length co4 : Value).ownBlock) (.slice Ao4 l0_0.length co4) l0_0 a1 t796 t797 w0 _ ?side1 ?side2 A3.out).mono ?_); (case side1 => repeat (first | (with_reducible first | exact HB.out | apply below_alloc | apply pw_below_drewN | apply below_drew1 | refine below_set ?_ GE795.out) | exact HB.out)); (case side2 => exact Kd.R_tight rfl HO0_0.out); rintro e w7 ⟨rfl, hy0, hb, hkp⟩; refine ⟨_, rfl, ?_⟩; have n0_ := Aside0.mk (Kd.R_reok rfl hy0 (fun k_ e_ => HO0_0.out.1 k_ e_)); have n1_ := Aside0.mk (blk_kept (lb BK795) hkp (fun hs_ => (fun e_ => (Kd.R_ne HO0_0.out BK795.out (by decide)) e_) hs_)); have n2_ := Aside0.mk (Kept.then_ (S := (fun k_ => P0_0_ k_)) (by repeat (first | (with_reducible first | exact HK.out | apply Kept.alloc | apply Kept.drewN | apply Kept.drew | refine Kept.setCell ?_ (.inr GW795.out) _) | exact HK.out)) hkp (fun k_ hs_ => (fun e_ => (HO0_0.out.1 k_ e_.symm)) hs_)); have n3_ := Aside0.mk (hb); clear HO0_0; clear BK795; clear HK; clear HB; have HO0_0 := n0_; have BK795 := n1_; have HK := n2_; have HB := n3_; clear n0_ n1_ n2_ n3_; (try clear hb); (try clear hkp); (try clear hy0)))
 go_ret
 exact ⟨by first | rfl | (simp [errW_none, errW_some] <;> rfl) | (simp [*, errW_none, errW_some] <;> rfl), lf HO0_0, bw, by repeat (first | (with_reducible first | exact HK.out | apply Kept.alloc | apply Kept.drewN | apply Kept.drew | refine Kept.setCell ?_ (.inr GW795.out) _) | exact HK.out)⟩

end Go.Proofs.Ytdknjbadnbangaa.Q

namespace Go.Proofs.Ytdknjbadnbangaa.Q
open Go.RowKit Go.Proofs.YtdknjbadnbangaaW.PrintWords Go.Proofs.YtdknjbadnbangaaW.PrintLast Go.Proofs.YtdknjbadnbangaaW.PrintMore
set_option linter.unusedVariables false
set_option linter.unusedSimpArgs false

/-! ### laws_markByteS: function 57 -/
def laws_markByteS.l0 : Nat → List Int → Int → Int → Option (Int × List Int)
 | 0, _, _, _ => none
 | k + 1, x0, x1, x5 => if x5 < (x0.length : Int) then (if 0 ≤ x5 then (laws_markByteS.l0 k (x0.set (x5 : Int).toNat ((x1) % 256)) (wrap64 (x1 + 1)) (wrap64 (x5 + 1))) else (none)) else (some (x1, x0))
def laws_markByteS.f (k : Nat) (l0 : List Int) (a1 : Int) : Option (Int × List Int) := laws_markByteS.l0 k l0 a1 0
set_option maxHeartbeats 8000000 in
set_option maxRecDepth 100000 in
theorem laws_markByteS.calls (k : Nat) (P0_ : Nat → Prop) (u9000_ : Value) (l0 : List Int) (a1 : Int) (r1 : Int) (r2 : List Int) (w0 w : World) (hB : Below w0.heap.size w0 w) (ho0 : Kd.R (Kd.int .u8) 5 w w0.heap.size P0_ u9000_ l0) (h : laws_markByteS.f k l0 a1 = some (r1, r2)) :
  Calls Try.prog 57 #[u9000_, .int .i64 a1] w fun e w' => e = .returned (.int .i64 r1) ∧ Kd.R (Kd.int .u8) 5 w' w0.heap.size (fun k_ => (P0_ k_ ∨ w.heap.size ≤ k_)) u9000_ r2 ∧ Below w0.heap.size w0 w' ∧ Kept w w' (fun k_ => P0_ k_) := by
 have HO0 := Aside0.mk (show Kd.R (Kd.int .u8) 5 w w0.heap.size (fun k_ => (P0_ k_ ∨ w.heap.size ≤ k_)) u9000_ l0 from Kd.R_mono ho0 (fun k_ hk => (.inl hk)))
 have HK := Aside0.mk (Kept.refl w (fun k_ => P0_ k_))
 have HW0 := Aside0.mk hB.size
 have HB := Aside0.mk hB
 clear hB
 have H : (laws_markByteS.l0 k l0 a1 0) = some (r1, r2) := h
 clear h
 have H' := Aside0.mk H
 clear H
 go_enter Try.func57, Try.ntmps57
 go_wp2
 go_loopg [1, 5] k (fun kq v1 v5 w' => ∃ (x0_1 : List Int) (x1_1 : Int) (x5_1 : Int), v1 = .int .i64 x1_1 ∧ v5 = .int .i64 x5_1 ∧ Aside0 (laws_markByteS.l0 kq x0_1 x1_1 x5_1 = some (r1, r2)) ∧ Aside0 (kq ≤ k) ∧ Aside0 (Kd.R (Kd.int .u8) 5 w' w0.heap.size (fun k_ => (P0_ k_ ∨ w.heap.size ≤ k_)) u9000_ x0_1) ∧ Aside0 (Kept w w' (fun k_ => P0_ k_)) ∧ Aside0 (Below w0.heap.size w0 w'))
 case atStart => exact ⟨(l0), (a1), (0), (by first | rfl | (simp; done) | (simp [*]; done)), (by first | rfl | (simp; done) | (simp [*]; done)), H', ⟨Nat.le_refl _⟩, ⟨lf HO0⟩, ⟨by repeat (first | (with_reducible first | exact HK.out | apply Kept.alloc | apply Kept.drewN | apply Kept.drew) | exact HK.out)⟩, ⟨bw⟩⟩
 case round =>
  clear H'
  try clear p2
  obtain ⟨x0_1, x1_1, x5_1, rfl, rfl, HA, HK1, HO_0, HK, HB⟩ := hrel
  cases gk with
  | zero => exact absurd HA.out (by simp [laws_markByteS.l0])
  | succ k1 =>
   have H := HA.out
   clear HA
   simp only [laws_markByteS.l0] at H
   by_cases c3 : x5_1 < (x0_1.length : Int)
   ·rw [if_pos c3] at H
    have c3b0 : decide (x5_1 < (x0_1.length : Int)) = true := decide_eq_true c3
    clear c3
    by_cases c4 : 0 ≤ x5_1
    ·rw [if_pos c4] at H
     have c4b0 : decide (0 ≤ x5_1) = true := decide_eq_true c4
     clear c4
     obtain ⟨y798, hy798⟩ : ∃ y_ : List Int, y_ = (x0_1.set (x5_1 : Int).toNat ((x1_1) % 256)) := ⟨_, rfl⟩
     replace H : (laws_markByteS.l0 k1 y798 (wrap64 (x1_1 + 1)) (wrap64 (x5_1 + 1))) = some (r1, r2) := by first | (rw [hy798]; with_reducible exact H) | (have H2_ := (Option.bind_some _ _).symm.trans H; rw [hy798]; with_reducible exact H2_) | (have H2_ := (Option.bind_some _ _).symm.trans H; with_reducible exact H2_) | with_reducible exact H | (rw [hy798]; exact H) | exact H
     have Ny798 := Aside0.mk hy798
     clear hy798
     have H' := Aside0.mk H
     clear H
     obtain ⟨Ao6, co6, eo6⟩ := Kd.R_slice HO_0.out
     subst eo6
     have p5 : 0 ≤ (x5_1 : Int) := of_decide_eq_true (by first | (with_reducible assumption) | assumption)
     have q5 : (x5_1 : Int) < ((x0_1.length : Int) : Int) := of_decide_eq_true (by first | (with_reducible assumption) | assumption)
     obtain ⟨go5, co5, eo5, gb5, gl5, cl5, HG5⟩ := Kd.R_form HO_0.out (by omega)
     (first | cases eo5 | (injection eo5 with ea_ en_ ec_; (first | subst ea_ | (injection ea_ with ea_; subst ea_)); subst ec_; clear en_))
     have GB5 := Aside0.mk gb5
     have GG5 := Aside0.mk HG5
     clear gb5 gl5 HG5
     have HMgo5 := Aside0.mk (show (P0_ go5 ∨ w.heap.size ≤ go5) from (HO_0.out.1 _ rfl))
     obtain ⟨hx5_0, hf5_0⟩ := Kd.R_celln 0 HO_0.out (x5_1 : Int) p5 q5
     replace p5 := eq_true p5
     replace q5 := eq_true q5
     have HP7 := Kd.R_putg HO_0.out (x5_1 : Int) ((x1_1) % 256)
     go_wp2_with (first | ((with_reducible refine gate_store (t := 5) (p := 16) rfl ?_); refine store_event (t := 5) (p := 16) (v := ?vo_w8) (w1 := (wr.setCell ⟨go5, (x5_1 : Int).toNat, none⟩ (.int .u8 ((x1_1) % 256)))) ?hg ?ho ?hn ?hr ?_; (case ho => rfl); (case hg => rfl); (case hn => rfl); (case hr => first | (go_simp; done) | (go_simp; rfl)); intro w8 hw; have hg : wr.grownBy w8 (some go5) := (by rw [hw]; exact HP7.2); have hp_ : Kd.R (Kd.int .u8) 5 w8 w0.heap.size (fun k_ => (P0_ k_ ∨ w.heap.size ≤ k_)) (.slice (some ⟨go5, 0, none⟩) x0_1.length co6) y798 := (by rw [hw, Ny798.out]; exact HP7.1); clear HP7; have n0_ := Aside0.mk (hp_); have n1_ := Aside0.mk ((by rw [hw]; exact below_set (HB.out) GB5.out : Below w0.heap.size w0 w8)); have n2_ := Aside0.mk (Kept.of_grown (S := (fun k_ => P0_ k_)) hg (by repeat (first | (with_reducible first | exact HK.out | apply Kept.alloc | apply Kept.drewN | apply Kept.drew) | exact HK.out)) (fun k_ e_ => (HO_0.out.1 k_ e_))); clear HO_0; clear HB; clear HK; have HO_0 := n0_; have HB := n1_; have HK := n2_; clear n0_ n1_ n2_; clear hg hw hp_))
     go_roundg k1
     case measure => have := HK1.out; omega
     case rel => exact ⟨(y798), (wrap64 (x1_1 + 1)), (wrap64 (x5_1 + 1)), (by first | rfl | (simp; done) | (simp [*]; done)), (by first | rfl | (simp; done) | (simp [*]; done)), H', ⟨by have := HK1.out; omega⟩, ⟨lf HO_0⟩, ⟨by repeat (first | (with_reducible first | exact HK.out | apply Kept.alloc | apply Kept.drewN | apply Kept.drew) | exact HK.out)⟩, ⟨bw⟩⟩
    ·rw [if_neg c4] at H
     exact absurd H (by simp)
   ·rw [if_neg c3] at H
    have c3b0 : decide (x5_1 < (x0_1.length : Int)) = false := decide_eq_false c3
    clear c3
    simp only [Option.some.injEq, Prod.mk.injEq] at H
    obtain ⟨rfl, rfl⟩ := H
    obtain ⟨Ao9, co9, eo9⟩ := Kd.R_slice HO_0.out
    subst eo9
    go_wp2
    go_ret
    exact ⟨by first | rfl | (simp [errW_none, errW_some] <;> rfl) | (simp [*, errW_none, errW_some] <;> rfl), lf HO_0, bw, by repeat (first | (with_reducible first | exact HK.out | apply Kept.alloc | apply Kept.drewN | apply Kept.drew) | exact HK.out)⟩

end Go.Proofs.Ytdknjbadnbangaa.Q

namespace Go.Proofs.Ytdknjbadnbangaa.Q
open Go.RowKit Go.Proofs.YtdknjbadnbangaaW.PrintWords Go.Proofs.YtdknjbadnbangaaW.PrintLast Go.Proofs.YtdknjbadnbangaaW.PrintMore
set_option linter.unusedVariables false
set_option linter.unusedSimpArgs false

/-! ### laws_heldByteS: function 58 -/
def laws_heldByteS.l0 : Nat → List Int → Int → Int → Option (Int)
 | 0, _, _, _ => none
 | k + 1, x0, x1, x5 => if x5 < (x0.length : Int) then (if 0 ≤ x5 then (if (rd x0 x5) = ((x1) % 256) then (laws_heldByteS.l0 k x0 (wrap64 (x1 + 1)) (wrap64 (x5 + 1))) else (some (-1))) else (none)) else (some x1)
def laws_heldByteS.f (k : Nat) (l0 : List Int) (a1 : Int) : Option (Int) := laws_heldByteS.l0 k l0 a1 0
set_option maxHeartbeats 8000000 in
set_option maxRecDepth 100000 in
theorem laws_heldByteS.calls (k : Nat) (A0 : Option Addr) (c0 : Nat) (l0 : List Int) (a1 : Int) (r : Int) (w : World) (hr0 : Kd.C (Kd.int .u8) w A0 l0.length l0) (hc0 : l0.length ≤ c0) (h : laws_heldByteS.f k l0 a1 = some r) :
  Calls Try.prog 58 #[.slice A0 l0.length c0, .int .i64 a1] w fun e w' => e = .returned (.int .i64 r) ∧ Drawn0 w w' := by
 have HR0 := Aside0.mk hr0
 have HC0 := Aside0.mk hc0
 clear hr0 hc0
 have H : (laws_heldByteS.l0 k l0 a1 0) = some r := h
 clear h
 have H' := Aside0.mk H
 clear H
 go_enter Try.func58, Try.ntmps58
 go_wp2
 go_loopg [1, 5] k (fun kq v1 v5 w' => ∃ (x1_1 : Int) (x5_1 : Int), v1 = .int .i64 x1_1 ∧ v5 = .int .i64 x5_1 ∧ Aside0 (laws_heldByteS.l0 kq l0 x1_1 x5_1 = some r) ∧ Aside0 (kq ≤ k) ∧ Drawn0 w w')
 case atStart => exact ⟨(a1), (0), (by first | rfl | (simp; done) | (simp [*]; done)), (by first | rfl | (simp; done) | (simp [*]; done)), H', ⟨Nat.le_refl _⟩, by repeat (first | exact Drawn0.refl _ | apply Drawn0.step)⟩
 case round =>
  clear H'
  try clear p2
  obtain ⟨x1_1, x5_1, rfl, rfl, HA, HK1, ⟨m1, rfl⟩⟩ := hrel
  cases gk with
  | zero => exact absurd HA.out (by simp [laws_heldByteS.l0])
  | succ k1 =>
   have H := HA.out
   clear HA
   simp only [laws_heldByteS.l0] at H
   by_cases c3 : x5_1 < (l0.length : Int)
   ·rw [if_pos c3] at H
    have c3b0 : decide (x5_1 < (l0.length : Int)) = true := decide_eq_true c3
    clear c3
    by_cases c4 : 0 ≤ x5_1
    ·rw [if_pos c4] at H
     have c4b0 : decide (0 ≤ x5_1) = true := decide_eq_true c4
     clear c4
     by_cases c5 : (rd l0 x5_1) = ((x1_1) % 256)
     ·rw [if_pos c5] at H
      have c5b0 : ((rd l0 x5_1) == ((x1_1) % 256)) = true := beq_iff_eq.mpr c5
      have c5b1 : ((rd l0 x5_1) != ((x1_1) % 256)) = false := bne_eq_false_iff_eq.mpr c5
      clear c5
      have H' := Aside0.mk H
      clear H
      have p799 : 0 ≤ (x5_1 : Int) := of_decide_eq_true (by first | (with_reducible assumption) | assumption)
      have q799 : x5_1 < (l0.length : Int) := of_decide_eq_true (by first | (with_reducible assumption) | assumption)
      obtain ⟨ad799, e799, hx799_0⟩ := Kd.at_int HR0.out x5_1 p799 q799
      cases e799
      replace p799 := eq_true p799
      replace q799 := eq_true q799
      go_wp2
      go_roundg k1
      case measure => have := HK1.out; omega
      case rel => exact ⟨(wrap64 (x1_1 + 1)), (wrap64 (x5_1 + 1)), (by first | rfl | (simp; done) | (simp [*]; done)), (by first | rfl | (simp; done) | (simp [*]; done)), H', ⟨by have := HK1.out; omega⟩, by repeat (first | exact Drawn0.refl _ | apply Drawn0.step)⟩
     ·rw [if_neg c5] at H
      have c5b0 : ((rd l0 x5_1) == ((x1_1) % 256)) = false := beq_eq_false_iff_ne.mpr c5
      have c5b1 : ((rd l0 x5_1) != ((x1_1) % 256)) = true := bne_iff_ne.mpr c5
      obtain rfl := Option.some.inj H
      have p799 : 0 ≤ (x5_1 : Int) := of_decide_eq_true (by first | (with_reducible assumption) | assumption)
      have q799 : x5_1 < (l0.length : Int) := of_decide_eq_true (by first | (with_reducible assumption) | assumption)
      obtain ⟨ad799, e799, hx799_0⟩ := Kd.at_int HR0.out x5_1 p799 q799
      cases e799
      replace p799 := eq_true p799
      replace q799 := eq_true q799
      go_wp2
      go_ret
      exact ⟨by first | rfl | (simp; done) | (simp [*]; done), by repeat (first | exact Drawn0.refl _ | apply Drawn0.step)⟩
    ·rw [if_neg c4] at H
     exact absurd H (by simp)
   ·rw [if_neg c3] at H
    have c3b0 : decide (x5_1 < (l0.length : Int)) = false := decide_eq_false c3
    clear c3
    obtain rfl := Option.some.inj H
    go_wp2
    go_ret
    exact ⟨by first | rfl | (simp; done) | (simp [*]; done), by repeat (first | exact Drawn0.refl _ | apply Drawn0.step)⟩

end Go.Proofs.Ytdknjbadnbangaa.Q
