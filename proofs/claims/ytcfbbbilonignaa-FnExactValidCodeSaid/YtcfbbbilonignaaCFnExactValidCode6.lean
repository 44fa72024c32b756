/- FnExactValidCode: the row of the law: its arguments opened, its walk, its statement over lists (PrFnExactValidCode). No condition. -/
import Derived.Test.YtcfbbbilonignaaCFnExactValidCode5
import Derived.Test.YtcfbbbilonignaaRows
import Derived.WalkKit
import Derived.ProofKit
import Derived.OpenShut
import Derived.ShutString
import Derived.ChangeOld
import Derived.Below
import Derived.SizedLaws

namespace Go.Proofs.Ytcfbbbilonignaa.Q
open Go.RowKit Go.Proofs.YtcfbbbilonignaaW.PrintWords Go.Proofs.YtcfbbbilonignaaW.PrintLast Go.Proofs.YtcfbbbilonignaaW.PrintMore
set_option linter.unusedVariables false
set_option linter.unusedSimpArgs false

/-! ### laws_FnExactValidCode: function 5 -/
noncomputable def laws_FnExactValidCode.f (k : Nat) (l0_0 : List (S48)) (l0_1 : List (S167)) (a0_2 : Int) : Option (Bool) := (laws_szCode.f k l0_0 l0_1 a0_2 1048576).bind fun t640 => (if t640 < 0 then (some true) else ((laws_toCode.f k l0_0 l0_1 a0_2).bind fun bt641 => ((spec_ValidCode.f bt641.1 bt641.2.1 bt641.2.2).bind fun t648 => ((laws_toCode.f k l0_0 l0_1 a0_2).bind fun bt649 => ((impl_ValidCode.f bt649.1 bt649.2.1 bt649.2.2).bind fun t657 => (if (t657 != t648) = true then (some false) else ((laws_toCode.f k l0_0 l0_1 a0_2).bind fun bt658 => ((laws_eqCode.f k bt649.1 bt649.2.1 bt649.2.2 bt658.1 bt658.2.1 bt658.2.2).bind fun t665 => (if t665 = true then (some true) else (some false))))))))))
set_option maxHeartbeats 8000000 in
set_option maxRecDepth 100000 in
theorem laws_FnExactValidCode.calls (k : Nat) (A0_0 : Option Addr) (c0_0 : Nat) (l0_0 : List (S48)) (A0_1 : Option Addr) (c0_1 : Nat) (l0_1 : List (S167)) (a0_2 : Int) (r : Bool) (w : World) (hr0_0 : Kd.C k48 w A0_0 l0_0.length l0_0) (hc0_0 : l0_0.length ≤ c0_0) (hr0_1 : Kd.C k167 w A0_1 l0_1.length l0_1) (hc0_1 : l0_1.length ≤ c0_1) (h : laws_FnExactValidCode.f k l0_0 l0_1 a0_2 = some r) :
  Calls Try.prog 5 #[.agg #[.slice A0_0 l0_0.length c0_0, .slice A0_1 l0_1.length c0_1, .int .i64 a0_2]] w fun e w' => e = .returned (.bool r) ∧ Below w.heap.size w w' := by
 have hu50 := Try.underlying50
 have hu58 := Try.underlying58
 have HR0_0 := Aside0.mk hr0_0
 have HC0_0 := Aside0.mk hc0_0
 clear hr0_0 hc0_0
 have HR0_1 := Aside0.mk hr0_1
 have HC0_1 := Aside0.mk hc0_1
 clear hr0_1 hc0_1
 have HB := Aside0.mk (Below.refl w.heap.size w)
 have H : ((laws_szCode.f k l0_0 l0_1 a0_2 1048576).bind fun t640 => (if t640 < 0 then (some true) else ((laws_toCode.f k l0_0 l0_1 a0_2).bind fun bt641 => ((spec_ValidCode.f bt641.1 bt641.2.1 bt641.2.2).bind fun t648 => ((laws_toCode.f k l0_0 l0_1 a0_2).bind fun bt649 => ((impl_ValidCode.f bt649.1 bt649.2.1 bt649.2.2).bind fun t657 => (if (t657 != t648) = true then (some false) else ((laws_toCode.f k l0_0 l0_1 a0_2).bind fun bt658 => ((laws_eqCode.f k bt649.1 bt649.2.1 bt649.2.2 bt658.1 bt658.2.1 bt658.2.2).bind fun t665 => (if t665 = true then (some true) else (some false))))))))))) = some r := h
 clear h
 replace H := Option.bind_eq_some_iff.mp H
 obtain ⟨t640, A20, H⟩ := H
 replace H : (if t640 < 0 then (some true) else ((laws_toCode.f k l0_0 l0_1 a0_2).bind fun bt641 => ((spec_ValidCode.f bt641.1 bt641.2.1 bt641.2.2).bind fun t648 => ((laws_toCode.f k l0_0 l0_1 a0_2).bind fun bt649 => ((impl_ValidCode.f bt649.1 bt649.2.1 bt649.2.2).bind fun t657 => (if (t657 != t648) = true then (some false) else ((laws_toCode.f k l0_0 l0_1 a0_2).bind fun bt658 => ((laws_eqCode.f k bt649.1 bt649.2.1 bt649.2.2 bt658.1 bt658.2.1 bt658.2.2).bind fun t665 => (if t665 = true then (some true) else (some false)))))))))) = some r := H
 have A2 := Aside0.mk A20
 clear A20
 by_cases c3 : t640 < 0
 ·rw [if_pos c3] at H
  have c3b0 : decide (t640 < 0) = true := decide_eq_true c3
  clear c3
  obtain rfl := Option.some.inj H
  go_enter Try.func5, Try.ntmps5
  go_wp2_with (first | ((with_reducible refine gate_dst (N := 1) rfl ?_); refine box_event ?hg (N := 1) ?hd (cs := #[.slice A0_0 l0_0.length c0_0, .slice A0_1 l0_1.length c0_1, .int .i64 a0_2]) (t := 50) ?hr ?_; (case hd => rfl); (case hg => rfl); (case hr => first | (go_simp; done) | (go_simp; rfl)); intro gb639 hg w4 hbox hb; have n0_ := Aside0.mk (below_step bw hb); have n1_ := Aside0.mk (hbox); have n2_ := Aside0.mk ((by rw [hg]; exact (below_size bw) : w.heap.size ≤ gb639)); have n3_ := Aside0.mk ((by rw [hg]; exact (below_size bw) : w.heap.size ≤ gb639)); clear HB; have HB := n0_; have BK639 := n1_; have GW639 := n2_; have GE639 := n3_; clear n0_ n1_ n2_ n3_; clear hb hbox hg; have hcz5_0 : w4.cell? ⟨gb639, 0, none⟩ = some (.slice A0_0 l0_0.length c0_0) := (blk_cell BK639.out 0).trans rfl; have hcz5_1 : w4.cell? ⟨gb639, 1, none⟩ = some (.slice A0_1 l0_1.length c0_1) := (blk_cell BK639.out 1).trans rfl; have hcz5_2 : w4.cell? ⟨gb639, 2, none⟩ = some (.int .i64 a0_2) := (blk_cell BK639.out 2).trans rfl; have hfz5_0 := blk_frozen BK639.out 0; have hfz5_1 := blk_frozen BK639.out 1; have hfz5_2 := blk_frozen BK639.out 2) | ((with_reducible refine at_fn (f := 18) rfl ?_); refine goesL_ (some 9) rfl rfl Try.func18 (by kernel_rfl) rfl #[.agg #[.slice A0_0 l0_0.length c0_0, .slice A0_1 l0_1.length c0_1, .int .i64 a0_2], .int .i64 1048576] rfl (by (try simp only [List.map_toArray, List.map_cons, List.map_nil]); first | done | rfl | (simp only [List.length_drop, List.length_take]; rfl)) ?_; (with_reducible refine (laws_szCode.calls k _ _ l0_0 _ _ l0_1 a0_2 1048576 t640 _ ?side1 ?side2 ?side3 ?side4 A2.out).mono ?_); (case side1 => repeat (first | exact (Kd.C_below HR0_0.out HB.out) | (with_reducible refine Kd.C_alloc ?_ _) | (with_reducible refine Kd.C_drewN ?_ _) | (with_reducible refine Kd.C_drew ?_))); (case side2 => exact HC0_0.out); (case side3 => repeat (first | exact (Kd.C_below HR0_1.out HB.out) | (with_reducible refine Kd.C_alloc ?_ _) | (with_reducible refine Kd.C_drewN ?_ _) | (with_reducible refine Kd.C_drew ?_))); (case side4 => exact HC0_1.out); rintro e w6 ⟨rfl, hb⟩; refine ⟨_, rfl, ?_⟩; have n0_ := Aside0.mk (blk_below (g := gb639) (o := .cells #[.slice A0_0 l0_0.length c0_0, .slice A0_1 l0_1.length c0_1, .int .i64 a0_2] 50 (0, 0)) (lb BK639) hb); have n1_ := Aside0.mk (below_step bw hb); clear BK639; clear HB; have BK639 := n0_; have HB := n1_; clear n0_ n1_; (try clear hb); (try clear hb2); (try clear hk); (try clear hi)))
  go_ret
  exact ⟨by first | rfl | (simp [errW_none, errW_some] <;> rfl) | (simp [*, errW_none, errW_some] <;> rfl), bw⟩
 ·rw [if_neg c3] at H
  have c3b0 : decide (t640 < 0) = false := decide_eq_false c3
  clear c3
  replace H := Option.bind_eq_some_iff.mp H
  obtain ⟨⟨t641, t644, t647⟩, A70, H⟩ := H
  replace H : ((spec_ValidCode.f t641 t644 t647).bind fun t648 => ((laws_toCode.f k l0_0 l0_1 a0_2).bind fun bt649 => ((impl_ValidCode.f bt649.1 bt649.2.1 bt649.2.2).bind fun t657 => (if (t657 != t648) = true then (some false) else ((laws_toCode.f k l0_0 l0_1 a0_2).bind fun bt658 => ((laws_eqCode.f k bt649.1 bt649.2.1 bt649.2.2 bt658.1 bt658.2.1 bt658.2.2).bind fun t665 => (if t665 = true then (some true) else (some false)))))))) = some r := H
  have A7 := Aside0.mk A70
  clear A70
  replace H := Option.bind_eq_some_iff.mp H
  obtain ⟨t648, A80, H⟩ := H
  replace H : ((laws_toCode.f k l0_0 l0_1 a0_2).bind fun bt649 => ((impl_ValidCode.f bt649.1 bt649.2.1 bt649.2.2).bind fun t657 => (if (t657 != t648) = true then (some false) else ((laws_toCode.f k l0_0 l0_1 a0_2).bind fun bt658 => ((laws_eqCode.f k bt649.1 bt649.2.1 bt649.2.2 bt658.1 bt658.2.1 bt658.2.2).bind fun t665 => (if t665 = true then (some true) else (some false))))))) = some r := H
  have A8 := Aside0.mk A80
  clear A80
  replace H := Option.bind_eq_some_iff.mp H
  obtain ⟨⟨t649, t652, t655⟩, A90, H⟩ := H
  replace H : ((impl_ValidCode.f t649 t652 t655).bind fun t657 => (if (t657 != t648) = true then (some false) else ((laws_toCode.f k l0_0 l0_1 a0_2).bind fun bt658 => ((laws_eqCode.f k t649 t652 t655 bt658.1 bt658.2.1 bt658.2.2).bind fun t665 => (if t665 = true then (some true) else (some false)))))) = some r := H
  have A9 := Aside0.mk A90
  clear A90
  replace H := Option.bind_eq_some_iff.mp H
  obtain ⟨t657, A100, H⟩ := H
  replace H : (if (t657 != t648) = true then (some false) else ((laws_toCode.f k l0_0 l0_1 a0_2).bind fun bt658 => ((laws_eqCode.f k t649 t652 t655 bt658.1 bt658.2.1 bt658.2.2).bind fun t665 => (if t665 = true then (some true) else (some false))))) = some r := H
  have A10 := Aside0.mk A100
  clear A100
  by_cases c11 : (t657 != t648) = true
  ·rw [if_pos c11] at H
   have c11b0 : (t657 != t648) = true := c11
   (try (have c11b1 : decide (t657 = t648) = false := by simpa using c11))
   (try (have c11b2 : (t657 == t648) = false := by simpa using c11))
   (try (have c11b3 : ¬ (t657 = t648) := by simpa using c11))
   clear c11
   obtain rfl := Option.some.inj H
   go_enter Try.func5, Try.ntmps5
   go_wp2_with (first | ((with_reducible refine gate_dst (N := 1) rfl ?_); refine box_event ?hg (N := 1) ?hd (cs := #[.slice A0_0 l0_0.length c0_0, .slice A0_1 l0_1.length c0_1, .int .i64 a0_2]) (t := 50) ?hr ?_; (case hd => rfl); (case hg => rfl); (case hr => first | (go_simp; done) | (go_simp; rfl)); intro gb639 hg w12 hbox hb; have n0_ := Aside0.mk (below_step bw hb); have n1_ := Aside0.mk (hbox); have n2_ := Aside0.mk ((by rw [hg]; exact (below_size bw) : w.heap.size ≤ gb639)); have n3_ := Aside0.mk ((by rw [hg]; exact (below_size bw) : w.heap.size ≤ gb639)); clear HB; have HB := n0_; have BK639 := n1_; have GW639 := n2_; have GE639 := n3_; clear n0_ n1_ n2_ n3_; clear hb hbox hg; have hcz13_0 : w12.cell? ⟨gb639, 0, none⟩ = some (.slice A0_0 l0_0.length c0_0) := (blk_cell BK639.out 0).trans rfl; have hcz13_1 : w12.cell? ⟨gb639, 1, none⟩ = some (.slice A0_1 l0_1.length c0_1) := (blk_cell BK639.out 1).trans rfl; have hcz13_2 : w12.cell? ⟨gb639, 2, none⟩ = some (.int .i64 a0_2) := (blk_cell BK639.out 2).trans rfl; have hfz13_0 := blk_frozen BK639.out 0; have hfz13_1 := blk_frozen BK639.out 1; have hfz13_2 := blk_frozen BK639.out 2) | ((with_reducible refine at_fn (f := 18) rfl ?_); refine goesL_ (some 9) rfl rfl Try.func18 (by kernel_rfl) rfl #[.agg #[.slice A0_0 l0_0.length c0_0, .slice A0_1 l0_1.length c0_1, .int .i64 a0_2], .int .i64 1048576] rfl (by (try simp only [List.map_toArray, List.map_cons, List.map_nil]); first | done | rfl | (simp only [List.length_drop, List.length_take]; rfl)) ?_; (with_reducible refine (laws_szCode.calls k _ _ l0_0 _ _ l0_1 a0_2 1048576 t640 _ ?side1 ?side2 ?side3 ?side4 A2.out).mono ?_); (case side1 => repeat (first | exact (Kd.C_below HR0_0.out HB.out) | (with_reducible refine Kd.C_alloc ?_ _) | (with_reducible refine Kd.C_drewN ?_ _) | (with_reducible refine Kd.C_drew ?_))); (case side2 => exact HC0_0.out); (case side3 => repeat (first | exact (Kd.C_below HR0_1.out HB.out) | (with_reducible refine Kd.C_alloc ?_ _) | (with_reducible refine Kd.C_drewN ?_ _) | (with_reducible refine Kd.C_drew ?_))); (case side4 => exact HC0_1.out); rintro e w14 ⟨rfl, hb⟩; refine ⟨_, rfl, ?_⟩; have n0_ := Aside0.mk (blk_below (g := gb639) (o := .cells #[.slice A0_0 l0_0.length c0_0, .slice A0_1 l0_1.length c0_1, .int .i64 a0_2] 50 (0, 0)) (lb BK639) hb); have n1_ := Aside0.mk (below_step bw hb); clear BK639; clear HB; have BK639 := n0_; have HB := n1_; clear n0_ n1_; (try clear hb); (try clear hb2); (try clear hk); (try clear hi); have hcz15_0 : w14.cell? ⟨gb639, 0, none⟩ = some (.slice A0_0 l0_0.length c0_0) := (blk_cell BK639.out 0).trans rfl; have hcz15_1 : w14.cell? ⟨gb639, 1, none⟩ = some (.slice A0_1 l0_1.length c0_1) := (blk_cell BK639.out 1).trans rfl; have hcz15_2 : w14.cell? ⟨gb639, 2, none⟩ = some (.int .i64 a0_2) := (blk_cell BK639.out 2).trans rfl; have hfz15_0 := blk_frozen BK639.out 0; have hfz15_1 := blk_frozen BK639.out 1; have hfz15_2 := blk_frozen BK639.out 2) | ((with_reducible refine at_fn (f := 20) rfl ?_); refine goesL_ (some 13) rfl rfl Try.func20 (by kernel_rfl) rfl #[.agg #[.slice A0_0 l0_0.length c0_0, .slice A0_1 l0_1.length c0_1, .int .i64 a0_2]] rfl (by (try simp only [List.map_toArray, List.map_cons, List.map_nil]); first | done | rfl | (simp only [List.length_drop, List.length_take]; rfl)) ?_; (with_reducible refine (laws_toCode.calls k _ _ l0_0 _ _ l0_1 a0_2 t641 t644 t647 _ ?side1 ?side2 ?side3 ?side4 A7.out).mono ?_); (case side1 => repeat (first | exact (Kd.C_below HR0_0.out HB.out) | (with_reducible refine Kd.C_alloc ?_ _) | (with_reducible refine Kd.C_drewN ?_ _) | (with_reducible refine Kd.C_drew ?_))); (case side2 => exact HC0_0.out); (case side3 => repeat (first | exact (Kd.C_below HR0_1.out HB.out) | (with_reducible refine Kd.C_alloc ?_ _) | (with_reducible refine Kd.C_drewN ?_ _) | (with_reducible refine Kd.C_drew ?_))); (case side4 => exact HC0_1.out); rintro e w16 ⟨v642, v645, rfl, ho0, ho1, hb⟩; refine ⟨_, rfl, ?_⟩; have n0_ := Aside0.mk (Kd.S_lower ho0 (below_size bw)); have n1_ := Aside0.mk (Kd.R_lower ho1 (below_size bw)); have n2_ := Aside0.mk (blk_below (g := gb639) (o := .cells #[.slice A0_0 l0_0.length c0_0, .slice A0_1 l0_1.length c0_1, .int .i64 a0_2] 50 (0, 0)) (lb BK639) hb); have n3_ := Aside0.mk (below_step bw hb); clear BK639; clear HB; have HO643 := n0_; have HO646 := n1_; have BK639 := n2_; have HB := n3_; clear n0_ n1_ n2_ n3_; (try clear hb); (try clear hb2); (try clear hk); (try clear hi); (try clear ho0); (try clear ho1); obtain ⟨Ao17, co17, eo17⟩ := Kd.S_slice HO643.out; subst eo17; obtain ⟨Ao18, co18, eo18⟩ := Kd.R_slice HO646.out; subst eo18) | ((with_reducible refine at_fn (f := 19) rfl ?_); refine goesL_ (some 14) rfl rfl Try.func19 (by kernel_rfl) rfl #[.agg #[.slice Ao17 t641.length co17, .slice Ao18 t644.length co18, .int .i64 t647]] rfl (by (try simp only [List.map_toArray, List.map_cons, List.map_nil]); first | done | rfl | (simp only [List.length_drop, List.length_take]; rfl)) ?_; (with_reducible refine (spec_ValidCode.calls _ _ t641 _ _ t644 t647 t648 _ ?side1 ?side2 ?side3 ?side4 A8.out).mono ?_); (case side1 => repeat (first | exact (Kd.S_reads' HO643.out).2.2 | (with_reducible refine Kd.C_alloc ?_ _) | (with_reducible refine Kd.C_drewN ?_ _) | (with_reducible refine Kd.C_drew ?_))); (case side2 => exact (Kd.S_reads' HO643.out).2.1); (case side3 => repeat (first | exact (Kd.R_reads' HO646.out).2.2 | (with_reducible refine Kd.C_alloc ?_ _) | (with_reducible refine Kd.C_drewN ?_ _) | (with_reducible refine Kd.C_drew ?_))); (case side4 => exact (Kd.R_reads' HO646.out).2.1); rintro e w19 ⟨rfl, hb⟩; refine ⟨_, rfl, ?_⟩; have n0_ := Aside0.mk (Kd.S_below (by (with_reducible repeat (first | apply Kd.S_alloc | apply Kd.S_drewN | apply Kd.S_drew)); exact HO643.out) hb); have n1_ := Aside0.mk (Kd.R_below (lf HO646) hb); have n2_ := Aside0.mk (blk_below (g := gb639) (o := .cells #[.slice A0_0 l0_0.length c0_0, .slice A0_1 l0_1.length c0_1, .int .i64 a0_2] 50 (0, 0)) (lb BK639) hb); have n3_ := Aside0.mk (below_step bw hb); clear HO643; clear HO646; clear BK639; clear HB; have HO643 := n0_; have HO646 := n1_; have BK639 := n2_; have HB := n3_; clear n0_ n1_ n2_ n3_; (try clear hb); (try clear hb2); (try clear hk); (try clear hi); have hcz20_0 : w19.cell? ⟨gb639, 0, none⟩ = some (.slice A0_0 l0_0.length c0_0) := (blk_cell BK639.out 0).trans rfl; have hcz20_1 : w19.cell? ⟨gb639, 1, none⟩ = some (.slice A0_1 l0_1.length c0_1) := (blk_cell BK639.out 1).trans rfl; have hcz20_2 : w19.cell? ⟨gb639, 2, none⟩ = some (.int .i64 a0_2) := (blk_cell BK639.out 2).trans rfl; have hfz20_0 := blk_frozen BK639.out 0; have hfz20_1 := blk_frozen BK639.out 1; have hfz20_2 := blk_frozen BK639.out 2) | ((with_reducible refine at_fn (f := 20) rfl ?_); refine goesL_ (some 16) rfl rfl Try.func20 (by kernel_rfl) rfl #[.agg #[.slice A0_0 l0_0.length c0_0, .slice A0_1 l0_1.length c0_1, .int .i64 a0_2]] rfl (by (try simp only [List.map_toArray, List.map_cons, List.map_nil]); first | done | rfl | (simp only [List.length_drop, List.length_take]; rfl)) ?_; (with_reducible refine (laws_toCode.calls k _ _ l0_0 _ _ l0_1 a0_2 t649 t652 t655 _ ?side1 ?side2 ?side3 ?side4 A9.out).mono ?_); (case side1 => repeat (first | exact (Kd.C_below HR0_0.out HB.out) | (with_reducible refine Kd.C_alloc ?_ _) | (with_reducible refine Kd.C_drewN ?_ _) | (with_reducible refine Kd.C_drew ?_))); (case side2 => exact HC0_0.out); (case side3 => repeat (first | exact (Kd.C_below HR0_1.out HB.out) | (with_reducible refine Kd.C_alloc ?_ _) | (with_reducible refine Kd.C_drewN ?_ _) | (with_reducible refine Kd.C_drew ?_))); (case side4 => exact HC0_1.out); rintro e w21 ⟨v650, v653, rfl, ho0, ho1, hb⟩; refine ⟨_, rfl, ?_⟩; have n0_ := Aside0.mk (Kd.S_mono (Kd.S_told (Kd.S_told (Kd.S_old (by (with_reducible repeat (first | apply Kd.S_alloc | apply Kd.S_drewN | apply Kd.S_drew)); exact HO643.out) hb) (Kd.S_base ho0)) (Kd.R_base ho1)) (fun _ h_ => h_.1)); have n1_ := Aside0.mk (Kd.R_elder' (lf HO646) (Kd.R_base ho1) hb); have n2_ := Aside0.mk (Kd.S_lower (Kd.S_new' (Kd.S_new' ho0 (Kd.S_lt (by (with_reducible repeat (first | apply Kd.S_alloc | apply Kd.S_drewN | apply Kd.S_drew)); exact HO643.out))) (Kd.R_lt (lf HO646))) (below_size bw)); have n3_ := Aside0.mk (Kd.R_lower (Kd.R_new' ho1 (Kd.R_lt (lf HO646))) (below_size bw)); have n4_ := Aside0.mk (blk_below (g := gb639) (o := .cells #[.slice A0_0 l0_0.length c0_0, .slice A0_1 l0_1.length c0_1, .int .i64 a0_2] 50 (0, 0)) (lb BK639) hb); have n5_ := Aside0.mk (below_step bw hb); clear HO643; clear HO646; clear BK639; clear HB; have HO643 := n0_; have HO646 := n1_; have HO651 := n2_; have HO654 := n3_; have BK639 := n4_; have HB := n5_; clear n0_ n1_ n2_ n3_ n4_ n5_; (try clear hb); (try clear hb2); (try clear hk); (try clear hi); (try clear ho0); (try clear ho1)) | ((with_reducible refine gate_dst (N := 5) rfl ?_); refine box_event ?hg (N := 5) ?hd (cs := #[.slice none 0 0, .slice none 0 0, .int .i64 0]) (t := 58) ?hr ?_; (case hd => rfl); (case hg => rfl); (case hr => first | (go_simp; done) | (go_simp; rfl)); intro gb656 hg w22 hbox hb; have n0_ := Aside0.mk (Kd.S_below (by (with_reducible repeat (first | apply Kd.S_alloc | apply Kd.S_drewN | apply Kd.S_drew)); exact HO643.out) hb); have n1_ := Aside0.mk (Kd.R_below (lf HO646) hb); have n2_ := Aside0.mk (Kd.S_below (by (with_reducible repeat (first | apply Kd.S_alloc | apply Kd.S_drewN | apply Kd.S_drew)); exact HO651.out) hb); have n3_ := Aside0.mk (Kd.R_below (lf HO654) hb); have n4_ := Aside0.mk (blk_below (g := gb639) (o := .cells #[.slice A0_0 l0_0.length c0_0, .slice A0_1 l0_1.length c0_1, .int .i64 a0_2] 50 (0, 0)) (lb BK639) hb); have n5_ := Aside0.mk (below_step bw hb); have n6_ := Aside0.mk (hbox); have n7_ := Aside0.mk ((by rw [hg]; exact (below_size bw) : w.heap.size ≤ gb656)); have n8_ := Aside0.mk ((by rw [hg]; exact (below_size bw) : w.heap.size ≤ gb656)); have n9_ := Aside0.mk ((by rw [hg]; exact Nat.ne_of_lt (blk_lt (g := gb639) (o := .cells #[.slice A0_0 l0_0.length c0_0, .slice A0_1 l0_1.length c0_1, .int .i64 a0_2] 50 (0, 0)) (lb BK639)) : gb639 ≠ gb656)); have n10_ := Aside0.mk ((by rw [hg]; exact Nat.ne_of_gt (blk_lt (g := gb639) (o := .cells #[.slice A0_0 l0_0.length c0_0, .slice A0_1 l0_1.length c0_1, .int .i64 a0_2] 50 (0, 0)) (lb BK639)) : gb656 ≠ gb639)); clear HO643; clear HO646; clear HO651; clear HO654; clear BK639; clear HB; have HO643 := n0_; have HO646 := n1_; have HO651 := n2_; have HO654 := n3_; have BK639 := n4_; have HB := n5_; have BK656 := n6_; have GW656 := n7_; have GE656 := n8_; have NB639_656 := n9_; have NB656_639 := n10_; clear n0_ n1_ n2_ n3_ n4_ n5_ n6_ n7_ n8_ n9_ n10_; clear hb hbox hg; obtain ⟨Ao23, co23, eo23⟩ := Kd.S_slice HO651.out; subst eo23; have hnb24 := NB656_639.out; have hnc24 := NB639_656.out; have hcz25_0 : w22.cell? ⟨gb656, 0, none⟩ = some (.slice none 0 0) := (blk_cell BK656.out 0).trans rfl; have hcz25_1 : w22.cell? ⟨gb656, 1, none⟩ = some (.slice none 0 0) := (blk_cell BK656.out 1).trans rfl; have hcz25_2 : w22.cell? ⟨gb656, 2, none⟩ = some (.int .i64 0) := (blk_cell BK656.out 2).trans rfl; have hfz25_0 := blk_frozen BK656.out 0; have hfz25_1 := blk_frozen BK656.out 1; have hfz25_2 := blk_frozen BK656.out 2; obtain ⟨Ao26, co26, eo26⟩ := Kd.R_slice HO654.out; subst eo26) | ((with_reducible refine at_fn (f := 21) rfl ?_); refine goesL_ (some 18) rfl rfl Try.func21 (by kernel_rfl) rfl #[.agg #[.slice Ao23 t649.length co23, .slice Ao26 t652.length co26, .int .i64 t655]] rfl (by (try simp only [List.map_toArray, List.map_cons, List.map_nil]); first | done | rfl | (simp only [List.length_drop, List.length_take]; rfl)) ?_; (with_reducible refine (impl_ValidCode.calls _ _ t649 _ _ t652 t655 t657 _ ?side1 ?side2 ?side3 ?side4 A10.out).mono ?_); (case side1 => refine (Kd.S_reads' (e := 56) (base := w.heap.size) (ok := fun k_ => ((some k_ ≠ (.slice Ao26 t652.length co26 : Value).ownBlock ∧ some k_ ≠ (.slice Ao17 t641.length co17 : Value).ownBlock) ∧ some k_ ≠ (.slice Ao18 t644.length co18 : Value).ownBlock)) (n := t649.length) (c := co23) ?_).2.2; exact (by (with_reducible repeat (first | apply Kd.S_alloc | apply Kd.S_drewN | apply Kd.S_drew)); exact (Kd.S_mono (Kd.S_far (p := ⟨gb656, 2, none⟩) (Kd.S_far (p := ⟨gb656, 1, none⟩) (Kd.S_far (p := ⟨gb656, 0, none⟩) (Kd.S_types HO651.out BK656.out (by decide)) (fun _ hk => hk.2) (.slice Ao23 t649.length co23)) (fun _ hk => hk.2) (.slice Ao26 t652.length co26)) (fun _ hk => hk.2) (.int .i64 t655)) (fun _ h_ => h_.1)))); (case side2 => exact (Kd.S_reads' HO651.out).2.1); (case side3 => refine (Kd.R_reads' (e := 138) (base := w.heap.size) (ok := fun k_ => (True ∧ some k_ ≠ (.slice Ao18 t644.length co18 : Value).ownBlock)) (n := t652.length) (c := co26) ?_).2.2; exact (by (with_reducible repeat (first | apply Kd.R_alloc | apply Kd.R_drewN | apply Kd.R_drew)); exact (Kd.R_mono (Kd.R_far (p := ⟨gb656, 2, none⟩) (Kd.R_far (p := ⟨gb656, 1, none⟩) (Kd.R_far (p := ⟨gb656, 0, none⟩) (Kd.R_types HO654.out BK656.out (by decide)) (fun _ hk => hk.2) (.slice Ao23 t649.length co23)) (fun _ hk => hk.2) (.slice Ao26 t652.length co26)) (fun _ hk => hk.2) (.int .i64 t655)) (fun _ h_ => h_.1)))); (case side4 => exact (Kd.R_reads' HO654.out).2.1); rintro e w27 ⟨rfl, hb⟩; refine ⟨_, rfl, ?_⟩; have n0_ := Aside0.mk (Kd.S_below (by (with_reducible repeat (first | apply Kd.S_alloc | apply Kd.S_drewN | apply Kd.S_drew)); exact (Kd.S_mono (Kd.S_far (p := ⟨gb656, 2, none⟩) (Kd.S_far (p := ⟨gb656, 1, none⟩) (Kd.S_far (p := ⟨gb656, 0, none⟩) (Kd.S_types HO643.out BK656.out (by decide)) (fun _ hk => hk.2) (.slice Ao23 t649.length co23)) (fun _ hk => hk.2) (.slice Ao26 t652.length co26)) (fun _ hk => hk.2) (.int .i64 t655)) (fun _ h_ => h_.1))) hb); have n1_ := Aside0.mk (Kd.R_below (by (with_reducible repeat (first | apply Kd.R_alloc | apply Kd.R_drewN | apply Kd.R_drew)); exact (Kd.R_mono (Kd.R_far (p := ⟨gb656, 2, none⟩) (Kd.R_far (p := ⟨gb656, 1, none⟩) (Kd.R_far (p := ⟨gb656, 0, none⟩) (Kd.R_types HO646.out BK656.out (by decide)) (fun _ hk => hk.2) (.slice Ao23 t649.length co23)) (fun _ hk => hk.2) (.slice Ao26 t652.length co26)) (fun _ hk => hk.2) (.int .i64 t655)) (fun _ h_ => h_.1))) hb); have n2_ := Aside0.mk (Kd.S_below (by (with_reducible repeat (first | apply Kd.S_alloc | apply Kd.S_drewN | apply Kd.S_drew)); exact (Kd.S_mono (Kd.S_far (p := ⟨gb656, 2, none⟩) (Kd.S_far (p := ⟨gb656, 1, none⟩) (Kd.S_far (p := ⟨gb656, 0, none⟩) (Kd.S_types HO651.out BK656.out (by decide)) (fun _ hk => hk.2) (.slice Ao23 t649.length co23)) (fun _ hk => hk.2) (.slice Ao26 t652.length co26)) (fun _ hk => hk.2) (.int .i64 t655)) (fun _ h_ => h_.1))) hb); have n3_ := Aside0.mk (Kd.R_below (by (with_reducible repeat (first | apply Kd.R_alloc | apply Kd.R_drewN | apply Kd.R_drew)); exact (Kd.R_mono (Kd.R_far (p := ⟨gb656, 2, none⟩) (Kd.R_far (p := ⟨gb656, 1, none⟩) (Kd.R_far (p := ⟨gb656, 0, none⟩) (Kd.R_types HO654.out BK656.out (by decide)) (fun _ hk => hk.2) (.slice Ao23 t649.length co23)) (fun _ hk => hk.2) (.slice Ao26 t652.length co26)) (fun _ hk => hk.2) (.int .i64 t655)) (fun _ h_ => h_.1))) hb); have n4_ := Aside0.mk (blk_below (g := gb639) (o := .cells #[.slice A0_0 l0_0.length c0_0, .slice A0_1 l0_1.length c0_1, .int .i64 a0_2] 50 (0, 0)) (by (with_reducible repeat (first | refine blk_drewN ?_ _ | refine blk_drew ?_ | refine blk_alloc ?_ _)); refine blk_far ?_ NB639_656.out _; (with_reducible repeat (first | refine blk_drewN ?_ _ | refine blk_drew ?_ | refine blk_alloc ?_ _)); refine blk_far ?_ NB639_656.out _; (with_reducible repeat (first | refine blk_drewN ?_ _ | refine blk_drew ?_ | refine blk_alloc ?_ _)); refine blk_far ?_ NB639_656.out _; (with_reducible repeat (first | refine blk_drewN ?_ _ | refine blk_drew ?_ | refine blk_alloc ?_ _)); exact BK639.out) hb); have n5_ := Aside0.mk (blk_below (g := gb656) (o := .cells #[.slice Ao23 t649.length co23, .slice Ao26 t652.length co26, .int .i64 t655] 58 (0, 0)) (by (with_reducible repeat (first | refine blk_drewN ?_ _ | refine blk_drew ?_ | refine blk_alloc ?_ _)); refine blk_put (cs := #[.slice Ao23 t649.length co23, .slice Ao26 t652.length co26, .int .i64 0]) ?_ 2 _ rfl; (with_reducible repeat (first | refine blk_drewN ?_ _ | refine blk_drew ?_ | refine blk_alloc ?_ _)); refine blk_put (cs := #[.slice Ao23 t649.length co23, .slice none 0 0, .int .i64 0]) ?_ 1 _ rfl; (with_reducible repeat (first | refine blk_drewN ?_ _ | refine blk_drew ?_ | refine blk_alloc ?_ _)); refine blk_put (cs := #[.slice none 0 0, .slice none 0 0, .int .i64 0]) ?_ 0 _ rfl; (with_reducible repeat (first | refine blk_drewN ?_ _ | refine blk_drew ?_ | refine blk_alloc ?_ _)); exact BK656.out) hb); have n6_ := Aside0.mk (below_step bw hb); clear HO643; clear HO646; clear HO651; clear HO654; clear BK639; clear BK656; clear HB; have HO643 := n0_; have HO646 := n1_; have HO651 := n2_; have HO654 := n3_; have BK639 := n4_; have BK656 := n5_; have HB := n6_; clear n0_ n1_ n2_ n3_ n4_ n5_ n6_; (try clear hb); (try clear hb2); (try clear hk); (try clear hi)))
   go_ret
   exact ⟨by first | rfl | (simp [errW_none, errW_some] <;> rfl) | (simp [*, errW_none, errW_some] <;> rfl), bw⟩
  ·rw [if_neg c11] at H
   have c11b0 : (t657 != t648) = false := by simpa using c11
   (try (have c11b1 : decide (t657 = t648) = true := by simpa using c11))
   (try (have c11b2 : (t657 == t648) = true := by simpa using c11))
   clear c11
   replace H := Option.bind_eq_some_iff.mp H
   obtain ⟨⟨t658, t661, t664⟩, A280, H⟩ := H
   replace H : ((laws_eqCode.f k t649 t652 t655 t658 t661 t664).bind fun t665 => (if t665 = true then (some true) else (some false))) = some r := H
   have A28 := Aside0.mk A280
   clear A280
   replace H := Option.bind_eq_some_iff.mp H
   obtain ⟨t665, A290, H⟩ := H
   replace H : (if t665 = true then (some true) else (some false)) = some r := H
   have A29 := Aside0.mk A290
   clear A290
   by_cases c30 : t665 = true
   ·subst c30
    have H1 : (some true) = some r := by rw [if_pos rfl] at H; exact H
    clear H
    have H := H1
    clear H1
    obtain rfl := Option.some.inj H
    go_enter Try.func5, Try.ntmps5
    try go_wp2_with (first | ((with_reducible refine gate_dst (N := 1) rfl ?_); refine box_event ?hg (N := 1) ?hd (cs := #[.slice A0_0 l0_0.length c0_0, .slice A0_1 l0_1.length c0_1, .int .i64 a0_2]) (t := 50) ?hr ?_; (case hd => rfl); (case hg => rfl); (case hr => first | (go_simp; done) | (go_simp; rfl)); intro gb639 hg w31 hbox hb; have n0_ := Aside0.mk (below_step bw hb); have n1_ := Aside0.mk (hbox); have n2_ := Aside0.mk ((by rw [hg]; exact (below_size bw) : w.heap.size ≤ gb639)); have n3_ := Aside0.mk ((by rw [hg]; exact (below_size bw) : w.heap.size ≤ gb639)); clear HB; have HB := n0_; have BK639 := n1_; have GW639 := n2_; have GE639 := n3_; clear n0_ n1_ n2_ n3_; clear hb hbox hg; have hcz32_0 : w31.cell? ⟨gb639, 0, none⟩ = some (.slice A0_0 l0_0.length c0_0) := (blk_cell BK639.out 0).trans rfl; have hcz32_1 : w31.cell? ⟨gb639, 1, none⟩ = some (.slice A0_1 l0_1.length c0_1) := (blk_cell BK639.out 1).trans rfl; have hcz32_2 : w31.cell? ⟨gb639, 2, none⟩ = some (.int .i64 a0_2) := (blk_cell BK639.out 2).trans rfl; have hfz32_0 := blk_frozen BK639.out 0; have hfz32_1 := blk_frozen BK639.out 1; have hfz32_2 := blk_frozen BK639.out 2) | ((with_reducible refine at_fn (f := 18) rfl ?_); refine goesL_ (some 9) rfl rfl Try.func18 (by kernel_rfl) rfl #[.agg #[.slice A0_0 l0_0.length c0_0, .slice A0_1 l0_1.length c0_1, .int .i64 a0_2], .int .i64 1048576] rfl (by (try simp only [List.map_toArray, List.map_cons, List.map_nil]); first | done | rfl | (simp only [List.length_drop, List.length_take]; rfl)) ?_; (with_reducible refine (laws_szCode.calls k _ _ l0_0 _ _ l0_1 a0_2 1048576 t640 _ ?side1 ?side2 ?side3 ?side4 A2.out).mono ?_); (case side1 => repeat (first | exact (Kd.C_below HR0_0.out HB.out) | (with_reducible refine Kd.C_alloc ?_ _) | (with_reducible refine Kd.C_drewN ?_ _) | (with_reducible refine Kd.C_drew ?_))); (case side2 => exact HC0_0.out); (case side3 => repeat (first | exact (Kd.C_below HR0_1.out HB.out) | (with_reducible refine Kd.C_alloc ?_ _) | (with_reducible refine Kd.C_drewN ?_ _) | (with_reducible refine Kd.C_drew ?_))); (case side4 => exact HC0_1.out); rintro e w33 ⟨rfl, hb⟩; refine ⟨_, rfl, ?_⟩; have n0_ := Aside0.mk (blk_below (g := gb639) (o := .cells #[.slice A0_0 l0_0.length c0_0, .slice A0_1 l0_1.length c0_1, .int .i64 a0_2] 50 (0, 0)) (lb BK639) hb); have n1_ := Aside0.mk (below_step bw hb); clear BK639; clear HB; have BK639 := n0_; have HB := n1_; clear n0_ n1_; (try clear hb); (try clear hb2); (try clear hk); (try clear hi); have hcz34_0 : w33.cell? ⟨gb639, 0, none⟩ = some (.slice A0_0 l0_0.length c0_0) := (blk_cell BK639.out 0).trans rfl; have hcz34_1 : w33.cell? ⟨gb639, 1, none⟩ = some (.slice A0_1 l0_1.length c0_1) := (blk_cell BK639.out 1).trans rfl; have hcz34_2 : w33.cell? ⟨gb639, 2, none⟩ = some (.int .i64 a0_2) := (blk_cell BK639.out 2).trans rfl; have hfz34_0 := blk_frozen BK639.out 0; have hfz34_1 := blk_frozen BK639.out 1; have hfz34_2 := blk_frozen BK639.out 2) | ((with_reducible refine at_fn (f := 20) rfl ?_); refine goesL_ (some 13) rfl rfl Try.func20 (by kernel_rfl) rfl #[.agg #[.slice A0_0 l0_0.length c0_0, .slice A0_1 l0_1.length c0_1, .int .i64 a0_2]] rfl (by (try simp only [List.map_toArray, List.map_cons, List.map_nil]); first | done | rfl | (simp only [List.length_drop, List.length_take]; rfl)) ?_; (with_reducible refine (laws_toCode.calls k _ _ l0_0 _ _ l0_1 a0_2 t641 t644 t647 _ ?side1 ?side2 ?side3 ?side4 A7.out).mono ?_); (case side1 => repeat (first | exact (Kd.C_below HR0_0.out HB.out) | (with_reducible refine Kd.C_alloc ?_ _) | (with_reducible refine Kd.C_drewN ?_ _) | (with_reducible refine Kd.C_drew ?_))); (case side2 => exact HC0_0.out); (case side3 => repeat (first | exact (Kd.C_below HR0_1.out HB.out) | (with_reducible refine Kd.C_alloc ?_ _) | (with_reducible refine Kd.C_drewN ?_ _) | (with_reducible refine Kd.C_drew ?_))); (case side4 => exact HC0_1.out); rintro e w35 ⟨v642, v645, rfl, ho0, ho1, hb⟩; refine ⟨_, rfl, ?_⟩; have n0_ := Aside0.mk (Kd.S_lower ho0 (below_size bw)); have n1_ := Aside0.mk (Kd.R_lower ho1 (below_size bw)); have n2_ := Aside0.mk (blk_below (g := gb639) (o := .cells #[.slice A0_0 l0_0.length c0_0, .slice A0_1 l0_1.length c0_1, .int .i64 a0_2] 50 (0, 0)) (lb BK639) hb); have n3_ := Aside0.mk (below_step bw hb); clear BK639; clear HB; have HO643 := n0_; have HO646 := n1_; have BK639 := n2_; have HB := n3_; clear n0_ n1_ n2_ n3_; (try clear hb); (try clear hb2); (try clear hk); (try clear hi); (try clear ho0); (try clear ho1); obtain ⟨Ao36, co36, eo36⟩ := Kd.S_slice HO643.out; subst eo36; obtain ⟨Ao37, co37, eo37⟩ := Kd.R_slice HO646.out; subst eo37) | ((with_reducible refine at_fn (f := 19) rfl ?_); refine goesL_ (some 14) rfl rfl Try.func19 (by kernel_rfl) rfl #[.agg #[.slice Ao36 t641.length co36, .slice Ao37 t644.length co37, .int .i64 t647]] rfl (by (try simp only [List.map_toArray, List.map_cons, List.map_nil]); first | done | rfl | (simp only [List.length_drop, List.length_take]; rfl)) ?_; (with_reducible refine (spec_ValidCode.calls _ _ t641 _ _ t644 t647 t648 _ ?side1 ?side2 ?side3 ?side4 A8.out).mono ?_); (case side1 => repeat (first | exact (Kd.S_reads' HO643.out).2.2 | (with_reducible refine Kd.C_alloc ?_ _) | (with_reducible refine Kd.C_drewN ?_ _) | (with_reducible refine Kd.C_drew ?_))); (case side2 => exact (Kd.S_reads' HO643.out).2.1); (case side3 => repeat (first | exact (Kd.R_reads' HO646.out).2.2 | (with_reducible refine Kd.C_alloc ?_ _) | (with_reducible refine Kd.C_drewN ?_ _) | (with_reducible refine Kd.C_drew ?_))); (case side4 => exact (Kd.R_reads' HO646.out).2.1); rintro e w38 ⟨rfl, hb⟩; refine ⟨_, rfl, ?_⟩; have n0_ := Aside0.mk (Kd.S_below (by (with_reducible repeat (first | apply Kd.S_alloc | apply Kd.S_drewN | apply Kd.S_drew)); exact HO643.out) hb); have n1_ := Aside0.mk (Kd.R_below (lf HO646) hb); have n2_ := Aside0.mk (blk_below (g := gb639) (o := .cells #[.slice A0_0 l0_0.length c0_0, .slice A0_1 l0_1.length c0_1, .int .i64 a0_2] 50 (0, 0)) (lb BK639) hb); have n3_ := Aside0.mk (below_step bw hb); clear HO643; clear HO646; clear BK639; clear HB; have HO643 := n0_; have HO646 := n1_; have BK639 := n2_; have HB := n3_; clear n0_ n1_ n2_ n3_; (try clear hb); (try clear hb2); (try clear hk); (try clear hi); have hcz39_0 : w38.cell? ⟨gb639, 0, none⟩ = some (.slice A0_0 l0_0.length c0_0) := (blk_cell BK639.out 0).trans rfl; have hcz39_1 : w38.cell? ⟨gb639, 1, none⟩ = some (.slice A0_1 l0_1.length c0_1) := (blk_cell BK639.out 1).trans rfl; have hcz39_2 : w38.cell? ⟨gb639, 2, none⟩ = some (.int .i64 a0_2) := (blk_cell BK639.out 2).trans rfl; have hfz39_0 := blk_frozen BK639.out 0; have hfz39_1 := blk_frozen BK639.out 1; have hfz39_2 := blk_frozen BK639.out 2) | ((with_reducible refine at_fn (f := 20) rfl ?_); refine goesL_ (some 16) rfl rfl Try.func20 (by kernel_rfl) rfl #[.agg #[.slice A0_0 l0_0.length c0_0, .slice A0_1 l0_1.length c0_1, .int .i64 a0_2]] rfl (by (try simp only [List.map_toArray, List.map_cons, List.map_nil]); first | done | rfl | (simp only [List.length_drop, List.length_take]; rfl)) ?_; (with_reducible refine (laws_toCode.calls k _ _ l0_0 _ _ l0_1 a0_2 t649 t652 t655 _ ?side1 ?side2 ?side3 ?side4 A9.out).mono ?_); (case side1 => repeat (first | exact (Kd.C_below HR0_0.out HB.out) | (with_reducible refine Kd.C_alloc ?_ _) | (with_reducible refine Kd.C_drewN ?_ _) | (with_reducible refine Kd.C_drew ?_))); (case side2 => exact HC0_0.out); (case side3 => repeat (first | exact (Kd.C_below HR0_1.out HB.out) | (with_reducible refine Kd.C_alloc ?_ _) | (with_reducible refine Kd.C_drewN ?_ _) | (with_reducible refine Kd.C_drew ?_))); (case side4 => exact HC0_1.out); rintro e w40 ⟨v650, v653, rfl, ho0, ho1, hb⟩; refine ⟨_, rfl, ?_⟩; have n0_ := Aside0.mk (Kd.S_mono (Kd.S_told (Kd.S_told (Kd.S_old (by (with_reducible repeat (first | apply Kd.S_alloc | apply Kd.S_drewN | apply Kd.S_drew)); exact HO643.out) hb) (Kd.S_base ho0)) (Kd.R_base ho1)) (fun _ h_ => h_.1)); have n1_ := Aside0.mk (Kd.R_elder' (lf HO646) (Kd.R_base ho1) hb); have n2_ := Aside0.mk (Kd.S_lower (Kd.S_new' (Kd.S_new' ho0 (Kd.S_lt (by (with_reducible repeat (first | apply Kd.S_alloc | apply Kd.S_drewN | apply Kd.S_drew)); exact HO643.out))) (Kd.R_lt (lf HO646))) (below_size bw)); have n3_ := Aside0.mk (Kd.R_lower (Kd.R_new' ho1 (Kd.R_lt (lf HO646))) (below_size bw)); have n4_ := Aside0.mk (blk_below (g := gb639) (o := .cells #[.slice A0_0 l0_0.length c0_0, .slice A0_1 l0_1.length c0_1, .int .i64 a0_2] 50 (0, 0)) (lb BK639) hb); have n5_ := Aside0.mk (below_step bw hb); clear HO643; clear HO646; clear BK639; clear HB; have HO643 := n0_; have HO646 := n1_; have HO651 := n2_; have HO654 := n3_; have BK639 := n4_; have HB := n5_; clear n0_ n1_ n2_ n3_ n4_ n5_; (try clear hb); (try clear hb2); (try clear hk); (try clear hi); (try clear ho0); (try clear ho1)) | ((with_reducible refine gate_dst (N := 5) rfl ?_); refine box_event ?hg (N := 5) ?hd (cs := #[.slice none 0 0, .slice none 0 0, .int .i64 0]) (t := 58) ?hr ?_; (case hd => rfl); (case hg => rfl); (case hr => first | (go_simp; done) | (go_simp; rfl)); intro gb656 hg w41 hbox hb; have n0_ := Aside0.mk (Kd.S_below (by (with_reducible repeat (first | apply Kd.S_alloc | apply Kd.S_drewN | apply Kd.S_drew)); exact HO643.out) hb); have n1_ := Aside0.mk (Kd.R_below (lf HO646) hb); have n2_ := Aside0.mk (Kd.S_below (by (with_reducible repeat (first | apply Kd.S_alloc | apply Kd.S_drewN | apply Kd.S_drew)); exact HO651.out) hb); have n3_ := Aside0.mk (Kd.R_below (lf HO654) hb); have n4_ := Aside0.mk (blk_below (g := gb639) (o := .cells #[.slice A0_0 l0_0.length c0_0, .slice A0_1 l0_1.length c0_1, .int .i64 a0_2] 50 (0, 0)) (lb BK639) hb); have n5_ := Aside0.mk (below_step bw hb); have n6_ := Aside0.mk (hbox); have n7_ := Aside0.mk ((by rw [hg]; exact (below_size bw) : w.heap.size ≤ gb656)); have n8_ := Aside0.mk ((by rw [hg]; exact (below_size bw) : w.heap.size ≤ gb656)); have n9_ := Aside0.mk ((by rw [hg]; exact Nat.ne_of_lt (blk_lt (g := gb639) (o := .cells #[.slice A0_0 l0_0.length c0_0, .slice A0_1 l0_1.length c0_1, .int .i64 a0_2] 50 (0, 0)) (lb BK639)) : gb639 ≠ gb656)); have n10_ := Aside0.mk ((by rw [hg]; exact Nat.ne_of_gt (blk_lt (g := gb639) (o := .cells #[.slice A0_0 l0_0.length c0_0, .slice A0_1 l0_1.length c0_1, .int .i64 a0_2] 50 (0, 0)) (lb BK639)) : gb656 ≠ gb639)); clear HO643; clear HO646; clear HO651; clear HO654; clear BK639; clear HB; have HO643 := n0_; have HO646 := n1_; have HO651 := n2_; have HO654 := n3_; have BK639 := n4_; have HB := n5_; have BK656 := n6_; have GW656 := n7_; have GE656 := n8_; have NB639_656 := n9_; have NB656_639 := n10_; clear n0_ n1_ n2_ n3_ n4_ n5_ n6_ n7_ n8_ n9_ n10_; clear hb hbox hg; obtain ⟨Ao42, co42, eo42⟩ := Kd.S_slice HO651.out; subst eo42; have hnb43 := NB656_639.out; have hnc43 := NB639_656.out; have hcz44_0 : w41.cell? ⟨gb656, 0, none⟩ = some (.slice none 0 0) := (blk_cell BK656.out 0).trans rfl; have hcz44_1 : w41.cell? ⟨gb656, 1, none⟩ = some (.slice none 0 0) := (blk_cell BK656.out 1).trans rfl; have hcz44_2 : w41.cell? ⟨gb656, 2, none⟩ = some (.int .i64 0) := (blk_cell BK656.out 2).trans rfl; have hfz44_0 := blk_frozen BK656.out 0; have hfz44_1 := blk_frozen BK656.out 1; have hfz44_2 := blk_frozen BK656.out 2; obtain ⟨Ao45, co45, eo45⟩ := Kd.R_slice HO654.out; subst eo45) | ((with_reducible refine at_fn (f := 21) rfl ?_); refine goesL_ (some 18) rfl rfl Try.func21 (by kernel_rfl) rfl #[.agg #[.slice Ao42 t649.length co42, .slice Ao45 t652.length co45, .int .i64 t655]] rfl (by (try simp only [List.map_toArray, List.map_cons, List.map_nil]); first | done | rfl | (simp only [List.length_drop, List.length_take]; rfl)) ?_; (with_reducible refine (impl_ValidCode.calls _ _ t649 _ _ t652 t655 t657 _ ?side1 ?side2 ?side3 ?side4 A10.out).mono ?_); (case side1 => refine (Kd.S_reads' (e := 56) (base := w.heap.size) (ok := fun k_ => ((some k_ ≠ (.slice Ao45 t652.length co45 : Value).ownBlock ∧ some k_ ≠ (.slice Ao36 t641.length co36 : Value).ownBlock) ∧ some k_ ≠ (.slice Ao37 t644.length co37 : Value).ownBlock)) (n := t649.length) (c := co42) ?_).2.2; exact (by (with_reducible repeat (first | apply Kd.S_alloc | apply Kd.S_drewN | apply Kd.S_drew)); exact (Kd.S_mono (Kd.S_far (p := ⟨gb656, 2, none⟩) (Kd.S_far (p := ⟨gb656, 1, none⟩) (Kd.S_far (p := ⟨gb656, 0, none⟩) (Kd.S_types HO651.out BK656.out (by decide)) (fun _ hk => hk.2) (.slice Ao42 t649.length co42)) (fun _ hk => hk.2) (.slice Ao45 t652.length co45)) (fun _ hk => hk.2) (.int .i64 t655)) (fun _ h_ => h_.1)))); (case side2 => exact (Kd.S_reads' HO651.out).2.1); (case side3 => refine (Kd.R_reads' (e := 138) (base := w.heap.size) (ok := fun k_ => (True ∧ some k_ ≠ (.slice Ao37 t644.length co37 : Value).ownBlock)) (n := t652.length) (c := co45) ?_).2.2; exact (by (with_reducible repeat (first | apply Kd.R_alloc | apply Kd.R_drewN | apply Kd.R_drew)); exact (Kd.R_mono (Kd.R_far (p := ⟨gb656, 2, none⟩) (Kd.R_far (p := ⟨gb656, 1, none⟩) (Kd.R_far (p := ⟨gb656, 0, none⟩) (Kd.R_types HO654.out BK656.out (by decide)) (fun _ hk => hk.2) (.slice Ao42 t649.length co42)) (fun _ hk => hk.2) (.slice Ao45 t652.length co45)) (fun _ hk => hk.2) (.int .i64 t655)) (fun _ h_ => h_.1)))); (case side4 => exact (Kd.R_reads' HO654.out).2.1); rintro e w46 ⟨rfl, hb⟩; refine ⟨_, rfl, ?_⟩; have n0_ := Aside0.mk (Kd.S_below (by (with_reducible repeat (first | apply Kd.S_alloc | apply Kd.S_drewN | apply Kd.S_drew)); exact (Kd.S_mono (Kd.S_far (p := ⟨gb656, 2, none⟩) (Kd.S_far (p := ⟨gb656, 1, none⟩) (Kd.S_far (p := ⟨gb656, 0, none⟩) (Kd.S_types HO643.out BK656.out (by decide)) (fun _ hk => hk.2) (.slice Ao42 t649.length co42)) (fun _ hk => hk.2) (.slice Ao45 t652.length co45)) (fun _ hk => hk.2) (.int .i64 t655)) (fun _ h_ => h_.1))) hb); have n1_ := Aside0.mk (Kd.R_below (by (with_reducible repeat (first | apply Kd.R_alloc | apply Kd.R_drewN | apply Kd.R_drew)); exact (Kd.R_mono (Kd.R_far (p := ⟨gb656, 2, none⟩) (Kd.R_far (p := ⟨gb656, 1, none⟩) (Kd.R_far (p := ⟨gb656, 0, none⟩) (Kd.R_types HO646.out BK656.out (by decide)) (fun _ hk => hk.2) (.slice Ao42 t649.length co42)) (fun _ hk => hk.2) (.slice Ao45 t652.length co45)) (fun _ hk => hk.2) (.int .i64 t655)) (fun _ h_ => h_.1))) hb); have n2_ := Aside0.mk (Kd.S_below (by (with_reducible repeat (first | apply Kd.S_alloc | apply Kd.S_drewN | apply Kd.S_drew)); exact (Kd.S_mono (Kd.S_far (p := ⟨gb656, 2, none⟩) (Kd.S_far (p := ⟨gb656, 1, none⟩) (Kd.S_far (p := ⟨gb656, 0, none⟩) (Kd.S_types HO651.out BK656.out (by decide)) (fun _ hk => hk.2) (.slice Ao42 t649.length co42)) (fun _ hk => hk.2) (.slice Ao45 t652.length co45)) (fun _ hk => hk.2) (.int .i64 t655)) (fun _ h_ => h_.1))) hb); have n3_ := Aside0.mk (Kd.R_below (by (with_reducible repeat (first | apply Kd.R_alloc | apply Kd.R_drewN | apply Kd.R_drew)); exact (Kd.R_mono (Kd.R_far (p := ⟨gb656, 2, none⟩) (Kd.R_far (p := ⟨gb656, 1, none⟩) (Kd.R_far (p := ⟨gb656, 0, none⟩) (Kd.R_types HO654.out BK656.out (by decide)) (fun _ hk => hk.2) (.slice Ao42 t649.length co42)) (fun _ hk => hk.2) (.slice Ao45 t652.length co45)) (fun _ hk => hk.2) (.int .i64 t655)) (fun _ h_ => h_.1))) hb); have n4_ := Aside0.mk (blk_below (g := gb639) (o := .cells #[.slice A0_0 l0_0.length c0_0, .slice A0_1 l0_1.length c0_1, .int .i64 a0_2] 50 (0, 0)) (by (with_reducible repeat (first | refine blk_drewN ?_ _ | refine blk_drew ?_ | refine blk_alloc ?_ _)); refine blk_far ?_ NB639_656.out _; (with_reducible repeat (first | refine blk_drewN ?_ _ | refine blk_drew ?_ | refine blk_alloc ?_ _)); refine blk_far ?_ NB639_656.out _; (with_reducible repeat (first | refine blk_drewN ?_ _ | refine blk_drew ?_ | refine blk_alloc ?_ _)); refine blk_far ?_ NB639_656.out _; (with_reducible repeat (first | refine blk_drewN ?_ _ | refine blk_drew ?_ | refine blk_alloc ?_ _)); exact BK639.out) hb); have n5_ := Aside0.mk (blk_below (g := gb656) (o := .cells #[.slice Ao42 t649.length co42, .slice Ao45 t652.length co45, .int .i64 t655] 58 (0, 0)) (by (with_reducible repeat (first | refine blk_drewN ?_ _ | refine blk_drew ?_ | refine blk_alloc ?_ _)); refine blk_put (cs := #[.slice Ao42 t649.length co42, .slice Ao45 t652.length co45, .int .i64 0]) ?_ 2 _ rfl; (with_reducible repeat (first | refine blk_drewN ?_ _ | refine blk_drew ?_ | refine blk_alloc ?_ _)); refine blk_put (cs := #[.slice Ao42 t649.length co42, .slice none 0 0, .int .i64 0]) ?_ 1 _ rfl; (with_reducible repeat (first | refine blk_drewN ?_ _ | refine blk_drew ?_ | refine blk_alloc ?_ _)); refine blk_put (cs := #[.slice none 0 0, .slice none 0 0, .int .i64 0]) ?_ 0 _ rfl; (with_reducible repeat (first | refine blk_drewN ?_ _ | refine blk_drew ?_ | refine blk_alloc ?_ _)); exact BK656.out) hb); have n6_ := Aside0.mk (below_step bw hb); clear HO643; clear HO646; clear HO651; clear HO654; clear BK639; clear BK656; clear HB; have HO643 := n0_; have HO646 := n1_; have HO651 := n2_; have HO654 := n3_; have BK639 := n4_; have BK656 := n5_; have HB := n6_; clear n0_ n1_ n2_ n3_ n4_ n5_ n6_; (try clear hb); (try clear hb2); (try clear hk); (try clear hi)))
    have n0_ := Aside0.mk (Kd.S_drew HO643.out)
    have n1_ := Aside0.mk (Kd.R_drew HO646.out)
    have n2_ := Aside0.mk (Kd.S_drew HO651.out)
    have n3_ := Aside0.mk (Kd.R_drew HO654.out)
    have n4_ := Aside0.mk (blk_drew BK639.out)
    have n5_ := Aside0.mk (blk_drew BK656.out)
    have n6_ := Aside0.mk (below_drew1 HB.out)
    clear HO643
    clear HO646
    clear HO651
    clear HO654
    clear BK639
    clear BK656
    clear HB
    have HO643 := n0_
    have HO646 := n1_
    have HO651 := n2_
    have HO654 := n3_
    have BK639 := n4_
    have BK656 := n5_
    have HB := n6_
    clear n0_ n1_ n2_ n3_ n4_ n5_ n6_
    refine start_ (n := 5) (S := fun w' => w'.cell? ⟨gb656, 0, none⟩ = some (.slice Ao42 t649.length co42) ∧ w'.cell? ⟨gb656, 1, none⟩ = some (.slice Ao45 t652.length co45) ∧ w'.cell? ⟨gb656, 2, none⟩ = some (.int .i64 t655) ∧ w'.cell? ⟨gb639, 0, none⟩ = some (.slice A0_0 l0_0.length c0_0) ∧ w'.cell? ⟨gb639, 1, none⟩ = some (.slice A0_1 l0_1.length c0_1) ∧ w'.cell? ⟨gb639, 2, none⟩ = some (.int .i64 a0_2)) (ds := []) #[false, false, false, false, false] (by kernel_rfl) rfl rfl ⟨(blk_cell BK656.out 0).trans rfl, (blk_cell BK656.out 1).trans rfl, (blk_cell BK656.out 2).trans rfl, (blk_cell BK639.out 0).trans rfl, (blk_cell BK639.out 1).trans rfl, (blk_cell BK639.out 2).trans rfl⟩ (fun hHeld => ?_)
    generalize w46.drew = w47 at HO643 HO646 HO651 HO654 BK639 BK656 HB hHeld ⊢
    refine take_ (i := 0) (N := some 22) (v := ?_) (a' := ?_) #[true, false, false, false, false] rfl rfl (by kernel_rfl) (fun _ _ _ h => h) (Or.inl ⟨by rfl, ?_⟩) hHeld ?_ ?_
    rotate_left
    ·rintro w' ⟨s0, s1, s2, s3, s4, s5⟩
     go_simp
     with_reducible rfl
    rotate_left
    ·simp only [Act.put, List.setIfInBounds_toArray, List.set_cons_zero, List.set_cons_succ, i64_w, i32_w]
     rfl
    refine take_ (i := 1) (N := some 23) (v := ?_) (a' := ?_) #[true, true, false, false, false] rfl rfl (by kernel_rfl) (fun _ _ _ h => h) (Or.inl ⟨by rfl, ?_⟩) hHeld ?_ ?_
    rotate_left
    ·rintro w' ⟨s0, s1, s2, s3, s4, s5⟩
     go_simp
     with_reducible rfl
    rotate_left
    ·simp only [Act.put, List.setIfInBounds_toArray, List.set_cons_zero, List.set_cons_succ, i64_w, i32_w]
     rfl
    refine one_ (i := 2) (N := some 24) #[true, true, true, false, false] rfl rfl (by kernel_rfl) (by decide) (fun K hK => ?_)
    refine goes_ Try.func20 (by kernel_rfl) rfl #[.agg #[.slice A0_0 l0_0.length c0_0, .slice A0_1 l0_1.length c0_1, .int .i64 a0_2]] (by rfl) rfl rfl (by (try simp only [List.map_toArray, List.map_cons, List.map_nil]); first | done | rfl | (simp only [List.length_drop, List.length_take]; rfl)) ?_
    with_reducible refine (laws_toCode.calls k _ _ l0_0 _ _ l0_1 a0_2 t658 t661 t664 _ ?side1 ?side2 ?side3 ?side4 A28.out).mono ?_
    (case side1 => repeat (first | exact (Kd.C_below HR0_0.out HB.out) | (with_reducible refine Kd.C_alloc ?_ _) | (with_reducible refine Kd.C_drewN ?_ _) | (with_reducible refine Kd.C_drew ?_)))
    (case side2 => exact HC0_0.out)
    (case side3 => repeat (first | exact (Kd.C_below HR0_1.out HB.out) | (with_reducible refine Kd.C_alloc ?_ _) | (with_reducible refine Kd.C_drewN ?_ _) | (with_reducible refine Kd.C_drew ?_)))
    (case side4 => exact HC0_1.out)
    rintro e w48 ⟨v659, v662, rfl, ho0, ho1, hb⟩
    refine ⟨_, rfl, ?_⟩
    have n0_ := Aside0.mk (Kd.S_mono (Kd.S_told (Kd.S_told (Kd.S_old (by (with_reducible repeat (first | apply Kd.S_alloc | apply Kd.S_drewN | apply Kd.S_drew)); exact HO643.out) hb) (Kd.S_base ho0)) (Kd.R_base ho1)) (fun _ h_ => h_.1))
    have n1_ := Aside0.mk (Kd.R_elder' (lf HO646) (Kd.R_base ho1) hb)
    have n2_ := Aside0.mk (Kd.S_mono (Kd.S_told (Kd.S_told (Kd.S_old (by (with_reducible repeat (first | apply Kd.S_alloc | apply Kd.S_drewN | apply Kd.S_drew)); exact HO651.out) hb) (Kd.S_base ho0)) (Kd.R_base ho1)) (fun _ h_ => h_.1))
    have n3_ := Aside0.mk (Kd.R_elder' (lf HO654) (Kd.R_base ho1) hb)
    have n4_ := Aside0.mk (Kd.S_lower (Kd.S_new' (Kd.S_new' (Kd.S_new' (Kd.S_new' ho0 (Kd.S_lt (by (with_reducible repeat (first | apply Kd.S_alloc | apply Kd.S_drewN | apply Kd.S_drew)); exact HO643.out))) (Kd.R_lt (lf HO646))) (Kd.S_lt (by (with_reducible repeat (first | apply Kd.S_alloc | apply Kd.S_drewN | apply Kd.S_drew)); exact HO651.out))) (Kd.R_lt (lf HO654))) (below_size bw))
    have n5_ := Aside0.mk (Kd.R_lower (Kd.R_new' (Kd.R_new' ho1 (Kd.R_lt (lf HO646))) (Kd.R_lt (lf HO654))) (below_size bw))
    have n6_ := Aside0.mk (blk_below (g := gb639) (o := .cells #[.slice A0_0 l0_0.length c0_0, .slice A0_1 l0_1.length c0_1, .int .i64 a0_2] 50 (0, 0)) (lb BK639) hb)
    have n7_ := Aside0.mk (blk_below (g := gb656) (o := .cells #[.slice Ao42 t649.length co42, .slice Ao45 t652.length co45, .int .i64 t655] 58 (0, 0)) (lb BK656) hb)
    have n8_ := Aside0.mk (below_step bw hb)
    clear HO643
    clear HO646
    clear HO651
    clear HO654
    clear BK639
    clear BK656
    clear HB
    have HO643 := n0_
    have HO646 := n1_
    have HO651 := n2_
    have HO654 := n3_
    have HO660 := n4_
    have HO663 := n5_
    have BK639 := n6_
    have BK656 := n7_
    have HB := n8_
    clear n0_ n1_ n2_ n3_ n4_ n5_ n6_ n7_ n8_
    (try clear hb)
    (try clear hb2)
    (try clear hk)
    (try clear hi)
    (try clear ho0)
    (try clear ho1)
    obtain ⟨Ao49, co49, eo49⟩ := Kd.S_slice HO660.out
    (first | subst eo49 | (injection eo49 with f1_ f2_ f3_; have f4_ := f1_.symm; have f5_ := f3_.symm; clear f1_ f2_ f3_; subst f4_; subst f5_))
    obtain ⟨Ao50, co50, eo50⟩ := Kd.R_slice HO663.out
    (first | subst eo50 | (injection eo50 with f1_ f2_ f3_; have f4_ := f1_.symm; have f5_ := f3_.symm; clear f1_ f2_ f3_; subst f4_; subst f5_))
    refine hK.out _ _ ⟨(blk_cell BK656.out 0).trans rfl, (blk_cell BK656.out 1).trans rfl, (blk_cell BK656.out 2).trans rfl, (blk_cell BK639.out 0).trans rfl, (blk_cell BK639.out 1).trans rfl, (blk_cell BK639.out 2).trans rfl⟩ (fun hHeld => ?_)
    clear hK K
    refine norm_ (a' := ?_) ?_ ?_
    rotate_left
    ·show Act.put _ (some 24) _ = _
     simp only [Act.put, List.setIfInBounds_toArray, List.set_cons_zero, List.set_cons_succ, i64_w, i32_w]
     rfl
    refine one_ (i := 3) (N := some 25) #[true, true, true, true, false] rfl rfl (by kernel_rfl) (by decide) (fun K hK => ?_)
    refine goes_ Try.func22 (by kernel_rfl) rfl #[.agg #[.slice Ao42 t649.length co42, .slice Ao45 t652.length co45, .int .i64 t655], .agg #[.slice Ao49 t658.length co49, .slice Ao50 t661.length co50, .int .i64 t664]] (by rfl) rfl rfl (by (try simp only [List.map_toArray, List.map_cons, List.map_nil]); first | done | rfl | (simp only [List.length_drop, List.length_take]; rfl)) ?_
    with_reducible refine (laws_eqCode.calls k _ _ t649 _ _ t652 t655 _ _ t658 _ _ t661 t664 true _ ?side1 ?side2 ?side3 ?side4 ?side5 ?side6 ?side7 ?side8 A29.out).mono ?_
    (case side1 => repeat (first | exact (Kd.S_reads' HO651.out).2.2 | (with_reducible refine Kd.C_alloc ?_ _) | (with_reducible refine Kd.C_drewN ?_ _) | (with_reducible refine Kd.C_drew ?_)))
    (case side2 => exact (Kd.S_reads' HO651.out).2.1)
    (case side3 => repeat (first | exact (Kd.R_reads' HO654.out).2.2 | (with_reducible refine Kd.C_alloc ?_ _) | (with_reducible refine Kd.C_drewN ?_ _) | (with_reducible refine Kd.C_drew ?_)))
    (case side4 => exact (Kd.R_reads' HO654.out).2.1)
    (case side5 => repeat (first | exact (Kd.S_reads' HO660.out).2.2 | (with_reducible refine Kd.C_alloc ?_ _) | (with_reducible refine Kd.C_drewN ?_ _) | (with_reducible refine Kd.C_drew ?_)))
    (case side6 => exact (Kd.S_reads' HO660.out).2.1)
    (case side7 => repeat (first | exact (Kd.R_reads' HO663.out).2.2 | (with_reducible refine Kd.C_alloc ?_ _) | (with_reducible refine Kd.C_drewN ?_ _) | (with_reducible refine Kd.C_drew ?_)))
    (case side8 => exact (Kd.R_reads' HO663.out).2.1)
    rintro e w51 ⟨rfl, hb⟩
    refine ⟨_, rfl, ?_⟩
    have n0_ := Aside0.mk (Kd.S_below (by (with_reducible repeat (first | apply Kd.S_alloc | apply Kd.S_drewN | apply Kd.S_drew)); exact HO643.out) hb)
    have n1_ := Aside0.mk (Kd.R_below (lf HO646) hb)
    have n2_ := Aside0.mk (Kd.S_below (by (with_reducible repeat (first | apply Kd.S_alloc | apply Kd.S_drewN | apply Kd.S_drew)); exact HO651.out) hb)
    have n3_ := Aside0.mk (Kd.R_below (lf HO654) hb)
    have n4_ := Aside0.mk (Kd.S_below (by (with_reducible repeat (first | apply Kd.S_alloc | apply Kd.S_drewN | apply Kd.S_drew)); exact HO660.out) hb)
    have n5_ := Aside0.mk (Kd.R_below (lf HO663) hb)
    have n6_ := Aside0.mk (blk_below (g := gb639) (o := .cells #[.slice A0_0 l0_0.length c0_0, .slice A0_1 l0_1.length c0_1, .int .i64 a0_2] 50 (0, 0)) (lb BK639) hb)
    have n7_ := Aside0.mk (blk_below (g := gb656) (o := .cells #[.slice Ao42 t649.length co42, .slice Ao45 t652.length co45, .int .i64 t655] 58 (0, 0)) (lb BK656) hb)
    have n8_ := Aside0.mk (below_step bw hb)
    clear HO643
    clear HO646
    clear HO651
    clear HO654
    clear HO660
    clear HO663
    clear BK639
    clear BK656
    clear HB
    have HO643 := n0_
    have HO646 := n1_
    have HO651 := n2_
    have HO654 := n3_
    have HO660 := n4_
    have HO663 := n5_
    have BK639 := n6_
    have BK656 := n7_
    have HB := n8_
    clear n0_ n1_ n2_ n3_ n4_ n5_ n6_ n7_ n8_
    (try clear hb)
    (try clear hb2)
    (try clear hk)
    (try clear hi)
    refine hK.out _ _ ⟨(blk_cell BK656.out 0).trans rfl, (blk_cell BK656.out 1).trans rfl, (blk_cell BK656.out 2).trans rfl, (blk_cell BK639.out 0).trans rfl, (blk_cell BK639.out 1).trans rfl, (blk_cell BK639.out 2).trans rfl⟩ (fun hHeld => ?_)
    clear hK K
    refine norm_ (a' := ?_) ?_ ?_
    rotate_left
    ·show Act.put _ (some 25) _ = _
     simp only [Act.put, List.setIfInBounds_toArray, List.set_cons_zero, List.set_cons_succ, i64_w, i32_w]
     rfl
    refine pure_ (i := 4) (N := some 26) (v := ?_) (a' := ?_) #[true, true, true, true, true] rfl rfl (by kernel_rfl) (fun _ _ _ h => h) (Or.inl ⟨by rfl, ?_⟩) ?_ ?_
    rotate_left
    ·intro w'
     go_simp
     with_reducible rfl
    rotate_left
    ·simp only [Act.put, List.setIfInBounds_toArray, List.set_cons_zero, List.set_cons_succ, i64_w, i32_w]
     rfl
    refine done_ (by kernel_rfl) ?_
    try go_wp2
    go_ret
    exact ⟨by first | rfl | (simp [errW_none, errW_some] <;> rfl) | (simp [*, errW_none, errW_some] <;> rfl), bw⟩
   ·replace c30 := Bool.eq_false_iff.mpr c30
    subst c30
    have H1 : (some false) = some r := by rw [if_neg (show ¬ (false = true) by decide)] at H; exact H
    clear H
    have H := H1
    clear H1
    obtain rfl := Option.some.inj H
    go_enter Try.func5, Try.ntmps5
    try go_wp2_with (first | ((with_reducible refine gate_dst (N := 1) rfl ?_); refine box_event ?hg (N := 1) ?hd (cs := #[.slice A0_0 l0_0.length c0_0, .slice A0_1 l0_1.length c0_1, .int .i64 a0_2]) (t := 50) ?hr ?_; (case hd => rfl); (case hg => rfl); (case hr => first | (go_simp; done) | (go_simp; rfl)); intro gb639 hg w52 hbox hb; have n0_ := Aside0.mk (below_step bw hb); have n1_ := Aside0.mk (hbox); have n2_ := Aside0.mk ((by rw [hg]; exact (below_size bw) : w.heap.size ≤ gb639)); have n3_ := Aside0.mk ((by rw [hg]; exact (below_size bw) : w.heap.size ≤ gb639)); clear HB; have HB := n0_; have BK639 := n1_; have GW639 := n2_; have GE639 := n3_; clear n0_ n1_ n2_ n3_; clear hb hbox hg; have hcz53_0 : w52.cell? ⟨gb639, 0, none⟩ = some (.slice A0_0 l0_0.length c0_0) := (blk_cell BK639.out 0).trans rfl; have hcz53_1 : w52.cell? ⟨gb639, 1, none⟩ = some (.slice A0_1 l0_1.length c0_1) := (blk_cell BK639.out 1).trans rfl; have hcz53_2 : w52.cell? ⟨gb639, 2, none⟩ = some (.int .i64 a0_2) := (blk_cell BK639.out 2).trans rfl; have hfz53_0 := blk_frozen BK639.out 0; have hfz53_1 := blk_frozen BK639.out 1; have hfz53_2 := blk_frozen BK639.out 2) | ((with_reducible refine at_fn (f := 18) rfl ?_); refine goesL_ (some 9) rfl rfl Try.func18 (by kernel_rfl) rfl #[.agg #[.slice A0_0 l0_0.length c0_0, .slice A0_1 l0_1.length c0_1, .int .i64 a0_2], .int .i64 1048576] rfl (by (try simp only [List.map_toArray, List.map_cons, List.map_nil]); first | done | rfl | (simp only [List.length_drop, List.length_take]; rfl)) ?_; (with_reducible refine (laws_szCode.calls k _ _ l0_0 _ _ l0_1 a0_2 1048576 t640 _ ?side1 ?side2 ?side3 ?side4 A2.out).mono ?_); (case side1 => repeat (first | exact (Kd.C_below HR0_0.out HB.out) | (with_reducible refine Kd.C_alloc ?_ _) | (with_reducible refine Kd.C_drewN ?_ _) | (with_reducible refine Kd.C_drew ?_))); (case side2 => exact HC0_0.out); (case side3 => repeat (first | exact (Kd.C_below HR0_1.out HB.out) | (with_reducible refine Kd.C_alloc ?_ _) | (with_reducible refine Kd.C_drewN ?_ _) | (with_reducible refine Kd.C_drew ?_))); (case side4 => exact HC0_1.out); rintro e w54 ⟨rfl, hb⟩; refine ⟨_, rfl, ?_⟩; have n0_ := Aside0.mk (blk_below (g := gb639) (o := .cells #[.slice A0_0 l0_0.length c0_0, .slice A0_1 l0_1.length c0_1, .int .i64 a0_2] 50 (0, 0)) (lb BK639) hb); have n1_ := Aside0.mk (below_step bw hb); clear BK639; clear HB; have BK639 := n0_; have HB := n1_; clear n0_ n1_; (try clear hb); (try clear hb2); (try clear hk); (try clear hi); have hcz55_0 : w54.cell? ⟨gb639, 0, none⟩ = some (.slice A0_0 l0_0.length c0_0) := (blk_cell BK639.out 0).trans rfl; have hcz55_1 : w54.cell? ⟨gb639, 1, none⟩ = some (.slice A0_1 l0_1.length c0_1) := (blk_cell BK639.out 1).trans rfl; have hcz55_2 : w54.cell? ⟨gb639, 2, none⟩ = some (.int .i64 a0_2) := (blk_cell BK639.out 2).trans rfl; have hfz55_0 := blk_frozen BK639.out 0; have hfz55_1 := blk_frozen BK639.out 1; have hfz55_2 := blk_frozen BK639.out 2) | ((with_reducible refine at_fn (f := 20) rfl ?_); refine goesL_ (some 13) rfl rfl Try.func20 (by kernel_rfl) rfl #[.agg #[.slice A0_0 l0_0.length c0_0, .slice A0_1 l0_1.length c0_1, .int .i64 a0_2]] rfl (by (try simp only [List.map_toArray, List.map_cons, List.map_nil]); first | done | rfl | (simp only [List.length_drop, List.length_take]; rfl)) ?_; (with_reducible refine (laws_toCode.calls k _ _ l0_0 _ _ l0_1 a0_2 t641 t644 t647 _ ?side1 ?side2 ?side3 ?side4 A7.out).mono ?_); (case side1 => repeat (first | exact (Kd.C_below HR0_0.out HB.out) | (with_reducible refine Kd.C_alloc ?_ _) | (with_reducible refine Kd.C_drewN ?_ _) | (with_reducible refine Kd.C_drew ?_))); (case side2 => exact HC0_0.out); (case side3 => repeat (first | exact (Kd.C_below HR0_1.out HB.out) | (with_reducible refine Kd.C_alloc ?_ _) | (with_reducible refine Kd.C_drewN ?_ _) | (with_reducible refine Kd.C_drew ?_))); (case side4 => exact HC0_1.out); rintro e w56 ⟨v642, v645, rfl, ho0, ho1, hb⟩; refine ⟨_, rfl, ?_⟩; have n0_ := Aside0.mk (Kd.S_lower ho0 (below_size bw)); have n1_ := Aside0.mk (Kd.R_lower ho1 (below_size bw)); have n2_ := Aside0.mk (blk_below (g := gb639) (o := .cells #[.slice A0_0 l0_0.length c0_0, .slice A0_1 l0_1.length c0_1, .int .i64 a0_2] 50 (0, 0)) (lb BK639) hb); have n3_ := Aside0.mk (below_step bw hb); clear BK639; clear HB; have HO643 := n0_; have HO646 := n1_; have BK639 := n2_; have HB := n3_; clear n0_ n1_ n2_ n3_; (try clear hb); (try clear hb2); (try clear hk); (try clear hi); (try clear ho0); (try clear ho1); obtain ⟨Ao57, co57, eo57⟩ := Kd.S_slice HO643.out; subst eo57; obtain ⟨Ao58, co58, eo58⟩ := Kd.R_slice HO646.out; subst eo58) | ((with_reducible refine at_fn (f := 19) rfl ?_); refine goesL_ (some 14) rfl rfl Try.func19 (by kernel_rfl) rfl #[.agg #[.slice Ao57 t641.length co57, .slice Ao58 t644.length co58, .int .i64 t647]] rfl (by (try simp only [List.map_toArray, List.map_cons, List.map_nil]); first | done | rfl | (simp only [List.length_drop, List.length_take]; rfl)) ?_; (with_reducible refine (spec_ValidCode.calls _ _ t641 _ _ t644 t647 t648 _ ?side1 ?side2 ?side3 ?side4 A8.out).mono ?_); (case side1 => repeat (first | exact (Kd.S_reads' HO643.out).2.2 | (with_reducible refine Kd.C_alloc ?_ _) | (with_reducible refine Kd.C_drewN ?_ _) | (with_reducible refine Kd.C_drew ?_))); (case side2 => exact (Kd.S_reads' HO643.out).2.1); (case side3 => repeat (first | exact (Kd.R_reads' HO646.out).2.2 | (with_reducible refine Kd.C_alloc ?_ _) | (with_reducible refine Kd.C_drewN ?_ _) | (with_reducible refine Kd.C_drew ?_))); (case side4 => exact (Kd.R_reads' HO646.out).2.1); rintro e w59 ⟨rfl, hb⟩; refine ⟨_, rfl, ?_⟩; have n0_ := Aside0.mk (Kd.S_below (by (with_reducible repeat (first | apply Kd.S_alloc | apply Kd.S_drewN | apply Kd.S_drew)); exact HO643.out) hb); have n1_ := Aside0.mk (Kd.R_below (lf HO646) hb); have n2_ := Aside0.mk (blk_below (g := gb639) (o := .cells #[.slice A0_0 l0_0.length c0_0, .slice A0_1 l0_1.length c0_1, .int .i64 a0_2] 50 (0, 0)) (lb BK639) hb); have n3_ := Aside0.mk (below_step bw hb); clear HO643; clear HO646; clear BK639; clear HB; have HO643 := n0_; have HO646 := n1_; have BK639 := n2_; have HB := n3_; clear n0_ n1_ n2_ n3_; (try clear hb); (try clear hb2); (try clear hk); (try clear hi); have hcz60_0 : w59.cell? ⟨gb639, 0, none⟩ = some (.slice A0_0 l0_0.length c0_0) := (blk_cell BK639.out 0).trans rfl; have hcz60_1 : w59.cell? ⟨gb639, 1, none⟩ = some (.slice A0_1 l0_1.length c0_1) := (blk_cell BK639.out 1).trans rfl; have hcz60_2 : w59.cell? ⟨gb639, 2, none⟩ = some (.int .i64 a0_2) := (blk_cell BK639.out 2).trans rfl; have hfz60_0 := blk_frozen BK639.out 0; have hfz60_1 := blk_frozen BK639.out 1; have hfz60_2 := blk_frozen BK639.out 2) | ((with_reducible refine at_fn (f := 20) rfl ?_); refine goesL_ (some 16) rfl rfl Try.func20 (by kernel_rfl) rfl #[.agg #[.slice A0_0 l0_0.length c0_0, .slice A0_1 l0_1.length c0_1, .int .i64 a0_2]] rfl (by (try simp only [List.map_toArray, List.map_cons, List.map_nil]); first | done | rfl | (simp only [List.length_drop, List.length_take]; rfl)) ?_; (with_reducible refine (laws_toCode.calls k _ _ l0_0 _ _ l0_1 a0_2 t649 t652 t655 _ ?side1 ?side2 ?side3 ?side4 A9.out).mono ?_); (case side1 => repeat (first | exact (Kd.C_below HR0_0.out HB.out) | (with_reducible refine Kd.C_alloc ?_ _) | (with_reducible refine Kd.C_drewN ?_ _) | (with_reducible refine Kd.C_drew ?_))); (case side2 => exact HC0_0.out); (case side3 => repeat (first | exact (Kd.C_below HR0_1.out HB.out) | (with_reducible refine Kd.C_alloc ?_ _) | (with_reducible refine Kd.C_drewN ?_ _) | (with_reducible refine Kd.C_drew ?_))); (case side4 => exact HC0_1.out); rintro e w61 ⟨v650, v653, rfl, ho0, ho1, hb⟩; refine ⟨_, rfl, ?_⟩; have n0_ := Aside0.mk (Kd.S_mono (Kd.S_told (Kd.S_told (Kd.S_old (by (with_reducible repeat (first | apply Kd.S_alloc | apply Kd.S_drewN | apply Kd.S_drew)); exact HO643.out) hb) (Kd.S_base ho0)) (Kd.R_base ho1)) (fun _ h_ => h_.1)); have n1_ := Aside0.mk (Kd.R_elder' (lf HO646) (Kd.R_base ho1) hb); have n2_ := Aside0.mk (Kd.S_lower (Kd.S_new' (Kd.S_new' ho0 (Kd.S_lt (by (with_reducible repeat (first | apply Kd.S_alloc | apply Kd.S_drewN | apply Kd.S_drew)); exact HO643.out))) (Kd.R_lt (lf HO646))) (below_size bw)); have n3_ := Aside0.mk (Kd.R_lower (Kd.R_new' ho1 (Kd.R_lt (lf HO646))) (below_size bw)); have n4_ := Aside0.mk (blk_below (g := gb639) (o := .cells #[.slice A0_0 l0_0.length c0_0, .slice A0_1 l0_1.length c0_1, .int .i64 a0_2] 50 (0, 0)) (lb BK639) hb); have n5_ := Aside0.mk (below_step bw hb); clear HO643; clear HO646; clear BK639; clear HB; have HO643 := n0_; have HO646 := n1_; have HO651 := n2_; have HO654 := n3_; have BK639 := n4_; have HB := n5_; clear n0_ n1_ n2_ n3_ n4_ n5_; (try clear hb); (try clear hb2); (try clear hk); (try clear hi); (try clear ho0); (try clear ho1)) | ((with_reducible refine gate_dst (N := 5) rfl ?_); refine box_event ?hg (N := 5) ?hd (cs := #[.slice none 0 0, .slice none 0 0, .int .i64 0]) (t := 58) ?hr ?_; (case hd => rfl); (case hg => rfl); (case hr => first | (go_simp; done) | (go_simp; rfl)); intro gb656 hg w62 hbox hb; have n0_ := Aside0.mk (Kd.S_below (by (with_reducible repeat (first | apply Kd.S_alloc | apply Kd.S_drewN | apply Kd.S_drew)); exact HO643.out) hb); have n1_ := Aside0.mk (Kd.R_below (lf HO646) hb); have n2_ := Aside0.mk (Kd.S_below (by (with_reducible repeat (first | apply Kd.S_alloc | apply Kd.S_drewN | apply Kd.S_drew)); exact HO651.out) hb); have n3_ := Aside0.mk (Kd.R_below (lf HO654) hb); have n4_ := Aside0.mk (blk_below (g := gb639) (o := .cells #[.slice A0_0 l0_0.length c0_0, .slice A0_1 l0_1.length c0_1, .int .i64 a0_2] 50 (0, 0)) (lb BK639) hb); have n5_ := Aside0.mk (below_step bw hb); have n6_ := Aside0.mk (hbox); have n7_ := Aside0.mk ((by rw [hg]; exact (below_size bw) : w.heap.size ≤ gb656)); have n8_ := Aside0.mk ((by rw [hg]; exact (below_size bw) : w.heap.size ≤ gb656)); have n9_ := Aside0.mk ((by rw [hg]; exact Nat.ne_of_lt (blk_lt (g := gb639) (o := .cells #[.slice A0_0 l0_0.length c0_0, .slice A0_1 l0_1.length c0_1, .int .i64 a0_2] 50 (0, 0)) (lb BK639)) : gb639 ≠ gb656)); have n10_ := Aside0.mk ((by rw [hg]; exact Nat.ne_of_gt (blk_lt (g := gb639) (o := .cells #[.slice A0_0 l0_0.length c0_0, .slice A0_1 l0_1.length c0_1, .int .i64 a0_2] 50 (0, 0)) (lb BK639)) : gb656 ≠ gb639)); clear HO643; clear HO646; clear HO651; clear HO654; clear BK639; clear HB; have HO643 := n0_; have HO646 := n1_; have HO651 := n2_; have HO654 := n3_; have BK639 := n4_; have HB := n5_; have BK656 := n6_; have GW656 := n7_; have GE656 := n8_; have NB639_656 := n9_; have NB656_639 := n10_; clear n0_ n1_ n2_ n3_ n4_ n5_ n6_ n7_ n8_ n9_ n10_; clear hb hbox hg; obtain ⟨Ao63, co63, eo63⟩ := Kd.S_slice HO651.out; subst eo63; have hnb64 := NB656_639.out; have hnc64 := NB639_656.out; have hcz65_0 : w62.cell? ⟨gb656, 0, none⟩ = some (.slice none 0 0) := (blk_cell BK656.out 0).trans rfl; have hcz65_1 : w62.cell? ⟨gb656, 1, none⟩ = some (.slice none 0 0) := (blk_cell BK656.out 1).trans rfl; have hcz65_2 : w62.cell? ⟨gb656, 2, none⟩ = some (.int .i64 0) := (blk_cell BK656.out 2).trans rfl; have hfz65_0 := blk_frozen BK656.out 0; have hfz65_1 := blk_frozen BK656.out 1; have hfz65_2 := blk_frozen BK656.out 2; obtain ⟨Ao66, co66, eo66⟩ := Kd.R_slice HO654.out; subst eo66) | ((with_reducible refine at_fn (f := 21) rfl ?_); refine goesL_ (some 18) rfl rfl Try.func21 (by kernel_rfl) rfl #[.agg #[.slice Ao63 t649.length co63, .slice Ao66 t652.length co66, .int .i64 t655]] rfl (by (try simp only [List.map_toArray, List.map_cons, List.map_nil]); first | done | rfl | (simp only [List.length_drop, List.length_take]; rfl)) ?_; (with_reducible refine (impl_ValidCode.calls _ _ t649 _ _ t652 t655 t657 _ ?side1 ?side2 ?side3 ?side4 A10.out).mono ?_); (case side1 => refine (Kd.S_reads' (e := 56) (base := w.heap.size) (ok := fun k_ => ((some k_ ≠ (.slice Ao66 t652.length co66 : Value).ownBlock ∧ some k_ ≠ (.slice Ao57 t641.length co57 : Value).ownBlock) ∧ some k_ ≠ (.slice Ao58 t644.length co58 : Value).ownBlock)) (n := t649.length) (c := co63) ?_).2.2; exact (by (with_reducible repeat (first | apply Kd.S_alloc | apply Kd.S_drewN | apply Kd.S_drew)); exact (Kd.S_mono (Kd.S_far (p := ⟨gb656, 2, none⟩) (Kd.S_far (p := ⟨gb656, 1, none⟩) (Kd.S_far (p := ⟨gb656, 0, none⟩) (Kd.S_types HO651.out BK656.out (by decide)) (fun _ hk => hk.2) (.slice Ao63 t649.length co63)) (fun _ hk => hk.2) (.slice Ao66 t652.length co66)) (fun _ hk => hk.2) (.int .i64 t655)) (fun _ h_ => h_.1)))); (case side2 => exact (Kd.S_reads' HO651.out).2.1); (case side3 => refine (Kd.R_reads' (e := 138) (base := w.heap.size) (ok := fun k_ => (True ∧ some k_ ≠ (.slice Ao58 t644.length co58 : Value).ownBlock)) (n := t652.length) (c := co66) ?_).2.2; exact (by (with_reducible repeat (first | apply Kd.R_alloc | apply Kd.R_drewN | apply Kd.R_drew)); exact (Kd.R_mono (Kd.R_far (p := ⟨gb656, 2, none⟩) (Kd.R_far (p := ⟨gb656, 1, none⟩) (Kd.R_far (p := ⟨gb656, 0, none⟩) (Kd.R_types HO654.out BK656.out (by decide)) (fun _ hk => hk.2) (.slice Ao63 t649.length co63)) (fun _ hk => hk.2) (.slice Ao66 t652.length co66)) (fun _ hk => hk.2) (.int .i64 t655)) (fun _ h_ => h_.1)))); (case side4 => exact (Kd.R_reads' HO654.out).2.1); rintro e w67 ⟨rfl, hb⟩; refine ⟨_, rfl, ?_⟩; have n0_ := Aside0.mk (Kd.S_below (by (with_reducible repeat (first | apply Kd.S_alloc | apply Kd.S_drewN | apply Kd.S_drew)); exact (Kd.S_mono (Kd.S_far (p := ⟨gb656, 2, none⟩) (Kd.S_far (p := ⟨gb656, 1, none⟩) (Kd.S_far (p := ⟨gb656, 0, none⟩) (Kd.S_types HO643.out BK656.out (by decide)) (fun _ hk => hk.2) (.slice Ao63 t649.length co63)) (fun _ hk => hk.2) (.slice Ao66 t652.length co66)) (fun _ hk => hk.2) (.int .i64 t655)) (fun _ h_ => h_.1))) hb); have n1_ := Aside0.mk (Kd.R_below (by (with_reducible repeat (first | apply Kd.R_alloc | apply Kd.R_drewN | apply Kd.R_drew)); exact (Kd.R_mono (Kd.R_far (p := ⟨gb656, 2, none⟩) (Kd.R_far (p := ⟨gb656, 1, none⟩) (Kd.R_far (p := ⟨gb656, 0, none⟩) (Kd.R_types HO646.out BK656.out (by decide)) (fun _ hk => hk.2) (.slice Ao63 t649.length co63)) (fun _ hk => hk.2) (.slice Ao66 t652.length co66)) (fun _ hk => hk.2) (.int .i64 t655)) (fun _ h_ => h_.1))) hb); have n2_ := Aside0.mk (Kd.S_below (by (with_reducible repeat (first | apply Kd.S_alloc | apply Kd.S_drewN | apply Kd.S_drew)); exact (Kd.S_mono (Kd.S_far (p := ⟨gb656, 2, none⟩) (Kd.S_far (p := ⟨gb656, 1, none⟩) (Kd.S_far (p := ⟨gb656, 0, none⟩) (Kd.S_types HO651.out BK656.out (by decide)) (fun _ hk => hk.2) (.slice Ao63 t649.length co63)) (fun _ hk => hk.2) (.slice Ao66 t652.length co66)) (fun _ hk => hk.2) (.int .i64 t655)) (fun _ h_ => h_.1))) hb); have n3_ := Aside0.mk (Kd.R_below (by (with_reducible repeat (first | apply Kd.R_alloc | apply Kd.R_drewN | apply Kd.R_drew)); exact (Kd.R_mono (Kd.R_far (p := ⟨gb656, 2, none⟩) (Kd.R_far (p := ⟨gb656, 1, none⟩) (Kd.R_far (p := ⟨gb656, 0, none⟩) (Kd.R_types HO654.out BK656.out (by decide)) (fun _ hk => hk.2) (.slice Ao63 t649.length co63)) (fun _ hk => hk.2) (.slice Ao66 t652.length co66)) (fun _ hk => hk.2) (.int .i64 t655)) (fun _ h_ => h_.1))) hb); have n4_ := Aside0.mk (blk_below (g := gb639) (o := .cells #[.slice A0_0 l0_0.length c0_0, .slice A0_1 l0_1.length c0_1, .int .i64 a0_2] 50 (0, 0)) (by (with_reducible repeat (first | refine blk_drewN ?_ _ | refine blk_drew ?_ | refine blk_alloc ?_ _)); refine blk_far ?_ NB639_656.out _; (with_reducible repeat (first | refine blk_drewN ?_ _ | refine blk_drew ?_ | refine blk_alloc ?_ _)); refine blk_far ?_ NB639_656.out _; (with_reducible repeat (first | refine blk_drewN ?_ _ | refine blk_drew ?_ | refine blk_alloc ?_ _)); refine blk_far ?_ NB639_656.out _; (with_reducible repeat (first | refine blk_drewN ?_ _ | refine blk_drew ?_ | refine blk_alloc ?_ _)); exact BK639.out) hb); have n5_ := Aside0.mk (blk_below (g := gb656) (o := .cells #[.slice Ao63 t649.length co63, .slice Ao66 t652.length co66, .int .i64 t655] 58 (0, 0)) (by (with_reducible repeat (first | refine blk_drewN ?_ _ | refine blk_drew ?_ | refine blk_alloc ?_ _)); refine blk_put (cs := #[.slice Ao63 t649.length co63, .slice Ao66 t652.length co66, .int .i64 0]) ?_ 2 _ rfl; (with_reducible repeat (first | refine blk_drewN ?_ _ | refine blk_drew ?_ | refine blk_alloc ?_ _)); refine blk_put (cs := #[.slice Ao63 t649.length co63, .slice none 0 0, .int .i64 0]) ?_ 1 _ rfl; (with_reducible repeat (first | refine blk_drewN ?_ _ | refine blk_drew ?_ | refine blk_alloc ?_ _)); refine blk_put (cs := #[.slice none 0 0, .slice none 0 0, .int .i64 0]) ?_ 0 _ rfl; (with_reducible repeat (first | refine blk_drewN ?_ _ | refine blk_drew ?_ | refine blk_alloc ?_ _)); exact BK656.out) hb); have n6_ := Aside0.mk (below_step bw hb); clear HO643; clear HO646; clear HO651; clear HO654; clear BK639; clear BK656; clear HB; have HO643 := n0_; have HO646 := n1_; have HO651 := n2_; have HO654 := n3_; have BK639 := n4_; have BK656 := n5_; have HB := n6_; clear n0_ n1_ n2_ n3_ n4_ n5_ n6_; (try clear hb); (try clear hb2); (try clear hk); (try clear hi)))
    have n0_ := Aside0.mk (Kd.S_drew HO643.out)
    have n1_ := Aside0.mk (Kd.R_drew HO646.out)
    have n2_ := Aside0.mk (Kd.S_drew HO651.out)
    have n3_ := Aside0.mk (Kd.R_drew HO654.out)
    have n4_ := Aside0.mk (blk_drew BK639.out)
    have n5_ := Aside0.mk (blk_drew BK656.out)
    have n6_ := Aside0.mk (below_drew1 HB.out)
    clear HO643
    clear HO646
    clear HO651
    clear HO654
    clear BK639
    clear BK656
    clear HB
    have HO643 := n0_
    have HO646 := n1_
    have HO651 := n2_
    have HO654 := n3_
    have BK639 := n4_
    have BK656 := n5_
    have HB := n6_
    clear n0_ n1_ n2_ n3_ n4_ n5_ n6_
    refine start_ (n := 5) (S := fun w' => w'.cell? ⟨gb656, 0, none⟩ = some (.slice Ao63 t649.length co63) ∧ w'.cell? ⟨gb656, 1, none⟩ = some (.slice Ao66 t652.length co66) ∧ w'.cell? ⟨gb656, 2, none⟩ = some (.int .i64 t655) ∧ w'.cell? ⟨gb639, 0, none⟩ = some (.slice A0_0 l0_0.length c0_0) ∧ w'.cell? ⟨gb639, 1, none⟩ = some (.slice A0_1 l0_1.length c0_1) ∧ w'.cell? ⟨gb639, 2, none⟩ = some (.int .i64 a0_2)) (ds := []) #[false, false, false, false, false] (by kernel_rfl) rfl rfl ⟨(blk_cell BK656.out 0).trans rfl, (blk_cell BK656.out 1).trans rfl, (blk_cell BK656.out 2).trans rfl, (blk_cell BK639.out 0).trans rfl, (blk_cell BK639.out 1).trans rfl, (blk_cell BK639.out 2).trans rfl⟩ (fun hHeld => ?_)
    generalize w67.drew = w68 at HO643 HO646 HO651 HO654 BK639 BK656 HB hHeld ⊢
    refine take_ (i := 0) (N := some 22) (v := ?_) (a' := ?_) #[true, false, false, false, false] rfl rfl (by kernel_rfl) (fun _ _ _ h => h) (Or.inl ⟨by rfl, ?_⟩) hHeld ?_ ?_
    rotate_left
    ·rintro w' ⟨s0, s1, s2, s3, s4, s5⟩
     go_simp
     with_reducible rfl
    rotate_left
    ·simp only [Act.put, List.setIfInBounds_toArray, List.set_cons_zero, List.set_cons_succ, i64_w, i32_w]
     rfl
    refine take_ (i := 1) (N := some 23) (v := ?_) (a' := ?_) #[true, true, false, false, false] rfl rfl (by kernel_rfl) (fun _ _ _ h => h) (Or.inl ⟨by rfl, ?_⟩) hHeld ?_ ?_
    rotate_left
    ·rintro w' ⟨s0, s1, s2, s3, s4, s5⟩
     go_simp
     with_reducible rfl
    rotate_left
    ·simp only [Act.put, List.setIfInBounds_toArray, List.set_cons_zero, List.set_cons_succ, i64_w, i32_w]
     rfl
    refine one_ (i := 2) (N := some 24) #[true, true, true, false, false] rfl rfl (by kernel_rfl) (by decide) (fun K hK => ?_)
    refine goes_ Try.func20 (by kernel_rfl) rfl #[.agg #[.slice A0_0 l0_0.length c0_0, .slice A0_1 l0_1.length c0_1, .int .i64 a0_2]] (by rfl) rfl rfl (by (try simp only [List.map_toArray, List.map_cons, List.map_nil]); first | done | rfl | (simp only [List.length_drop, List.length_take]; rfl)) ?_
    with_reducible refine (laws_toCode.calls k _ _ l0_0 _ _ l0_1 a0_2 t658 t661 t664 _ ?side1 ?side2 ?side3 ?side4 A28.out).mono ?_
    (case side1 => repeat (first | exact (Kd.C_below HR0_0.out HB.out) | (with_reducible refine Kd.C_alloc ?_ _) | (with_reducible refine Kd.C_drewN ?_ _) | (with_reducible refine Kd.C_drew ?_)))
    (case side2 => exact HC0_0.out)
    (case side3 => repeat (first | exact (Kd.C_below HR0_1.out HB.out) | (with_reducible refine Kd.C_alloc ?_ _) | (with_reducible refine Kd.C_drewN ?_ _) | (with_reducible refine Kd.C_drew ?_)))
    (case side4 => exact HC0_1.out)
    rintro e w69 ⟨v659, v662, rfl, ho0, ho1, hb⟩
    refine ⟨_, rfl, ?_⟩
    have n0_ := Aside0.mk (Kd.S_mono (Kd.S_told (Kd.S_told (Kd.S_old (by (with_reducible repeat (first | apply Kd.S_alloc | apply Kd.S_drewN | apply Kd.S_drew)); exact HO643.out) hb) (Kd.S_base ho0)) (Kd.R_base ho1)) (fun _ h_ => h_.1))
    have n1_ := Aside0.mk (Kd.R_elder' (lf HO646) (Kd.R_base ho1) hb)
    have n2_ := Aside0.mk (Kd.S_mono (Kd.S_told (Kd.S_told (Kd.S_old (by (with_reducible repeat (first | apply Kd.S_alloc | apply Kd.S_drewN | apply Kd.S_drew)); exact HO651.out) hb) (Kd.S_base ho0)) (Kd.R_base ho1)) (fun _ h_ => h_.1))
    have n3_ := Aside0.mk (Kd.R_elder' (lf HO654) (Kd.R_base ho1) hb)
    have n4_ := Aside0.mk (Kd.S_lower (Kd.S_new' (Kd.S_new' (Kd.S_new' (Kd.S_new' ho0 (Kd.S_lt (by (with_reducible repeat (first | apply Kd.S_alloc | apply Kd.S_drewN | apply Kd.S_drew)); exact HO643.out))) (Kd.R_lt (lf HO646))) (Kd.S_lt (by (with_reducible repeat (first | apply Kd.S_alloc | apply Kd.S_drewN | apply Kd.S_drew)); exact HO651.out))) (Kd.R_lt (lf HO654))) (below_size bw))
    have n5_ := Aside0.mk (Kd.R_lower (Kd.R_new' (Kd.R_new' ho1 (Kd.R_lt (lf HO646))) (Kd.R_lt (lf HO654))) (below_size bw))
    have n6_ := Aside0.mk (blk_below (g := gb639) (o := .cells #[.slice A0_0 l0_0.length c0_0, .slice A0_1 l0_1.length c0_1, .int .i64 a0_2] 50 (0, 0)) (lb BK639) hb)
    have n7_ := Aside0.mk (blk_below (g := gb656) (o := .cells #[.slice Ao63 t649.length co63, .slice Ao66 t652.length co66, .int .i64 t655] 58 (0, 0)) (lb BK656) hb)
    have n8_ := Aside0.mk (below_step bw hb)
    clear HO643
    clear HO646
    clear HO651
    clear HO654
    clear BK639
    clear BK656
    clear HB
    have HO643 := n0_
    have HO646 := n1_
    have HO651 := n2_
    have HO654 := n3_
    have HO660 := n4_
    have HO663 := n5_
    have BK639 := n6_
    have BK656 := n7_
    have HB := n8_
    clear n0_ n1_ n2_ n3_ n4_ n5_ n6_ n7_ n8_
    (try clear hb)
    (try clear hb2)
    (try clear hk)
    (try clear hi)
    (try clear ho0)
    (try clear ho1)
    obtain ⟨Ao70, co70, eo70⟩ := Kd.S_slice HO660.out
    (first | subst eo70 | (injection eo70 with f1_ f2_ f3_; have f4_ := f1_.symm; have f5_ := f3_.symm; clear f1_ f2_ f3_; subst f4_; subst f5_))
    obtain ⟨Ao71, co71, eo71⟩ := Kd.R_slice HO663.out
    (first | subst eo71 | (injection eo71 with f1_ f2_ f3_; have f4_ := f1_.symm; have f5_ := f3_.symm; clear f1_ f2_ f3_; subst f4_; subst f5_))
    refine hK.out _ _ ⟨(blk_cell BK656.out 0).trans rfl, (blk_cell BK656.out 1).trans rfl, (blk_cell BK656.out 2).trans rfl, (blk_cell BK639.out 0).trans rfl, (blk_cell BK639.out 1).trans rfl, (blk_cell BK639.out 2).trans rfl⟩ (fun hHeld => ?_)
    clear hK K
    refine norm_ (a' := ?_) ?_ ?_
    rotate_left
    ·show Act.put _ (some 24) _ = _
     simp only [Act.put, List.setIfInBounds_toArray, List.set_cons_zero, List.set_cons_succ, i64_w, i32_w]
     rfl
    refine one_ (i := 3) (N := some 25) #[true, true, true, true, false] rfl rfl (by kernel_rfl) (by decide) (fun K hK => ?_)
    refine goes_ Try.func22 (by kernel_rfl) rfl #[.agg #[.slice Ao63 t649.length co63, .slice Ao66 t652.length co66, .int .i64 t655], .agg #[.slice Ao70 t658.length co70, .slice Ao71 t661.length co71, .int .i64 t664]] (by rfl) rfl rfl (by (try simp only [List.map_toArray, List.map_cons, List.map_nil]); first | done | rfl | (simp only [List.length_drop, List.length_take]; rfl)) ?_
    with_reducible refine (laws_eqCode.calls k _ _ t649 _ _ t652 t655 _ _ t658 _ _ t661 t664 false _ ?side1 ?side2 ?side3 ?side4 ?side5 ?side6 ?side7 ?side8 A29.out).mono ?_
    (case side1 => repeat (first | exact (Kd.S_reads' HO651.out).2.2 | (with_reducible refine Kd.C_alloc ?_ _) | (with_reducible refine Kd.C_drewN ?_ _) | (with_reducible refine Kd.C_drew ?_)))
    (case side2 => exact (Kd.S_reads' HO651.out).2.1)
    (case side3 => repeat (first | exact (Kd.R_reads' HO654.out).2.2 | (with_reducible refine Kd.C_alloc ?_ _) | (with_reducible refine Kd.C_drewN ?_ _) | (with_reducible refine Kd.C_drew ?_)))
    (case side4 => exact (Kd.R_reads' HO654.out).2.1)
    (case side5 => repeat (first | exact (Kd.S_reads' HO660.out).2.2 | (with_reducible refine Kd.C_alloc ?_ _) | (with_reducible refine Kd.C_drewN ?_ _) | (with_reducible refine Kd.C_drew ?_)))
    (case side6 => exact (Kd.S_reads' HO660.out).2.1)
    (case side7 => repeat (first | exact (Kd.R_reads' HO663.out).2.2 | (with_reducible refine Kd.C_alloc ?_ _) | (with_reducible refine Kd.C_drewN ?_ _) | (with_reducible refine Kd.C_drew ?_)))
    (case side8 => exact (Kd.R_reads' HO663.out).2.1)
    rintro e w72 ⟨rfl, hb⟩
    refine ⟨_, rfl, ?_⟩
    have n0_ := Aside0.mk (Kd.S_below (by (with_reducible repeat (first | apply Kd.S_alloc | apply Kd.S_drewN | apply Kd.S_drew)); exact HO643.out) hb)
    have n1_ := Aside0.mk (Kd.R_below (lf HO646) hb)
    have n2_ := Aside0.mk (Kd.S_below (by (with_reducible repeat (first | apply Kd.S_alloc | apply Kd.S_drewN | apply Kd.S_drew)); exact HO651.out) hb)
    have n3_ := Aside0.mk (Kd.R_below (lf HO654) hb)
    have n4_ := Aside0.mk (Kd.S_below (by (with_reducible repeat (first | apply Kd.S_alloc | apply Kd.S_drewN | apply Kd.S_drew)); exact HO660.out) hb)
    have n5_ := Aside0.mk (Kd.R_below (lf HO663) hb)
    have n6_ := Aside0.mk (blk_below (g := gb639) (o := .cells #[.slice A0_0 l0_0.length c0_0, .slice A0_1 l0_1.length c0_1, .int .i64 a0_2] 50 (0, 0)) (lb BK639) hb)
    have n7_ := Aside0.mk (blk_below (g := gb656) (o := .cells #[.slice Ao63 t649.length co63, .slice Ao66 t652.length co66, .int .i64 t655] 58 (0, 0)) (lb BK656) hb)
    have n8_ := Aside0.mk (below_step bw hb)
    clear HO643
    clear HO646
    clear HO651
    clear HO654
    clear HO660
    clear HO663
    clear BK639
    clear BK656
    clear HB
    have HO643 := n0_
    have HO646 := n1_
    have HO651 := n2_
    have HO654 := n3_
    have HO660 := n4_
    have HO663 := n5_
    have BK639 := n6_
    have BK656 := n7_
    have HB := n8_
    clear n0_ n1_ n2_ n3_ n4_ n5_ n6_ n7_ n8_
    (try clear hb)
    (try clear hb2)
    (try clear hk)
    (try clear hi)
    refine hK.out _ _ ⟨(blk_cell BK656.out 0).trans rfl, (blk_cell BK656.out 1).trans rfl, (blk_cell BK656.out 2).trans rfl, (blk_cell BK639.out 0).trans rfl, (blk_cell BK639.out 1).trans rfl, (blk_cell BK639.out 2).trans rfl⟩ (fun hHeld => ?_)
    clear hK K
    refine norm_ (a' := ?_) ?_ ?_
    rotate_left
    ·show Act.put _ (some 25) _ = _
     simp only [Act.put, List.setIfInBounds_toArray, List.set_cons_zero, List.set_cons_succ, i64_w, i32_w]
     rfl
    refine pure_ (i := 4) (N := some 26) (v := ?_) (a' := ?_) #[true, true, true, true, true] rfl rfl (by kernel_rfl) (fun _ _ _ h => h) (Or.inl ⟨by rfl, ?_⟩) ?_ ?_
    rotate_left
    ·intro w'
     go_simp
     with_reducible rfl
    rotate_left
    ·simp only [Act.put, List.setIfInBounds_toArray, List.set_cons_zero, List.set_cons_succ, i64_w, i32_w]
     rfl
    refine done_ (by kernel_rfl) ?_
    try go_wp2
    go_ret
    exact ⟨by first | rfl | (simp [errW_none, errW_some] <;> rfl) | (simp [*, errW_none, errW_some] <;> rfl), bw⟩

end Go.Proofs.Ytcfbbbilonignaa.Q

namespace Go.Proofs.Ytcfbbbilonignaa.Q
open Go.RowKit Go.Proofs.YtcfbbbilonignaaW.PrintWords Go.Proofs.YtcfbbbilonignaaW.PrintLast
set_option linter.unusedVariables false

/-- The law over lists and numbers. -/
def laws_FnExactValidCode.Pure : Prop := ∀ (l0_0 : List (S48)) (l0_1 : List (S167)) (a0_2 : Int), (l0_0.length ≤ maxLen ∧ ∀ x_ ∈ l0_0, ok48 x_) → (l0_1.length ≤ maxLen ∧ ∀ x_ ∈ l0_1, ok167 x_) → (Lit.int .i64 a0_2).wf = true → ∃ k, laws_FnExactValidCode.f k l0_0 l0_1 a0_2 = some true
end Go.Proofs.Ytcfbbbilonignaa.Q

namespace Go.Proofs.Ytcfbbbilonignaa.Q
open Go.RowKit Go.Proofs.YtcfbbbilonignaaW.PrintWords Go.Proofs.YtcfbbbilonignaaW.PrintLast
set_option linter.unusedVariables false
set_option linter.unusedSimpArgs false
theorem Ev.of_all {α : Type} {g : Nat → Option α} {r : α} (h : ∀ k, g k = some r) : Ev g r := ⟨0, fun k _ => h k⟩
/-- What is left of the room behind all elements. -/
theorem sz_all {α : Type} (xs : List α) (z : α) (P : α → Prop) (S : Nat → α → Int → Option Int) (L : Nat → Int → Int → Option Int) (hb : xs.length < 4611686018427387904)
    (hL : ∀ k n (i : Nat), i < xs.length → L (k + 1) n i = (S k (xs.getD i z) n).bind fun t => if t < 0 then some (-1) else L k t ((i + 1 : Nat) : Int))
    (hE : ∀ k n, L (k + 1) n (xs.length : Int) = some n)
    (hS : ∀ x ∈ xs, ∀ n : Int, 0 ≤ n → n ≤ 1048576 → ∃ t, Ev (fun k => S k x n) t ∧ (t < 0 ∨ (0 ≤ t ∧ t ≤ n ∧ P x))) :
    ∀ (rest pre : List α) (n : Int), xs = pre ++ rest → 0 ≤ n → n ≤ 1048576 → ∃ t, Ev (fun k => L k n (pre.length : Int)) t ∧ (t < 0 ∨ (0 ≤ t ∧ t ≤ n ∧ ∀ x ∈ rest, P x)) := by
  intro rest
  induction rest with
  | nil => intro pre n e h0 h1; exact ⟨n, Ev.shift 1 fun k => by rw [show pre.length = xs.length by rw [e]; simp, hE], .inr ⟨h0, Int.le_refl _, by simp⟩⟩
  | cons x rest ih =>
    intro pre n e h0 h1
    have hlt : pre.length < xs.length := by rw [e]; exact len_cut _ _ _
    have hr : xs.getD pre.length z = x := by rw [e, getD_cut]
    obtain ⟨t, ht, h2⟩ := hS x (by rw [e]; simp) n h0 h1
    rcases h2 with h2 | ⟨h2, h3, h4⟩
    · exact ⟨-1, Ev.round (f := fun k => (S k x n).bind fun t => if t < 0 then some (-1) else L k t ((pre.length + 1 : Nat) : Int)) (fun k => by rw [hL _ _ _ hlt, hr]) (Ev.bind ht (Ev.if_pos h2 (Ev.now _))), .inl (by omega)⟩
    · obtain ⟨u, hu, h5⟩ := ih (pre ++ [x]) t (by simp [e]) h2 (by omega)
      rw [List.length_append, List.length_singleton] at hu
      refine ⟨u, Ev.round (f := fun k => (S k x n).bind fun t => if t < 0 then some (-1) else L k t ((pre.length + 1 : Nat) : Int)) (fun k => by rw [hL _ _ _ hlt, hr]) (Ev.bind ht (Ev.if_neg (by omega) hu)), ?_⟩
      rcases h5 with h5 | ⟨h5, h6, h7⟩
      · exact .inl h5
      · refine .inr ⟨h5, by omega, fun y hy => ?_⟩
        rcases List.mem_cons.mp hy with rfl | hy
        · exact h4
        · exact h7 y hy
/-- A row that is filled, element by element. -/
theorem to_all {α β γ : Type} (xs : List α) (z : α) (z' : β) (T : Nat → α → Option γ) (mk : γ → β) (g : α → β) (L : Nat → List β → Int → Option (List β)) (hb : xs.length < 4611686018427387904)
    (hL : ∀ k ys (i : Nat), i < xs.length → i < ys.length → L (k + 1) ys i = (T k (xs.getD i z)).bind fun t => L k (ys.set i (mk t)) ((i + 1 : Nat) : Int))
    (hE : ∀ k ys, L (k + 1) ys (xs.length : Int) = some ys)
    (hT : ∀ x ∈ xs, ∃ t, Ev (fun k => T k x) t ∧ mk t = g x) :
    ∀ (rest pre : List α), xs = pre ++ rest → Ev (fun k => L k (pre.map g ++ List.replicate rest.length z') (pre.length : Int)) (xs.map g) := by
  intro rest
  induction rest with
  | nil => intro pre e; exact Ev.shift 1 fun k => by rw [show pre.length = xs.length by rw [e]; simp, hE, e]; simp
  | cons x rest ih =>
    intro pre e
    have hlt : pre.length < xs.length := by rw [e]; exact len_cut _ _ _
    have hr : xs.getD pre.length z = x := by rw [e, getD_cut]
    obtain ⟨t, ht, hg⟩ := hT x (by rw [e]; simp)
    have h := ih (pre ++ [x]) (by simp [e])
    rw [List.length_append, List.length_singleton, List.map_append] at h
    have hs := set_fill (pre.map g) z' (g x) rest.length
    rw [List.length_map] at hs
    refine Ev.round (f := fun k => (T k x).bind fun t => L k ((pre.map g ++ List.replicate (rest.length + 1) z').set pre.length (mk t)) ((pre.length + 1 : Nat) : Int)) (fun k => by rw [List.length_cons, hL _ _ _ hlt (by simp), hr]) (Ev.bind ht ?_)
    rw [hg, hs]
    exact h
/-- All elements of a list pass, and then what follows. -/
theorem all_loop {α : Type} (xs : List α) (z : α) (p : α → Bool) (V : Nat → α → Option Bool) (L : Nat → Int → Option Bool) (F : Nat → Option Bool) (r : Bool) (hb : xs.length < 4611686018427387904)
    (hL : ∀ k (i : Nat), i < xs.length → L (k + 1) i = (V k (xs.getD i z)).bind fun t => if t = true then L k ((i + 1 : Nat) : Int) else some false)
    (hF : ∀ k, L (k + 1) (xs.length : Int) = F k) (hV : ∀ x ∈ xs, Ev (fun k => V k x) (p x)) (hr : Ev F r) :
    ∀ (rest pre : List α), xs = pre ++ rest → Ev (fun k => L k (pre.length : Int)) (rest.all p && r) := by
  intro rest
  induction rest with
  | nil => intro pre e; rw [show pre.length = xs.length by rw [e]; simp]; simpa using Ev.round hF hr
  | cons x rest ih =>
    intro pre e
    have hlt : pre.length < xs.length := by rw [e]; exact len_cut _ _ _
    have hx : xs.getD pre.length z = x := by rw [e, getD_cut]
    have h := ih (pre ++ [x]) (by simp [e])
    rw [List.length_append, List.length_singleton] at h
    refine Ev.round (f := fun k => (V k x).bind fun t => if t = true then L k ((pre.length + 1 : Nat) : Int) else some false) (fun k => by rw [hL _ _ hlt, hx]) (Ev.bind (hV x (by rw [e]; simp)) ?_)
    rw [List.all_cons]
    cases hp : p x with
    | true => exact Ev.if_pos rfl (by simpa using h)
    | false => exact Ev.if_neg (by decide) (Ev.now _)
/-! the order of strings -/
/-! ranges of rows -/
end Go.Proofs.Ytcfbbbilonignaa.Q

namespace Go.Proofs.Ytcfbbbilonignaa.Q
open Go.RowKit Go.Proofs.YtcfbbbilonignaaW.PrintWords Go.Proofs.YtcfbbbilonignaaW.PrintLast
set_option linter.unusedVariables false
set_option linter.unusedSimpArgs false
def cvN (x : S97) : S66 := ⟨x.f0, x.f1, x.f2, x.f3, x.f4, x.f5, x.f6⟩
def cvI (x : S167) : S138 := ⟨x.f0, x.f1, x.f2, x.f3, cvN x.f4⟩
def cvB (x : S48) : S56 := ⟨x.f0.map cvI, x.f1⟩
def bB (x : S48) : Prop := x.f0.length ≤ 1048576
/-! sizes -/
theorem szNode_ok (x : S97) (n : Int) (hx : ok97 x) (h0 : 0 ≤ n) (h1 : n ≤ 1048576) : ∃ t, laws_szNode.f x.f0 x.f1 x.f2 x.f3 x.f4 x.f5 x.f6 n = some t ∧ (t < 0 ∨ (0 ≤ t ∧ t ≤ n)) := by
  obtain ⟨-, s1, -, s3, -⟩ := hx
  simp only [maxLen] at s1 s3
  unfold laws_szNode.f
  rw [wrap_id _ (by omega) (by omega)]
  by_cases h : n - (x.f1.size : Int) < 0
  · exact ⟨-1, if_pos h, .inl (by omega)⟩
  · rw [if_neg h, wrap_id _ (by omega) (by omega)]
    by_cases h2 : n - (x.f1.size : Int) - (x.f3.size : Int) < 0
    · exact ⟨-1, if_pos h2, .inl (by omega)⟩
    · exact ⟨_, if_neg h2, .inr ⟨by omega, by omega⟩⟩
theorem szIns_ok (x : S167) (n : Int) (hx : ok167 x) (h0 : 0 ≤ n) (h1 : n ≤ 1048576) : ∃ t, Ev (fun k => laws_szIns.f x.f0 x.f1 x.f2 x.f3 x.f4.f0 x.f4.f1 x.f4.f2 x.f4.f3 x.f4.f4 x.f4.f5 x.f4.f6 n) t ∧ (t < 0 ∨ (0 ≤ t ∧ t ≤ n ∧ True)) := by
  obtain ⟨t, ht, h2⟩ := szNode_ok x.f4 n hx.2.2.2.2 h0 h1
  unfold laws_szIns.f
  rw [ht]
  rcases h2 with h2 | ⟨h2, h3⟩
  · exact ⟨-1, Ev.of_all fun k => by rw [Option.bind_some, if_pos h2], .inl (by omega)⟩
  · exact ⟨t, Ev.of_all fun k => by rw [Option.bind_some, if_neg (by omega)], .inr ⟨h2, h3, trivial⟩⟩
theorem szInsS_ok (xs : List S167) (n : Int) (hl : xs.length ≤ maxLen) (hok : ∀ x ∈ xs, ok167 x) (h0 : 0 ≤ n) (h1 : n ≤ 1048576) :
    ∃ t, Ev (fun k => laws_szInsS.f k xs n) t ∧ (t < 0 ∨ (0 ≤ t ∧ t ≤ n ∧ xs.length ≤ 1048576)) := by
  simp only [maxLen] at hl
  unfold laws_szInsS.f
  rw [wrap_id _ (by omega) (by omega)]
  by_cases h : n - (xs.length : Int) < 0
  · exact ⟨-1, Ev.if_pos h (Ev.now _), .inl (by omega)⟩
  · obtain ⟨t, ht, h2⟩ := sz_all xs z167 (fun _ => True) (fun k x n => laws_szIns.f x.f0 x.f1 x.f2 x.f3 x.f4.f0 x.f4.f1 x.f4.f2 x.f4.f3 x.f4.f4 x.f4.f5 x.f4.f6 n) (fun k n i => laws_szInsS.l0 k xs n i) (by omega)
      (fun k n i hi => by simp only [laws_szInsS.l0]; rw [if_pos (by omega), if_pos (by omega), wrap_nat _ (by omega)]; rfl)
      (fun k n => by simp only [laws_szInsS.l0]; rw [if_neg (by omega)]) (fun x hx n h0 h1 => szIns_ok x n (hok x hx) h0 h1) xs [] (n - xs.length) rfl (by omega) (by omega)
    exact ⟨t, Ev.if_neg h ht, h2.imp id fun ⟨a, b, c⟩ => ⟨a, by omega, by omega⟩⟩
theorem szBlock_ok (x : S48) (n : Int) (hx : ok48 x) (h0 : 0 ≤ n) (h1 : n ≤ 1048576) : ∃ t, Ev (fun k => laws_szBlock.f k x.f0 x.f1 n) t ∧ (t < 0 ∨ (0 ≤ t ∧ t ≤ n ∧ bB x)) := by
  obtain ⟨t, ht, h2⟩ := szInsS_ok x.f0 n hx.1.1 hx.1.2 h0 h1
  rcases h2 with h2 | ⟨h2, h3, h4⟩
  · exact ⟨-1, Ev.bind ht (Ev.if_pos h2 (Ev.now _)), .inl (by omega)⟩
  · exact ⟨t, Ev.bind ht (Ev.if_neg (by omega) (Ev.now _)), .inr ⟨h2, h3, h4⟩⟩
theorem szCode_ok (xs : List S48) (ys : List S167) (c : Int) (n : Int) (hl : xs.length ≤ maxLen) (hok : ∀ x ∈ xs, ok48 x) (hl2 : ys.length ≤ maxLen) (hok2 : ∀ x ∈ ys, ok167 x) (hc : (Lit.int .i64 c).wf = true) (h0 : 0 ≤ n) (h1 : n ≤ 1048576) :
    ∃ t, Ev (fun k => laws_szCode.f k xs ys c n) t ∧ (t < 0 ∨ (0 ≤ t ∧ t ≤ n ∧ xs.length ≤ 1048576 ∧ (∀ q ∈ xs, bB q) ∧ ys.length ≤ 1048576)) := by
  simp only [maxLen] at hl
  unfold laws_szCode.f laws_szBlockS.f
  rw [wrap_id _ (by omega) (by omega)]
  by_cases h : n - (xs.length : Int) < 0
  · exact ⟨-1, Ev.bind (Ev.if_pos h (Ev.now (-1))) (Ev.if_pos (by omega) (Ev.now _)), .inl (by omega)⟩
  · obtain ⟨t, ht, h2⟩ := sz_all xs z48 bB (fun k x n => laws_szBlock.f k x.f0 x.f1 n) (fun k n i => laws_szBlockS.l0 k xs n i) (by omega)
      (fun k n i hi => by simp only [laws_szBlockS.l0]; rw [if_pos (by omega), if_pos (by omega), wrap_nat _ (by omega)]; rfl)
      (fun k n => by simp only [laws_szBlockS.l0]; rw [if_neg (by omega)]) (fun x hx n h0 h1 => szBlock_ok x n (hok x hx) h0 h1) xs [] (n - xs.length) rfl (by omega) (by omega)
    rcases h2 with h2 | ⟨h2, h3, h4⟩
    · exact ⟨-1, Ev.bind (Ev.if_neg h ht) (Ev.if_pos h2 (Ev.now _)), .inl (by omega)⟩
    · obtain ⟨u, hu, h5⟩ := szBlock_ok ⟨ys, c⟩ t ⟨⟨hl2, hok2⟩, hc⟩ h2 (by omega)
      rcases h5 with h5 | ⟨h5, h6, h7⟩
      · exact ⟨-1, Ev.bind (Ev.if_neg h ht) (Ev.if_neg (by omega) (Ev.bind hu (Ev.if_pos h5 (Ev.now _)))), .inl (by omega)⟩
      · exact ⟨u, Ev.bind (Ev.if_neg h ht) (Ev.if_neg (by omega) (Ev.bind hu (Ev.if_neg (by omega) (Ev.now _)))), .inr ⟨h5, by omega, by omega, h4, h7⟩⟩
/-! copies -/
theorem toInsS_is (xs : List S167) (hl : xs.length ≤ 1048576) : Ev (fun k => laws_toInsS.f k xs) (xs.map cvI) := by
  unfold laws_toInsS.f
  simp only [Int.toNat_natCast]
  refine Ev.if_pos (by omega) (Ev.if_pos (by omega) ?_)
  have h := to_all xs z167 z138 (fun k x => laws_toIns.f x.f0 x.f1 x.f2 x.f3 x.f4.f0 x.f4.f1 x.f4.f2 x.f4.f3 x.f4.f4 x.f4.f5 x.f4.f6) (fun t => (⟨t.1, t.2.1, t.2.2.1, t.2.2.2.1, (⟨t.2.2.2.2.1, t.2.2.2.2.2.1, t.2.2.2.2.2.2.1, t.2.2.2.2.2.2.2.1, t.2.2.2.2.2.2.2.2.1, t.2.2.2.2.2.2.2.2.2.1, t.2.2.2.2.2.2.2.2.2.2⟩ : S66)⟩ : S138)) cvI (fun k ys i => laws_toInsS.l0 k xs ys i) (by omega)
    (fun k ys i hi hj => by
      simp only [laws_toInsS.l0]; rw [if_pos (by omega), if_pos (by omega), wrap_nat _ (by omega)]
      have hj' : (i : Int) < (ys.length : Int) := by omega
      simp only [Int.toNat_natCast, hj', if_true]; rfl)
    (fun k ys => by simp only [laws_toInsS.l0]; rw [if_neg (by omega)])
    (fun x hx => ⟨_, Ev.of_all fun k => by unfold laws_toIns.f laws_toNode.f; rfl, rfl⟩) xs [] rfl
  simpa using h
theorem toCode_is (xs : List S48) (ys : List S167) (c : Int) (hl : xs.length ≤ 1048576) (hq : ∀ q ∈ xs, bB q) (hl2 : ys.length ≤ 1048576) : Ev (fun k => laws_toCode.f k xs ys c) (xs.map cvB, ys.map cvI, c) := by
  unfold laws_toCode.f laws_toBlockS.f
  simp only [Int.toNat_natCast]
  have h := to_all xs z48 z56 (fun k x => laws_toBlock.f k x.f0 x.f1) (fun t => (⟨t.1, t.2⟩ : S56)) cvB (fun k ys i => laws_toBlockS.l0 k xs ys i) (by omega)
    (fun k ys i hi hj => by
      simp only [laws_toBlockS.l0]; rw [if_pos (by omega), if_pos (by omega), wrap_nat _ (by omega)]
      have hj' : (i : Int) < (ys.length : Int) := by omega
      simp only [Int.toNat_natCast, hj', if_true]; rfl)
    (fun k ys => by simp only [laws_toBlockS.l0]; rw [if_neg (by omega)])
    (fun x hx => ⟨(x.f0.map cvI, x.f1), Ev.bind (toInsS_is x.f0 (hq x hx)) (Ev.now _), rfl⟩) xs [] rfl
  refine Ev.bind (Ev.if_pos (by omega) (Ev.if_pos (by omega) (by simpa using h))) (Ev.bind (Ev.bind (toInsS_is ys hl2) (Ev.now _)) (Ev.now _))
/-! equality of what is one and the same -/
def sB (x : S56) : Prop := x.f0.length < 4611686018427387904
theorem eqInsS_refl (xs : List S138) (hb : xs.length < 4611686018427387904) : Ev (fun k => laws_eqInsS.f k xs xs) true := by
  have h := all_loop xs z138 (fun _ => true) (fun k x => laws_eqIns.f x.f0 x.f1 x.f2 x.f3 x.f4.f0 x.f4.f1 x.f4.f2 x.f4.f3 x.f4.f4 x.f4.f5 x.f4.f6 x.f0 x.f1 x.f2 x.f3 x.f4.f0 x.f4.f1 x.f4.f2 x.f4.f3 x.f4.f4 x.f4.f5 x.f4.f6) (fun k i => laws_eqInsS.l0 k xs xs i) (fun _ => some true) true hb
    (fun k i hi => by simp only [laws_eqInsS.l0]; rw [if_pos (by omega), if_pos (by omega), if_pos (by omega), wrap_nat _ (by omega)]; rfl)
    (fun k => by simp only [laws_eqInsS.l0]; rw [if_neg (by omega)])
    (fun x hx => Ev.of_all fun k => by unfold laws_eqIns.f laws_eqNode.f; simp) (Ev.now _) xs [] rfl
  rw [show (xs.all (fun _ => true) && true) = true from by simp] at h
  exact Ev.if_pos rfl h
theorem eqBlock_refl (x : S56) (hx : sB x) : Ev (fun k => laws_eqBlock.f k x.f0 x.f1 x.f0 x.f1) true :=
  Ev.bind (eqInsS_refl x.f0 hx) (Ev.if_pos rfl (Ev.if_pos rfl (Ev.now _)))
theorem eqCode_refl (xs : List S56) (ys : List S138) (c : Int) (hb : xs.length < 4611686018427387904) (hq : ∀ q ∈ xs, sB q) (hb2 : ys.length < 4611686018427387904) : Ev (fun k => laws_eqCode.f k xs ys c xs ys c) true := by
  have h := all_loop xs z56 (fun _ => true) (fun k x => laws_eqBlock.f k x.f0 x.f1 x.f0 x.f1) (fun k i => laws_eqBlockS.l0 k xs xs i) (fun _ => some true) true hb
    (fun k i hi => by simp only [laws_eqBlockS.l0]; rw [if_pos (by omega), if_pos (by omega), if_pos (by omega), wrap_nat _ (by omega)]; rfl)
    (fun k => by simp only [laws_eqBlockS.l0]; rw [if_neg (by omega)])
    (fun x hx => eqBlock_refl x (hq x hx)) (Ev.now _) xs [] rfl
  rw [show (xs.all (fun _ => true) && true) = true from by simp] at h
  exact Ev.bind (Ev.if_pos rfl h) (Ev.if_pos rfl (Ev.bind (eqBlock_refl ⟨ys, c⟩ hb2) (Ev.if_pos rfl (Ev.now _))))
end Go.Proofs.Ytcfbbbilonignaa.Q

namespace Go.Proofs.Ytcfbbbilonignaa.Pr
open Q Go.Proofs.YtcfbbbilonignaaW.PrintWords
theorem FnExactValidCode : laws_FnExactValidCode.Pure := by
  intro xs ys c ⟨hl, hok⟩ ⟨hl2, hok2⟩ hc
  apply Ev.rounds
  unfold laws_FnExactValidCode.f
  obtain ⟨t, ht, h1⟩ := szCode_ok xs ys c 1048576 hl hok hl2 hok2 hc (by omega) (by omega)
  rcases h1 with h1 | ⟨h1, h2, h3, h4, h5⟩
  · exact Ev.bind ht (Ev.if_pos h1 (Ev.now _))
  · have hk := toCode_is xs ys c h3 h4 h5
    have hle : (xs.map cvB).length < 4611686018427387904 := by rw [List.length_map]; omega
    have hle2 : (ys.map cvI).length < 4611686018427387904 := by rw [List.length_map]; omega
    have hs : ∀ q ∈ xs.map cvB, sB q := by
      intro q hq
      obtain ⟨y, hy, rfl⟩ := List.mem_map.mp hq
      have h6 := h4 y hy
      unfold bB at h6
      show (y.f0.map cvI).length < _
      rw [List.length_map]; omega
    refine Ev.bind ht (Ev.if_neg (by omega) (Ev.bind hk (Ev.bind (Ev.now _) (Ev.bind hk (Ev.bind (Ev.now _) (Ev.if_neg (by simp) (Ev.bind hk (Ev.bind (eqCode_refl _ _ _ hle hs hle2) (Ev.if_pos rfl (Ev.now _))))))))))
end Go.Proofs.Ytcfbbbilonignaa.Pr

namespace Go.Proofs.Ytcfbbbilonignaa.fnExactValidCode
open Go.ChangeShapes Go.WideShapes Go.ChangeAt Go.RowKit Go.Proofs.YtcfbbbilonignaaW.PrintWords Go.Proofs.Ytcfbbbilonignaa.RowK Go.Proofs.Ytcfbbbilonignaa.Q
open Go.ChangeMaps (open_string shut_string)
set_option linter.unusedVariables false
theorem own : ownKnob Try.prog.godebug = none := by kernel_rfl
theorem laidOut : laidOutB Try.prog = true := by kernel_rfl
set_option maxRecDepth 100000 in
theorem lifted (os : Os) (started : os.Started) (H : Type) (enc : TypeId × Value → H) :
    ReturnsInHanded {} Try.checked os 5 .any (Rows.fnExactValidCodeSpec.pre6 enc Try.prog Try.f5 Rows.fnExactValidCodeRow.domain false) (Rows.fnExactValidCodeSpec.post enc Try.prog Try.f5 false true false false) := by
  refine returnsInHanded_of_change_sized (C := Try.checked) own started (by kernel_rfl) Try.func5
    (ChangeSpec.witness6 (enc := enc) (C := Try.checked) false ⟨#[], #[.agg #[.slice none 0 0, .slice none 0 0, .int .i64 0]], []⟩ 8 (by kernel_rfl) (by kernel_rfl) (by kernel_rfl) (by kernel_rfl)) ?_
  intro W base args ds gs before hval0 hW hcnd hsz0 _
  have hval : ∀ (j : Nat) t v, Try.f5.params[j]? = some t → args[j]? = some v → Value.okWide Try.prog W .any base t v := hval0
  have hW' := hW
  obtain ⟨p, q, hA0, hV, rfl, hfz, hnd⟩ := hW
  have hA : DataW.TrodAll enc Try.prog W 0 (fun _ => true) true Try.f5.params.toList args.toList ds p := hA0
  rw [Try.params5] at hA hval
  obtain ⟨v0, vs0, d0, ds0, p0, q0, hargs, rfl, rfl, h0, r0⟩ := trodAll_cons hA
  obtain ⟨rfl, rfl, rfl⟩ := trodAll_nil r0
  obtain rfl : args = #[v0] := by cases args; simp_all
  obtain ⟨rfl, rfl⟩ := trodVars_none hV
  obtain ⟨cs0, rfl, _⟩ := okWide_struct Try.underlying50 (hval 0 50 v0 rfl rfl)
  have k0 := h0
  have lt0 : ∀ x ∈ p0, x.block < W.heap.size := by obtain ⟨m, hm⟩ := k0; exact DataW.trod_lt m _ _ _ hm
  obtain ⟨x0_, hK0, ok0_⟩ := Opens.arg (d := (Kd.pair (Kd.slice 48 k48) (Kd.pair (Kd.slice 167 k167) (Kd.int .i64)))) (opens_imp (opens_struct Try.underlying50 (by kernel_rfl) (opensF_cons rfl (by kernel_rfl) (opens_slice Try.underlying45 (by kernel_rfl) opens48) (opensF_last rfl (by kernel_rfl) (opens_struct Try.underlying48 (by kernel_rfl) (opensF_cons rfl (by kernel_rfl) (opens_slice Try.underlying46 (by kernel_rfl) opens167) (opensF_last rfl (by kernel_rfl) (opens_int Try.underlying2))))))) (fun _ h => h)) h0
  obtain ⟨e0_0_0, f0_0_0, hE0_0_0, hA0_0_0, hB0_0_0⟩ := hK0
  obtain ⟨A0_0, c0_0, hs0_0, hc0_0, hr0_0⟩ := hA0_0_0
  obtain ⟨e0_1_2, f0_1_2, hE0_1_2, hA0_1_2, hB0_1_2⟩ := hB0_0_0
  obtain ⟨A0_1, c0_1, hs0_1, hc0_1, hr0_1⟩ := hA0_1_2
  have hs0_2 : f0_1_2 = [.int .i64 x0_.2.2] := hB0_1_2
  have hv0 : Value.agg cs0 = .agg #[.slice A0_0 (x0_.1).length c0_0, .slice A0_1 (x0_.2.1).length c0_1, .int .i64 x0_.2.2] := agg_cells (l := [.slice A0_0 (x0_.1).length c0_0, .slice A0_1 (x0_.2.1).length c0_1, .int .i64 x0_.2.2]) (by simp only [hE0_0_0, hs0_0, hE0_1_2, hs0_1, hs0_2] <;> rfl)
  obtain ⟨k_, hp_⟩ := Pr.FnExactValidCode x0_.1 x0_.2.1 x0_.2.2 ok0_.1 ok0_.2.1 ok0_.2.2
  clear hA0 hval0 hsz0
  have hc_ := Q.laws_FnExactValidCode.calls k_ _ _ x0_.1 _ _ x0_.2.1 x0_.2.2 true W hr0_0 hc0_0 hr0_1 hc0_1 hp_
  rw [← hv0] at hc_
  refine hc_.mono fun e W' ⟨he, bel0⟩ => ?_
  subst he
  have bel : Below W.heap.size W W' := bel0
  exact ⟨_, rfl, _, _, _, [], _, [], hW', trodAll_mk1 (shut_bool Try.underlying4 _), (trodAll_cons_mk (Below.trod laidOut (by kernel_rfl) (of_decide_eq_true (by kernel_rfl)) k0 bel lt0) trodAll_mk0), rfl, bel.frame _, fun h => by cases h⟩
theorem over : Rows.fnExactValidCodeRow.holds Try.pinned (OpenSpec.ofChange Rows.fnExactValidCodeSpec) :=
  OpenClaim.holds_of_wide 5 Try.f5 rfl rfl rfl rfl rfl rfl rfl ⟨rfl, rfl, rfl, rfl, rfl⟩ rfl rfl rfl rfl rfl (by kernel_rfl) Try.func5 (by kernel_rfl)
    (of_decide_eq_true (by kernel_rfl)) (by unfold Func.isWrapper; first | (rw [if_pos (by decide +kernel)]; kernel_rfl) | (rw [if_neg (by decide +kernel)]; exact ⟨rfl, rfl⟩))
    (fun os started H enc _ => lifted os started H enc)
end Go.Proofs.Ytcfbbbilonignaa.fnExactValidCode
namespace Go.Proofs.Ytcfbbbilonignaa
theorem fnExactValidCode_holds : Rows.FnExactValidCodeSaid := fnExactValidCode.over
#print axioms fnExactValidCode_holds
end Go.Proofs.Ytcfbbbilonignaa
