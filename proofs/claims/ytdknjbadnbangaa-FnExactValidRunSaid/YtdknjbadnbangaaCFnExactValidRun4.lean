/- FnExactValidRun: the row of the law: its arguments opened, its walk, its statement over lists (PrFnExactValidRun). No condition. -/
import Derived.Test.YtdknjbadnbangaaCFnExactValidRun3
import Derived.Test.YtdknjbadnbangaaRows
import Derived.WalkKit
import Derived.ProofKit
import Derived.OpenShut
import Derived.ShutString
import Derived.ChangeOld
import Derived.Below
import Derived.SizedLaws

namespace Go.Proofs.Ytdknjbadnbangaa.Q
open Go.RowKit Go.Proofs.YtdknjbadnbangaaW.PrintWords Go.Proofs.YtdknjbadnbangaaW.PrintLast
set_option linter.unusedVariables false
set_option linter.unusedSimpArgs false

/-! ### laws_FnExactValidRun: function 10 -/
def laws_FnExactValidRun.f (k : Nat) (l0_0 : List (S32)) : Option (Bool) := (laws_szRun.f k l0_0 1048576).bind fun t406 => (if t406 < 0 then (some true) else ((laws_toRun.f k l0_0).bind fun t407 => ((spec_ValidRun.f k t407).bind fun t410 => ((laws_toRun.f k l0_0).bind fun t411 => ((impl_ValidRun.f k t411).bind fun t415 => (if (t415 != t410) = true then (some false) else ((laws_toRun.f k l0_0).bind fun t416 => ((laws_eqRun.f k t411 t416).bind fun t419 => (if t419 = true then (some true) else (some false))))))))))
theorem laws_FnExactValidRun.mono : ∀ a0 k, LeO (laws_FnExactValidRun.f k a0) (laws_FnExactValidRun.f (k + 1) a0) := by
 intro a0 k
 unfold laws_FnExactValidRun.f
 repeat' first
   | (with_reducible exact impl_ValidRun.mono _ _)
   | (with_reducible exact laws_eqRun.mono _ _ _)
   | (with_reducible exact laws_szRun.mono _ _ _)
   | (with_reducible exact laws_toRun.mono _ _)
   | (with_reducible exact spec_ValidRun.mono _ _)
   | (with_reducible exact LeO.refl _)
   | (with_reducible exact LeO.none _)
   | (with_reducible refine LeO.ite ?_ ?_)
   | (with_reducible refine LeO.bind ?_ (fun _ => ?_))
   | exact impl_ValidRun.mono _ _
   | exact laws_eqRun.mono _ _ _
   | exact laws_szRun.mono _ _ _
   | exact laws_toRun.mono _ _
   | exact spec_ValidRun.mono _ _
   | exact LeO.none _
   | refine LeO.ite ?_ ?_
   | refine LeO.bind ?_ (fun _ => ?_)
set_option maxHeartbeats 8000000 in
set_option maxRecDepth 100000 in
theorem laws_FnExactValidRun.calls (k : Nat) (A0_0 : Option Addr) (c0_0 : Nat) (l0_0 : List (S32)) (r : Bool) (w : World) (hr0_0 : Kd.C k32 w A0_0 l0_0.length l0_0) (hc0_0 : l0_0.length ≤ c0_0) (h : laws_FnExactValidRun.f k l0_0 = some r) :
  Calls Try.prog 10 #[.agg #[.slice A0_0 l0_0.length c0_0]] w fun e w' => e = .returned (.bool r) ∧ Below w.heap.size w w' := by
 have hu61 := Try.underlying61
 have hu66 := Try.underlying66
 have HR0_0 := Aside0.mk hr0_0
 have HC0_0 := Aside0.mk hc0_0
 clear hr0_0 hc0_0
 have HB := Aside0.mk (Below.refl w.heap.size w)
 have H : ((laws_szRun.f k l0_0 1048576).bind fun t406 => (if t406 < 0 then (some true) else ((laws_toRun.f k l0_0).bind fun t407 => ((spec_ValidRun.f k t407).bind fun t410 => ((laws_toRun.f k l0_0).bind fun t411 => ((impl_ValidRun.f k t411).bind fun t415 => (if (t415 != t410) = true then (some false) else ((laws_toRun.f k l0_0).bind fun t416 => ((laws_eqRun.f k t411 t416).bind fun t419 => (if t419 = true then (some true) else (some false))))))))))) = some r := h
 clear h
 replace H := Option.bind_eq_some_iff.mp H
 obtain ⟨t406, A20, H⟩ := H
 replace H : (if t406 < 0 then (some true) else ((laws_toRun.f k l0_0).bind fun t407 => ((spec_ValidRun.f k t407).bind fun t410 => ((laws_toRun.f k l0_0).bind fun t411 => ((impl_ValidRun.f k t411).bind fun t415 => (if (t415 != t410) = true then (some false) else ((laws_toRun.f k l0_0).bind fun t416 => ((laws_eqRun.f k t411 t416).bind fun t419 => (if t419 = true then (some true) else (some false)))))))))) = some r := H
 have A2 := Aside0.mk A20
 clear A20
 by_cases c3 : t406 < 0
 ·rw [if_pos c3] at H
  have c3b0 : decide (t406 < 0) = true := decide_eq_true c3
  clear c3
  obtain rfl := Option.some.inj H
  go_enter Try.func10, Try.ntmps10
  go_wp2_with (first | ((with_reducible refine gate_dst (N := 1) rfl ?_); refine box_event ?hg (N := 1) ?hd (cs := #[.slice A0_0 l0_0.length c0_0]) (t := 61) ?hr ?_; (case hd => rfl); (case hg => rfl); (case hr => first | (go_simp; done) | (go_simp; rfl)); intro gb405 hg w4 hbox hb; have n0_ := Aside0.mk (below_step (by repeat (first | (with_reducible first | exact HB.out | apply below_alloc | apply pw_below_drewN | apply below_drew1) | exact HB.out)) hb); have n1_ := Aside0.mk (hbox); have n2_ := Aside0.mk ((by rw [hg]; exact (below_size (by repeat (first | (with_reducible first | exact HB.out | apply below_alloc | apply pw_below_drewN | apply below_drew1) | exact HB.out))) : w.heap.size ≤ gb405)); have n3_ := Aside0.mk ((by rw [hg]; exact (below_size (by repeat (first | (with_reducible first | exact HB.out | apply below_alloc | apply pw_below_drewN | apply below_drew1) | exact HB.out))) : w.heap.size ≤ gb405)); clear HB; have HB := n0_; have BK405 := n1_; have GW405 := n2_; have GE405 := n3_; clear n0_ n1_ n2_ n3_; clear hb hbox hg; have hcz5_0 : w4.cell? ⟨gb405, 0, none⟩ = some (.slice A0_0 l0_0.length c0_0) := (blk_cell BK405.out 0).trans rfl; have hfz5_0 := blk_frozen BK405.out 0) | ((with_reducible refine at_fn (f := 39) rfl ?_); refine goesL_ (some 9) rfl rfl Try.func39 (by kernel_rfl) rfl #[.agg #[.slice A0_0 l0_0.length c0_0], .int .i64 1048576] rfl (by (try simp only [List.map_toArray, List.map_cons, List.map_nil]); first | done | rfl | (simp only [List.length_drop, List.length_take]; rfl)) ?_; (with_reducible refine (laws_szRun.calls k _ _ l0_0 1048576 t406 _ ?side1 ?side2 A2.out).mono ?_); (case side1 => repeat (first | exact (Kd.C_below HR0_0.out HB.out) | (with_reducible refine Kd.C_alloc ?_ _) | (with_reducible refine Kd.C_drewN ?_ _) | (with_reducible refine Kd.C_drew ?_))); (case side2 => exact HC0_0.out); rintro e w6 ⟨rfl, hb⟩; refine ⟨_, rfl, ?_⟩; have n0_ := Aside0.mk (blk_below (g := gb405) (o := .cells #[.slice A0_0 l0_0.length c0_0] 61 (0, 0)) (by (with_reducible repeat (first | refine blk_drewN ?_ _ | refine blk_drew ?_ | refine blk_alloc ?_ _)); exact BK405.out) hb); have n1_ := Aside0.mk (below_step (by repeat (first | (with_reducible first | exact HB.out | apply below_alloc | apply pw_below_drewN | apply below_drew1 | refine below_set ?_ GE405.out) | exact HB.out)) hb); clear BK405; clear HB; have BK405 := n0_; have HB := n1_; clear n0_ n1_; (try clear hb); (try clear hb2); (try clear hk); (try clear hi)))
  go_ret
  exact ⟨by first | rfl | (simp [errW_none, errW_some] <;> rfl) | (simp [*, errW_none, errW_some] <;> rfl), by repeat (first | (with_reducible first | exact HB.out | apply below_alloc | apply pw_below_drewN | apply below_drew1 | refine below_set ?_ GE405.out) | exact HB.out)⟩
 ·rw [if_neg c3] at H
  have c3b0 : decide (t406 < 0) = false := decide_eq_false c3
  clear c3
  replace H := Option.bind_eq_some_iff.mp H
  obtain ⟨t407, A70, H⟩ := H
  replace H : ((spec_ValidRun.f k t407).bind fun t410 => ((laws_toRun.f k l0_0).bind fun t411 => ((impl_ValidRun.f k t411).bind fun t415 => (if (t415 != t410) = true then (some false) else ((laws_toRun.f k l0_0).bind fun t416 => ((laws_eqRun.f k t411 t416).bind fun t419 => (if t419 = true then (some true) else (some false)))))))) = some r := H
  have A7 := Aside0.mk A70
  clear A70
  replace H := Option.bind_eq_some_iff.mp H
  obtain ⟨t410, A80, H⟩ := H
  replace H : ((laws_toRun.f k l0_0).bind fun t411 => ((impl_ValidRun.f k t411).bind fun t415 => (if (t415 != t410) = true then (some false) else ((laws_toRun.f k l0_0).bind fun t416 => ((laws_eqRun.f k t411 t416).bind fun t419 => (if t419 = true then (some true) else (some false))))))) = some r := H
  have A8 := Aside0.mk A80
  clear A80
  replace H := Option.bind_eq_some_iff.mp H
  obtain ⟨t411, A90, H⟩ := H
  replace H : ((impl_ValidRun.f k t411).bind fun t415 => (if (t415 != t410) = true then (some false) else ((laws_toRun.f k l0_0).bind fun t416 => ((laws_eqRun.f k t411 t416).bind fun t419 => (if t419 = true then (some true) else (some false)))))) = some r := H
  have A9 := Aside0.mk A90
  clear A90
  replace H := Option.bind_eq_some_iff.mp H
  obtain ⟨t415, A100, H⟩ := H
  replace H : (if (t415 != t410) = true then (some false) else ((laws_toRun.f k l0_0).bind fun t416 => ((laws_eqRun.f k t411 t416).bind fun t419 => (if t419 = true then (some true) else (some false))))) = some r := H
  have A10 := Aside0.mk A100
  clear A100
  by_cases c11 : (t415 != t410) = true
  ·rw [if_pos c11] at H
   have c11b0 : (t415 != t410) = true := c11
   (try (have c11b1 : decide (t415 = t410) = false := by simpa using c11))
   (try (have c11b2 : (t415 == t410) = false := by simpa using c11))
   (try (have c11b3 : ¬ (t415 = t410) := by simpa using c11))
   clear c11
   obtain rfl := Option.some.inj H
   go_enter Try.func10, Try.ntmps10
   go_wp2_with (first | ((with_reducible refine gate_dst (N := 1) rfl ?_); refine box_event ?hg (N := 1) ?hd (cs := #[.slice A0_0 l0_0.length c0_0]) (t := 61) ?hr ?_; (case hd => rfl); (case hg => rfl); (case hr => first | (go_simp; done) | (go_simp; rfl)); intro gb405 hg w12 hbox hb; have n0_ := Aside0.mk (below_step (by repeat (first | (with_reducible first | exact HB.out | apply below_alloc | apply pw_below_drewN | apply below_drew1) | exact HB.out)) hb); have n1_ := Aside0.mk (hbox); have n2_ := Aside0.mk ((by rw [hg]; exact (below_size (by repeat (first | (with_reducible first | exact HB.out | apply below_alloc | apply pw_below_drewN | apply below_drew1) | exact HB.out))) : w.heap.size ≤ gb405)); have n3_ := Aside0.mk ((by rw [hg]; exact (below_size (by repeat (first | (with_reducible first | exact HB.out | apply below_alloc | apply pw_below_drewN | apply below_drew1) | exact HB.out))) : w.heap.size ≤ gb405)); clear HB; have HB := n0_; have BK405 := n1_; have GW405 := n2_; have GE405 := n3_; clear n0_ n1_ n2_ n3_; clear hb hbox hg; have hcz13_0 : w12.cell? ⟨gb405, 0, none⟩ = some (.slice A0_0 l0_0.length c0_0) := (blk_cell BK405.out 0).trans rfl; have hfz13_0 := blk_frozen BK405.out 0) | ((with_reducible refine at_fn (f := 39) rfl ?_); refine goesL_ (some 9) rfl rfl Try.func39 (by kernel_rfl) rfl #[.agg #[.slice A0_0 l0_0.length c0_0], .int .i64 1048576] rfl (by (try simp only [List.map_toArray, List.map_cons, List.map_nil]); first | done | rfl | (simp only [List.length_drop, List.length_take]; rfl)) ?_; (with_reducible refine (laws_szRun.calls k _ _ l0_0 1048576 t406 _ ?side1 ?side2 A2.out).mono ?_); (case side1 => repeat (first | exact (Kd.C_below HR0_0.out HB.out) | (with_reducible refine Kd.C_alloc ?_ _) | (with_reducible refine Kd.C_drewN ?_ _) | (with_reducible refine Kd.C_drew ?_))); (case side2 => exact HC0_0.out); rintro e w14 ⟨rfl, hb⟩; refine ⟨_, rfl, ?_⟩; have n0_ := Aside0.mk (blk_below (g := gb405) (o := .cells #[.slice A0_0 l0_0.length c0_0] 61 (0, 0)) (by (with_reducible repeat (first | refine blk_drewN ?_ _ | refine blk_drew ?_ | refine blk_alloc ?_ _)); exact BK405.out) hb); have n1_ := Aside0.mk (below_step (by repeat (first | (with_reducible first | exact HB.out | apply below_alloc | apply pw_below_drewN | apply below_drew1 | refine below_set ?_ GE405.out) | exact HB.out)) hb); clear BK405; clear HB; have BK405 := n0_; have HB := n1_; clear n0_ n1_; (try clear hb); (try clear hb2); (try clear hk); (try clear hi); have hcz15_0 : w14.cell? ⟨gb405, 0, none⟩ = some (.slice A0_0 l0_0.length c0_0) := (blk_cell BK405.out 0).trans rfl; have hfz15_0 := blk_frozen BK405.out 0) | ((with_reducible refine at_fn (f := 41) rfl ?_); refine goesL_ (some 13) rfl rfl Try.func41 (by kernel_rfl) rfl #[.agg #[.slice A0_0 l0_0.length c0_0]] rfl (by (try simp only [List.map_toArray, List.map_cons, List.map_nil]); first | done | rfl | (simp only [List.length_drop, List.length_take]; rfl)) ?_; (with_reducible refine (laws_toRun.calls k _ _ l0_0 t407 _ ?side1 ?side2 A7.out).mono ?_); (case side1 => repeat (first | exact (Kd.C_below HR0_0.out HB.out) | (with_reducible refine Kd.C_alloc ?_ _) | (with_reducible refine Kd.C_drewN ?_ _) | (with_reducible refine Kd.C_drew ?_))); (case side2 => exact HC0_0.out); rintro e w16 ⟨v408, rfl, ho0, hb⟩; refine ⟨_, rfl, ?_⟩; have n0_ := Aside0.mk (Kd.R_lower ho0 (below_size (by repeat (first | (with_reducible first | exact HB.out | apply below_alloc | apply pw_below_drewN | apply below_drew1 | refine below_set ?_ GE405.out) | exact HB.out)))); have n1_ := Aside0.mk (blk_below (g := gb405) (o := .cells #[.slice A0_0 l0_0.length c0_0] 61 (0, 0)) (by (with_reducible repeat (first | refine blk_drewN ?_ _ | refine blk_drew ?_ | refine blk_alloc ?_ _)); exact BK405.out) hb); have n2_ := Aside0.mk (below_step (by repeat (first | (with_reducible first | exact HB.out | apply below_alloc | apply pw_below_drewN | apply below_drew1 | refine below_set ?_ GE405.out) | exact HB.out)) hb); clear BK405; clear HB; have HO409 := n0_; have BK405 := n1_; have HB := n2_; clear n0_ n1_ n2_; (try clear hb); (try clear hb2); (try clear hk); (try clear hi); (try clear ho0); obtain ⟨Ao17, co17, eo17⟩ := Kd.R_slice HO409.out; subst eo17) | ((with_reducible refine at_fn (f := 40) rfl ?_); refine goesL_ (some 14) rfl rfl Try.func40 (by kernel_rfl) rfl #[.agg #[.slice Ao17 t407.length co17]] rfl (by (try simp only [List.map_toArray, List.map_cons, List.map_nil]); first | done | rfl | (simp only [List.length_drop, List.length_take]; rfl)) ?_; (with_reducible refine (spec_ValidRun.calls k _ _ t407 t410 _ ?side1 ?side2 A8.out).mono ?_); (case side1 => repeat (first | exact (Kd.R_reads' HO409.out).2.2 | (with_reducible refine Kd.C_alloc ?_ _) | (with_reducible refine Kd.C_drewN ?_ _) | (with_reducible refine Kd.C_drew ?_))); (case side2 => exact (Kd.R_reads' HO409.out).2.1); rintro e w18 ⟨rfl, hb⟩; refine ⟨_, rfl, ?_⟩; have n0_ := Aside0.mk (Kd.R_below (by (with_reducible repeat (first | apply Kd.R_alloc | apply Kd.R_drewN | apply Kd.R_drew)); exact HO409.out) hb); have n1_ := Aside0.mk (blk_below (g := gb405) (o := .cells #[.slice A0_0 l0_0.length c0_0] 61 (0, 0)) (by (with_reducible repeat (first | refine blk_drewN ?_ _ | refine blk_drew ?_ | refine blk_alloc ?_ _)); exact BK405.out) hb); have n2_ := Aside0.mk (below_step (by repeat (first | (with_reducible first | exact HB.out | apply below_alloc | apply pw_below_drewN | apply below_drew1 | refine below_set ?_ GE405.out) | exact HB.out)) hb); clear HO409; clear BK405; clear HB; have HO409 := n0_; have BK405 := n1_; have HB := n2_; clear n0_ n1_ n2_; (try clear hb); (try clear hb2); (try clear hk); (try clear hi); have hcz19_0 : w18.cell? ⟨gb405, 0, none⟩ = some (.slice A0_0 l0_0.length c0_0) := (blk_cell BK405.out 0).trans rfl; have hfz19_0 := blk_frozen BK405.out 0) | ((with_reducible refine at_fn (f := 41) rfl ?_); refine goesL_ (some 16) rfl rfl Try.func41 (by kernel_rfl) rfl #[.agg #[.slice A0_0 l0_0.length c0_0]] rfl (by (try simp only [List.map_toArray, List.map_cons, List.map_nil]); first | done | rfl | (simp only [List.length_drop, List.length_take]; rfl)) ?_; (with_reducible refine (laws_toRun.calls k _ _ l0_0 t411 _ ?side1 ?side2 A9.out).mono ?_); (case side1 => repeat (first | exact (Kd.C_below HR0_0.out HB.out) | (with_reducible refine Kd.C_alloc ?_ _) | (with_reducible refine Kd.C_drewN ?_ _) | (with_reducible refine Kd.C_drew ?_))); (case side2 => exact HC0_0.out); rintro e w20 ⟨v412, rfl, ho0, hb⟩; refine ⟨_, rfl, ?_⟩; have n0_ := Aside0.mk (Kd.R_elder' (by (with_reducible repeat (first | apply Kd.R_alloc | apply Kd.R_drewN | apply Kd.R_drew)); exact HO409.out) (Kd.R_base ho0) hb); have n1_ := Aside0.mk (Kd.R_lower (Kd.R_new' ho0 (Kd.R_lt (by (with_reducible repeat (first | apply Kd.R_alloc | apply Kd.R_drewN | apply Kd.R_drew)); exact HO409.out))) (below_size (by repeat (first | (with_reducible first | exact HB.out | apply below_alloc | apply pw_below_drewN | apply below_drew1 | refine below_set ?_ GE405.out) | exact HB.out)))); have n2_ := Aside0.mk (blk_below (g := gb405) (o := .cells #[.slice A0_0 l0_0.length c0_0] 61 (0, 0)) (by (with_reducible repeat (first | refine blk_drewN ?_ _ | refine blk_drew ?_ | refine blk_alloc ?_ _)); exact BK405.out) hb); have n3_ := Aside0.mk (below_step (by repeat (first | (with_reducible first | exact HB.out | apply below_alloc | apply pw_below_drewN | apply below_drew1 | refine below_set ?_ GE405.out) | exact HB.out)) hb); clear HO409; clear BK405; clear HB; have HO409 := n0_; have HO413 := n1_; have BK405 := n2_; have HB := n3_; clear n0_ n1_ n2_ n3_; (try clear hb); (try clear hb2); (try clear hk); (try clear hi); (try clear ho0)) | ((with_reducible refine gate_dst (N := 5) rfl ?_); refine box_event ?hg (N := 5) ?hd (cs := #[.slice none 0 0]) (t := 66) ?hr ?_; (case hd => rfl); (case hg => rfl); (case hr => first | (go_simp; done) | (go_simp; rfl)); intro gb414 hg w21 hbox hb; have n0_ := Aside0.mk (Kd.R_below (by (with_reducible repeat (first | apply Kd.R_alloc | apply Kd.R_drewN | apply Kd.R_drew)); exact HO409.out) hb); have n1_ := Aside0.mk (Kd.R_below (by (with_reducible repeat (first | apply Kd.R_alloc | apply Kd.R_drewN | apply Kd.R_drew)); exact HO413.out) hb); have n2_ := Aside0.mk (blk_below (g := gb405) (o := .cells #[.slice A0_0 l0_0.length c0_0] 61 (0, 0)) (by (with_reducible repeat (first | refine blk_drewN ?_ _ | refine blk_drew ?_ | refine blk_alloc ?_ _)); exact BK405.out) hb); have n3_ := Aside0.mk (below_step (by repeat (first | (with_reducible first | exact HB.out | apply below_alloc | apply pw_below_drewN | apply below_drew1 | refine below_set ?_ GE405.out) | exact HB.out)) hb); have n4_ := Aside0.mk (hbox); have n5_ := Aside0.mk ((by rw [hg]; exact (below_size (by repeat (first | (with_reducible first | exact HB.out | apply below_alloc | apply pw_below_drewN | apply below_drew1 | refine below_set ?_ GE405.out) | exact HB.out))) : w.heap.size ≤ gb414)); have n6_ := Aside0.mk ((by rw [hg]; exact (below_size (by repeat (first | (with_reducible first | exact HB.out | apply below_alloc | apply pw_below_drewN | apply below_drew1 | refine below_set ?_ GE405.out) | exact HB.out))) : w.heap.size ≤ gb414)); have n7_ := Aside0.mk ((by rw [hg]; exact Nat.ne_of_lt (blk_lt (g := gb405) (o := .cells #[.slice A0_0 l0_0.length c0_0] 61 (0, 0)) (by (with_reducible repeat (first | refine blk_drewN ?_ _ | refine blk_drew ?_ | refine blk_alloc ?_ _)); exact BK405.out)) : gb405 ≠ gb414)); have n8_ := Aside0.mk ((by rw [hg]; exact Nat.ne_of_gt (blk_lt (g := gb405) (o := .cells #[.slice A0_0 l0_0.length c0_0] 61 (0, 0)) (by (with_reducible repeat (first | refine blk_drewN ?_ _ | refine blk_drew ?_ | refine blk_alloc ?_ _)); exact BK405.out)) : gb414 ≠ gb405)); clear HO409; clear HO413; clear BK405; clear HB; have HO409 := n0_; have HO413 := n1_; have BK405 := n2_; have HB := n3_; have BK414 := n4_; have GW414 := n5_; have GE414 := n6_; have NB405_414 := n7_; have NB414_405 := n8_; clear n0_ n1_ n2_ n3_ n4_ n5_ n6_ n7_ n8_; clear hb hbox hg; obtain ⟨Ao22, co22, eo22⟩ := Kd.R_slice HO413.out; subst eo22; have hnb23 := NB414_405.out; have hnc23 := NB405_414.out; have hcz24_0 : w21.cell? ⟨gb414, 0, none⟩ = some (.slice none 0 0) := (blk_cell BK414.out 0).trans rfl; have hfz24_0 := blk_frozen BK414.out 0) | ((with_reducible refine at_fn (f := 42) rfl ?_); refine goesL_ (some 18) rfl rfl Try.func42 (by kernel_rfl) rfl #[.agg #[.slice Ao22 t411.length co22]] rfl (by (try simp only [List.map_toArray, List.map_cons, List.map_nil]); first | done | rfl | (simp only [List.length_drop, List.length_take]; rfl)) ?_; (with_reducible refine (impl_ValidRun.calls k _ _ t411 t415 _ ?side1 ?side2 A10.out).mono ?_); (case side1 => refine (Kd.R_reads' (e := 35) (base := w.heap.size) (ok := fun k_ => (True ∧ some k_ ≠ (.slice Ao17 t407.length co17 : Value).ownBlock)) (n := t411.length) (c := co22) ?_).2.2; exact (by (with_reducible repeat (first | apply Kd.R_alloc | apply Kd.R_drewN | apply Kd.R_drew)); exact (Kd.R_mono (Kd.R_far (p := ⟨gb414, 0, none⟩) (Kd.R_types HO413.out BK414.out (by decide)) (fun _ hk => hk.2) (.slice Ao22 t411.length co22)) (fun _ h_ => h_.1)))); (case side2 => exact (Kd.R_reads' HO413.out).2.1); rintro e w25 ⟨rfl, hb⟩; refine ⟨_, rfl, ?_⟩; have n0_ := Aside0.mk (Kd.R_below (by (with_reducible repeat (first | apply Kd.R_alloc | apply Kd.R_drewN | apply Kd.R_drew)); exact (Kd.R_mono (Kd.R_far (p := ⟨gb414, 0, none⟩) (Kd.R_types HO409.out BK414.out (by decide)) (fun _ hk => hk.2) (.slice Ao22 t411.length co22)) (fun _ h_ => h_.1))) hb); have n1_ := Aside0.mk (Kd.R_below (by (with_reducible repeat (first | apply Kd.R_alloc | apply Kd.R_drewN | apply Kd.R_drew)); exact (Kd.R_mono (Kd.R_far (p := ⟨gb414, 0, none⟩) (Kd.R_types HO413.out BK414.out (by decide)) (fun _ hk => hk.2) (.slice Ao22 t411.length co22)) (fun _ h_ => h_.1))) hb); have n2_ := Aside0.mk (blk_below (g := gb405) (o := .cells #[.slice A0_0 l0_0.length c0_0] 61 (0, 0)) (by (with_reducible repeat (first | refine blk_drewN ?_ _ | refine blk_drew ?_ | refine blk_alloc ?_ _)); refine blk_far ?_ NB405_414.out _; (with_reducible repeat (first | refine blk_drewN ?_ _ | refine blk_drew ?_ | refine blk_alloc ?_ _)); exact BK405.out) hb); have n3_ := Aside0.mk (blk_below (g := gb414) (o := .cells #[.slice Ao22 t411.length co22] 66 (0, 0)) (by (with_reducible repeat (first | refine blk_drewN ?_ _ | refine blk_drew ?_ | refine blk_alloc ?_ _)); refine blk_put (cs := #[.slice none 0 0]) ?_ 0 _ rfl; (with_reducible repeat (first | refine blk_drewN ?_ _ | refine blk_drew ?_ | refine blk_alloc ?_ _)); exact BK414.out) hb); have n4_ := Aside0.mk (below_step (by repeat (first | (with_reducible first | exact HB.out | apply below_alloc | apply pw_below_drewN | apply below_drew1 | refine below_set ?_ GE405.out | refine below_set ?_ GE414.out) | exact HB.out)) hb); clear HO409; clear HO413; clear BK405; clear BK414; clear HB; have HO409 := n0_; have HO413 := n1_; have BK405 := n2_; have BK414 := n3_; have HB := n4_; clear n0_ n1_ n2_ n3_ n4_; (try clear hb); (try clear hb2); (try clear hk); (try clear hi)))
   go_ret
   exact ⟨by first | rfl | (simp [errW_none, errW_some] <;> rfl) | (simp [*, errW_none, errW_some] <;> rfl), by repeat (first | (with_reducible first | exact HB.out | apply below_alloc | apply pw_below_drewN | apply below_drew1 | refine below_set ?_ GE405.out | refine below_set ?_ GE414.out) | exact HB.out)⟩
  ·rw [if_neg c11] at H
   have c11b0 : (t415 != t410) = false := by simpa using c11
   (try (have c11b1 : decide (t415 = t410) = true := by simpa using c11))
   (try (have c11b2 : (t415 == t410) = true := by simpa using c11))
   clear c11
   replace H := Option.bind_eq_some_iff.mp H
   obtain ⟨t416, A260, H⟩ := H
   replace H : ((laws_eqRun.f k t411 t416).bind fun t419 => (if t419 = true then (some true) else (some false))) = some r := H
   have A26 := Aside0.mk A260
   clear A260
   replace H := Option.bind_eq_some_iff.mp H
   obtain ⟨t419, A270, H⟩ := H
   replace H : (if t419 = true then (some true) else (some false)) = some r := H
   have A27 := Aside0.mk A270
   clear A270
   by_cases c28 : t419 = true
   ·subst c28
    have H1 : (some true) = some r := by rw [if_pos rfl] at H; exact H
    clear H
    have H := H1
    clear H1
    obtain rfl := Option.some.inj H
    go_enter Try.func10, Try.ntmps10
    try go_wp2_with (first | ((with_reducible refine gate_dst (N := 1) rfl ?_); refine box_event ?hg (N := 1) ?hd (cs := #[.slice A0_0 l0_0.length c0_0]) (t := 61) ?hr ?_; (case hd => rfl); (case hg => rfl); (case hr => first | (go_simp; done) | (go_simp; rfl)); intro gb405 hg w29 hbox hb; have n0_ := Aside0.mk (below_step (by repeat (first | (with_reducible first | exact HB.out | apply below_alloc | apply pw_below_drewN | apply below_drew1) | exact HB.out)) hb); have n1_ := Aside0.mk (hbox); have n2_ := Aside0.mk ((by rw [hg]; exact (below_size (by repeat (first | (with_reducible first | exact HB.out | apply below_alloc | apply pw_below_drewN | apply below_drew1) | exact HB.out))) : w.heap.size ≤ gb405)); have n3_ := Aside0.mk ((by rw [hg]; exact (below_size (by repeat (first | (with_reducible first | exact HB.out | apply below_alloc | apply pw_below_drewN | apply below_drew1) | exact HB.out))) : w.heap.size ≤ gb405)); clear HB; have HB := n0_; have BK405 := n1_; have GW405 := n2_; have GE405 := n3_; clear n0_ n1_ n2_ n3_; clear hb hbox hg; have hcz30_0 : w29.cell? ⟨gb405, 0, none⟩ = some (.slice A0_0 l0_0.length c0_0) := (blk_cell BK405.out 0).trans rfl; have hfz30_0 := blk_frozen BK405.out 0) | ((with_reducible refine at_fn (f := 39) rfl ?_); refine goesL_ (some 9) rfl rfl Try.func39 (by kernel_rfl) rfl #[.agg #[.slice A0_0 l0_0.length c0_0], .int .i64 1048576] rfl (by (try simp only [List.map_toArray, List.map_cons, List.map_nil]); first | done | rfl | (simp only [List.length_drop, List.length_take]; rfl)) ?_; (with_reducible refine (laws_szRun.calls k _ _ l0_0 1048576 t406 _ ?side1 ?side2 A2.out).mono ?_); (case side1 => repeat (first | exact (Kd.C_below HR0_0.out HB.out) | (with_reducible refine Kd.C_alloc ?_ _) | (with_reducible refine Kd.C_drewN ?_ _) | (with_reducible refine Kd.C_drew ?_))); (case side2 => exact HC0_0.out); rintro e w31 ⟨rfl, hb⟩; refine ⟨_, rfl, ?_⟩; have n0_ := Aside0.mk (blk_below (g := gb405) (o := .cells #[.slice A0_0 l0_0.length c0_0] 61 (0, 0)) (by (with_reducible repeat (first | refine blk_drewN ?_ _ | refine blk_drew ?_ | refine blk_alloc ?_ _)); exact BK405.out) hb); have n1_ := Aside0.mk (below_step (by repeat (first | (with_reducible first | exact HB.out | apply below_alloc | apply pw_below_drewN | apply below_drew1 | refine below_set ?_ GE405.out) | exact HB.out)) hb); clear BK405; clear HB; have BK405 := n0_; have HB := n1_; clear n0_ n1_; (try clear hb); (try clear hb2); (try clear hk); (try clear hi); have hcz32_0 : w31.cell? ⟨gb405, 0, none⟩ = some (.slice A0_0 l0_0.length c0_0) := (blk_cell BK405.out 0).trans rfl; have hfz32_0 := blk_frozen BK405.out 0) | ((with_reducible refine at_fn (f := 41) rfl ?_); refine goesL_ (some 13) rfl rfl Try.func41 (by kernel_rfl) rfl #[.agg #[.slice A0_0 l0_0.length c0_0]] rfl (by (try simp only [List.map_toArray, List.map_cons, List.map_nil]); first | done | rfl | (simp only [List.length_drop, List.length_take]; rfl)) ?_; (with_reducible refine (laws_toRun.calls k _ _ l0_0 t407 _ ?side1 ?side2 A7.out).mono ?_); (case side1 => repeat (first | exact (Kd.C_below HR0_0.out HB.out) | (with_reducible refine Kd.C_alloc ?_ _) | (with_reducible refine Kd.C_drewN ?_ _) | (with_reducible refine Kd.C_drew ?_))); (case side2 => exact HC0_0.out); rintro e w33 ⟨v408, rfl, ho0, hb⟩; refine ⟨_, rfl, ?_⟩; have n0_ := Aside0.mk (Kd.R_lower ho0 (below_size (by repeat (first | (with_reducible first | exact HB.out | apply below_alloc | apply pw_below_drewN | apply below_drew1 | refine below_set ?_ GE405.out) | exact HB.out)))); have n1_ := Aside0.mk (blk_below (g := gb405) (o := .cells #[.slice A0_0 l0_0.length c0_0] 61 (0, 0)) (by (with_reducible repeat (first | refine blk_drewN ?_ _ | refine blk_drew ?_ | refine blk_alloc ?_ _)); exact BK405.out) hb); have n2_ := Aside0.mk (below_step (by repeat (first | (with_reducible first | exact HB.out | apply below_alloc | apply pw_below_drewN | apply below_drew1 | refine below_set ?_ GE405.out) | exact HB.out)) hb); clear BK405; clear HB; have HO409 := n0_; have BK405 := n1_; have HB := n2_; clear n0_ n1_ n2_; (try clear hb); (try clear hb2); (try clear hk); (try clear hi); (try clear ho0); obtain ⟨Ao34, co34, eo34⟩ := Kd.R_slice HO409.out; subst eo34) | ((with_reducible refine at_fn (f := 40) rfl ?_); refine goesL_ (some 14) rfl rfl Try.func40 (by kernel_rfl) rfl #[.agg #[.slice Ao34 t407.length co34]] rfl (by (try simp only [List.map_toArray, List.map_cons, List.map_nil]); first | done | rfl | (simp only [List.length_drop, List.length_take]; rfl)) ?_; (with_reducible refine (spec_ValidRun.calls k _ _ t407 t410 _ ?side1 ?side2 A8.out).mono ?_); (case side1 => repeat (first | exact (Kd.R_reads' HO409.out).2.2 | (with_reducible refine Kd.C_alloc ?_ _) | (with_reducible refine Kd.C_drewN ?_ _) | (with_reducible refine Kd.C_drew ?_))); (case side2 => exact (Kd.R_reads' HO409.out).2.1); rintro e w35 ⟨rfl, hb⟩; refine ⟨_, rfl, ?_⟩; have n0_ := Aside0.mk (Kd.R_below (by (with_reducible repeat (first | apply Kd.R_alloc | apply Kd.R_drewN | apply Kd.R_drew)); exact HO409.out) hb); have n1_ := Aside0.mk (blk_below (g := gb405) (o := .cells #[.slice A0_0 l0_0.length c0_0] 61 (0, 0)) (by (with_reducible repeat (first | refine blk_drewN ?_ _ | refine blk_drew ?_ | refine blk_alloc ?_ _)); exact BK405.out) hb); have n2_ := Aside0.mk (below_step (by repeat (first | (with_reducible first | exact HB.out | apply below_alloc | apply pw_below_drewN | apply below_drew1 | refine below_set ?_ GE405.out) | exact HB.out)) hb); clear HO409; clear BK405; clear HB; have HO409 := n0_; have BK405 := n1_; have HB := n2_; clear n0_ n1_ n2_; (try clear hb); (try clear hb2); (try clear hk); (try clear hi); have hcz36_0 : w35.cell? ⟨gb405, 0, none⟩ = some (.slice A0_0 l0_0.length c0_0) := (blk_cell BK405.out 0).trans rfl; have hfz36_0 := blk_frozen BK405.out 0) | ((with_reducible refine at_fn (f := 41) rfl ?_); refine goesL_ (some 16) rfl rfl Try.func41 (by kernel_rfl) rfl #[.agg #[.slice A0_0 l0_0.length c0_0]] rfl (by (try simp only [List.map_toArray, List.map_cons, List.map_nil]); first | done | rfl | (simp only [List.length_drop, List.length_take]; rfl)) ?_; (with_reducible refine (laws_toRun.calls k _ _ l0_0 t411 _ ?side1 ?side2 A9.out).mono ?_); (case side1 => repeat (first | exact (Kd.C_below HR0_0.out HB.out) | (with_reducible refine Kd.C_alloc ?_ _) | (with_reducible refine Kd.C_drewN ?_ _) | (with_reducible refine Kd.C_drew ?_))); (case side2 => exact HC0_0.out); rintro e w37 ⟨v412, rfl, ho0, hb⟩; refine ⟨_, rfl, ?_⟩; have n0_ := Aside0.mk (Kd.R_elder' (by (with_reducible repeat (first | apply Kd.R_alloc | apply Kd.R_drewN | apply Kd.R_drew)); exact HO409.out) (Kd.R_base ho0) hb); have n1_ := Aside0.mk (Kd.R_lower (Kd.R_new' ho0 (Kd.R_lt (by (with_reducible repeat (first | apply Kd.R_alloc | apply Kd.R_drewN | apply Kd.R_drew)); exact HO409.out))) (below_size (by repeat (first | (with_reducible first | exact HB.out | apply below_alloc | apply pw_below_drewN | apply below_drew1 | refine below_set ?_ GE405.out) | exact HB.out)))); have n2_ := Aside0.mk (blk_below (g := gb405) (o := .cells #[.slice A0_0 l0_0.length c0_0] 61 (0, 0)) (by (with_reducible repeat (first | refine blk_drewN ?_ _ | refine blk_drew ?_ | refine blk_alloc ?_ _)); exact BK405.out) hb); have n3_ := Aside0.mk (below_step (by repeat (first | (with_reducible first | exact HB.out | apply below_alloc | apply pw_below_drewN | apply below_drew1 | refine below_set ?_ GE405.out) | exact HB.out)) hb); clear HO409; clear BK405; clear HB; have HO409 := n0_; have HO413 := n1_; have BK405 := n2_; have HB := n3_; clear n0_ n1_ n2_ n3_; (try clear hb); (try clear hb2); (try clear hk); (try clear hi); (try clear ho0)) | ((with_reducible refine gate_dst (N := 5) rfl ?_); refine box_event ?hg (N := 5) ?hd (cs := #[.slice none 0 0]) (t := 66) ?hr ?_; (case hd => rfl); (case hg => rfl); (case hr => first | (go_simp; done) | (go_simp; rfl)); intro gb414 hg w38 hbox hb; have n0_ := Aside0.mk (Kd.R_below (by (with_reducible repeat (first | apply Kd.R_alloc | apply Kd.R_drewN | apply Kd.R_drew)); exact HO409.out) hb); have n1_ := Aside0.mk (Kd.R_below (by (with_reducible repeat (first | apply Kd.R_alloc | apply Kd.R_drewN | apply Kd.R_drew)); exact HO413.out) hb); have n2_ := Aside0.mk (blk_below (g := gb405) (o := .cells #[.slice A0_0 l0_0.length c0_0] 61 (0, 0)) (by (with_reducible repeat (first | refine blk_drewN ?_ _ | refine blk_drew ?_ | refine blk_alloc ?_ _)); exact BK405.out) hb); have n3_ := Aside0.mk (below_step (by repeat (first | (with_reducible first | exact HB.out | apply below_alloc | apply pw_below_drewN | apply below_drew1 | refine below_set ?_ GE405.out) | exact HB.out)) hb); have n4_ := Aside0.mk (hbox); have n5_ := Aside0.mk ((by rw [hg]; exact (below_size (by repeat (first | (with_reducible first | exact HB.out | apply below_alloc | apply pw_below_drewN | apply below_drew1 | refine below_set ?_ GE405.out) | exact HB.out))) : w.heap.size ≤ gb414)); have n6_ := Aside0.mk ((by rw [hg]; exact (below_size (by repeat (first | (with_reducible first | exact HB.out | apply below_alloc | apply pw_below_drewN | apply below_drew1 | refine below_set ?_ GE405.out) | exact HB.out))) : w.heap.size ≤ gb414)); have n7_ := Aside0.mk ((by rw [hg]; exact Nat.ne_of_lt (blk_lt (g := gb405) (o := .cells #[.slice A0_0 l0_0.length c0_0] 61 (0, 0)) (by (with_reducible repeat (first | refine blk_drewN ?_ _ | refine blk_drew ?_ | refine blk_alloc ?_ _)); exact BK405.out)) : gb405 ≠ gb414)); have n8_ := Aside0.mk ((by rw [hg]; exact Nat.ne_of_gt (blk_lt (g := gb405) (o := .cells #[.slice A0_0 l0_0.length c0_0] 61 (0, 0)) (by (with_reducible repeat (first | refine blk_drewN ?_ _ | refine blk_drew ?_ | refine blk_alloc ?_ _)); exact BK405.out)) : gb414 ≠ gb405)); clear HO409; clear HO413; clear BK405; clear HB; have HO409 := n0_; have HO413 := n1_; have BK405 := n2_; have HB := n3_; have BK414 := n4_; have GW414 := n5_; have GE414 := n6_; have NB405_414 := n7_; have NB414_405 := n8_; clear n0_ n1_ n2_ n3_ n4_ n5_ n6_ n7_ n8_; clear hb hbox hg; obtain ⟨Ao39, co39, eo39⟩ := Kd.R_slice HO413.out; subst eo39; have hnb40 := NB414_405.out; have hnc40 := NB405_414.out; have hcz41_0 : w38.cell? ⟨gb414, 0, none⟩ = some (.slice none 0 0) := (blk_cell BK414.out 0).trans rfl; have hfz41_0 := blk_frozen BK414.out 0) | ((with_reducible refine at_fn (f := 42) rfl ?_); refine goesL_ (some 18) rfl rfl Try.func42 (by kernel_rfl) rfl #[.agg #[.slice Ao39 t411.length co39]] rfl (by (try simp only [List.map_toArray, List.map_cons, List.map_nil]); first | done | rfl | (simp only [List.length_drop, List.length_take]; rfl)) ?_; (with_reducible refine (impl_ValidRun.calls k _ _ t411 t415 _ ?side1 ?side2 A10.out).mono ?_); (case side1 => refine (Kd.R_reads' (e := 35) (base := w.heap.size) (ok := fun k_ => (True ∧ some k_ ≠ (.slice Ao34 t407.length co34 : Value).ownBlock)) (n := t411.length) (c := co39) ?_).2.2; exact (by (with_reducible repeat (first | apply Kd.R_alloc | apply Kd.R_drewN | apply Kd.R_drew)); exact (Kd.R_mono (Kd.R_far (p := ⟨gb414, 0, none⟩) (Kd.R_types HO413.out BK414.out (by decide)) (fun _ hk => hk.2) (.slice Ao39 t411.length co39)) (fun _ h_ => h_.1)))); (case side2 => exact (Kd.R_reads' HO413.out).2.1); rintro e w42 ⟨rfl, hb⟩; refine ⟨_, rfl, ?_⟩; have n0_ := Aside0.mk (Kd.R_below (by (with_reducible repeat (first | apply Kd.R_alloc | apply Kd.R_drewN | apply Kd.R_drew)); exact (Kd.R_mono (Kd.R_far (p := ⟨gb414, 0, none⟩) (Kd.R_types HO409.out BK414.out (by decide)) (fun _ hk => hk.2) (.slice Ao39 t411.length co39)) (fun _ h_ => h_.1))) hb); have n1_ := Aside0.mk (Kd.R_below (by (with_reducible repeat (first | apply Kd.R_alloc | apply Kd.R_drewN | apply Kd.R_drew)); exact (Kd.R_mono (Kd.R_far (p := ⟨gb414, 0, none⟩) (Kd.R_types HO413.out BK414.out (by decide)) (fun _ hk => hk.2) (.slice Ao39 t411.length co39)) (fun _ h_ => h_.1))) hb); have n2_ := Aside0.mk (blk_below (g := gb405) (o := .cells #[.slice A0_0 l0_0.length c0_0] 61 (0, 0)) (by (with_reducible repeat (first | refine blk_drewN ?_ _ | refine blk_drew ?_ | refine blk_alloc ?_ _)); refine blk_far ?_ NB405_414.out _; (with_reducible repeat (first | refine blk_drewN ?_ _ | refine blk_drew ?_ | refine blk_alloc ?_ _)); exact BK405.out) hb); have n3_ := Aside0.mk (blk_below (g := gb414) (o := .cells #[.slice Ao39 t411.length co39] 66 (0, 0)) (by (with_reducible repeat (first | refine blk_drewN ?_ _ | refine blk_drew ?_ | refine blk_alloc ?_ _)); refine blk_put (cs := #[.slice none 0 0]) ?_ 0 _ rfl; (with_reducible repeat (first | refine blk_drewN ?_ _ | refine blk_drew ?_ | refine blk_alloc ?_ _)); exact BK414.out) hb); have n4_ := Aside0.mk (below_step (by repeat (first | (with_reducible first | exact HB.out | apply below_alloc | apply pw_below_drewN | apply below_drew1 | refine below_set ?_ GE405.out | refine below_set ?_ GE414.out) | exact HB.out)) hb); clear HO409; clear HO413; clear BK405; clear BK414; clear HB; have HO409 := n0_; have HO413 := n1_; have BK405 := n2_; have BK414 := n3_; have HB := n4_; clear n0_ n1_ n2_ n3_ n4_; (try clear hb); (try clear hb2); (try clear hk); (try clear hi)))
    have n0_ := Aside0.mk (Kd.R_drew HO409.out)
    have n1_ := Aside0.mk (Kd.R_drew HO413.out)
    have n2_ := Aside0.mk (blk_drew BK405.out)
    have n3_ := Aside0.mk (blk_drew BK414.out)
    have n4_ := Aside0.mk (below_drew1 HB.out)
    clear HO409
    clear HO413
    clear BK405
    clear BK414
    clear HB
    have HO409 := n0_
    have HO413 := n1_
    have BK405 := n2_
    have BK414 := n3_
    have HB := n4_
    clear n0_ n1_ n2_ n3_ n4_
    refine start_ (n := 5) (S := fun w' => w'.cell? ⟨gb414, 0, none⟩ = some (.slice Ao39 t411.length co39) ∧ w'.cell? ⟨gb405, 0, none⟩ = some (.slice A0_0 l0_0.length c0_0)) (ds := []) #[false, false, false, false, false] (by kernel_rfl) rfl rfl ⟨(blk_cell BK414.out 0).trans rfl, (blk_cell BK405.out 0).trans rfl⟩ (fun hHeld => ?_)
    generalize w42.drew = w43 at HO409 HO413 BK405 BK414 HB hHeld ⊢
    refine take_ (i := 0) (N := some 22) (v := ?_) (a' := ?_) #[true, false, false, false, false] rfl rfl (by kernel_rfl) (fun _ _ _ h => h) (Or.inl ⟨by rfl, ?_⟩) hHeld ?_ ?_
    rotate_left
    ·rintro w' ⟨s0, s1⟩
     go_simp
     with_reducible rfl
    rotate_left
    ·simp only [Act.put, List.setIfInBounds_toArray, List.set_cons_zero, List.set_cons_succ, i64_w, i32_w]
     rfl
    refine take_ (i := 1) (N := some 23) (v := ?_) (a' := ?_) #[true, true, false, false, false] rfl rfl (by kernel_rfl) (fun _ _ _ h => h) (Or.inl ⟨by rfl, ?_⟩) hHeld ?_ ?_
    rotate_left
    ·rintro w' ⟨s0, s1⟩
     go_simp
     with_reducible rfl
    rotate_left
    ·simp only [Act.put, List.setIfInBounds_toArray, List.set_cons_zero, List.set_cons_succ, i64_w, i32_w]
     rfl
    refine one_ (i := 2) (N := some 24) #[true, true, true, false, false] rfl rfl (by kernel_rfl) (by decide) (fun K hK => ?_)
    refine goes_ Try.func41 (by kernel_rfl) rfl #[.agg #[.slice A0_0 l0_0.length c0_0]] (by rfl) rfl rfl (by (try simp only [List.map_toArray, List.map_cons, List.map_nil]); first | done | rfl | (simp only [List.length_drop, List.length_take]; rfl)) ?_
    with_reducible refine (laws_toRun.calls k _ _ l0_0 t416 _ ?side1 ?side2 A26.out).mono ?_
    (case side1 => repeat (first | exact (Kd.C_below HR0_0.out HB.out) | (with_reducible refine Kd.C_alloc ?_ _) | (with_reducible refine Kd.C_drewN ?_ _) | (with_reducible refine Kd.C_drew ?_)))
    (case side2 => exact HC0_0.out)
    rintro e w44 ⟨v417, rfl, ho0, hb⟩
    refine ⟨_, rfl, ?_⟩
    have n0_ := Aside0.mk (Kd.R_elder' (by (with_reducible repeat (first | apply Kd.R_alloc | apply Kd.R_drewN | apply Kd.R_drew)); exact HO409.out) (Kd.R_base ho0) hb)
    have n1_ := Aside0.mk (Kd.R_elder' (by (with_reducible repeat (first | apply Kd.R_alloc | apply Kd.R_drewN | apply Kd.R_drew)); exact HO413.out) (Kd.R_base ho0) hb)
    have n2_ := Aside0.mk (Kd.R_lower (Kd.R_new' (Kd.R_new' ho0 (Kd.R_lt (by (with_reducible repeat (first | apply Kd.R_alloc | apply Kd.R_drewN | apply Kd.R_drew)); exact HO409.out))) (Kd.R_lt (by (with_reducible repeat (first | apply Kd.R_alloc | apply Kd.R_drewN | apply Kd.R_drew)); exact HO413.out))) (below_size (by repeat (first | (with_reducible first | exact HB.out | apply below_alloc | apply pw_below_drewN | apply below_drew1 | refine below_set ?_ GE405.out | refine below_set ?_ GE414.out) | exact HB.out))))
    have n3_ := Aside0.mk (blk_below (g := gb405) (o := .cells #[.slice A0_0 l0_0.length c0_0] 61 (0, 0)) (by (with_reducible repeat (first | refine blk_drewN ?_ _ | refine blk_drew ?_ | refine blk_alloc ?_ _)); exact BK405.out) hb)
    have n4_ := Aside0.mk (blk_below (g := gb414) (o := .cells #[.slice Ao39 t411.length co39] 66 (0, 0)) (by (with_reducible repeat (first | refine blk_drewN ?_ _ | refine blk_drew ?_ | refine blk_alloc ?_ _)); exact BK414.out) hb)
    have n5_ := Aside0.mk (below_step (by repeat (first | (with_reducible first | exact HB.out | apply below_alloc | apply pw_below_drewN | apply below_drew1 | refine below_set ?_ GE405.out | refine below_set ?_ GE414.out) | exact HB.out)) hb)
    clear HO409
    clear HO413
    clear BK405
    clear BK414
    clear HB
    have HO409 := n0_
    have HO413 := n1_
    have HO418 := n2_
    have BK405 := n3_
    have BK414 := n4_
    have HB := n5_
    clear n0_ n1_ n2_ n3_ n4_ n5_
    (try clear hb)
    (try clear hb2)
    (try clear hk)
    (try clear hi)
    (try clear ho0)
    obtain ⟨Ao45, co45, eo45⟩ := Kd.R_slice HO418.out
    (first | subst eo45 | (injection eo45 with f1_ f2_ f3_; have f4_ := f1_.symm; have f5_ := f3_.symm; clear f1_ f2_ f3_; subst f4_; subst f5_))
    refine hK.out _ _ ⟨(blk_cell BK414.out 0).trans rfl, (blk_cell BK405.out 0).trans rfl⟩ (fun hHeld => ?_)
    clear hK K
    refine norm_ (a' := ?_) ?_ ?_
    rotate_left
    ·show Act.put _ (some 24) _ = _
     simp only [Act.put, List.setIfInBounds_toArray, List.set_cons_zero, List.set_cons_succ, i64_w, i32_w]
     rfl
    refine one_ (i := 3) (N := some 25) #[true, true, true, true, false] rfl rfl (by kernel_rfl) (by decide) (fun K hK => ?_)
    refine goes_ Try.func43 (by kernel_rfl) rfl #[.agg #[.slice Ao39 t411.length co39], .agg #[.slice Ao45 t416.length co45]] (by rfl) rfl rfl (by (try simp only [List.map_toArray, List.map_cons, List.map_nil]); first | done | rfl | (simp only [List.length_drop, List.length_take]; rfl)) ?_
    with_reducible refine (laws_eqRun.calls k _ _ t411 _ _ t416 true _ ?side1 ?side2 ?side3 ?side4 A27.out).mono ?_
    (case side1 => repeat (first | exact (Kd.R_reads' HO413.out).2.2 | (with_reducible refine Kd.C_alloc ?_ _) | (with_reducible refine Kd.C_drewN ?_ _) | (with_reducible refine Kd.C_drew ?_)))
    (case side2 => exact (Kd.R_reads' HO413.out).2.1)
    (case side3 => repeat (first | exact (Kd.R_reads' HO418.out).2.2 | (with_reducible refine Kd.C_alloc ?_ _) | (with_reducible refine Kd.C_drewN ?_ _) | (with_reducible refine Kd.C_drew ?_)))
    (case side4 => exact (Kd.R_reads' HO418.out).2.1)
    rintro e w46 ⟨rfl, hb⟩
    refine ⟨_, rfl, ?_⟩
    have n0_ := Aside0.mk (Kd.R_below (by (with_reducible repeat (first | apply Kd.R_alloc | apply Kd.R_drewN | apply Kd.R_drew)); exact HO409.out) hb)
    have n1_ := Aside0.mk (Kd.R_below (by (with_reducible repeat (first | apply Kd.R_alloc | apply Kd.R_drewN | apply Kd.R_drew)); exact HO413.out) hb)
    have n2_ := Aside0.mk (Kd.R_below (by (with_reducible repeat (first | apply Kd.R_alloc | apply Kd.R_drewN | apply Kd.R_drew)); exact HO418.out) hb)
    have n3_ := Aside0.mk (blk_below (g := gb405) (o := .cells #[.slice A0_0 l0_0.length c0_0] 61 (0, 0)) (by (with_reducible repeat (first | refine blk_drewN ?_ _ | refine blk_drew ?_ | refine blk_alloc ?_ _)); exact BK405.out) hb)
    have n4_ := Aside0.mk (blk_below (g := gb414) (o := .cells #[.slice Ao39 t411.length co39] 66 (0, 0)) (by (with_reducible repeat (first | refine blk_drewN ?_ _ | refine blk_drew ?_ | refine blk_alloc ?_ _)); exact BK414.out) hb)
    have n5_ := Aside0.mk (below_step (by repeat (first | (with_reducible first | exact HB.out | apply below_alloc | apply pw_below_drewN | apply below_drew1 | refine below_set ?_ GE405.out | refine below_set ?_ GE414.out) | exact HB.out)) hb)
    clear HO409
    clear HO413
    clear HO418
    clear BK405
    clear BK414
    clear HB
    have HO409 := n0_
    have HO413 := n1_
    have HO418 := n2_
    have BK405 := n3_
    have BK414 := n4_
    have HB := n5_
    clear n0_ n1_ n2_ n3_ n4_ n5_
    (try clear hb)
    (try clear hb2)
    (try clear hk)
    (try clear hi)
    refine hK.out _ _ ⟨(blk_cell BK414.out 0).trans rfl, (blk_cell BK405.out 0).trans rfl⟩ (fun hHeld => ?_)
    clear hK K
    refine norm_ (a' := ?_) ?_ ?_
    rotate_left
    ·show Act.put _ (some 25) _ = _
     simp only [Act.put, List.setIfInBounds_toArray, List.set_cons_zero, List.set_cons_succ, i64_w, i32_w]
     rfl
    refine pure_ (i := 4) (N := some 26) (v := ?_) (a' := ?_) #[true, true, true, true, true] rfl rfl (by kernel_rfl) (fun _ _ _ h => h) (Or.inl ⟨by rfl, ?_⟩) ?_ ?_
    rotate_left
    ·intro w'
     go_simp
     with_reducible rfl
    rotate_left
    ·simp only [Act.put, List.setIfInBounds_toArray, List.set_cons_zero, List.set_cons_succ, i64_w, i32_w]
     rfl
    refine done_ (by kernel_rfl) ?_
    try go_wp2
    go_ret
    exact ⟨by first | rfl | (simp [errW_none, errW_some] <;> rfl) | (simp [*, errW_none, errW_some] <;> rfl), by repeat (first | (with_reducible first | exact HB.out | apply below_alloc | apply pw_below_drewN | apply below_drew1 | refine below_set ?_ GE405.out | refine below_set ?_ GE414.out) | exact HB.out)⟩
   ·replace c28 := Bool.eq_false_iff.mpr c28
    subst c28
    have H1 : (some false) = some r := by rw [if_neg (show ¬ (false = true) by decide)] at H; exact H
    clear H
    have H := H1
    clear H1
    obtain rfl := Option.some.inj H
    go_enter Try.func10, Try.ntmps10
    try go_wp2_with (first | ((with_reducible refine gate_dst (N := 1) rfl ?_); refine box_event ?hg (N := 1) ?hd (cs := #[.slice A0_0 l0_0.length c0_0]) (t := 61) ?hr ?_; (case hd => rfl); (case hg => rfl); (case hr => first | (go_simp; done) | (go_simp; rfl)); intro gb405 hg w47 hbox hb; have n0_ := Aside0.mk (below_step (by repeat (first | (with_reducible first | exact HB.out | apply below_alloc | apply pw_below_drewN | apply below_drew1) | exact HB.out)) hb); have n1_ := Aside0.mk (hbox); have n2_ := Aside0.mk ((by rw [hg]; exact (below_size (by repeat (first | (with_reducible first | exact HB.out | apply below_alloc | apply pw_below_drewN | apply below_drew1) | exact HB.out))) : w.heap.size ≤ gb405)); have n3_ := Aside0.mk ((by rw [hg]; exact (below_size (by repeat (first | (with_reducible first | exact HB.out | apply below_alloc | apply pw_below_drewN | apply below_drew1) | exact HB.out))) : w.heap.size ≤ gb405)); clear HB; have HB := n0_; have BK405 := n1_; have GW405 := n2_; have GE405 := n3_; clear n0_ n1_ n2_ n3_; clear hb hbox hg; have hcz48_0 : w47.cell? ⟨gb405, 0, none⟩ = some (.slice A0_0 l0_0.length c0_0) := (blk_cell BK405.out 0).trans rfl; have hfz48_0 := blk_frozen BK405.out 0) | ((with_reducible refine at_fn (f := 39) rfl ?_); refine goesL_ (some 9) rfl rfl Try.func39 (by kernel_rfl) rfl #[.agg #[.slice A0_0 l0_0.length c0_0], .int .i64 1048576] rfl (by (try simp only [List.map_toArray, List.map_cons, List.map_nil]); first | done | rfl | (simp only [List.length_drop, List.length_take]; rfl)) ?_; (with_reducible refine (laws_szRun.calls k _ _ l0_0 1048576 t406 _ ?side1 ?side2 A2.out).mono ?_); (case side1 => repeat (first | exact (Kd.C_below HR0_0.out HB.out) | (with_reducible refine Kd.C_alloc ?_ _) | (with_reducible refine Kd.C_drewN ?_ _) | (with_reducible refine Kd.C_drew ?_))); (case side2 => exact HC0_0.out); rintro e w49 ⟨rfl, hb⟩; refine ⟨_, rfl, ?_⟩; have n0_ := Aside0.mk (blk_below (g := gb405) (o := .cells #[.slice A0_0 l0_0.length c0_0] 61 (0, 0)) (by (with_reducible repeat (first | refine blk_drewN ?_ _ | refine blk_drew ?_ | refine blk_alloc ?_ _)); exact BK405.out) hb); have n1_ := Aside0.mk (below_step (by repeat (first | (with_reducible first | exact HB.out | apply below_alloc | apply pw_below_drewN | apply below_drew1 | refine below_set ?_ GE405.out) | exact HB.out)) hb); clear BK405; clear HB; have BK405 := n0_; have HB := n1_; clear n0_ n1_; (try clear hb); (try clear hb2); (try clear hk); (try clear hi); have hcz50_0 : w49.cell? ⟨gb405, 0, none⟩ = some (.slice A0_0 l0_0.length c0_0) := (blk_cell BK405.out 0).trans rfl; have hfz50_0 := blk_frozen BK405.out 0) | ((with_reducible refine at_fn (f := 41) rfl ?_); refine goesL_ (some 13) rfl rfl Try.func41 (by kernel_rfl) rfl #[.agg #[.slice A0_0 l0_0.length c0_0]] rfl (by (try simp only [List.map_toArray, List.map_cons, List.map_nil]); first | done | rfl | (simp only [List.length_drop, List.length_take]; rfl)) ?_; (with_reducible refine (laws_toRun.calls k _ _ l0_0 t407 _ ?side1 ?side2 A7.out).mono ?_); (case side1 => repeat (first | exact (Kd.C_below HR0_0.out HB.out) | (with_reducible refine Kd.C_alloc ?_ _) | (with_reducible refine Kd.C_drewN ?_ _) | (with_reducible refine Kd.C_drew ?_))); (case side2 => exact HC0_0.out); rintro e w51 ⟨v408, rfl, ho0, hb⟩; refine ⟨_, rfl, ?_⟩; have n0_ := Aside0.mk (Kd.R_lower ho0 (below_size (by repeat (first | (with_reducible first | exact HB.out | apply below_alloc | apply pw_below_drewN | apply below_drew1 | refine below_set ?_ GE405.out) | exact HB.out)))); have n1_ := Aside0.mk (blk_below (g := gb405) (o := .cells #[.slice A0_0 l0_0.length c0_0] 61 (0, 0)) (by (with_reducible repeat (first | refine blk_drewN ?_ _ | refine blk_drew ?_ | refine blk_alloc ?_ _)); exact BK405.out) hb); have n2_ := Aside0.mk (below_step (by repeat (first | (with_reducible first | exact HB.out | apply below_alloc | apply pw_below_drewN | apply below_drew1 | refine below_set ?_ GE405.out) | exact HB.out)) hb); clear BK405; clear HB; have HO409 := n0_; have BK405 := n1_; have HB := n2_; clear n0_ n1_ n2_; (try clear hb); (try clear hb2); (try clear hk); (try clear hi); (try clear ho0); obtain ⟨Ao52, co52, eo52⟩ := Kd.R_slice HO409.out; subst eo52) | ((with_reducible refine at_fn (f := 40) rfl ?_); refine goesL_ (some 14) rfl rfl Try.func40 (by kernel_rfl) rfl #[.agg #[.slice Ao52 t407.length co52]] rfl (by (try simp only [List.map_toArray, List.map_cons, List.map_nil]); first | done | rfl | (simp only [List.length_drop, List.length_take]; rfl)) ?_; (with_reducible refine (spec_ValidRun.calls k _ _ t407 t410 _ ?side1 ?side2 A8.out).mono ?_); (case side1 => repeat (first | exact (Kd.R_reads' HO409.out).2.2 | (with_reducible refine Kd.C_alloc ?_ _) | (with_reducible refine Kd.C_drewN ?_ _) | (with_reducible refine Kd.C_drew ?_))); (case side2 => exact (Kd.R_reads' HO409.out).2.1); rintro e w53 ⟨rfl, hb⟩; refine ⟨_, rfl, ?_⟩; have n0_ := Aside0.mk (Kd.R_below (by (with_reducible repeat (first | apply Kd.R_alloc | apply Kd.R_drewN | apply Kd.R_drew)); exact HO409.out) hb); have n1_ := Aside0.mk (blk_below (g := gb405) (o := .cells #[.slice A0_0 l0_0.length c0_0] 61 (0, 0)) (by (with_reducible repeat (first | refine blk_drewN ?_ _ | refine blk_drew ?_ | refine blk_alloc ?_ _)); exact BK405.out) hb); have n2_ := Aside0.mk (below_step (by repeat (first | (with_reducible first | exact HB.out | apply below_alloc | apply pw_below_drewN | apply below_drew1 | refine below_set ?_ GE405.out) | exact HB.out)) hb); clear HO409; clear BK405; clear HB; have HO409 := n0_; have BK405 := n1_; have HB := n2_; clear n0_ n1_ n2_; (try clear hb); (try clear hb2); (try clear hk); (try clear hi); have hcz54_0 : w53.cell? ⟨gb405, 0, none⟩ = some (.slice A0_0 l0_0.length c0_0) := (blk_cell BK405.out 0).trans rfl; have hfz54_0 := blk_frozen BK405.out 0) | ((with_reducible refine at_fn (f := 41) rfl ?_); refine goesL_ (some 16) rfl rfl Try.func41 (by kernel_rfl) rfl #[.agg #[.slice A0_0 l0_0.length c0_0]] rfl (by (try simp only [List.map_toArray, List.map_cons, List.map_nil]); first | done | rfl | (simp only [List.length_drop, List.length_take]; rfl)) ?_; (with_reducible refine (laws_toRun.calls k _ _ l0_0 t411 _ ?side1 ?side2 A9.out).mono ?_); (case side1 => repeat (first | exact (Kd.C_below HR0_0.out HB.out) | (with_reducible refine Kd.C_alloc ?_ _) | (with_reducible refine Kd.C_drewN ?_ _) | (with_reducible refine Kd.C_drew ?_))); (case side2 => exact HC0_0.out); rintro e w55 ⟨v412, rfl, ho0, hb⟩; refine ⟨_, rfl, ?_⟩; have n0_ := Aside0.mk (Kd.R_elder' (by (with_reducible repeat (first | apply Kd.R_alloc | apply Kd.R_drewN | apply Kd.R_drew)); exact HO409.out) (Kd.R_base ho0) hb); have n1_ := Aside0.mk (Kd.R_lower (Kd.R_new' ho0 (Kd.R_lt (by (with_reducible repeat (first | apply Kd.R_alloc | apply Kd.R_drewN | apply Kd.R_drew)); exact HO409.out))) (below_size (by repeat (first | (with_reducible first | exact HB.out | apply below_alloc | apply pw_below_drewN | apply below_drew1 | refine below_set ?_ GE405.out) | exact HB.out)))); have n2_ := Aside0.mk (blk_below (g := gb405) (o := .cells #[.slice A0_0 l0_0.length c0_0] 61 (0, 0)) (by (with_reducible repeat (first | refine blk_drewN ?_ _ | refine blk_drew ?_ | refine blk_alloc ?_ _)); exact BK405.out) hb); have n3_ := Aside0.mk (below_step (by repeat (first | (with_reducible first | exact HB.out | apply below_alloc | apply pw_below_drewN | apply below_drew1 | refine below_set ?_ GE405.out) | exact HB.out)) hb); clear HO409; clear BK405; clear HB; have HO409 := n0_; have HO413 := n1_; have BK405 := n2_; have HB := n3_; clear n0_ n1_ n2_ n3_; (try clear hb); (try clear hb2); (try clear hk); (try clear hi); (try clear ho0)) | ((with_reducible refine gate_dst (N := 5) rfl ?_); refine box_event ?hg (N := 5) ?hd (cs := #[.slice none 0 0]) (t := 66) ?hr ?_; (case hd => rfl); (case hg => rfl); (case hr => first | (go_simp; done) | (go_simp; rfl)); intro gb414 hg w56 hbox hb; have n0_ := Aside0.mk (Kd.R_below (by (with_reducible repeat (first | apply Kd.R_alloc | apply Kd.R_drewN | apply Kd.R_drew)); exact HO409.out) hb); have n1_ := Aside0.mk (Kd.R_below (by (with_reducible repeat (first | apply Kd.R_alloc | apply Kd.R_drewN | apply Kd.R_drew)); exact HO413.out) hb); have n2_ := Aside0.mk (blk_below (g := gb405) (o := .cells #[.slice A0_0 l0_0.length c0_0] 61 (0, 0)) (by (with_reducible repeat (first | refine blk_drewN ?_ _ | refine blk_drew ?_ | refine blk_alloc ?_ _)); exact BK405.out) hb); have n3_ := Aside0.mk (below_step (by repeat (first | (with_reducible first | exact HB.out | apply below_alloc | apply pw_below_drewN | apply below_drew1 | refine below_set ?_ GE405.out) | exact HB.out)) hb); have n4_ := Aside0.mk (hbox); have n5_ := Aside0.mk ((by rw [hg]; exact (below_size (by repeat (first | (with_reducible first | exact HB.out | apply below_alloc | apply pw_below_drewN | apply below_drew1 | refine below_set ?_ GE405.out) | exact HB.out))) : w.heap.size ≤ gb414)); have n6_ := Aside0.mk ((by rw [hg]; exact (below_size (by repeat (first | (with_reducible first | exact HB.out | apply below_alloc | apply pw_below_drewN | apply below_drew1 | refine below_set ?_ GE405.out) | exact HB.out))) : w.heap.size ≤ gb414)); have n7_ := Aside0.mk ((by rw [hg]; exact Nat.ne_of_lt (blk_lt (g := gb405) (o := .cells #[.slice A0_0 l0_0.length c0_0] 61 (0, 0)) (by (with_reducible repeat (first | refine blk_drewN ?_ _ | refine blk_drew ?_ | refine blk_alloc ?_ _)); exact BK405.out)) : gb405 ≠ gb414)); have n8_ := Aside0.mk ((by rw [hg]; exact Nat.ne_of_gt (blk_lt (g := gb405) (o := .cells #[.slice A0_0 l0_0.length c0_0] 61 (0, 0)) (by (with_reducible repeat (first | refine blk_drewN ?_ _ | refine blk_drew ?_ | refine blk_alloc ?_ _)); exact BK405.out)) : gb414 ≠ gb405)); clear HO409; clear HO413; clear BK405; clear HB; have HO409 := n0_; have HO413 := n1_; have BK405 := n2_; have HB := n3_; have BK414 := n4_; have GW414 := n5_; have GE414 := n6_; have NB405_414 := n7_; have NB414_405 := n8_; clear n0_ n1_ n2_ n3_ n4_ n5_ n6_ n7_ n8_; clear hb hbox hg; obtain ⟨Ao57, co57, eo57⟩ := Kd.R_slice HO413.out; subst eo57; have hnb58 := NB414_405.out; have hnc58 := NB405_414.out; have hcz59_0 : w56.cell? ⟨gb414, 0, none⟩ = some (.slice none 0 0) := (blk_cell BK414.out 0).trans rfl; have hfz59_0 := blk_frozen BK414.out 0) | ((with_reducible refine at_fn (f := 42) rfl ?_); refine goesL_ (some 18) rfl rfl Try.func42 (by kernel_rfl) rfl #[.agg #[.slice Ao57 t411.length co57]] rfl (by (try simp only [List.map_toArray, List.map_cons, List.map_nil]); first | done | rfl | (simp only [List.length_drop, List.length_take]; rfl)) ?_; (with_reducible refine (impl_ValidRun.calls k _ _ t411 t415 _ ?side1 ?side2 A10.out).mono ?_); (case side1 => refine (Kd.R_reads' (e := 35) (base := w.heap.size) (ok := fun k_ => (True ∧ some k_ ≠ (.slice Ao52 t407.length co52 : Value).ownBlock)) (n := t411.length) (c := co57) ?_).2.2; exact (by (with_reducible repeat (first | apply Kd.R_alloc | apply Kd.R_drewN | apply Kd.R_drew)); exact (Kd.R_mono (Kd.R_far (p := ⟨gb414, 0, none⟩) (Kd.R_types HO413.out BK414.out (by decide)) (fun _ hk => hk.2) (.slice Ao57 t411.length co57)) (fun _ h_ => h_.1)))); (case side2 => exact (Kd.R_reads' HO413.out).2.1); rintro e w60 ⟨rfl, hb⟩; refine ⟨_, rfl, ?_⟩; have n0_ := Aside0.mk (Kd.R_below (by (with_reducible repeat (first | apply Kd.R_alloc | apply Kd.R_drewN | apply Kd.R_drew)); exact (Kd.R_mono (Kd.R_far (p := ⟨gb414, 0, none⟩) (Kd.R_types HO409.out BK414.out (by decide)) (fun _ hk => hk.2) (.slice Ao57 t411.length co57)) (fun _ h_ => h_.1))) hb); have n1_ := Aside0.mk (Kd.R_below (by (with_reducible repeat (first | apply Kd.R_alloc | apply Kd.R_drewN | apply Kd.R_drew)); exact (Kd.R_mono (Kd.R_far (p := ⟨gb414, 0, none⟩) (Kd.R_types HO413.out BK414.out (by decide)) (fun _ hk => hk.2) (.slice Ao57 t411.length co57)) (fun _ h_ => h_.1))) hb); have n2_ := Aside0.mk (blk_below (g := gb405) (o := .cells #[.slice A0_0 l0_0.length c0_0] 61 (0, 0)) (by (with_reducible repeat (first | refine blk_drewN ?_ _ | refine blk_drew ?_ | refine blk_alloc ?_ _)); refine blk_far ?_ NB405_414.out _; (with_reducible repeat (first | refine blk_drewN ?_ _ | refine blk_drew ?_ | refine blk_alloc ?_ _)); exact BK405.out) hb); have n3_ := Aside0.mk (blk_below (g := gb414) (o := .cells #[.slice Ao57 t411.length co57] 66 (0, 0)) (by (with_reducible repeat (first | refine blk_drewN ?_ _ | refine blk_drew ?_ | refine blk_alloc ?_ _)); refine blk_put (cs := #[.slice none 0 0]) ?_ 0 _ rfl; (with_reducible repeat (first | refine blk_drewN ?_ _ | refine blk_drew ?_ | refine blk_alloc ?_ _)); exact BK414.out) hb); have n4_ := Aside0.mk (below_step (by repeat (first | (with_reducible first | exact HB.out | apply below_alloc | apply pw_below_drewN | apply below_drew1 | refine below_set ?_ GE405.out | refine below_set ?_ GE414.out) | exact HB.out)) hb); clear HO409; clear HO413; clear BK405; clear BK414; clear HB; have HO409 := n0_; have HO413 := n1_; have BK405 := n2_; have BK414 := n3_; have HB := n4_; clear n0_ n1_ n2_ n3_ n4_; (try clear hb); (try clear hb2); (try clear hk); (try clear hi)))
    have n0_ := Aside0.mk (Kd.R_drew HO409.out)
    have n1_ := Aside0.mk (Kd.R_drew HO413.out)
    have n2_ := Aside0.mk (blk_drew BK405.out)
    have n3_ := Aside0.mk (blk_drew BK414.out)
    have n4_ := Aside0.mk (below_drew1 HB.out)
    clear HO409
    clear HO413
    clear BK405
    clear BK414
    clear HB
    have HO409 := n0_
    have HO413 := n1_
    have BK405 := n2_
    have BK414 := n3_
    have HB := n4_
    clear n0_ n1_ n2_ n3_ n4_
    refine start_ (n := 5) (S := fun w' => w'.cell? ⟨gb414, 0, none⟩ = some (.slice Ao57 t411.length co57) ∧ w'.cell? ⟨gb405, 0, none⟩ = some (.slice A0_0 l0_0.length c0_0)) (ds := []) #[false, false, false, false, false] (by kernel_rfl) rfl rfl ⟨(blk_cell BK414.out 0).trans rfl, (blk_cell BK405.out 0).trans rfl⟩ (fun hHeld => ?_)
    generalize w60.drew = w61 at HO409 HO413 BK405 BK414 HB hHeld ⊢
    refine take_ (i := 0) (N := some 22) (v := ?_) (a' := ?_) #[true, false, false, false, false] rfl rfl (by kernel_rfl) (fun _ _ _ h => h) (Or.inl ⟨by rfl, ?_⟩) hHeld ?_ ?_
    rotate_left
    ·rintro w' ⟨s0, s1⟩
     go_simp
     with_reducible rfl
    rotate_left
    ·simp only [Act.put, List.setIfInBounds_toArray, List.set_cons_zero, List.set_cons_succ, i64_w, i32_w]
     rfl
    refine take_ (i := 1) (N := some 23) (v := ?_) (a' := ?_) #[true, true, false, false, false] rfl rfl (by kernel_rfl) (fun _ _ _ h => h) (Or.inl ⟨by rfl, ?_⟩) hHeld ?_ ?_
    rotate_left
    ·rintro w' ⟨s0, s1⟩
     go_simp
     with_reducible rfl
    rotate_left
    ·simp only [Act.put, List.setIfInBounds_toArray, List.set_cons_zero, List.set_cons_succ, i64_w, i32_w]
     rfl
    refine one_ (i := 2) (N := some 24) #[true, true, true, false, false] rfl rfl (by kernel_rfl) (by decide) (fun K hK => ?_)
    refine goes_ Try.func41 (by kernel_rfl) rfl #[.agg #[.slice A0_0 l0_0.length c0_0]] (by rfl) rfl rfl (by (try simp only [List.map_toArray, List.map_cons, List.map_nil]); first | done | rfl | (simp only [List.length_drop, List.length_take]; rfl)) ?_
    with_reducible refine (laws_toRun.calls k _ _ l0_0 t416 _ ?side1 ?side2 A26.out).mono ?_
    (case side1 => repeat (first | exact (Kd.C_below HR0_0.out HB.out) | (with_reducible refine Kd.C_alloc ?_ _) | (with_reducible refine Kd.C_drewN ?_ _) | (with_reducible refine Kd.C_drew ?_)))
    (case side2 => exact HC0_0.out)
    rintro e w62 ⟨v417, rfl, ho0, hb⟩
    refine ⟨_, rfl, ?_⟩
    have n0_ := Aside0.mk (Kd.R_elder' (by (with_reducible repeat (first | apply Kd.R_alloc | apply Kd.R_drewN | apply Kd.R_drew)); exact HO409.out) (Kd.R_base ho0) hb)
    have n1_ := Aside0.mk (Kd.R_elder' (by (with_reducible repeat (first | apply Kd.R_alloc | apply Kd.R_drewN | apply Kd.R_drew)); exact HO413.out) (Kd.R_base ho0) hb)
    have n2_ := Aside0.mk (Kd.R_lower (Kd.R_new' (Kd.R_new' ho0 (Kd.R_lt (by (with_reducible repeat (first | apply Kd.R_alloc | apply Kd.R_drewN | apply Kd.R_drew)); exact HO409.out))) (Kd.R_lt (by (with_reducible repeat (first | apply Kd.R_alloc | apply Kd.R_drewN | apply Kd.R_drew)); exact HO413.out))) (below_size (by repeat (first | (with_reducible first | exact HB.out | apply below_alloc | apply pw_below_drewN | apply below_drew1 | refine below_set ?_ GE405.out | refine below_set ?_ GE414.out) | exact HB.out))))
    have n3_ := Aside0.mk (blk_below (g := gb405) (o := .cells #[.slice A0_0 l0_0.length c0_0] 61 (0, 0)) (by (with_reducible repeat (first | refine blk_drewN ?_ _ | refine blk_drew ?_ | refine blk_alloc ?_ _)); exact BK405.out) hb)
    have n4_ := Aside0.mk (blk_below (g := gb414) (o := .cells #[.slice Ao57 t411.length co57] 66 (0, 0)) (by (with_reducible repeat (first | refine blk_drewN ?_ _ | refine blk_drew ?_ | refine blk_alloc ?_ _)); exact BK414.out) hb)
    have n5_ := Aside0.mk (below_step (by repeat (first | (with_reducible first | exact HB.out | apply below_alloc | apply pw_below_drewN | apply below_drew1 | refine below_set ?_ GE405.out | refine below_set ?_ GE414.out) | exact HB.out)) hb)
    clear HO409
    clear HO413
    clear BK405
    clear BK414
    clear HB
    have HO409 := n0_
    have HO413 := n1_
    have HO418 := n2_
    have BK405 := n3_
    have BK414 := n4_
    have HB := n5_
    clear n0_ n1_ n2_ n3_ n4_ n5_
    (try clear hb)
    (try clear hb2)
    (try clear hk)
    (try clear hi)
    (try clear ho0)
    obtain ⟨Ao63, co63, eo63⟩ := Kd.R_slice HO418.out
    (first | subst eo63 | (injection eo63 with f1_ f2_ f3_; have f4_ := f1_.symm; have f5_ := f3_.symm; clear f1_ f2_ f3_; subst f4_; subst f5_))
    refine hK.out _ _ ⟨(blk_cell BK414.out 0).trans rfl, (blk_cell BK405.out 0).trans rfl⟩ (fun hHeld => ?_)
    clear hK K
    refine norm_ (a' := ?_) ?_ ?_
    rotate_left
    ·show Act.put _ (some 24) _ = _
     simp only [Act.put, List.setIfInBounds_toArray, List.set_cons_zero, List.set_cons_succ, i64_w, i32_w]
     rfl
    refine one_ (i := 3) (N := some 25) #[true, true, true, true, false] rfl rfl (by kernel_rfl) (by decide) (fun K hK => ?_)
    refine goes_ Try.func43 (by kernel_rfl) rfl #[.agg #[.slice Ao57 t411.length co57], .agg #[.slice Ao63 t416.length co63]] (by rfl) rfl rfl (by (try simp only [List.map_toArray, List.map_cons, List.map_nil]); first | done | rfl | (simp only [List.length_drop, List.length_take]; rfl)) ?_
    with_reducible refine (laws_eqRun.calls k _ _ t411 _ _ t416 false _ ?side1 ?side2 ?side3 ?side4 A27.out).mono ?_
    (case side1 => repeat (first | exact (Kd.R_reads' HO413.out).2.2 | (with_reducible refine Kd.C_alloc ?_ _) | (with_reducible refine Kd.C_drewN ?_ _) | (with_reducible refine Kd.C_drew ?_)))
    (case side2 => exact (Kd.R_reads' HO413.out).2.1)
    (case side3 => repeat (first | exact (Kd.R_reads' HO418.out).2.2 | (with_reducible refine Kd.C_alloc ?_ _) | (with_reducible refine Kd.C_drewN ?_ _) | (with_reducible refine Kd.C_drew ?_)))
    (case side4 => exact (Kd.R_reads' HO418.out).2.1)
    rintro e w64 ⟨rfl, hb⟩
    refine ⟨_, rfl, ?_⟩
    have n0_ := Aside0.mk (Kd.R_below (by (with_reducible repeat (first | apply Kd.R_alloc | apply Kd.R_drewN | apply Kd.R_drew)); exact HO409.out) hb)
    have n1_ := Aside0.mk (Kd.R_below (by (with_reducible repeat (first | apply Kd.R_alloc | apply Kd.R_drewN | apply Kd.R_drew)); exact HO413.out) hb)
    have n2_ := Aside0.mk (Kd.R_below (by (with_reducible repeat (first | apply Kd.R_alloc | apply Kd.R_drewN | apply Kd.R_drew)); exact HO418.out) hb)
    have n3_ := Aside0.mk (blk_below (g := gb405) (o := .cells #[.slice A0_0 l0_0.length c0_0] 61 (0, 0)) (by (with_reducible repeat (first | refine blk_drewN ?_ _ | refine blk_drew ?_ | refine blk_alloc ?_ _)); exact BK405.out) hb)
    have n4_ := Aside0.mk (blk_below (g := gb414) (o := .cells #[.slice Ao57 t411.length co57] 66 (0, 0)) (by (with_reducible repeat (first | refine blk_drewN ?_ _ | refine blk_drew ?_ | refine blk_alloc ?_ _)); exact BK414.out) hb)
    have n5_ := Aside0.mk (below_step (by repeat (first | (with_reducible first | exact HB.out | apply below_alloc | apply pw_below_drewN | apply below_drew1 | refine below_set ?_ GE405.out | refine below_set ?_ GE414.out) | exact HB.out)) hb)
    clear HO409
    clear HO413
    clear HO418
    clear BK405
    clear BK414
    clear HB
    have HO409 := n0_
    have HO413 := n1_
    have HO418 := n2_
    have BK405 := n3_
    have BK414 := n4_
    have HB := n5_
    clear n0_ n1_ n2_ n3_ n4_ n5_
    (try clear hb)
    (try clear hb2)
    (try clear hk)
    (try clear hi)
    refine hK.out _ _ ⟨(blk_cell BK414.out 0).trans rfl, (blk_cell BK405.out 0).trans rfl⟩ (fun hHeld => ?_)
    clear hK K
    refine norm_ (a' := ?_) ?_ ?_
    rotate_left
    ·show Act.put _ (some 25) _ = _
     simp only [Act.put, List.setIfInBounds_toArray, List.set_cons_zero, List.set_cons_succ, i64_w, i32_w]
     rfl
    refine pure_ (i := 4) (N := some 26) (v := ?_) (a' := ?_) #[true, true, true, true, true] rfl rfl (by kernel_rfl) (fun _ _ _ h => h) (Or.inl ⟨by rfl, ?_⟩) ?_ ?_
    rotate_left
    ·intro w'
     go_simp
     with_reducible rfl
    rotate_left
    ·simp only [Act.put, List.setIfInBounds_toArray, List.set_cons_zero, List.set_cons_succ, i64_w, i32_w]
     rfl
    refine done_ (by kernel_rfl) ?_
    try go_wp2
    go_ret
    exact ⟨by first | rfl | (simp [errW_none, errW_some] <;> rfl) | (simp [*, errW_none, errW_some] <;> rfl), by repeat (first | (with_reducible first | exact HB.out | apply below_alloc | apply pw_below_drewN | apply below_drew1 | refine below_set ?_ GE405.out | refine below_set ?_ GE414.out) | exact HB.out)⟩

end Go.Proofs.Ytdknjbadnbangaa.Q

namespace Go.Proofs.Ytdknjbadnbangaa.Q
open Go.RowKit Go.Proofs.YtdknjbadnbangaaW.PrintWords Go.Proofs.YtdknjbadnbangaaW.PrintLast
set_option linter.unusedVariables false

/-- The law over lists and numbers. -/
def laws_FnExactValidRun.Pure : Prop := ∀ (l0_0 : List (S32)), (l0_0.length ≤ maxLen ∧ ∀ x_ ∈ l0_0, ok32 x_) → ∃ k, laws_FnExactValidRun.f k l0_0 = some true
end Go.Proofs.Ytdknjbadnbangaa.Q

namespace Go.Proofs.Ytdknjbadnbangaa.Q
open Go.RowKit Go.Proofs.YtdknjbadnbangaaW.PrintWords Go.Proofs.YtdknjbadnbangaaW.PrintLast
set_option linter.unusedVariables false
theorem wrap_nat (i : Nat) (h : i < 4611686018427387904) : wrap64 ((i : Int) + 1) = ((i + 1 : Nat) : Int) := by unfold wrap64; omega
theorem wrap_id (x : Int) (h0 : -9223372036854775808 ≤ x) (h1 : x ≤ 9223372036854775807) : wrap64 x = x := by unfold wrap64; omega
theorem getD_cut {α : Type} (pre : List α) (e : α) (es : List α) (z : α) : (pre ++ e :: es).getD pre.length z = e := by simp [List.getD_eq_getElem?_getD]
theorem len_cut {α : Type} (pre : List α) (e : α) (es : List α) : pre.length < (pre ++ e :: es).length := by simp
theorem Ev.of_some {α : Type} {g : Option α} {r : α} (h : g = some r) : Ev (fun _ => g) r := ⟨0, fun _ _ => h⟩
theorem Ev.bind_some {α β : Type} {g : Option α} {f : Nat → α → Option β} {a : α} {r : β} (h : g = some a) (k : Ev (fun n => f n a) r) : Ev (fun n => g.bind (f n)) r := by subst h; exact k
/-- From here on, one round is told. -/
theorem Ev.round {α : Type} {g : Nat → Option α} {f : Nat → Option α} {r : α} (h : ∀ k, g (k + 1) = f k) (k : Ev f r) : Ev g r := Ev.step h k
theorem Ev.shift {α : Type} {g : Nat → Option α} {r : α} (m : Nat) (h : ∀ k, g (k + m) = some r) : Ev g r := ⟨m, fun k hk => by have := h (k - m); rwa [Nat.sub_add_cancel hk] at this⟩
theorem Ev.if_pos {α : Type} {c : Prop} [Decidable c] {g f : Nat → Option α} {r : α} (h : c) (k : Ev g r) : Ev (fun n => if c then g n else f n) r := by simp only [h, if_true]; exact k
theorem Ev.if_neg {α : Type} {c : Prop} [Decidable c] {g f : Nat → Option α} {r : α} (h : ¬ c) (k : Ev f r) : Ev (fun n => if c then g n else f n) r := by simp only [h, if_false]; exact k
theorem Ev.same {α : Type} {g : Nat → Option α} {r q : α} (h : Ev g r) (h' : Ev g q) : r = q := by
  obtain ⟨a, ha⟩ := h; obtain ⟨b, hb⟩ := h'
  have h1 := ha (max a b) (Nat.le_max_left _ _); have h2 := hb (max a b) (Nat.le_max_right _ _)
  rw [h1] at h2; exact Option.some.inj h2
theorem toList_inj {a b : ByteArray} : a.toList = b.toList ↔ a = b := by
  constructor
  · intro h
    rw [ByteArray.toList_eq, ByteArray.toList_eq] at h
    cases a; cases b
    simp at h
    simp [h]
  · rintro rfl; rfl
/-- What was filled so far, and what is still nought. -/
theorem set_fill {α : Type} (done : List α) (z x : α) (m : Nat) : (done ++ List.replicate (m + 1) z).set done.length x = (done ++ [x]) ++ List.replicate m z := by
  rw [List.set_append_right _ _ (Nat.le_refl _)]; simp [List.replicate_succ]
end Go.Proofs.Ytdknjbadnbangaa.Q

namespace Go.Proofs.Ytdknjbadnbangaa.Q
open Go.RowKit Go.Proofs.YtdknjbadnbangaaW.PrintWords Go.Proofs.YtdknjbadnbangaaW.PrintLast
set_option linter.unusedVariables false
set_option linter.unusedSimpArgs false
theorem strcmp_is (a b : ByteArray) : strings_Compare.f a b = some (scmp a b) := rfl
theorem or_is (n : Nat) (a b c d e : Int) : cmp_Or_int.f (n + 6) [a, b, c, d, e] = some (fst0 a (fst0 b (fst0 c (fst0 d e)))) := by
  unfold cmp_Or_int.f
  have w : ∀ i : Int, 0 ≤ i → i < 10 → wrap64 (i + 1) = i + 1 := fun i h0 h1 => by unfold wrap64; omega
  have l : (([a, b, c, d, e] : List Int).length : Int) = 5 := rfl
  rw [l]
  simp only [cmp_Or_int.l0, rd, l]
  rw [w 0 (by omega) (by omega)]; simp only [Int.zero_add]; rw [w 1 (by omega) (by omega), w (1 + 1) (by omega) (by omega), w (1 + 1 + 1) (by omega) (by omega), w (1 + 1 + 1 + 1) (by omega) (by omega)]
  simp only [fst0]
  by_cases ha : a = 0 <;> by_cases hb : b = 0 <;> by_cases hc : c = 0 <;> by_cases hd : d = 0 <;> by_cases he : e = 0 <;> simp [ha, hb, hc, hd, he]
theorem cmpint_is (a b : Int) : cmp_Compare_int.f a b = some (if a < b then -1 else if a > b then 1 else 0) := by
  unfold cmp_Compare_int.f cmp_isNaN_int.f
  simp only [Option.bind_some, bne_self_eq_false, Bool.false_eq_true, if_false]
  repeat' (first | rfl | split)
theorem cmpu64_is (a b : Int) : cmp_Compare_uint64.f a b = some (if a < b then -1 else if a > b then 1 else 0) := by
  unfold cmp_Compare_uint64.f cmp_isNaN_uint64.f
  simp only [Option.bind_some, bne_self_eq_false, Bool.false_eq_true, if_false]
  repeat' (first | rfl | split)
theorem impl_cmp_is (n : Nat) (r f q : ByteArray) (t k : Int) (v r' f' q' : ByteArray) (t' k' : Int) (v' : ByteArray) :
    impl_Entry_compare.f (n + 6) r f q t k v r' f' q' t' k' v' = some (cmpK r f q t k r' f' q' t' k') := by
  unfold impl_Entry_compare.f impl_Entry_marks.f
  have hm : ∀ x : Int, (if x = 2 then some 0 else some 1 : Option Int) = some (if x = 2 then 0 else 1) := fun x => by split <;> rfl
  simp only [strcmp_is, hm, cmpint_is, cmpu64_is, Option.bind_some, or_is]
  congr 1
  unfold cmpK
  have e1 : (if (if k = 2 then (0 : Int) else 1) < (if k' = 2 then 0 else 1) then (-1 : Int) else if (if k = 2 then (0 : Int) else 1) > (if k' = 2 then 0 else 1) then 1 else 0) = kcmp k k' := by
    unfold kcmp
    by_cases h1 : k = 2 <;> by_cases h2 : k' = 2 <;> simp [h1, h2]
  rw [e1]
  have e2 : (if t' < t then (-1 : Int) else if t' > t then 1 else 0) = tcmp t t' := by
    unfold tcmp
    rfl
  rw [e2]
theorem impl_cmp_ge (m : Nat) (hm : 6 ≤ m) (r f q : ByteArray) (t k : Int) (v r' f' q' : ByteArray) (t' k' : Int) (v' : ByteArray) :
    impl_Entry_compare.f m r f q t k v r' f' q' t' k' v' = some (cmpK r f q t k r' f' q' t' k') := by
  obtain ⟨n, rfl⟩ : ∃ n, m = n + 6 := ⟨m - 6, by omega⟩
  exact impl_cmp_is ..
end Go.Proofs.Ytdknjbadnbangaa.Q

namespace Go.Proofs.Ytdknjbadnbangaa.Q
open Go.RowKit Go.Proofs.YtdknjbadnbangaaW.PrintWords Go.Proofs.YtdknjbadnbangaaW.PrintLast
set_option linter.unusedVariables false
set_option linter.unusedSimpArgs false
abbrev LE := S32
abbrev IE := S35
theorem szEntry_is (x : LE) (n : Int) (h0 : 0 ≤ n) (h1 : n ≤ 1048576) (hx : ok32 x) :
    ∃ t, laws_szEntry.f x.f0 x.f1 x.f2 x.f3 x.f4 x.f5 n = some t ∧ (t < 0 ∨ (0 ≤ t ∧ t ≤ n)) := by
  obtain ⟨s0, s1, s2, _, _, s5⟩ := hx
  simp only [maxLen] at s0 s1 s2 s5
  unfold laws_szEntry.f
  rw [wrap_id (n - (x.f0.size : Int)) (by omega) (by omega)]
  split
  · exact ⟨_, rfl, .inl (by omega)⟩
  rw [wrap_id (n - (x.f0.size : Int) - (x.f1.size : Int)) (by omega) (by omega)]
  split
  · exact ⟨_, rfl, .inl (by omega)⟩
  rw [wrap_id (n - (x.f0.size : Int) - (x.f1.size : Int) - (x.f2.size : Int)) (by omega) (by omega)]
  split
  · exact ⟨_, rfl, .inl (by omega)⟩
  rw [wrap_id (n - (x.f0.size : Int) - (x.f1.size : Int) - (x.f2.size : Int) - (x.f5.size : Int)) (by omega) (by omega)]
  split
  · exact ⟨_, rfl, .inl (by omega)⟩
  · exact ⟨_, rfl, .inr ⟨by omega, by omega⟩⟩
theorem szEntryS_loop (xs : List LE) (hb : xs.length < 4611686018427387904) : ∀ (rest pre : List LE) (n : Int), xs = pre ++ rest → (∀ x ∈ rest, ok32 x) → 0 ≤ n → n ≤ 1048576 →
    ∃ t, Ev (fun k => laws_szEntryS.l0 k xs n (pre.length : Int)) t ∧ (t < 0 ∨ (0 ≤ t ∧ t ≤ n)) := by
  intro rest
  induction rest with
  | nil =>
    intro pre n e _ h0 h1
    refine ⟨n, Ev.shift 1 fun k => ?_, .inr ⟨h0, Int.le_refl _⟩⟩
    simp only [laws_szEntryS.l0]; rw [if_neg (by rw [e]; simp)]
  | cons x rest ih =>
    intro pre n e hok h0 h1
    have hlt : pre.length < xs.length := by rw [e]; exact len_cut _ _ _
    have hr : rd_T32 xs (pre.length : Int) = x := by unfold rd_T32; rw [Int.toNat_natCast, e, getD_cut]
    obtain ⟨t, ht, h2⟩ := szEntry_is x n h0 h1 (hok x List.mem_cons_self)
    rcases h2 with h2 | ⟨h2, h3⟩
    · refine ⟨-1, Ev.shift 1 fun k => ?_, .inl (by omega)⟩
      simp only [laws_szEntryS.l0]; rw [if_pos (by omega), if_pos (by omega), hr, ht]; simp only [Option.bind_some]; rw [if_pos h2]
    · obtain ⟨u, hu, h4⟩ := ih (pre ++ [x]) t (by simp [e]) (fun y hy => hok y (List.mem_cons_of_mem _ hy)) h2 (by omega)
      refine ⟨u, Ev.round (fun k => ?_) hu, by omega⟩
      simp only [laws_szEntryS.l0]; rw [if_pos (by omega), if_pos (by omega), hr, ht]; simp only [Option.bind_some]; rw [if_neg (by omega), wrap_nat _ (by omega)]; simp
theorem szEntryS_is (xs : List LE) (n : Int) (hl : xs.length ≤ maxLen) (hok : ∀ x ∈ xs, ok32 x) (h0 : 0 ≤ n) (h1 : n ≤ 1048576) :
    ∃ t, Ev (fun k => laws_szEntryS.f k xs n) t ∧ (t < 0 ∨ (0 ≤ t ∧ t + xs.length ≤ n)) := by
  simp only [maxLen] at hl
  unfold laws_szEntryS.f
  rw [wrap_id _ (by omega) (by omega)]
  by_cases h : n - (xs.length : Int) < 0
  · exact ⟨-1, Ev.if_pos h (Ev.now _), .inl (by omega)⟩
  · obtain ⟨t, ht, h2⟩ := szEntryS_loop xs (by omega) xs [] (n - xs.length) rfl hok (by omega) (by omega)
    exact ⟨t, Ev.if_neg h ht, by omega⟩
def cvE (x : LE) : IE := ⟨x.f0, x.f1, x.f2, x.f3, x.f4, x.f5⟩
theorem toEntryS_loop (xs : List LE) (hb : xs.length < 4611686018427387904) : ∀ (rest pre : List LE), xs = pre ++ rest →
    Ev (fun k => laws_toEntryS.l0 k xs (pre.map cvE ++ List.replicate rest.length z35) (pre.length : Int)) (xs.map cvE) := by
  intro rest
  induction rest with
  | nil =>
    intro pre e
    refine Ev.shift 1 fun k => ?_
    simp only [laws_toEntryS.l0]; rw [if_neg (by rw [e]; simp), e]; simp
  | cons x rest ih =>
    intro pre e
    have hlt : pre.length < xs.length := by rw [e]; exact len_cut _ _ _
    have hr : rd_T32 xs (pre.length : Int) = x := by unfold rd_T32; rw [Int.toNat_natCast, e, getD_cut]
    have h := ih (pre ++ [x]) (by simp [e])
    refine Ev.round (fun k => ?_) h
    simp only [laws_toEntryS.l0]; rw [if_pos (by omega), if_pos (by omega), hr]; simp only [laws_toEntry.f, Option.bind_some]
    rw [if_pos (by simp; omega), wrap_nat _ (by omega), Int.toNat_natCast]
    have hs := set_fill (pre.map cvE) z35 (cvE x) rest.length
    rw [List.length_map] at hs
    rw [List.length_cons]
    have hs' : (pre.map cvE ++ List.replicate (rest.length + 1) z35).set pre.length ⟨x.f0, x.f1, x.f2, x.f3, x.f4, x.f5⟩ = _ := hs
    rw [hs']; simp
theorem toEntryS_is (xs : List LE) (hl : xs.length ≤ 1048576) : Ev (fun k => laws_toEntryS.f k xs) (xs.map cvE) := by
  have h := toEntryS_loop xs (by omega) xs [] rfl
  unfold laws_toEntryS.f
  simp only [Int.toNat_natCast]
  refine Ev.if_pos (by omega) (Ev.if_pos (by omega) ?_)
  simpa using h
theorem eqEntry_refl (x : IE) : laws_eqEntry.f x.f0 x.f1 x.f2 x.f3 x.f4 x.f5 x.f0 x.f1 x.f2 x.f3 x.f4 x.f5 = some true := by simp [laws_eqEntry.f]
theorem eqEntryS_loop (xs : List IE) (hb : xs.length < 4611686018427387904) : ∀ (rest pre : List IE), xs = pre ++ rest → Ev (fun k => laws_eqEntryS.l0 k xs xs (pre.length : Int)) true := by
  intro rest
  induction rest with
  | nil => intro pre e; exact Ev.shift 1 fun k => by simp only [laws_eqEntryS.l0]; rw [if_neg (by rw [e]; simp)]
  | cons x rest ih =>
    intro pre e
    have hlt : pre.length < xs.length := by rw [e]; exact len_cut _ _ _
    have h := ih (pre ++ [x]) (by simp [e])
    refine Ev.round (fun k => ?_) h
    simp only [laws_eqEntryS.l0]; rw [if_pos (by omega), if_pos (by omega), if_pos (by omega), eqEntry_refl]; simp only [Option.bind_some, if_true]; rw [wrap_nat _ (by omega)]; simp
theorem eqEntryS_refl (xs : List IE) (hb : xs.length < 4611686018427387904) : Ev (fun k => laws_eqEntryS.f k xs xs) true :=
  Ev.if_pos rfl (eqEntryS_loop xs hb xs [] rfl)
/-! a valid entry -/
def vent (e : IE) : Bool := decide ((e.f0.size : Int) ≥ 1) && (decide ((e.f0.size : Int) ≤ 64) && (decide ((e.f1.size : Int) ≥ 1) && (decide ((e.f1.size : Int) ≤ 16) && (decide ((e.f2.size : Int) ≤ 64) && (decide ((e.f5.size : Int) ≤ 200) && (decide (e.f4 ≥ 0) && (decide (e.f4 ≤ 2) && (decide (e.f4 = 0) || e.f5.toList == []))))))))
theorem implValidEntry_is (e : IE) : impl_ValidEntry.f e.f0 e.f1 e.f2 e.f3 e.f4 e.f5 = some (vent e) := by
  have st : ∀ (c : Prop) [Decidable c] (a : Option Bool) (b : Bool), a = some b → (if c then a else some false) = some (decide c && b) := fun c _ a b h => by by_cases hc : c <;> simp [hc, h]
  unfold impl_ValidEntry.f vent
  refine st _ _ _ (st _ _ _ (st _ _ _ (st _ _ _ (st _ _ _ (st _ _ _ (st _ _ _ (st _ _ _ ?_)))))))
  by_cases h : e.f4 = 0
  · rw [if_pos h]; simp [h]
  · rw [if_neg h]; simp [h]
theorem specValidEntry_is (e : IE) : spec_ValidEntry.f e.f0 e.f1 e.f2 e.f3 e.f4 e.f5 = some (vent e) := implValidEntry_is e
/-! a valid run -/
def cmpE (a b : IE) : Int := cmpK a.f0 a.f1 a.f2 a.f3 a.f4 b.f0 b.f1 b.f2 b.f3 b.f4
def sameCol (a b : IE) : Bool := a.f0.toList == b.f0.toList && (a.f1.toList == b.f1.toList && a.f2.toList == b.f2.toList)
def nextOk (p e : IE) : Bool := decide (cmpE p e = -1) && !(decide (p.f4 = 2) && decide (e.f4 = 2) && sameCol p e)
def vfrom : IE → List IE → Bool
  | _, [] => true
  | p, e :: es => vent e && nextOk p e && vfrom e es
def vall : List IE → Bool
  | [] => true
  | e :: es => vent e && vfrom e es
def vrun (xs : List IE) : Bool := decide (xs.length ≤ 10000) && vall xs
theorem cmpK_range (r f q : ByteArray) (t k : Int) (r' f' q' : ByteArray) (t' k' : Int) : cmpK r f q t k r' f' q' t' k' = -1 ∨ cmpK r f q t k r' f' q' t' k' = 0 ∨ cmpK r f q t k r' f' q' t' k' = 1 := by
  have hs : ∀ a b, scmp a b = -1 ∨ scmp a b = 0 ∨ scmp a b = 1 := fun a b => by unfold scmp; repeat' (first | split | simp)
  have hk : ∀ a b, kcmp a b = -1 ∨ kcmp a b = 0 ∨ kcmp a b = 1 := fun a b => by unfold kcmp; repeat' (first | split | simp)
  have ht : ∀ a b, tcmp a b = -1 ∨ tcmp a b = 0 ∨ tcmp a b = 1 := fun a b => by unfold tcmp; repeat' (first | split | simp)
  have hf : ∀ a b : Int, (a = -1 ∨ a = 0 ∨ a = 1) → (b = -1 ∨ b = 0 ∨ b = 1) → (fst0 a b = -1 ∨ fst0 a b = 0 ∨ fst0 a b = 1) := fun a b h1 h2 => by unfold fst0; split <;> assumption
  exact hf _ _ (hs _ _) (hf _ _ (hs _ _) (hf _ _ (hs _ _) (hf _ _ (hk _ _) (ht _ _))))
theorem cmpE_range (a b : IE) : cmpE a b = -1 ∨ cmpE a b = 0 ∨ cmpE a b = 1 := cmpK_range ..
theorem sameColumn_is (a b : IE) : spec_l1SameColumn.f a.f0 a.f1 a.f2 a.f3 a.f4 a.f5 b.f0 b.f1 b.f2 b.f3 b.f4 b.f5 = some (sameCol a b) := by
  unfold spec_l1SameColumn.f sameCol
  by_cases h1 : a.f0.toList = b.f0.toList <;> by_cases h2 : a.f1.toList = b.f1.toList <;> simp [h1, h2]
/-- One entry behind another, in the reference's loop. -/
theorem specRun_loop (xs : List IE) (hb : xs.length < 4611686018427387904) : ∀ (rest pre : List IE) (p : IE), xs = pre ++ p :: rest → Ev (fun k => spec_ValidRun.l0 k ((pre.length + 1 : Nat) : Int) xs) (vfrom p rest) := by
  intro rest
  induction rest with
  | nil => intro pre p e; exact Ev.shift 1 fun k => by simp only [spec_ValidRun.l0]; rw [if_neg (by rw [e]; simp)]; rfl
  | cons x rest ih =>
    intro pre p e
    have hlt : pre.length + 1 < xs.length := by rw [e]; simp
    have hr : rd_T35 xs ((pre.length + 1 : Nat) : Int) = x := by
      unfold rd_T35; rw [Int.toNat_natCast, e]; simp
    have hw : wrap64 (((pre.length + 1 : Nat) : Int) - 1) = (pre.length : Int) := by unfold wrap64; omega
    have hp : rd_T35 xs (pre.length : Int) = p := by unfold rd_T35; rw [Int.toNat_natCast, e, getD_cut]
    have h := ih (pre ++ [p]) x (by rw [e]; simp)
    rw [List.length_append, List.length_singleton] at h
    have key : ∀ m, 6 ≤ m → spec_ValidRun.l0 (m + 1 + 1) ((pre.length + 1 : Nat) : Int) xs = if vent x = true then (if cmpE p x = -1 then (if p.f4 = 2 ∧ x.f4 = 2 ∧ sameCol p x = true then some false else spec_ValidRun.l0 m ((pre.length + 1 + 1 : Nat) : Int) xs) else some false) else some false := by
      intro m hm
      have hj : ∀ b, spec_ValidRun.j1 (m + 1) ((pre.length + 1 : Nat) : Int) b xs = if b = true then some false else spec_ValidRun.l0 m ((pre.length + 1 + 1 : Nat) : Int) xs := fun b => by rw [spec_ValidRun.j1, wrap_nat _ (show pre.length + 1 < 4611686018427387904 by omega)]
      rw [spec_ValidRun.l0]
      rw [if_pos (by omega), if_pos (by omega), hr, specValidEntry_is]; simp only [Option.bind_some]
      by_cases hv : vent x = true
      · rw [if_pos hv, if_pos hv, if_pos (by omega), hw, if_pos (by omega), if_pos (by omega), hp, spec_cmp_ge (m + 1) (by omega)]; simp only [Option.bind_some]
        show (if cmpE p x = -1 then _ else _) = _
        by_cases hc : cmpE p x = -1
        · rw [if_pos hc, if_pos hc, sameColumn_is]; simp only [Option.bind_some]
          by_cases h1 : p.f4 = 2 <;> by_cases h2 : x.f4 = 2 <;> by_cases h3 : sameCol p x = true <;> simp only [h1, h2, h3, hj, Option.bind_some, if_true, if_false, and_true, and_false, true_and, false_and, Bool.false_eq_true]
        · rw [if_neg hc, if_neg hc, hj, if_pos rfl]
      · rw [if_neg hv, if_neg hv]
    have hg : Ev (fun k => if vent x = true then (if cmpE p x = -1 then (if p.f4 = 2 ∧ x.f4 = 2 ∧ sameCol p x = true then some false else spec_ValidRun.l0 k ((pre.length + 1 + 1 : Nat) : Int) xs) else some false) else some false) (vfrom p (x :: rest)) := by
      unfold vfrom
      by_cases hv : vent x = true
      · refine Ev.if_pos hv ?_
        by_cases hc : cmpE p x = -1
        · refine Ev.if_pos hc ?_
          by_cases h3 : p.f4 = 2 ∧ x.f4 = 2 ∧ sameCol p x = true
          · refine Ev.if_pos h3 ?_
            have : (vent x && nextOk p x && vfrom x rest) = false := by simp [nextOk, h3.1, h3.2.1, h3.2.2]
            rw [this]; exact Ev.now _
          · refine Ev.if_neg h3 ?_
            have : (vent x && nextOk p x && vfrom x rest) = vfrom x rest := by
              have : nextOk p x = true := by
                simp only [nextOk, hc, decide_true, Bool.true_and, Bool.not_eq_true', Bool.and_eq_false_iff, decide_eq_false_iff_not]
                by_cases h1 : p.f4 = 2 <;> by_cases h2 : x.f4 = 2 <;> simp_all
              simp [hv, this]
            rw [this]; exact h
        · refine Ev.if_neg hc ?_
          have : (vent x && nextOk p x && vfrom x rest) = false := by simp [nextOk, hc]
          rw [this]; exact Ev.now _
      · refine Ev.if_neg hv ?_
        have : (vent x && nextOk p x && vfrom x rest) = false := by simp [hv]
        rw [this]; exact Ev.now _
    obtain ⟨K, hK⟩ := hg
    refine ⟨K + 8, fun k hk => ?_⟩
    obtain ⟨m, rfl⟩ : ∃ m, k = m + 1 + 1 := ⟨k - 2, by omega⟩
    exact (key m (by omega)).trans (hK m (by omega))
theorem specRun_is (xs : List IE) (hb : xs.length < 4611686018427387904) : Ev (fun k => spec_ValidRun.f k xs) (vrun xs) := by
  unfold spec_ValidRun.f vrun
  by_cases h : (xs.length : Int) > 10000
  · refine Ev.if_pos h ?_
    have : ¬ xs.length ≤ 10000 := by omega
    simp only [this, decide_false, Bool.false_and]; exact Ev.now _
  · refine Ev.if_neg h ?_
    have h' : xs.length ≤ 10000 := by omega
    simp only [h', decide_true, Bool.true_and]
    cases xs with
    | nil => exact Ev.shift 1 fun k => by simp only [spec_ValidRun.l0]; rfl
    | cons x rest =>
      have h2 := specRun_loop (x :: rest) hb rest [] x rfl
      have hr : rd_T35 (x :: rest) 0 = x := rfl
      by_cases hv : vent x = true
      · refine Ev.round (f := fun k => spec_ValidRun.l0 k (([] : List IE).length + 1 : Nat) (x :: rest)) (fun k => ?_) (by simpa [vall, hv] using h2)
        rw [spec_ValidRun.l0, if_pos (by rw [List.length_cons]; omega), if_pos (by omega), hr, specValidEntry_is]; simp only [Option.bind_some]; rw [if_pos hv, if_neg (by omega), show wrap64 (0 + 1) = ((([] : List IE).length + 1 : Nat) : Int) from by unfold wrap64; rfl]
      · refine Ev.shift 1 fun k => ?_
        rw [spec_ValidRun.l0, if_pos (by rw [List.length_cons]; omega), if_pos (by omega), hr, specValidEntry_is]; simp only [Option.bind_some]; rw [if_neg hv]; simp [vall, hv]
/-- The same in the program's. -/
theorem implRun_loop (xs : List IE) (hb : xs.length < 4611686018427387904) : ∀ (rest pre : List IE) (p : IE), xs = pre ++ p :: rest → Ev (fun k => impl_ValidRun.l0 k xs (xs.length : Int) ((pre.length + 1 : Nat) : Int) xs) (vfrom p rest) := by
  intro rest
  induction rest with
  | nil => intro pre p e; exact Ev.shift 1 fun k => by simp only [impl_ValidRun.l0]; rw [if_neg (by rw [e]; simp)]; rfl
  | cons x rest ih =>
    intro pre p e
    have hlt : pre.length + 1 < xs.length := by rw [e]; simp
    have hr : rd_T35 xs ((pre.length + 1 : Nat) : Int) = x := by
      unfold rd_T35; rw [Int.toNat_natCast, e]; simp
    have hw : wrap64 (((pre.length + 1 : Nat) : Int) - 1) = (pre.length : Int) := by unfold wrap64; omega
    have hp : rd_T35 xs (pre.length : Int) = p := by unfold rd_T35; rw [Int.toNat_natCast, e, getD_cut]
    have h := ih (pre ++ [p]) x (by rw [e]; simp)
    rw [List.length_append, List.length_singleton] at h
    have key : ∀ m, 6 ≤ m → impl_ValidRun.l0 (m + 1 + 1) xs (xs.length : Int) ((pre.length + 1 : Nat) : Int) xs = if vent x = true then (if cmpE p x = -1 then (if p.f4 = 2 ∧ x.f4 = 2 ∧ sameCol p x = true then some false else impl_ValidRun.l0 m xs (xs.length : Int) ((pre.length + 1 + 1 : Nat) : Int) xs) else some false) else some false := by
      intro m hm
      have hj : ∀ b, impl_ValidRun.j1 (m + 1) xs (xs.length : Int) ((pre.length + 1 : Nat) : Int) b xs = if b = true then some false else impl_ValidRun.l0 m xs (xs.length : Int) ((pre.length + 1 + 1 : Nat) : Int) xs := fun b => by rw [impl_ValidRun.j1, wrap_nat _ (show pre.length + 1 < 4611686018427387904 by omega)]
      rw [impl_ValidRun.l0]
      rw [if_pos (by omega), if_pos (by omega), if_pos (by omega), hr, implValidEntry_is]; simp only [Option.bind_some]
      by_cases hv : vent x = true
      · rw [if_pos hv, if_pos hv, if_neg (by omega), hw, if_pos (by omega), if_pos (by omega), hp, impl_cmp_ge (m + 1) (by omega)]; simp only [Option.bind_some, impl_Entry_column.f]
        show (if cmpE p x ≥ 0 then _ else _) = _
        by_cases hc : cmpE p x = -1
        · have hs : (p.f0.toList == x.f0.toList && (p.f1.toList == x.f1.toList && p.f2.toList == x.f2.toList)) = sameCol p x := rfl
          rw [if_neg (by omega), if_pos hc, hs]
          by_cases h1 : p.f4 = 2 <;> by_cases h2 : x.f4 = 2 <;> by_cases h3 : sameCol p x = true <;> simp only [h1, h2, h3, hj, if_true, if_false, and_true, and_false, true_and, false_and, Bool.false_eq_true]
        · rw [if_pos (by rcases cmpE_range p x with h | h | h <;> omega), if_neg hc, hj, if_pos rfl]
      · rw [if_neg hv, if_neg hv]
    have hg : Ev (fun k => if vent x = true then (if cmpE p x = -1 then (if p.f4 = 2 ∧ x.f4 = 2 ∧ sameCol p x = true then some false else impl_ValidRun.l0 k xs (xs.length : Int) ((pre.length + 1 + 1 : Nat) : Int) xs) else some false) else some false) (vfrom p (x :: rest)) := by
      unfold vfrom
      by_cases hv : vent x = true
      · refine Ev.if_pos hv ?_
        by_cases hc : cmpE p x = -1
        · refine Ev.if_pos hc ?_
          by_cases h3 : p.f4 = 2 ∧ x.f4 = 2 ∧ sameCol p x = true
          · refine Ev.if_pos h3 ?_
            have : (vent x && nextOk p x && vfrom x rest) = false := by simp [nextOk, h3.1, h3.2.1, h3.2.2]
            rw [this]; exact Ev.now _
          · refine Ev.if_neg h3 ?_
            have : (vent x && nextOk p x && vfrom x rest) = vfrom x rest := by
              have : nextOk p x = true := by
                simp only [nextOk, hc, decide_true, Bool.true_and, Bool.not_eq_true', Bool.and_eq_false_iff, decide_eq_false_iff_not]
                by_cases h1 : p.f4 = 2 <;> by_cases h2 : x.f4 = 2 <;> simp_all
              simp [hv, this]
            rw [this]; exact h
        · refine Ev.if_neg hc ?_
          have : (vent x && nextOk p x && vfrom x rest) = false := by simp [nextOk, hc]
          rw [this]; exact Ev.now _
      · refine Ev.if_neg hv ?_
        have : (vent x && nextOk p x && vfrom x rest) = false := by simp [hv]
        rw [this]; exact Ev.now _
    obtain ⟨K, hK⟩ := hg
    refine ⟨K + 8, fun k hk => ?_⟩
    obtain ⟨m, rfl⟩ : ∃ m, k = m + 1 + 1 := ⟨k - 2, by omega⟩
    exact (key m (by omega)).trans (hK m (by omega))
theorem implRun_is (xs : List IE) (hb : xs.length < 4611686018427387904) : Ev (fun k => impl_ValidRun.f k xs) (vrun xs) := by
  unfold impl_ValidRun.f vrun
  by_cases h : (xs.length : Int) > 10000
  · refine Ev.if_pos h ?_
    have : ¬ xs.length ≤ 10000 := by omega
    simp only [this, decide_false, Bool.false_and]; exact Ev.now _
  · refine Ev.if_neg h ?_
    have h' : xs.length ≤ 10000 := by omega
    simp only [h', decide_true, Bool.true_and]
    cases xs with
    | nil => exact Ev.shift 1 fun k => by simp only [impl_ValidRun.l0]; rfl
    | cons x rest =>
      have h2 := implRun_loop (x :: rest) hb rest [] x rfl
      have hr : rd_T35 (x :: rest) 0 = x := rfl
      by_cases hv : vent x = true
      · refine Ev.round (f := fun k => impl_ValidRun.l0 k (x :: rest) ((x :: rest).length : Int) (([] : List IE).length + 1 : Nat) (x :: rest)) (fun k => ?_) (by simpa [vall, hv] using h2)
        rw [impl_ValidRun.l0, if_pos (by rw [List.length_cons]; omega), if_pos (by omega), if_pos (by rw [List.length_cons]; omega), hr, implValidEntry_is]; simp only [Option.bind_some]; rw [if_pos hv, if_pos trivial, show wrap64 (0 + 1) = ((([] : List IE).length + 1 : Nat) : Int) from by unfold wrap64; rfl]
      · refine Ev.shift 1 fun k => ?_
        rw [impl_ValidRun.l0, if_pos (by rw [List.length_cons]; omega), if_pos (by omega), if_pos (by rw [List.length_cons]; omega), hr, implValidEntry_is]; simp only [Option.bind_some]; rw [if_neg hv]; simp [vall, hv]
end Go.Proofs.Ytdknjbadnbangaa.Q

namespace Go.Proofs.Ytdknjbadnbangaa.Pr
open Q Go.Proofs.YtdknjbadnbangaaW.PrintWords
theorem FnExactValidRun : laws_FnExactValidRun.Pure := by
  intro xs ⟨hl, hok⟩
  apply Ev.rounds
  unfold laws_FnExactValidRun.f laws_szRun.f laws_toRun.f
  obtain ⟨t, ht, h1⟩ := szEntryS_is xs 1048576 hl hok (by omega) (by omega)
  rcases h1 with h1 | ⟨h1, h2⟩
  · exact Ev.bind (a := -1) (Ev.bind ht (Ev.if_pos h1 (Ev.now _))) (Ev.if_pos (by omega) (Ev.now _))
  · have he := toEntryS_is xs (by omega)
    have hle : (xs.map cvE).length < 4611686018427387904 := by rw [List.length_map]; omega
    refine Ev.bind (Ev.bind ht (Ev.if_neg (by omega) (Ev.now _))) (Ev.if_neg (by omega) ?_)
    refine Ev.bind (Ev.bind he (Ev.now _)) (Ev.bind (specRun_is _ hle) (Ev.bind (Ev.bind he (Ev.now _)) (Ev.bind (implRun_is _ hle) (Ev.if_neg (by simp) ?_))))
    refine Ev.bind (Ev.bind he (Ev.now _)) (Ev.bind (a := true) ?_ (Ev.if_pos rfl (Ev.now _)))
    unfold laws_eqRun.f
    exact Ev.bind (eqEntryS_refl _ hle) (Ev.if_pos rfl (Ev.now _))
end Go.Proofs.Ytdknjbadnbangaa.Pr

namespace Go.Proofs.Ytdknjbadnbangaa.fnExactValidRun
open Go.ChangeShapes Go.WideShapes Go.ChangeAt Go.RowKit Go.Proofs.YtdknjbadnbangaaW.PrintWords Go.Proofs.Ytdknjbadnbangaa.RowK Go.Proofs.Ytdknjbadnbangaa.Q
open Go.ChangeMaps (open_string shut_string)
set_option linter.unusedVariables false
theorem own : ownKnob Try.prog.godebug = none := by kernel_rfl
theorem laidOut : laidOutB Try.prog = true := by kernel_rfl
set_option maxRecDepth 100000 in
theorem lifted (os : Os) (started : os.Started) (H : Type) (enc : TypeId × Value → H) :
    ReturnsInHanded {} Try.checked os 10 .any (Rows.fnExactValidRunSpec.pre6 enc Try.prog Try.f10 Rows.fnExactValidRunRow.domain false) (Rows.fnExactValidRunSpec.post enc Try.prog Try.f10 false true false false) := by
  refine returnsInHanded_of_change_sized (C := Try.checked) own started (by kernel_rfl) Try.func10
    (ChangeSpec.witness6 (enc := enc) (C := Try.checked) false ⟨#[], #[.agg #[.slice none 0 0]], []⟩ 8 (by kernel_rfl) (by kernel_rfl) (by kernel_rfl) (by kernel_rfl)) ?_
  intro W base args ds gs before hval0 hW hcnd hsz0 _
  have hval : ∀ (j : Nat) t v, Try.f10.params[j]? = some t → args[j]? = some v → Value.okWide Try.prog W .any base t v := hval0
  have hW' := hW
  obtain ⟨p, q, hA0, hV, rfl, hfz, hnd⟩ := hW
  have hA : DataW.TrodAll enc Try.prog W 0 (fun _ => true) true Try.f10.params.toList args.toList ds p := hA0
  rw [Try.params10] at hA hval
  obtain ⟨v0, vs0, d0, ds0, p0, q0, hargs, rfl, rfl, h0, r0⟩ := trodAll_cons hA
  obtain ⟨rfl, rfl, rfl⟩ := trodAll_nil r0
  obtain rfl : args = #[v0] := by cases args; simp_all
  obtain ⟨rfl, rfl⟩ := trodVars_none hV
  obtain ⟨cs0, rfl, _⟩ := okWide_struct Try.underlying61 (hval 0 61 v0 rfl rfl)
  have k0 := h0
  have lt0 : ∀ x ∈ p0, x.block < W.heap.size := by obtain ⟨m, hm⟩ := k0; exact DataW.trod_lt m _ _ _ hm
  obtain ⟨x0_, hK0, ok0_⟩ := Opens.arg (d := (Kd.slice 32 k32)) (opens_imp (opens_struct Try.underlying61 (by kernel_rfl) (opensF_last rfl (by kernel_rfl) (opens_slice Try.underlying59 (by kernel_rfl) opens32))) (fun _ h => h)) h0
  obtain ⟨A0_0, c0_0, hs0_0, hc0_0, hr0_0⟩ := hK0
  have hv0 : Value.agg cs0 = .agg #[.slice A0_0 (x0_).length c0_0] := agg_cells (l := [.slice A0_0 (x0_).length c0_0]) (by simp only [hs0_0] <;> rfl)
  obtain ⟨k_, hp_⟩ := Pr.FnExactValidRun x0_ ok0_
  clear hA0 hval0 hsz0
  have hc_ := Q.laws_FnExactValidRun.calls k_ _ _ x0_ true W hr0_0 hc0_0 hp_
  rw [← hv0] at hc_
  refine hc_.mono fun e W' ⟨he, bel0⟩ => ?_
  subst he
  have bel : Below W.heap.size W W' := bel0
  exact ⟨_, rfl, _, _, _, [], _, [], hW', trodAll_mk1 (shut_bool Try.underlying4 _), (trodAll_cons_mk (Below.trod laidOut (by kernel_rfl) (of_decide_eq_true (by kernel_rfl)) k0 bel lt0) trodAll_mk0), rfl, bel.frame _, fun h => by cases h⟩
theorem over : Rows.fnExactValidRunRow.holds Try.pinned (OpenSpec.ofChange Rows.fnExactValidRunSpec) :=
  OpenClaim.holds_of_wide 10 Try.f10 rfl rfl rfl rfl rfl rfl rfl ⟨rfl, rfl, rfl, rfl, rfl⟩ rfl rfl rfl rfl rfl (by kernel_rfl) Try.func10 (by kernel_rfl)
    (of_decide_eq_true (by kernel_rfl)) (by unfold Func.isWrapper; first | (rw [if_pos (by decide +kernel)]; kernel_rfl) | (rw [if_neg (by decide +kernel)]; exact ⟨rfl, rfl⟩))
    (fun os started H enc _ => lifted os started H enc)
end Go.Proofs.Ytdknjbadnbangaa.fnExactValidRun
namespace Go.Proofs.Ytdknjbadnbangaa
theorem fnExactValidRun_holds : Rows.FnExactValidRunSaid := fnExactValidRun.over
#print axioms fnExactValidRun_holds
end Go.Proofs.Ytdknjbadnbangaa
