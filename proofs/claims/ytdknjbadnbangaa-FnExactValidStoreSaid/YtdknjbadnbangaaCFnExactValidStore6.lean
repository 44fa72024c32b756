/- FnExactValidStore: the row of the law: its arguments opened, its walk, its statement over lists (PrFnExactValidStore). No condition. -/
import Derived.Test.YtdknjbadnbangaaCFnExactValidStore5
import Derived.Test.YtdknjbadnbangaaRows
import Derived.WalkKit
import Derived.ProofKit
import Derived.OpenShut
import Derived.ShutString
import Derived.ChangeOld
import Derived.Below
import Derived.SizedLaws

namespace Go.Proofs.Ytdknjbadnbangaa.Q
open Go.RowKit Go.Proofs.YtdknjbadnbangaaW.PrintWords Go.Proofs.YtdknjbadnbangaaW.PrintLast Go.Proofs.YtdknjbadnbangaaW.PrintMore
set_option linter.unusedVariables false
set_option linter.unusedSimpArgs false

/-! ### laws_FnExactValidStore: function 13 -/
def laws_FnExactValidStore.f (k : Nat) (l0_0 : List (S165)) : Option (Bool) := (laws_szStore.f k l0_0 1048576).bind fun t540 => (if t540 < 0 then (some true) else ((laws_toStore.f k l0_0).bind fun t541 => ((spec_ValidStore.f k t541).bind fun t544 => ((laws_toStore.f k l0_0).bind fun t545 => ((impl_ValidStore.f k t545).bind fun t549 => (if (t549 != t544) = true then (some false) else ((laws_toStore.f k l0_0).bind fun t550 => ((laws_eqStore.f k t545 t550).bind fun t553 => (if t553 = true then (some true) else (some false))))))))))
set_option maxHeartbeats 8000000 in
set_option maxRecDepth 100000 in
theorem laws_FnExactValidStore.calls (k : Nat) (A0_0 : Option Addr) (c0_0 : Nat) (l0_0 : List (S165)) (r : Bool) (w : World) (hr0_0 : Kd.C k165 w A0_0 l0_0.length l0_0) (hc0_0 : l0_0.length ≤ c0_0) (h : laws_FnExactValidStore.f k l0_0 = some r) :
  Calls Try.prog 13 #[.agg #[.slice A0_0 l0_0.length c0_0]] w fun e w' => e = .returned (.bool r) ∧ Below w.heap.size w w' := by
 have hu81 := Try.underlying81
 have hu48 := Try.underlying48
 have HR0_0 := Aside0.mk hr0_0
 have HC0_0 := Aside0.mk hc0_0
 clear hr0_0 hc0_0
 have HB := Aside0.mk (Below.refl w.heap.size w)
 have H : ((laws_szStore.f k l0_0 1048576).bind fun t540 => (if t540 < 0 then (some true) else ((laws_toStore.f k l0_0).bind fun t541 => ((spec_ValidStore.f k t541).bind fun t544 => ((laws_toStore.f k l0_0).bind fun t545 => ((impl_ValidStore.f k t545).bind fun t549 => (if (t549 != t544) = true then (some false) else ((laws_toStore.f k l0_0).bind fun t550 => ((laws_eqStore.f k t545 t550).bind fun t553 => (if t553 = true then (some true) else (some false))))))))))) = some r := h
 clear h
 replace H := Option.bind_eq_some_iff.mp H
 obtain ⟨t540, A20, H⟩ := H
 replace H : (if t540 < 0 then (some true) else ((laws_toStore.f k l0_0).bind fun t541 => ((spec_ValidStore.f k t541).bind fun t544 => ((laws_toStore.f k l0_0).bind fun t545 => ((impl_ValidStore.f k t545).bind fun t549 => (if (t549 != t544) = true then (some false) else ((laws_toStore.f k l0_0).bind fun t550 => ((laws_eqStore.f k t545 t550).bind fun t553 => (if t553 = true then (some true) else (some false)))))))))) = some r := H
 have A2 := Aside0.mk A20
 clear A20
 by_cases c3 : t540 < 0
 ·rw [if_pos c3] at H
  have c3b0 : decide (t540 < 0) = true := decide_eq_true c3
  clear c3
  obtain rfl := Option.some.inj H
  go_enter Try.func13, Try.ntmps13
  go_wp2_with (first | ((with_reducible refine gate_dst (N := 1) rfl ?_); refine box_event ?hg (N := 1) ?hd (cs := #[.slice A0_0 l0_0.length c0_0]) (t := 81) ?hr ?_; (case hd => rfl); (case hg => rfl); (case hr => first | (go_simp; done) | (go_simp; rfl)); intro gb539 hg w4 hbox hb; have n0_ := Aside0.mk (below_step (by repeat (first | (with_reducible first | exact HB.out | apply below_alloc | apply pw_below_drewN | apply below_drew1) | exact HB.out)) hb); have n1_ := Aside0.mk (hbox); have n2_ := Aside0.mk ((by rw [hg]; exact (below_size (by repeat (first | (with_reducible first | exact HB.out | apply below_alloc | apply pw_below_drewN | apply below_drew1) | exact HB.out))) : w.heap.size ≤ gb539)); have n3_ := Aside0.mk ((by rw [hg]; exact (below_size (by repeat (first | (with_reducible first | exact HB.out | apply below_alloc | apply pw_below_drewN | apply below_drew1) | exact HB.out))) : w.heap.size ≤ gb539)); clear HB; have HB := n0_; have BK539 := n1_; have GW539 := n2_; have GE539 := n3_; clear n0_ n1_ n2_ n3_; clear hb hbox hg; have hcz5_0 : w4.cell? ⟨gb539, 0, none⟩ = some (.slice A0_0 l0_0.length c0_0) := (blk_cell BK539.out 0).trans rfl; have hfz5_0 := blk_frozen BK539.out 0) | ((with_reducible refine at_fn (f := 50) rfl ?_); refine goesL_ (some 9) rfl rfl Try.func50 (by kernel_rfl) rfl #[.agg #[.slice A0_0 l0_0.length c0_0], .int .i64 1048576] rfl (by (try simp only [List.map_toArray, List.map_cons, List.map_nil]); first | done | rfl | (simp only [List.length_drop, List.length_take]; rfl)) ?_; (with_reducible refine (laws_szStore.calls k _ _ l0_0 1048576 t540 _ ?side1 ?side2 A2.out).mono ?_); (case side1 => repeat (first | exact (Kd.C_below HR0_0.out HB.out) | (with_reducible refine Kd.C_alloc ?_ _) | (with_reducible refine Kd.C_drewN ?_ _) | (with_reducible refine Kd.C_drew ?_))); (case side2 => exact HC0_0.out); rintro e w6 ⟨rfl, hb⟩; refine ⟨_, rfl, ?_⟩; have n0_ := Aside0.mk (blk_below (g := gb539) (o := .cells #[.slice A0_0 l0_0.length c0_0] 81 (0, 0)) (by (with_reducible repeat (first | refine blk_drewN ?_ _ | refine blk_drew ?_ | refine blk_alloc ?_ _)); exact BK539.out) hb); have n1_ := Aside0.mk (below_step (by repeat (first | (with_reducible first | exact HB.out | apply below_alloc | apply pw_below_drewN | apply below_drew1 | refine below_set ?_ GE539.out) | exact HB.out)) hb); clear BK539; clear HB; have BK539 := n0_; have HB := n1_; clear n0_ n1_; (try clear hb); (try clear hb2); (try clear hk); (try clear hi)))
  go_ret
  exact ⟨by first | rfl | (simp [errW_none, errW_some] <;> rfl) | (simp [*, errW_none, errW_some] <;> rfl), by repeat (first | (with_reducible first | exact HB.out | apply below_alloc | apply pw_below_drewN | apply below_drew1 | refine below_set ?_ GE539.out) | exact HB.out)⟩
 ·rw [if_neg c3] at H
  have c3b0 : decide (t540 < 0) = false := decide_eq_false c3
  clear c3
  replace H := Option.bind_eq_some_iff.mp H
  obtain ⟨t541, A70, H⟩ := H
  replace H : ((spec_ValidStore.f k t541).bind fun t544 => ((laws_toStore.f k l0_0).bind fun t545 => ((impl_ValidStore.f k t545).bind fun t549 => (if (t549 != t544) = true then (some false) else ((laws_toStore.f k l0_0).bind fun t550 => ((laws_eqStore.f k t545 t550).bind fun t553 => (if t553 = true then (some true) else (some false)))))))) = some r := H
  have A7 := Aside0.mk A70
  clear A70
  replace H := Option.bind_eq_some_iff.mp H
  obtain ⟨t544, A80, H⟩ := H
  replace H : ((laws_toStore.f k l0_0).bind fun t545 => ((impl_ValidStore.f k t545).bind fun t549 => (if (t549 != t544) = true then (some false) else ((laws_toStore.f k l0_0).bind fun t550 => ((laws_eqStore.f k t545 t550).bind fun t553 => (if t553 = true then (some true) else (some false))))))) = some r := H
  have A8 := Aside0.mk A80
  clear A80
  replace H := Option.bind_eq_some_iff.mp H
  obtain ⟨t545, A90, H⟩ := H
  replace H : ((impl_ValidStore.f k t545).bind fun t549 => (if (t549 != t544) = true then (some false) else ((laws_toStore.f k l0_0).bind fun t550 => ((laws_eqStore.f k t545 t550).bind fun t553 => (if t553 = true then (some true) else (some false)))))) = some r := H
  have A9 := Aside0.mk A90
  clear A90
  replace H := Option.bind_eq_some_iff.mp H
  obtain ⟨t549, A100, H⟩ := H
  replace H : (if (t549 != t544) = true then (some false) else ((laws_toStore.f k l0_0).bind fun t550 => ((laws_eqStore.f k t545 t550).bind fun t553 => (if t553 = true then (some true) else (some false))))) = some r := H
  have A10 := Aside0.mk A100
  clear A100
  by_cases c11 : (t549 != t544) = true
  ·rw [if_pos c11] at H
   have c11b0 : (t549 != t544) = true := c11
   (try (have c11b1 : decide (t549 = t544) = false := by simpa using c11))
   (try (have c11b2 : (t549 == t544) = false := by simpa using c11))
   (try (have c11b3 : ¬ (t549 = t544) := by simpa using c11))
   clear c11
   obtain rfl := Option.some.inj H
   go_enter Try.func13, Try.ntmps13
   go_wp2_with (first | ((with_reducible refine gate_dst (N := 1) rfl ?_); refine box_event ?hg (N := 1) ?hd (cs := #[.slice A0_0 l0_0.length c0_0]) (t := 81) ?hr ?_; (case hd => rfl); (case hg => rfl); (case hr => first | (go_simp; done) | (go_simp; rfl)); intro gb539 hg w12 hbox hb; have n0_ := Aside0.mk (below_step (by repeat (first | (with_reducible first | exact HB.out | apply below_alloc | apply pw_below_drewN | apply below_drew1) | exact HB.out)) hb); have n1_ := Aside0.mk (hbox); have n2_ := Aside0.mk ((by rw [hg]; exact (below_size (by repeat (first | (with_reducible first | exact HB.out | apply below_alloc | apply pw_below_drewN | apply below_drew1) | exact HB.out))) : w.heap.size ≤ gb539)); have n3_ := Aside0.mk ((by rw [hg]; exact (below_size (by repeat (first | (with_reducible first | exact HB.out | apply below_alloc | apply pw_below_drewN | apply below_drew1) | exact HB.out))) : w.heap.size ≤ gb539)); clear HB; have HB := n0_; have BK539 := n1_; have GW539 := n2_; have GE539 := n3_; clear n0_ n1_ n2_ n3_; clear hb hbox hg; have hcz13_0 : w12.cell? ⟨gb539, 0, none⟩ = some (.slice A0_0 l0_0.length c0_0) := (blk_cell BK539.out 0).trans rfl; have hfz13_0 := blk_frozen BK539.out 0) | ((with_reducible refine at_fn (f := 50) rfl ?_); refine goesL_ (some 9) rfl rfl Try.func50 (by kernel_rfl) rfl #[.agg #[.slice A0_0 l0_0.length c0_0], .int .i64 1048576] rfl (by (try simp only [List.map_toArray, List.map_cons, List.map_nil]); first | done | rfl | (simp only [List.length_drop, List.length_take]; rfl)) ?_; (with_reducible refine (laws_szStore.calls k _ _ l0_0 1048576 t540 _ ?side1 ?side2 A2.out).mono ?_); (case side1 => repeat (first | exact (Kd.C_below HR0_0.out HB.out) | (with_reducible refine Kd.C_alloc ?_ _) | (with_reducible refine Kd.C_drewN ?_ _) | (with_reducible refine Kd.C_drew ?_))); (case side2 => exact HC0_0.out); rintro e w14 ⟨rfl, hb⟩; refine ⟨_, rfl, ?_⟩; have n0_ := Aside0.mk (blk_below (g := gb539) (o := .cells #[.slice A0_0 l0_0.length c0_0] 81 (0, 0)) (by (with_reducible repeat (first | refine blk_drewN ?_ _ | refine blk_drew ?_ | refine blk_alloc ?_ _)); exact BK539.out) hb); have n1_ := Aside0.mk (below_step (by repeat (first | (with_reducible first | exact HB.out | apply below_alloc | apply pw_below_drewN | apply below_drew1 | refine below_set ?_ GE539.out) | exact HB.out)) hb); clear BK539; clear HB; have BK539 := n0_; have HB := n1_; clear n0_ n1_; (try clear hb); (try clear hb2); (try clear hk); (try clear hi); have hcz15_0 : w14.cell? ⟨gb539, 0, none⟩ = some (.slice A0_0 l0_0.length c0_0) := (blk_cell BK539.out 0).trans rfl; have hfz15_0 := blk_frozen BK539.out 0) | ((with_reducible refine at_fn (f := 52) rfl ?_); refine goesL_ (some 13) rfl rfl Try.func52 (by kernel_rfl) rfl #[.agg #[.slice A0_0 l0_0.length c0_0]] rfl (by (try simp only [List.map_toArray, List.map_cons, List.map_nil]); first | done | rfl | (simp only [List.length_drop, List.length_take]; rfl)) ?_; (with_reducible refine (laws_toStore.calls k _ _ l0_0 t541 _ ?side1 ?side2 A7.out).mono ?_); (case side1 => repeat (first | exact (Kd.C_below HR0_0.out HB.out) | (with_reducible refine Kd.C_alloc ?_ _) | (with_reducible refine Kd.C_drewN ?_ _) | (with_reducible refine Kd.C_drew ?_))); (case side2 => exact HC0_0.out); rintro e w16 ⟨v542, rfl, ho0, hb⟩; refine ⟨_, rfl, ?_⟩; have n0_ := Aside0.mk (Kd.R_lower ho0 (below_size (by repeat (first | (with_reducible first | exact HB.out | apply below_alloc | apply pw_below_drewN | apply below_drew1 | refine below_set ?_ GE539.out) | exact HB.out)))); have n1_ := Aside0.mk (blk_below (g := gb539) (o := .cells #[.slice A0_0 l0_0.length c0_0] 81 (0, 0)) (by (with_reducible repeat (first | refine blk_drewN ?_ _ | refine blk_drew ?_ | refine blk_alloc ?_ _)); exact BK539.out) hb); have n2_ := Aside0.mk (below_step (by repeat (first | (with_reducible first | exact HB.out | apply below_alloc | apply pw_below_drewN | apply below_drew1 | refine below_set ?_ GE539.out) | exact HB.out)) hb); clear BK539; clear HB; have HO543 := n0_; have BK539 := n1_; have HB := n2_; clear n0_ n1_ n2_; (try clear hb); (try clear hb2); (try clear hk); (try clear hi); (try clear ho0); obtain ⟨Ao17, co17, eo17⟩ := Kd.R_slice HO543.out; subst eo17) | ((with_reducible refine at_fn (f := 51) rfl ?_); refine goesL_ (some 14) rfl rfl Try.func51 (by kernel_rfl) rfl #[.agg #[.slice Ao17 t541.length co17]] rfl (by (try simp only [List.map_toArray, List.map_cons, List.map_nil]); first | done | rfl | (simp only [List.length_drop, List.length_take]; rfl)) ?_; (with_reducible refine (spec_ValidStore.calls k _ _ t541 t544 _ ?side1 ?side2 A8.out).mono ?_); (case side1 => repeat (first | exact (Kd.R_reads' HO543.out).2.2 | (with_reducible refine Kd.C_alloc ?_ _) | (with_reducible refine Kd.C_drewN ?_ _) | (with_reducible refine Kd.C_drew ?_))); (case side2 => exact (Kd.R_reads' HO543.out).2.1); rintro e w18 ⟨rfl, hb⟩; refine ⟨_, rfl, ?_⟩; have n0_ := Aside0.mk (Kd.R_below (by (with_reducible repeat (first | apply Kd.R_alloc | apply Kd.R_drewN | apply Kd.R_drew)); exact HO543.out) hb); have n1_ := Aside0.mk (blk_below (g := gb539) (o := .cells #[.slice A0_0 l0_0.length c0_0] 81 (0, 0)) (by (with_reducible repeat (first | refine blk_drewN ?_ _ | refine blk_drew ?_ | refine blk_alloc ?_ _)); exact BK539.out) hb); have n2_ := Aside0.mk (below_step (by repeat (first | (with_reducible first | exact HB.out | apply below_alloc | apply pw_below_drewN | apply below_drew1 | refine below_set ?_ GE539.out) | exact HB.out)) hb); clear HO543; clear BK539; clear HB; have HO543 := n0_; have BK539 := n1_; have HB := n2_; clear n0_ n1_ n2_; (try clear hb); (try clear hb2); (try clear hk); (try clear hi); have hcz19_0 : w18.cell? ⟨gb539, 0, none⟩ = some (.slice A0_0 l0_0.length c0_0) := (blk_cell BK539.out 0).trans rfl; have hfz19_0 := blk_frozen BK539.out 0) | ((with_reducible refine at_fn (f := 52) rfl ?_); refine goesL_ (some 16) rfl rfl Try.func52 (by kernel_rfl) rfl #[.agg #[.slice A0_0 l0_0.length c0_0]] rfl (by (try simp only [List.map_toArray, List.map_cons, List.map_nil]); first | done | rfl | (simp only [List.length_drop, List.length_take]; rfl)) ?_; (with_reducible refine (laws_toStore.calls k _ _ l0_0 t545 _ ?side1 ?side2 A9.out).mono ?_); (case side1 => repeat (first | exact (Kd.C_below HR0_0.out HB.out) | (with_reducible refine Kd.C_alloc ?_ _) | (with_reducible refine Kd.C_drewN ?_ _) | (with_reducible refine Kd.C_drew ?_))); (case side2 => exact HC0_0.out); rintro e w20 ⟨v546, rfl, ho0, hb⟩; refine ⟨_, rfl, ?_⟩; have n0_ := Aside0.mk (Kd.R_elder' (by (with_reducible repeat (first | apply Kd.R_alloc | apply Kd.R_drewN | apply Kd.R_drew)); exact HO543.out) (Kd.R_base ho0) hb); have n1_ := Aside0.mk (Kd.R_lower (Kd.R_new' ho0 (Kd.R_lt (by (with_reducible repeat (first | apply Kd.R_alloc | apply Kd.R_drewN | apply Kd.R_drew)); exact HO543.out))) (below_size (by repeat (first | (with_reducible first | exact HB.out | apply below_alloc | apply pw_below_drewN | apply below_drew1 | refine below_set ?_ GE539.out) | exact HB.out)))); have n2_ := Aside0.mk (blk_below (g := gb539) (o := .cells #[.slice A0_0 l0_0.length c0_0] 81 (0, 0)) (by (with_reducible repeat (first | refine blk_drewN ?_ _ | refine blk_drew ?_ | refine blk_alloc ?_ _)); exact BK539.out) hb); have n3_ := Aside0.mk (below_step (by repeat (first | (with_reducible first | exact HB.out | apply below_alloc | apply pw_below_drewN | apply below_drew1 | refine below_set ?_ GE539.out) | exact HB.out)) hb); clear HO543; clear BK539; clear HB; have HO543 := n0_; have HO547 := n1_; have BK539 := n2_; have HB := n3_; clear n0_ n1_ n2_ n3_; (try clear hb); (try clear hb2); (try clear hk); (try clear hi); (try clear ho0)) | ((with_reducible refine gate_dst (N := 5) rfl ?_); refine box_event ?hg (N := 5) ?hd (cs := #[.slice none 0 0]) (t := 48) ?hr ?_; (case hd => rfl); (case hg => rfl); (case hr => first | (go_simp; done) | (go_simp; rfl)); intro gb548 hg w21 hbox hb; have n0_ := Aside0.mk (Kd.R_below (by (with_reducible repeat (first | apply Kd.R_alloc | apply Kd.R_drewN | apply Kd.R_drew)); exact HO543.out) hb); have n1_ := Aside0.mk (Kd.R_below (by (with_reducible repeat (first | apply Kd.R_alloc | apply Kd.R_drewN | apply Kd.R_drew)); exact HO547.out) hb); have n2_ := Aside0.mk (blk_below (g := gb539) (o := .cells #[.slice A0_0 l0_0.length c0_0] 81 (0, 0)) (by (with_reducible repeat (first | refine blk_drewN ?_ _ | refine blk_drew ?_ | refine blk_alloc ?_ _)); exact BK539.out) hb); have n3_ := Aside0.mk (below_step (by repeat (first | (with_reducible first | exact HB.out | apply below_alloc | apply pw_below_drewN | apply below_drew1 | refine below_set ?_ GE539.out) | exact HB.out)) hb); have n4_ := Aside0.mk (hbox); have n5_ := Aside0.mk ((by rw [hg]; exact (below_size (by repeat (first | (with_reducible first | exact HB.out | apply below_alloc | apply pw_below_drewN | apply below_drew1 | refine below_set ?_ GE539.out) | exact HB.out))) : w.heap.size ≤ gb548)); have n6_ := Aside0.mk ((by rw [hg]; exact (below_size (by repeat (first | (with_reducible first | exact HB.out | apply below_alloc | apply pw_below_drewN | apply below_drew1 | refine below_set ?_ GE539.out) | exact HB.out))) : w.heap.size ≤ gb548)); have n7_ := Aside0.mk ((by rw [hg]; exact Nat.ne_of_lt (blk_lt (g := gb539) (o := .cells #[.slice A0_0 l0_0.length c0_0] 81 (0, 0)) (by (with_reducible repeat (first | refine blk_drewN ?_ _ | refine blk_drew ?_ | refine blk_alloc ?_ _)); exact BK539.out)) : gb539 ≠ gb548)); have n8_ := Aside0.mk ((by rw [hg]; exact Nat.ne_of_gt (blk_lt (g := gb539) (o := .cells #[.slice A0_0 l0_0.length c0_0] 81 (0, 0)) (by (with_reducible repeat (first | refine blk_drewN ?_ _ | refine blk_drew ?_ | refine blk_alloc ?_ _)); exact BK539.out)) : gb548 ≠ gb539)); clear HO543; clear HO547; clear BK539; clear HB; have HO543 := n0_; have HO547 := n1_; have BK539 := n2_; have HB := n3_; have BK548 := n4_; have GW548 := n5_; have GE548 := n6_; have NB539_548 := n7_; have NB548_539 := n8_; clear n0_ n1_ n2_ n3_ n4_ n5_ n6_ n7_ n8_; clear hb hbox hg; obtain ⟨Ao22, co22, eo22⟩ := Kd.R_slice HO547.out; subst eo22; have hnb23 := NB548_539.out; have hnc23 := NB539_548.out; have hcz24_0 : w21.cell? ⟨gb548, 0, none⟩ = some (.slice none 0 0) := (blk_cell BK548.out 0).trans rfl; have hfz24_0 := blk_frozen BK548.out 0) | ((with_reducible refine at_fn (f := 53) rfl ?_); refine goesL_ (some 18) rfl rfl Try.func53 (by kernel_rfl) rfl #[.agg #[.slice Ao22 t545.length co22]] rfl (by (try simp only [List.map_toArray, List.map_cons, List.map_nil]); first | done | rfl | (simp only [List.length_drop, List.length_take]; rfl)) ?_; (with_reducible refine (impl_ValidStore.calls k _ _ t545 t549 _ ?side1 ?side2 A10.out).mono ?_); (case side1 => refine (Kd.R_reads' (e := 98) (base := w.heap.size) (ok := fun k_ => (True ∧ some k_ ≠ (.slice Ao17 t541.length co17 : Value).ownBlock)) (n := t545.length) (c := co22) ?_).2.2; exact (by (with_reducible repeat (first | apply Kd.R_alloc | apply Kd.R_drewN | apply Kd.R_drew)); exact (Kd.R_mono (Kd.R_far (p := ⟨gb548, 0, none⟩) (Kd.R_types HO547.out BK548.out (by decide)) (fun _ hk => hk.2) (.slice Ao22 t545.length co22)) (fun _ h_ => h_.1)))); (case side2 => exact (Kd.R_reads' HO547.out).2.1); rintro e w25 ⟨rfl, hb⟩; refine ⟨_, rfl, ?_⟩; have n0_ := Aside0.mk (Kd.R_below (by (with_reducible repeat (first | apply Kd.R_alloc | apply Kd.R_drewN | apply Kd.R_drew)); exact (Kd.R_mono (Kd.R_far (p := ⟨gb548, 0, none⟩) (Kd.R_types HO543.out BK548.out (by decide)) (fun _ hk => hk.2) (.slice Ao22 t545.length co22)) (fun _ h_ => h_.1))) hb); have n1_ := Aside0.mk (Kd.R_below (by (with_reducible repeat (first | apply Kd.R_alloc | apply Kd.R_drewN | apply Kd.R_drew)); exact (Kd.R_mono (Kd.R_far (p := ⟨gb548, 0, none⟩) (Kd.R_types HO547.out BK548.out (by decide)) (fun _ hk => hk.2) (.slice Ao22 t545.length co22)) (fun _ h_ => h_.1))) hb); have n2_ := Aside0.mk (blk_below (g := gb539) (o := .cells #[.slice A0_0 l0_0.length c0_0] 81 (0, 0)) (by (with_reducible repeat (first | refine blk_drewN ?_ _ | refine blk_drew ?_ | refine blk_alloc ?_ _)); refine blk_far ?_ NB539_548.out _; (with_reducible repeat (first | refine blk_drewN ?_ _ | refine blk_drew ?_ | refine blk_alloc ?_ _)); exact BK539.out) hb); have n3_ := Aside0.mk (blk_below (g := gb548) (o := .cells #[.slice Ao22 t545.length co22] 48 (0, 0)) (by (with_reducible repeat (first | refine blk_drewN ?_ _ | refine blk_drew ?_ | refine blk_alloc ?_ _)); refine blk_put (cs := #[.slice none 0 0]) ?_ 0 _ rfl; (with_reducible repeat (first | refine blk_drewN ?_ _ | refine blk_drew ?_ | refine blk_alloc ?_ _)); exact BK548.out) hb); have n4_ := Aside0.mk (below_step (by repeat (first | (with_reducible first | exact HB.out | apply below_alloc | apply pw_below_drewN | apply below_drew1 | refine below_set ?_ GE539.out | refine below_set ?_ GE548.out) | exact HB.out)) hb); clear HO543; clear HO547; clear BK539; clear BK548; clear HB; have HO543 := n0_; have HO547 := n1_; have BK539 := n2_; have BK548 := n3_; have HB := n4_; clear n0_ n1_ n2_ n3_ n4_; (try clear hb); (try clear hb2); (try clear hk); (try clear hi)))
   go_ret
   exact ⟨by first | rfl | (simp [errW_none, errW_some] <;> rfl) | (simp [*, errW_none, errW_some] <;> rfl), by repeat (first | (with_reducible first | exact HB.out | apply below_alloc | apply pw_below_drewN | apply below_drew1 | refine below_set ?_ GE539.out | refine below_set ?_ GE548.out) | exact HB.out)⟩
  ·rw [if_neg c11] at H
   have c11b0 : (t549 != t544) = false := by simpa using c11
   (try (have c11b1 : decide (t549 = t544) = true := by simpa using c11))
   (try (have c11b2 : (t549 == t544) = true := by simpa using c11))
   clear c11
   replace H := Option.bind_eq_some_iff.mp H
   obtain ⟨t550, A260, H⟩ := H
   replace H : ((laws_eqStore.f k t545 t550).bind fun t553 => (if t553 = true then (some true) else (some false))) = some r := H
   have A26 := Aside0.mk A260
   clear A260
   replace H := Option.bind_eq_some_iff.mp H
   obtain ⟨t553, A270, H⟩ := H
   replace H : (if t553 = true then (some true) else (some false)) = some r := H
   have A27 := Aside0.mk A270
   clear A270
   by_cases c28 : t553 = true
   ·subst c28
    have H1 : (some true) = some r := by rw [if_pos rfl] at H; exact H
    clear H
    have H := H1
    clear H1
    obtain rfl := Option.some.inj H
    go_enter Try.func13, Try.ntmps13
    try go_wp2_with (first | ((with_reducible refine gate_dst (N := 1) rfl ?_); refine box_event ?hg (N := 1) ?hd (cs := #[.slice A0_0 l0_0.length c0_0]) (t := 81) ?hr ?_; (case hd => rfl); (case hg => rfl); (case hr => first | (go_simp; done) | (go_simp; rfl)); intro gb539 hg w29 hbox hb; have n0_ := Aside0.mk (below_step (by repeat (first | (with_reducible first | exact HB.out | apply below_alloc | apply pw_below_drewN | apply below_drew1) | exact HB.out)) hb); have n1_ := Aside0.mk (hbox); have n2_ := Aside0.mk ((by rw [hg]; exact (below_size (by repeat (first | (with_reducible first | exact HB.out | apply below_alloc | apply pw_below_drewN | apply below_drew1) | exact HB.out))) : w.heap.size ≤ gb539)); have n3_ := Aside0.mk ((by rw [hg]; exact (below_size (by repeat (first | (with_reducible first | exact HB.out | apply below_alloc | apply pw_below_drewN | apply below_drew1) | exact HB.out))) : w.heap.size ≤ gb539)); clear HB; have HB := n0_; have BK539 := n1_; have GW539 := n2_; have GE539 := n3_; clear n0_ n1_ n2_ n3_; clear hb hbox hg; have hcz30_0 : w29.cell? ⟨gb539, 0, none⟩ = some (.slice A0_0 l0_0.length c0_0) := (blk_cell BK539.out 0).trans rfl; have hfz30_0 := blk_frozen BK539.out 0) | ((with_reducible refine at_fn (f := 50) rfl ?_); refine goesL_ (some 9) rfl rfl Try.func50 (by kernel_rfl) rfl #[.agg #[.slice A0_0 l0_0.length c0_0], .int .i64 1048576] rfl (by (try simp only [List.map_toArray, List.map_cons, List.map_nil]); first | done | rfl | (simp only [List.length_drop, List.length_take]; rfl)) ?_; (with_reducible refine (laws_szStore.calls k _ _ l0_0 1048576 t540 _ ?side1 ?side2 A2.out).mono ?_); (case side1 => repeat (first | exact (Kd.C_below HR0_0.out HB.out) | (with_reducible refine Kd.C_alloc ?_ _) | (with_reducible refine Kd.C_drewN ?_ _) | (with_reducible refine Kd.C_drew ?_))); (case side2 => exact HC0_0.out); rintro e w31 ⟨rfl, hb⟩; refine ⟨_, rfl, ?_⟩; have n0_ := Aside0.mk (blk_below (g := gb539) (o := .cells #[.slice A0_0 l0_0.length c0_0] 81 (0, 0)) (by (with_reducible repeat (first | refine blk_drewN ?_ _ | refine blk_drew ?_ | refine blk_alloc ?_ _)); exact BK539.out) hb); have n1_ := Aside0.mk (below_step (by repeat (first | (with_reducible first | exact HB.out | apply below_alloc | apply pw_below_drewN | apply below_drew1 | refine below_set ?_ GE539.out) | exact HB.out)) hb); clear BK539; clear HB; have BK539 := n0_; have HB := n1_; clear n0_ n1_; (try clear hb); (try clear hb2); (try clear hk); (try clear hi); have hcz32_0 : w31.cell? ⟨gb539, 0, none⟩ = some (.slice A0_0 l0_0.length c0_0) := (blk_cell BK539.out 0).trans rfl; have hfz32_0 := blk_frozen BK539.out 0) | ((with_reducible refine at_fn (f := 52) rfl ?_); refine goesL_ (some 13) rfl rfl Try.func52 (by kernel_rfl) rfl #[.agg #[.slice A0_0 l0_0.length c0_0]] rfl (by (try simp only [List.map_toArray, List.map_cons, List.map_nil]); first | done | rfl | (simp only [List.length_drop, List.length_take]; rfl)) ?_; (with_reducible refine (laws_toStore.calls k _ _ l0_0 t541 _ ?side1 ?side2 A7.out).mono ?_); (case side1 => repeat (first | exact (Kd.C_below HR0_0.out HB.out) | (with_reducible refine Kd.C_alloc ?_ _) | (with_reducible refine Kd.C_drewN ?_ _) | (with_reducible refine Kd.C_drew ?_))); (case side2 => exact HC0_0.out); rintro e w33 ⟨v542, rfl, ho0, hb⟩; refine ⟨_, rfl, ?_⟩; have n0_ := Aside0.mk (Kd.R_lower ho0 (below_size (by repeat (first | (with_reducible first | exact HB.out | apply below_alloc | apply pw_below_drewN | apply below_drew1 | refine below_set ?_ GE539.out) | exact HB.out)))); have n1_ := Aside0.mk (blk_below (g := gb539) (o := .cells #[.slice A0_0 l0_0.length c0_0] 81 (0, 0)) (by (with_reducible repeat (first | refine blk_drewN ?_ _ | refine blk_drew ?_ | refine blk_alloc ?_ _)); exact BK539.out) hb); have n2_ := Aside0.mk (below_step (by repeat (first | (with_reducible first | exact HB.out | apply below_alloc | apply pw_below_drewN | apply below_drew1 | refine below_set ?_ GE539.out) | exact HB.out)) hb); clear BK539; clear HB; have HO543 := n0_; have BK539 := n1_; have HB := n2_; clear n0_ n1_ n2_; (try clear hb); (try clear hb2); (try clear hk); (try clear hi); (try clear ho0); obtain ⟨Ao34, co34, eo34⟩ := Kd.R_slice HO543.out; subst eo34) | ((with_reducible refine at_fn (f := 51) rfl ?_); refine goesL_ (some 14) rfl rfl Try.func51 (by kernel_rfl) rfl #[.agg #[.slice Ao34 t541.length co34]] rfl (by (try simp only [List.map_toArray, List.map_cons, List.map_nil]); first | done | rfl | (simp only [List.length_drop, List.length_take]; rfl)) ?_; (with_reducible refine (spec_ValidStore.calls k _ _ t541 t544 _ ?side1 ?side2 A8.out).mono ?_); (case side1 => repeat (first | exact (Kd.R_reads' HO543.out).2.2 | (with_reducible refine Kd.C_alloc ?_ _) | (with_reducible refine Kd.C_drewN ?_ _) | (with_reducible refine Kd.C_drew ?_))); (case side2 => exact (Kd.R_reads' HO543.out).2.1); rintro e w35 ⟨rfl, hb⟩; refine ⟨_, rfl, ?_⟩; have n0_ := Aside0.mk (Kd.R_below (by (with_reducible repeat (first | apply Kd.R_alloc | apply Kd.R_drewN | apply Kd.R_drew)); exact HO543.out) hb); have n1_ := Aside0.mk (blk_below (g := gb539) (o := .cells #[.slice A0_0 l0_0.length c0_0] 81 (0, 0)) (by (with_reducible repeat (first | refine blk_drewN ?_ _ | refine blk_drew ?_ | refine blk_alloc ?_ _)); exact BK539.out) hb); have n2_ := Aside0.mk (below_step (by repeat (first | (with_reducible first | exact HB.out | apply below_alloc | apply pw_below_drewN | apply below_drew1 | refine below_set ?_ GE539.out) | exact HB.out)) hb); clear HO543; clear BK539; clear HB; have HO543 := n0_; have BK539 := n1_; have HB := n2_; clear n0_ n1_ n2_; (try clear hb); (try clear hb2); (try clear hk); (try clear hi); have hcz36_0 : w35.cell? ⟨gb539, 0, none⟩ = some (.slice A0_0 l0_0.length c0_0) := (blk_cell BK539.out 0).trans rfl; have hfz36_0 := blk_frozen BK539.out 0) | ((with_reducible refine at_fn (f := 52) rfl ?_); refine goesL_ (some 16) rfl rfl Try.func52 (by kernel_rfl) rfl #[.agg #[.slice A0_0 l0_0.length c0_0]] rfl (by (try simp only [List.map_toArray, List.map_cons, List.map_nil]); first | done | rfl | (simp only [List.length_drop, List.length_take]; rfl)) ?_; (with_reducible refine (laws_toStore.calls k _ _ l0_0 t545 _ ?side1 ?side2 A9.out).mono ?_); (case side1 => repeat (first | exact (Kd.C_below HR0_0.out HB.out) | (with_reducible refine Kd.C_alloc ?_ _) | (with_reducible refine Kd.C_drewN ?_ _) | (with_reducible refine Kd.C_drew ?_))); (case side2 => exact HC0_0.out); rintro e w37 ⟨v546, rfl, ho0, hb⟩; refine ⟨_, rfl, ?_⟩; have n0_ := Aside0.mk (Kd.R_elder' (by (with_reducible repeat (first | apply Kd.R_alloc | apply Kd.R_drewN | apply Kd.R_drew)); exact HO543.out) (Kd.R_base ho0) hb); have n1_ := Aside0.mk (Kd.R_lower (Kd.R_new' ho0 (Kd.R_lt (by (with_reducible repeat (first | apply Kd.R_alloc | apply Kd.R_drewN | apply Kd.R_drew)); exact HO543.out))) (below_size (by repeat (first | (with_reducible first | exact HB.out | apply below_alloc | apply pw_below_drewN | apply below_drew1 | refine below_set ?_ GE539.out) | exact HB.out)))); have n2_ := Aside0.mk (blk_below (g := gb539) (o := .cells #[.slice A0_0 l0_0.length c0_0] 81 (0, 0)) (by (with_reducible repeat (first | refine blk_drewN ?_ _ | refine blk_drew ?_ | refine blk_alloc ?_ _)); exact BK539.out) hb); have n3_ := Aside0.mk (below_step (by repeat (first | (with_reducible first | exact HB.out | apply below_alloc | apply pw_below_drewN | apply below_drew1 | refine below_set ?_ GE539.out) | exact HB.out)) hb); clear HO543; clear BK539; clear HB; have HO543 := n0_; have HO547 := n1_; have BK539 := n2_; have HB := n3_; clear n0_ n1_ n2_ n3_; (try clear hb); (try clear hb2); (try clear hk); (try clear hi); (try clear ho0)) | ((with_reducible refine gate_dst (N := 5) rfl ?_); refine box_event ?hg (N := 5) ?hd (cs := #[.slice none 0 0]) (t := 48) ?hr ?_; (case hd => rfl); (case hg => rfl); (case hr => first | (go_simp; done) | (go_simp; rfl)); intro gb548 hg w38 hbox hb; have n0_ := Aside0.mk (Kd.R_below (by (with_reducible repeat (first | apply Kd.R_alloc | apply Kd.R_drewN | apply Kd.R_drew)); exact HO543.out) hb); have n1_ := Aside0.mk (Kd.R_below (by (with_reducible repeat (first | apply Kd.R_alloc | apply Kd.R_drewN | apply Kd.R_drew)); exact HO547.out) hb); have n2_ := Aside0.mk (blk_below (g := gb539) (o := .cells #[.slice A0_0 l0_0.length c0_0] 81 (0, 0)) (by (with_reducible repeat (first | refine blk_drewN ?_ _ | refine blk_drew ?_ | refine blk_alloc ?_ _)); exact BK539.out) hb); have n3_ := Aside0.mk (below_step (by repeat (first | (with_reducible first | exact HB.out | apply below_alloc | apply pw_below_drewN | apply below_drew1 | refine below_set ?_ GE539.out) | exact HB.out)) hb); have n4_ := Aside0.mk (hbox); have n5_ := Aside0.mk ((by rw [hg]; exact (below_size (by repeat (first | (with_reducible first | exact HB.out | apply below_alloc | apply pw_below_drewN | apply below_drew1 | refine below_set ?_ GE539.out) | exact HB.out))) : w.heap.size ≤ gb548)); have n6_ := Aside0.mk ((by rw [hg]; exact (below_size (by repeat (first | (with_reducible first | exact HB.out | apply below_alloc | apply pw_below_drewN | apply below_drew1 | refine below_set ?_ GE539.out) | exact HB.out))) : w.heap.size ≤ gb548)); have n7_ := Aside0.mk ((by rw [hg]; exact Nat.ne_of_lt (blk_lt (g := gb539) (o := .cells #[.slice A0_0 l0_0.length c0_0] 81 (0, 0)) (by (with_reducible repeat (first | refine blk_drewN ?_ _ | refine blk_drew ?_ | refine blk_alloc ?_ _)); exact BK539.out)) : gb539 ≠ gb548)); have n8_ := Aside0.mk ((by rw [hg]; exact Nat.ne_of_gt (blk_lt (g := gb539) (o := .cells #[.slice A0_0 l0_0.length c0_0] 81 (0, 0)) (by (with_reducible repeat (first | refine blk_drewN ?_ _ | refine blk_drew ?_ | refine blk_alloc ?_ _)); exact BK539.out)) : gb548 ≠ gb539)); clear HO543; clear HO547; clear BK539; clear HB; have HO543 := n0_; have HO547 := n1_; have BK539 := n2_; have HB := n3_; have BK548 := n4_; have GW548 := n5_; have GE548 := n6_; have NB539_548 := n7_; have NB548_539 := n8_; clear n0_ n1_ n2_ n3_ n4_ n5_ n6_ n7_ n8_; clear hb hbox hg; obtain ⟨Ao39, co39, eo39⟩ := Kd.R_slice HO547.out; subst eo39; have hnb40 := NB548_539.out; have hnc40 := NB539_548.out; have hcz41_0 : w38.cell? ⟨gb548, 0, none⟩ = some (.slice none 0 0) := (blk_cell BK548.out 0).trans rfl; have hfz41_0 := blk_frozen BK548.out 0) | ((with_reducible refine at_fn (f := 53) rfl ?_); refine goesL_ (some 18) rfl rfl Try.func53 (by kernel_rfl) rfl #[.agg #[.slice Ao39 t545.length co39]] rfl (by (try simp only [List.map_toArray, List.map_cons, List.map_nil]); first | done | rfl | (simp only [List.length_drop, List.length_take]; rfl)) ?_; (with_reducible refine (impl_ValidStore.calls k _ _ t545 t549 _ ?side1 ?side2 A10.out).mono ?_); (case side1 => refine (Kd.R_reads' (e := 98) (base := w.heap.size) (ok := fun k_ => (True ∧ some k_ ≠ (.slice Ao34 t541.length co34 : Value).ownBlock)) (n := t545.length) (c := co39) ?_).2.2; exact (by (with_reducible repeat (first | apply Kd.R_alloc | apply Kd.R_drewN | apply Kd.R_drew)); exact (Kd.R_mono (Kd.R_far (p := ⟨gb548, 0, none⟩) (Kd.R_types HO547.out BK548.out (by decide)) (fun _ hk => hk.2) (.slice Ao39 t545.length co39)) (fun _ h_ => h_.1)))); (case side2 => exact (Kd.R_reads' HO547.out).2.1); rintro e w42 ⟨rfl, hb⟩; refine ⟨_, rfl, ?_⟩; have n0_ := Aside0.mk (Kd.R_below (by (with_reducible repeat (first | apply Kd.R_alloc | apply Kd.R_drewN | apply Kd.R_drew)); exact (Kd.R_mono (Kd.R_far (p := ⟨gb548, 0, none⟩) (Kd.R_types HO543.out BK548.out (by decide)) (fun _ hk => hk.2) (.slice Ao39 t545.length co39)) (fun _ h_ => h_.1))) hb); have n1_ := Aside0.mk (Kd.R_below (by (with_reducible repeat (first | apply Kd.R_alloc | apply Kd.R_drewN | apply Kd.R_drew)); exact (Kd.R_mono (Kd.R_far (p := ⟨gb548, 0, none⟩) (Kd.R_types HO547.out BK548.out (by decide)) (fun _ hk => hk.2) (.slice Ao39 t545.length co39)) (fun _ h_ => h_.1))) hb); have n2_ := Aside0.mk (blk_below (g := gb539) (o := .cells #[.slice A0_0 l0_0.length c0_0] 81 (0, 0)) (by (with_reducible repeat (first | refine blk_drewN ?_ _ | refine blk_drew ?_ | refine blk_alloc ?_ _)); refine blk_far ?_ NB539_548.out _; (with_reducible repeat (first | refine blk_drewN ?_ _ | refine blk_drew ?_ | refine blk_alloc ?_ _)); exact BK539.out) hb); have n3_ := Aside0.mk (blk_below (g := gb548) (o := .cells #[.slice Ao39 t545.length co39] 48 (0, 0)) (by (with_reducible repeat (first | refine blk_drewN ?_ _ | refine blk_drew ?_ | refine blk_alloc ?_ _)); refine blk_put (cs := #[.slice none 0 0]) ?_ 0 _ rfl; (with_reducible repeat (first | refine blk_drewN ?_ _ | refine blk_drew ?_ | refine blk_alloc ?_ _)); exact BK548.out) hb); have n4_ := Aside0.mk (below_step (by repeat (first | (with_reducible first | exact HB.out | apply below_alloc | apply pw_below_drewN | apply below_drew1 | refine below_set ?_ GE539.out | refine below_set ?_ GE548.out) | exact HB.out)) hb); clear HO543; clear HO547; clear BK539; clear BK548; clear HB; have HO543 := n0_; have HO547 := n1_; have BK539 := n2_; have BK548 := n3_; have HB := n4_; clear n0_ n1_ n2_ n3_ n4_; (try clear hb); (try clear hb2); (try clear hk); (try clear hi)))
    have n0_ := Aside0.mk (Kd.R_drew HO543.out)
    have n1_ := Aside0.mk (Kd.R_drew HO547.out)
    have n2_ := Aside0.mk (blk_drew BK539.out)
    have n3_ := Aside0.mk (blk_drew BK548.out)
    have n4_ := Aside0.mk (below_drew1 HB.out)
    clear HO543
    clear HO547
    clear BK539
    clear BK548
    clear HB
    have HO543 := n0_
    have HO547 := n1_
    have BK539 := n2_
    have BK548 := n3_
    have HB := n4_
    clear n0_ n1_ n2_ n3_ n4_
    refine start_ (n := 5) (S := fun w' => w'.cell? ⟨gb548, 0, none⟩ = some (.slice Ao39 t545.length co39) ∧ w'.cell? ⟨gb539, 0, none⟩ = some (.slice A0_0 l0_0.length c0_0)) (ds := []) #[false, false, false, false, false] (by kernel_rfl) rfl rfl ⟨(blk_cell BK548.out 0).trans rfl, (blk_cell BK539.out 0).trans rfl⟩ (fun hHeld => ?_)
    generalize w42.drew = w43 at HO543 HO547 BK539 BK548 HB hHeld ⊢
    refine take_ (i := 0) (N := some 22) (v := ?_) (a' := ?_) #[true, false, false, false, false] rfl rfl (by kernel_rfl) (fun _ _ _ h => h) (Or.inl ⟨by rfl, ?_⟩) hHeld ?_ ?_
    rotate_left
    ·rintro w' ⟨s0, s1⟩
     go_simp
     with_reducible rfl
    rotate_left
    ·simp only [Act.put, List.setIfInBounds_toArray, List.set_cons_zero, List.set_cons_succ, i64_w, i32_w]
     rfl
    refine take_ (i := 1) (N := some 23) (v := ?_) (a' := ?_) #[true, true, false, false, false] rfl rfl (by kernel_rfl) (fun _ _ _ h => h) (Or.inl ⟨by rfl, ?_⟩) hHeld ?_ ?_
    rotate_left
    ·rintro w' ⟨s0, s1⟩
     go_simp
     with_reducible rfl
    rotate_left
    ·simp only [Act.put, List.setIfInBounds_toArray, List.set_cons_zero, List.set_cons_succ, i64_w, i32_w]
     rfl
    refine one_ (i := 2) (N := some 24) #[true, true, true, false, false] rfl rfl (by kernel_rfl) (by decide) (fun K hK => ?_)
    refine goes_ Try.func52 (by kernel_rfl) rfl #[.agg #[.slice A0_0 l0_0.length c0_0]] (by rfl) rfl rfl (by (try simp only [List.map_toArray, List.map_cons, List.map_nil]); first | done | rfl | (simp only [List.length_drop, List.length_take]; rfl)) ?_
    with_reducible refine (laws_toStore.calls k _ _ l0_0 t550 _ ?side1 ?side2 A26.out).mono ?_
    (case side1 => repeat (first | exact (Kd.C_below HR0_0.out HB.out) | (with_reducible refine Kd.C_alloc ?_ _) | (with_reducible refine Kd.C_drewN ?_ _) | (with_reducible refine Kd.C_drew ?_)))
    (case side2 => exact HC0_0.out)
    rintro e w44 ⟨v551, rfl, ho0, hb⟩
    refine ⟨_, rfl, ?_⟩
    have n0_ := Aside0.mk (Kd.R_elder' (by (with_reducible repeat (first | apply Kd.R_alloc | apply Kd.R_drewN | apply Kd.R_drew)); exact HO543.out) (Kd.R_base ho0) hb)
    have n1_ := Aside0.mk (Kd.R_elder' (by (with_reducible repeat (first | apply Kd.R_alloc | apply Kd.R_drewN | apply Kd.R_drew)); exact HO547.out) (Kd.R_base ho0) hb)
    have n2_ := Aside0.mk (Kd.R_lower (Kd.R_new' (Kd.R_new' ho0 (Kd.R_lt (by (with_reducible repeat (first | apply Kd.R_alloc | apply Kd.R_drewN | apply Kd.R_drew)); exact HO543.out))) (Kd.R_lt (by (with_reducible repeat (first | apply Kd.R_alloc | apply Kd.R_drewN | apply Kd.R_drew)); exact HO547.out))) (below_size (by repeat (first | (with_reducible first | exact HB.out | apply below_alloc | apply pw_below_drewN | apply below_drew1 | refine below_set ?_ GE539.out | refine below_set ?_ GE548.out) | exact HB.out))))
    have n3_ := Aside0.mk (blk_below (g := gb539) (o := .cells #[.slice A0_0 l0_0.length c0_0] 81 (0, 0)) (by (with_reducible repeat (first | refine blk_drewN ?_ _ | refine blk_drew ?_ | refine blk_alloc ?_ _)); exact BK539.out) hb)
    have n4_ := Aside0.mk (blk_below (g := gb548) (o := .cells #[.slice Ao39 t545.length co39] 48 (0, 0)) (by (with_reducible repeat (first | refine blk_drewN ?_ _ | refine blk_drew ?_ | refine blk_alloc ?_ _)); exact BK548.out) hb)
    have n5_ := Aside0.mk (below_step (by repeat (first | (with_reducible first | exact HB.out | apply below_alloc | apply pw_below_drewN | apply below_drew1 | refine below_set ?_ GE539.out | refine below_set ?_ GE548.out) | exact HB.out)) hb)
    clear HO543
    clear HO547
    clear BK539
    clear BK548
    clear HB
    have HO543 := n0_
    have HO547 := n1_
    have HO552 := n2_
    have BK539 := n3_
    have BK548 := n4_
    have HB := n5_
    clear n0_ n1_ n2_ n3_ n4_ n5_
    (try clear hb)
    (try clear hb2)
    (try clear hk)
    (try clear hi)
    (try clear ho0)
    obtain ⟨Ao45, co45, eo45⟩ := Kd.R_slice HO552.out
    (first | subst eo45 | (injection eo45 with f1_ f2_ f3_; have f4_ := f1_.symm; have f5_ := f3_.symm; clear f1_ f2_ f3_; subst f4_; subst f5_))
    refine hK.out _ _ ⟨(blk_cell BK548.out 0).trans rfl, (blk_cell BK539.out 0).trans rfl⟩ (fun hHeld => ?_)
    clear hK K
    refine norm_ (a' := ?_) ?_ ?_
    rotate_left
    ·show Act.put _ (some 24) _ = _
     simp only [Act.put, List.setIfInBounds_toArray, List.set_cons_zero, List.set_cons_succ, i64_w, i32_w]
     rfl
    refine one_ (i := 3) (N := some 25) #[true, true, true, true, false] rfl rfl (by kernel_rfl) (by decide) (fun K hK => ?_)
    refine goes_ Try.func31 (by kernel_rfl) rfl #[.agg #[.slice Ao39 t545.length co39], .agg #[.slice Ao45 t550.length co45]] (by rfl) rfl rfl (by (try simp only [List.map_toArray, List.map_cons, List.map_nil]); first | done | rfl | (simp only [List.length_drop, List.length_take]; rfl)) ?_
    with_reducible refine (laws_eqStore.calls k _ _ t545 _ _ t550 true _ ?side1 ?side2 ?side3 ?side4 A27.out).mono ?_
    (case side1 => repeat (first | exact (Kd.R_reads' HO547.out).2.2 | (with_reducible refine Kd.C_alloc ?_ _) | (with_reducible refine Kd.C_drewN ?_ _) | (with_reducible refine Kd.C_drew ?_)))
    (case side2 => exact (Kd.R_reads' HO547.out).2.1)
    (case side3 => repeat (first | exact (Kd.R_reads' HO552.out).2.2 | (with_reducible refine Kd.C_alloc ?_ _) | (with_reducible refine Kd.C_drewN ?_ _) | (with_reducible refine Kd.C_drew ?_)))
    (case side4 => exact (Kd.R_reads' HO552.out).2.1)
    rintro e w46 ⟨rfl, hb⟩
    refine ⟨_, rfl, ?_⟩
    have n0_ := Aside0.mk (Kd.R_below (by (with_reducible repeat (first | apply Kd.R_alloc | apply Kd.R_drewN | apply Kd.R_drew)); exact HO543.out) hb)
    have n1_ := Aside0.mk (Kd.R_below (by (with_reducible repeat (first | apply Kd.R_alloc | apply Kd.R_drewN | apply Kd.R_drew)); exact HO547.out) hb)
    have n2_ := Aside0.mk (Kd.R_below (by (with_reducible repeat (first | apply Kd.R_alloc | apply Kd.R_drewN | apply Kd.R_drew)); exact HO552.out) hb)
    have n3_ := Aside0.mk (blk_below (g := gb539) (o := .cells #[.slice A0_0 l0_0.length c0_0] 81 (0, 0)) (by (with_reducible repeat (first | refine blk_drewN ?_ _ | refine blk_drew ?_ | refine blk_alloc ?_ _)); exact BK539.out) hb)
    have n4_ := Aside0.mk (blk_below (g := gb548) (o := .cells #[.slice Ao39 t545.length co39] 48 (0, 0)) (by (with_reducible repeat (first | refine blk_drewN ?_ _ | refine blk_drew ?_ | refine blk_alloc ?_ _)); exact BK548.out) hb)
    have n5_ := Aside0.mk (below_step (by repeat (first | (with_reducible first | exact HB.out | apply below_alloc | apply pw_below_drewN | apply below_drew1 | refine below_set ?_ GE539.out | refine below_set ?_ GE548.out) | exact HB.out)) hb)
    clear HO543
    clear HO547
    clear HO552
    clear BK539
    clear BK548
    clear HB
    have HO543 := n0_
    have HO547 := n1_
    have HO552 := n2_
    have BK539 := n3_
    have BK548 := n4_
    have HB := n5_
    clear n0_ n1_ n2_ n3_ n4_ n5_
    (try clear hb)
    (try clear hb2)
    (try clear hk)
    (try clear hi)
    refine hK.out _ _ ⟨(blk_cell BK548.out 0).trans rfl, (blk_cell BK539.out 0).trans rfl⟩ (fun hHeld => ?_)
    clear hK K
    refine norm_ (a' := ?_) ?_ ?_
    rotate_left
    ·show Act.put _ (some 25) _ = _
     simp only [Act.put, List.setIfInBounds_toArray, List.set_cons_zero, List.set_cons_succ, i64_w, i32_w]
     rfl
    refine pure_ (i := 4) (N := some 26) (v := ?_) (a' := ?_) #[true, true, true, true, true] rfl rfl (by kernel_rfl) (fun _ _ _ h => h) (Or.inl ⟨by rfl, ?_⟩) ?_ ?_
    rotate_left
    ·intro w'
     go_simp
     with_reducible rfl
    rotate_left
    ·simp only [Act.put, List.setIfInBounds_toArray, List.set_cons_zero, List.set_cons_succ, i64_w, i32_w]
     rfl
    refine done_ (by kernel_rfl) ?_
    try go_wp2
    go_ret
    exact ⟨by first | rfl | (simp [errW_none, errW_some] <;> rfl) | (simp [*, errW_none, errW_some] <;> rfl), by repeat (first | (with_reducible first | exact HB.out | apply below_alloc | apply pw_below_drewN | apply below_drew1 | refine below_set ?_ GE539.out | refine below_set ?_ GE548.out) | exact HB.out)⟩
   ·replace c28 := Bool.eq_false_iff.mpr c28
    subst c28
    have H1 : (some false) = some r := by rw [if_neg (show ¬ (false = true) by decide)] at H; exact H
    clear H
    have H := H1
    clear H1
    obtain rfl := Option.some.inj H
    go_enter Try.func13, Try.ntmps13
    try go_wp2_with (first | ((with_reducible refine gate_dst (N := 1) rfl ?_); refine box_event ?hg (N := 1) ?hd (cs := #[.slice A0_0 l0_0.length c0_0]) (t := 81) ?hr ?_; (case hd => rfl); (case hg => rfl); (case hr => first | (go_simp; done) | (go_simp; rfl)); intro gb539 hg w47 hbox hb; have n0_ := Aside0.mk (below_step (by repeat (first | (with_reducible first | exact HB.out | apply below_alloc | apply pw_below_drewN | apply below_drew1) | exact HB.out)) hb); have n1_ := Aside0.mk (hbox); have n2_ := Aside0.mk ((by rw [hg]; exact (below_size (by repeat (first | (with_reducible first | exact HB.out | apply below_alloc | apply pw_below_drewN | apply below_drew1) | exact HB.out))) : w.heap.size ≤ gb539)); have n3_ := Aside0.mk ((by rw [hg]; exact (below_size (by repeat (first | (with_reducible first | exact HB.out | apply below_alloc | apply pw_below_drewN | apply below_drew1) | exact HB.out))) : w.heap.size ≤ gb539)); clear HB; have HB := n0_; have BK539 := n1_; have GW539 := n2_; have GE539 := n3_; clear n0_ n1_ n2_ n3_; clear hb hbox hg; have hcz48_0 : w47.cell? ⟨gb539, 0, none⟩ = some (.slice A0_0 l0_0.length c0_0) := (blk_cell BK539.out 0).trans rfl; have hfz48_0 := blk_frozen BK539.out 0) | ((with_reducible refine at_fn (f := 50) rfl ?_); refine goesL_ (some 9) rfl rfl Try.func50 (by kernel_rfl) rfl #[.agg #[.slice A0_0 l0_0.length c0_0], .int .i64 1048576] rfl (by (try simp only [List.map_toArray, List.map_cons, List.map_nil]); first | done | rfl | (simp only [List.length_drop, List.length_take]; rfl)) ?_; (with_reducible refine (laws_szStore.calls k _ _ l0_0 1048576 t540 _ ?side1 ?side2 A2.out).mono ?_); (case side1 => repeat (first | exact (Kd.C_below HR0_0.out HB.out) | (with_reducible refine Kd.C_alloc ?_ _) | (with_reducible refine Kd.C_drewN ?_ _) | (with_reducible refine Kd.C_drew ?_))); (case side2 => exact HC0_0.out); rintro e w49 ⟨rfl, hb⟩; refine ⟨_, rfl, ?_⟩; have n0_ := Aside0.mk (blk_below (g := gb539) (o := .cells #[.slice A0_0 l0_0.length c0_0] 81 (0, 0)) (by (with_reducible repeat (first | refine blk_drewN ?_ _ | refine blk_drew ?_ | refine blk_alloc ?_ _)); exact BK539.out) hb); have n1_ := Aside0.mk (below_step (by repeat (first | (with_reducible first | exact HB.out | apply below_alloc | apply pw_below_drewN | apply below_drew1 | refine below_set ?_ GE539.out) | exact HB.out)) hb); clear BK539; clear HB; have BK539 := n0_; have HB := n1_; clear n0_ n1_; (try clear hb); (try clear hb2); (try clear hk); (try clear hi); have hcz50_0 : w49.cell? ⟨gb539, 0, none⟩ = some (.slice A0_0 l0_0.length c0_0) := (blk_cell BK539.out 0).trans rfl; have hfz50_0 := blk_frozen BK539.out 0) | ((with_reducible refine at_fn (f := 52) rfl ?_); refine goesL_ (some 13) rfl rfl Try.func52 (by kernel_rfl) rfl #[.agg #[.slice A0_0 l0_0.length c0_0]] rfl (by (try simp only [List.map_toArray, List.map_cons, List.map_nil]); first | done | rfl | (simp only [List.length_drop, List.length_take]; rfl)) ?_; (with_reducible refine (laws_toStore.calls k _ _ l0_0 t541 _ ?side1 ?side2 A7.out).mono ?_); (case side1 => repeat (first | exact (Kd.C_below HR0_0.out HB.out) | (with_reducible refine Kd.C_alloc ?_ _) | (with_reducible refine Kd.C_drewN ?_ _) | (with_reducible refine Kd.C_drew ?_))); (case side2 => exact HC0_0.out); rintro e w51 ⟨v542, rfl, ho0, hb⟩; refine ⟨_, rfl, ?_⟩; have n0_ := Aside0.mk (Kd.R_lower ho0 (below_size (by repeat (first | (with_reducible first | exact HB.out | apply below_alloc | apply pw_below_drewN | apply below_drew1 | refine below_set ?_ GE539.out) | exact HB.out)))); have n1_ := Aside0.mk (blk_below (g := gb539) (o := .cells #[.slice A0_0 l0_0.length c0_0] 81 (0, 0)) (by (with_reducible repeat (first | refine blk_drewN ?_ _ | refine blk_drew ?_ | refine blk_alloc ?_ _)); exact BK539.out) hb); have n2_ := Aside0.mk (below_step (by repeat (first | (with_reducible first | exact HB.out | apply below_alloc | apply pw_below_drewN | apply below_drew1 | refine below_set ?_ GE539.out) | exact HB.out)) hb); clear BK539; clear HB; have HO543 := n0_; have BK539 := n1_; have HB := n2_; clear n0_ n1_ n2_; (try clear hb); (try clear hb2); (try clear hk); (try clear hi); (try clear ho0); obtain ⟨Ao52, co52, eo52⟩ := Kd.R_slice HO543.out; subst eo52) | ((with_reducible refine at_fn (f := 51) rfl ?_); refine goesL_ (some 14) rfl rfl Try.func51 (by kernel_rfl) rfl #[.agg #[.slice Ao52 t541.length co52]] rfl (by (try simp only [List.map_toArray, List.map_cons, List.map_nil]); first | done | rfl | (simp only [List.length_drop, List.length_take]; rfl)) ?_; (with_reducible refine (spec_ValidStore.calls k _ _ t541 t544 _ ?side1 ?side2 A8.out).mono ?_); (case side1 => repeat (first | exact (Kd.R_reads' HO543.out).2.2 | (with_reducible refine Kd.C_alloc ?_ _) | (with_reducible refine Kd.C_drewN ?_ _) | (with_reducible refine Kd.C_drew ?_))); (case side2 => exact (Kd.R_reads' HO543.out).2.1); rintro e w53 ⟨rfl, hb⟩; refine ⟨_, rfl, ?_⟩; have n0_ := Aside0.mk (Kd.R_below (by (with_reducible repeat (first | apply Kd.R_alloc | apply Kd.R_drewN | apply Kd.R_drew)); exact HO543.out) hb); have n1_ := Aside0.mk (blk_below (g := gb539) (o := .cells #[.slice A0_0 l0_0.length c0_0] 81 (0, 0)) (by (with_reducible repeat (first | refine blk_drewN ?_ _ | refine blk_drew ?_ | refine blk_alloc ?_ _)); exact BK539.out) hb); have n2_ := Aside0.mk (below_step (by repeat (first | (with_reducible first | exact HB.out | apply below_alloc | apply pw_below_drewN | apply below_drew1 | refine below_set ?_ GE539.out) | exact HB.out)) hb); clear HO543; clear BK539; clear HB; have HO543 := n0_; have BK539 := n1_; have HB := n2_; clear n0_ n1_ n2_; (try clear hb); (try clear hb2); (try clear hk); (try clear hi); have hcz54_0 : w53.cell? ⟨gb539, 0, none⟩ = some (.slice A0_0 l0_0.length c0_0) := (blk_cell BK539.out 0).trans rfl; have hfz54_0 := blk_frozen BK539.out 0) | ((with_reducible refine at_fn (f := 52) rfl ?_); refine goesL_ (some 16) rfl rfl Try.func52 (by kernel_rfl) rfl #[.agg #[.slice A0_0 l0_0.length c0_0]] rfl (by (try simp only [List.map_toArray, List.map_cons, List.map_nil]); first | done | rfl | (simp only [List.length_drop, List.length_take]; rfl)) ?_; (with_reducible refine (laws_toStore.calls k _ _ l0_0 t545 _ ?side1 ?side2 A9.out).mono ?_); (case side1 => repeat (first | exact (Kd.C_below HR0_0.out HB.out) | (with_reducible refine Kd.C_alloc ?_ _) | (with_reducible refine Kd.C_drewN ?_ _) | (with_reducible refine Kd.C_drew ?_))); (case side2 => exact HC0_0.out); rintro e w55 ⟨v546, rfl, ho0, hb⟩; refine ⟨_, rfl, ?_⟩; have n0_ := Aside0.mk (Kd.R_elder' (by (with_reducible repeat (first | apply Kd.R_alloc | apply Kd.R_drewN | apply Kd.R_drew)); exact HO543.out) (Kd.R_base ho0) hb); have n1_ := Aside0.mk (Kd.R_lower (Kd.R_new' ho0 (Kd.R_lt (by (with_reducible repeat (first | apply Kd.R_alloc | apply Kd.R_drewN | apply Kd.R_drew)); exact HO543.out))) (below_size (by repeat (first | (with_reducible first | exact HB.out | apply below_alloc | apply pw_below_drewN | apply below_drew1 | refine below_set ?_ GE539.out) | exact HB.out)))); have n2_ := Aside0.mk (blk_below (g := gb539) (o := .cells #[.slice A0_0 l0_0.length c0_0] 81 (0, 0)) (by (with_reducible repeat (first | refine blk_drewN ?_ _ | refine blk_drew ?_ | refine blk_alloc ?_ _)); exact BK539.out) hb); have n3_ := Aside0.mk (below_step (by repeat (first | (with_reducible first | exact HB.out | apply below_alloc | apply pw_below_drewN | apply below_drew1 | refine below_set ?_ GE539.out) | exact HB.out)) hb); clear HO543; clear BK539; clear HB; have HO543 := n0_; have HO547 := n1_; have BK539 := n2_; have HB := n3_; clear n0_ n1_ n2_ n3_; (try clear hb); (try clear hb2); (try clear hk); (try clear hi); (try clear ho0)) | ((with_reducible refine gate_dst (N := 5) rfl ?_); refine box_event ?hg (N := 5) ?hd (cs := #[.slice none 0 0]) (t := 48) ?hr ?_; (case hd => rfl); (case hg => rfl); (case hr => first | (go_simp; done) | (go_simp; rfl)); intro gb548 hg w56 hbox hb; have n0_ := Aside0.mk (Kd.R_below (by (with_reducible repeat (first | apply Kd.R_alloc | apply Kd.R_drewN | apply Kd.R_drew)); exact HO543.out) hb); have n1_ := Aside0.mk (Kd.R_below (by (with_reducible repeat (first | apply Kd.R_alloc | apply Kd.R_drewN | apply Kd.R_drew)); exact HO547.out) hb); have n2_ := Aside0.mk (blk_below (g := gb539) (o := .cells #[.slice A0_0 l0_0.length c0_0] 81 (0, 0)) (by (with_reducible repeat (first | refine blk_drewN ?_ _ | refine blk_drew ?_ | refine blk_alloc ?_ _)); exact BK539.out) hb); have n3_ := Aside0.mk (below_step (by repeat (first | (with_reducible first | exact HB.out | apply below_alloc | apply pw_below_drewN | apply below_drew1 | refine below_set ?_ GE539.out) | exact HB.out)) hb); have n4_ := Aside0.mk (hbox); have n5_ := Aside0.mk ((by rw [hg]; exact (below_size (by repeat (first | (with_reducible first | exact HB.out | apply below_alloc | apply pw_below_drewN | apply below_drew1 | refine below_set ?_ GE539.out) | exact HB.out))) : w.heap.size ≤ gb548)); have n6_ := Aside0.mk ((by rw [hg]; exact (below_size (by repeat (first | (with_reducible first | exact HB.out | apply below_alloc | apply pw_below_drewN | apply below_drew1 | refine below_set ?_ GE539.out) | exact HB.out))) : w.heap.size ≤ gb548)); have n7_ := Aside0.mk ((by rw [hg]; exact Nat.ne_of_lt (blk_lt (g := gb539) (o := .cells #[.slice A0_0 l0_0.length c0_0] 81 (0, 0)) (by (with_reducible repeat (first | refine blk_drewN ?_ _ | refine blk_drew ?_ | refine blk_alloc ?_ _)); exact BK539.out)) : gb539 ≠ gb548)); have n8_ := Aside0.mk ((by rw [hg]; exact Nat.ne_of_gt (blk_lt (g := gb539) (o := .cells #[.slice A0_0 l0_0.length c0_0] 81 (0, 0)) (by (with_reducible repeat (first | refine blk_drewN ?_ _ | refine blk_drew ?_ | refine blk_alloc ?_ _)); exact BK539.out)) : gb548 ≠ gb539)); clear HO543; clear HO547; clear BK539; clear HB; have HO543 := n0_; have HO547 := n1_; have BK539 := n2_; have HB := n3_; have BK548 := n4_; have GW548 := n5_; have GE548 := n6_; have NB539_548 := n7_; have NB548_539 := n8_; clear n0_ n1_ n2_ n3_ n4_ n5_ n6_ n7_ n8_; clear hb hbox hg; obtain ⟨Ao57, co57, eo57⟩ := Kd.R_slice HO547.out; subst eo57; have hnb58 := NB548_539.out; have hnc58 := NB539_548.out; have hcz59_0 : w56.cell? ⟨gb548, 0, none⟩ = some (.slice none 0 0) := (blk_cell BK548.out 0).trans rfl; have hfz59_0 := blk_frozen BK548.out 0) | ((with_reducible refine at_fn (f := 53) rfl ?_); refine goesL_ (some 18) rfl rfl Try.func53 (by kernel_rfl) rfl #[.agg #[.slice Ao57 t545.length co57]] rfl (by (try simp only [List.map_toArray, List.map_cons, List.map_nil]); first | done | rfl | (simp only [List.length_drop, List.length_take]; rfl)) ?_; (with_reducible refine (impl_ValidStore.calls k _ _ t545 t549 _ ?side1 ?side2 A10.out).mono ?_); (case side1 => refine (Kd.R_reads' (e := 98) (base := w.heap.size) (ok := fun k_ => (True ∧ some k_ ≠ (.slice Ao52 t541.length co52 : Value).ownBlock)) (n := t545.length) (c := co57) ?_).2.2; exact (by (with_reducible repeat (first | apply Kd.R_alloc | apply Kd.R_drewN | apply Kd.R_drew)); exact (Kd.R_mono (Kd.R_far (p := ⟨gb548, 0, none⟩) (Kd.R_types HO547.out BK548.out (by decide)) (fun _ hk => hk.2) (.slice Ao57 t545.length co57)) (fun _ h_ => h_.1)))); (case side2 => exact (Kd.R_reads' HO547.out).2.1); rintro e w60 ⟨rfl, hb⟩; refine ⟨_, rfl, ?_⟩; have n0_ := Aside0.mk (Kd.R_below (by (with_reducible repeat (first | apply Kd.R_alloc | apply Kd.R_drewN | apply Kd.R_drew)); exact (Kd.R_mono (Kd.R_far (p := ⟨gb548, 0, none⟩) (Kd.R_types HO543.out BK548.out (by decide)) (fun _ hk => hk.2) (.slice Ao57 t545.length co57)) (fun _ h_ => h_.1))) hb); have n1_ := Aside0.mk (Kd.R_below (by (with_reducible repeat (first | apply Kd.R_alloc | apply Kd.R_drewN | apply Kd.R_drew)); exact (Kd.R_mono (Kd.R_far (p := ⟨gb548, 0, none⟩) (Kd.R_types HO547.out BK548.out (by decide)) (fun _ hk => hk.2) (.slice Ao57 t545.length co57)) (fun _ h_ => h_.1))) hb); have n2_ := Aside0.mk (blk_below (g := gb539) (o := .cells #[.slice A0_0 l0_0.length c0_0] 81 (0, 0)) (by (with_reducible repeat (first | refine blk_drewN ?_ _ | refine blk_drew ?_ | refine blk_alloc ?_ _)); refine blk_far ?_ NB539_548.out _; (with_reducible repeat (first | refine blk_drewN ?_ _ | refine blk_drew ?_ | refine blk_alloc ?_ _)); exact BK539.out) hb); have n3_ := Aside0.mk (blk_below (g := gb548) (o := .cells #[.slice Ao57 t545.length co57] 48 (0, 0)) (by (with_reducible repeat (first | refine blk_drewN ?_ _ | refine blk_drew ?_ | refine blk_alloc ?_ _)); refine blk_put (cs := #[.slice none 0 0]) ?_ 0 _ rfl; (with_reducible repeat (first | refine blk_drewN ?_ _ | refine blk_drew ?_ | refine blk_alloc ?_ _)); exact BK548.out) hb); have n4_ := Aside0.mk (below_step (by repeat (first | (with_reducible first | exact HB.out | apply below_alloc | apply pw_below_drewN | apply below_drew1 | refine below_set ?_ GE539.out | refine below_set ?_ GE548.out) | exact HB.out)) hb); clear HO543; clear HO547; clear BK539; clear BK548; clear HB; have HO543 := n0_; have HO547 := n1_; have BK539 := n2_; have BK548 := n3_; have HB := n4_; clear n0_ n1_ n2_ n3_ n4_; (try clear hb); (try clear hb2); (try clear hk); (try clear hi)))
    have n0_ := Aside0.mk (Kd.R_drew HO543.out)
    have n1_ := Aside0.mk (Kd.R_drew HO547.out)
    have n2_ := Aside0.mk (blk_drew BK539.out)
    have n3_ := Aside0.mk (blk_drew BK548.out)
    have n4_ := Aside0.mk (below_drew1 HB.out)
    clear HO543
    clear HO547
    clear BK539
    clear BK548
    clear HB
    have HO543 := n0_
    have HO547 := n1_
    have BK539 := n2_
    have BK548 := n3_
    have HB := n4_
    clear n0_ n1_ n2_ n3_ n4_
    refine start_ (n := 5) (S := fun w' => w'.cell? ⟨gb548, 0, none⟩ = some (.slice Ao57 t545.length co57) ∧ w'.cell? ⟨gb539, 0, none⟩ = some (.slice A0_0 l0_0.length c0_0)) (ds := []) #[false, false, false, false, false] (by kernel_rfl) rfl rfl ⟨(blk_cell BK548.out 0).trans rfl, (blk_cell BK539.out 0).trans rfl⟩ (fun hHeld => ?_)
    generalize w60.drew = w61 at HO543 HO547 BK539 BK548 HB hHeld ⊢
    refine take_ (i := 0) (N := some 22) (v := ?_) (a' := ?_) #[true, false, false, false, false] rfl rfl (by kernel_rfl) (fun _ _ _ h => h) (Or.inl ⟨by rfl, ?_⟩) hHeld ?_ ?_
    rotate_left
    ·rintro w' ⟨s0, s1⟩
     go_simp
     with_reducible rfl
    rotate_left
    ·simp only [Act.put, List.setIfInBounds_toArray, List.set_cons_zero, List.set_cons_succ, i64_w, i32_w]
     rfl
    refine take_ (i := 1) (N := some 23) (v := ?_) (a' := ?_) #[true, true, false, false, false] rfl rfl (by kernel_rfl) (fun _ _ _ h => h) (Or.inl ⟨by rfl, ?_⟩) hHeld ?_ ?_
    rotate_left
    ·rintro w' ⟨s0, s1⟩
     go_simp
     with_reducible rfl
    rotate_left
    ·simp only [Act.put, List.setIfInBounds_toArray, List.set_cons_zero, List.set_cons_succ, i64_w, i32_w]
     rfl
    refine one_ (i := 2) (N := some 24) #[true, true, true, false, false] rfl rfl (by kernel_rfl) (by decide) (fun K hK => ?_)
    refine goes_ Try.func52 (by kernel_rfl) rfl #[.agg #[.slice A0_0 l0_0.length c0_0]] (by rfl) rfl rfl (by (try simp only [List.map_toArray, List.map_cons, List.map_nil]); first | done | rfl | (simp only [List.length_drop, List.length_take]; rfl)) ?_
    with_reducible refine (laws_toStore.calls k _ _ l0_0 t550 _ ?side1 ?side2 A26.out).mono ?_
    (case side1 => repeat (first | exact (Kd.C_below HR0_0.out HB.out) | (with_reducible refine Kd.C_alloc ?_ _) | (with_reducible refine Kd.C_drewN ?_ _) | (with_reducible refine Kd.C_drew ?_)))
    (case side2 => exact HC0_0.out)
    rintro e w62 ⟨v551, rfl, ho0, hb⟩
    refine ⟨_, rfl, ?_⟩
    have n0_ := Aside0.mk (Kd.R_elder' (by (with_reducible repeat (first | apply Kd.R_alloc | apply Kd.R_drewN | apply Kd.R_drew)); exact HO543.out) (Kd.R_base ho0) hb)
    have n1_ := Aside0.mk (Kd.R_elder' (by (with_reducible repeat (first | apply Kd.R_alloc | apply Kd.R_drewN | apply Kd.R_drew)); exact HO547.out) (Kd.R_base ho0) hb)
    have n2_ := Aside0.mk (Kd.R_lower (Kd.R_new' (Kd.R_new' ho0 (Kd.R_lt (by (with_reducible repeat (first | apply Kd.R_alloc | apply Kd.R_drewN | apply Kd.R_drew)); exact HO543.out))) (Kd.R_lt (by (with_reducible repeat (first | apply Kd.R_alloc | apply Kd.R_drewN | apply Kd.R_drew)); exact HO547.out))) (below_size (by repeat (first | (with_reducible first | exact HB.out | apply below_alloc | apply pw_below_drewN | apply below_drew1 | refine below_set ?_ GE539.out | refine below_set ?_ GE548.out) | exact HB.out))))
    have n3_ := Aside0.mk (blk_below (g := gb539) (o := .cells #[.slice A0_0 l0_0.length c0_0] 81 (0, 0)) (by (with_reducible repeat (first | refine blk_drewN ?_ _ | refine blk_drew ?_ | refine blk_alloc ?_ _)); exact BK539.out) hb)
    have n4_ := Aside0.mk (blk_below (g := gb548) (o := .cells #[.slice Ao57 t545.length co57] 48 (0, 0)) (by (with_reducible repeat (first | refine blk_drewN ?_ _ | refine blk_drew ?_ | refine blk_alloc ?_ _)); exact BK548.out) hb)
    have n5_ := Aside0.mk (below_step (by repeat (first | (with_reducible first | exact HB.out | apply below_alloc | apply pw_below_drewN | apply below_drew1 | refine below_set ?_ GE539.out | refine below_set ?_ GE548.out) | exact HB.out)) hb)
    clear HO543
    clear HO547
    clear BK539
    clear BK548
    clear HB
    have HO543 := n0_
    have HO547 := n1_
    have HO552 := n2_
    have BK539 := n3_
    have BK548 := n4_
    have HB := n5_
    clear n0_ n1_ n2_ n3_ n4_ n5_
    (try clear hb)
    (try clear hb2)
    (try clear hk)
    (try clear hi)
    (try clear ho0)
    obtain ⟨Ao63, co63, eo63⟩ := Kd.R_slice HO552.out
    (first | subst eo63 | (injection eo63 with f1_ f2_ f3_; have f4_ := f1_.symm; have f5_ := f3_.symm; clear f1_ f2_ f3_; subst f4_; subst f5_))
    refine hK.out _ _ ⟨(blk_cell BK548.out 0).trans rfl, (blk_cell BK539.out 0).trans rfl⟩ (fun hHeld => ?_)
    clear hK K
    refine norm_ (a' := ?_) ?_ ?_
    rotate_left
    ·show Act.put _ (some 24) _ = _
     simp only [Act.put, List.setIfInBounds_toArray, List.set_cons_zero, List.set_cons_succ, i64_w, i32_w]
     rfl
    refine one_ (i := 3) (N := some 25) #[true, true, true, true, false] rfl rfl (by kernel_rfl) (by decide) (fun K hK => ?_)
    refine goes_ Try.func31 (by kernel_rfl) rfl #[.agg #[.slice Ao57 t545.length co57], .agg #[.slice Ao63 t550.length co63]] (by rfl) rfl rfl (by (try simp only [List.map_toArray, List.map_cons, List.map_nil]); first | done | rfl | (simp only [List.length_drop, List.length_take]; rfl)) ?_
    with_reducible refine (laws_eqStore.calls k _ _ t545 _ _ t550 false _ ?side1 ?side2 ?side3 ?side4 A27.out).mono ?_
    (case side1 => repeat (first | exact (Kd.R_reads' HO547.out).2.2 | (with_reducible refine Kd.C_alloc ?_ _) | (with_reducible refine Kd.C_drewN ?_ _) | (with_reducible refine Kd.C_drew ?_)))
    (case side2 => exact (Kd.R_reads' HO547.out).2.1)
    (case side3 => repeat (first | exact (Kd.R_reads' HO552.out).2.2 | (with_reducible refine Kd.C_alloc ?_ _) | (with_reducible refine Kd.C_drewN ?_ _) | (with_reducible refine Kd.C_drew ?_)))
    (case side4 => exact (Kd.R_reads' HO552.out).2.1)
    rintro e w64 ⟨rfl, hb⟩
    refine ⟨_, rfl, ?_⟩
    have n0_ := Aside0.mk (Kd.R_below (by (with_reducible repeat (first | apply Kd.R_alloc | apply Kd.R_drewN | apply Kd.R_drew)); exact HO543.out) hb)
    have n1_ := Aside0.mk (Kd.R_below (by (with_reducible repeat (first | apply Kd.R_alloc | apply Kd.R_drewN | apply Kd.R_drew)); exact HO547.out) hb)
    have n2_ := Aside0.mk (Kd.R_below (by (with_reducible repeat (first | apply Kd.R_alloc | apply Kd.R_drewN | apply Kd.R_drew)); exact HO552.out) hb)
    have n3_ := Aside0.mk (blk_below (g := gb539) (o := .cells #[.slice A0_0 l0_0.length c0_0] 81 (0, 0)) (by (with_reducible repeat (first | refine blk_drewN ?_ _ | refine blk_drew ?_ | refine blk_alloc ?_ _)); exact BK539.out) hb)
    have n4_ := Aside0.mk (blk_below (g := gb548) (o := .cells #[.slice Ao57 t545.length co57] 48 (0, 0)) (by (with_reducible repeat (first | refine blk_drewN ?_ _ | refine blk_drew ?_ | refine blk_alloc ?_ _)); exact BK548.out) hb)
    have n5_ := Aside0.mk (below_step (by repeat (first | (with_reducible first | exact HB.out | apply below_alloc | apply pw_below_drewN | apply below_drew1 | refine below_set ?_ GE539.out | refine below_set ?_ GE548.out) | exact HB.out)) hb)
    clear HO543
    clear HO547
    clear HO552
    clear BK539
    clear BK548
    clear HB
    have HO543 := n0_
    have HO547 := n1_
    have HO552 := n2_
    have BK539 := n3_
    have BK548 := n4_
    have HB := n5_
    clear n0_ n1_ n2_ n3_ n4_ n5_
    (try clear hb)
    (try clear hb2)
    (try clear hk)
    (try clear hi)
    refine hK.out _ _ ⟨(blk_cell BK548.out 0).trans rfl, (blk_cell BK539.out 0).trans rfl⟩ (fun hHeld => ?_)
    clear hK K
    refine norm_ (a' := ?_) ?_ ?_
    rotate_left
    ·show Act.put _ (some 25) _ = _
     simp only [Act.put, List.setIfInBounds_toArray, List.set_cons_zero, List.set_cons_succ, i64_w, i32_w]
     rfl
    refine pure_ (i := 4) (N := some 26) (v := ?_) (a' := ?_) #[true, true, true, true, true] rfl rfl (by kernel_rfl) (fun _ _ _ h => h) (Or.inl ⟨by rfl, ?_⟩) ?_ ?_
    rotate_left
    ·intro w'
     go_simp
     with_reducible rfl
    rotate_left
    ·simp only [Act.put, List.setIfInBounds_toArray, List.set_cons_zero, List.set_cons_succ, i64_w, i32_w]
     rfl
    refine done_ (by kernel_rfl) ?_
    try go_wp2
    go_ret
    exact ⟨by first | rfl | (simp [errW_none, errW_some] <;> rfl) | (simp [*, errW_none, errW_some] <;> rfl), by repeat (first | (with_reducible first | exact HB.out | apply below_alloc | apply pw_below_drewN | apply below_drew1 | refine below_set ?_ GE539.out | refine below_set ?_ GE548.out) | exact HB.out)⟩

end Go.Proofs.Ytdknjbadnbangaa.Q

namespace Go.Proofs.Ytdknjbadnbangaa.Q
open Go.RowKit Go.Proofs.YtdknjbadnbangaaW.PrintWords Go.Proofs.YtdknjbadnbangaaW.PrintLast
set_option linter.unusedVariables false

/-- The law over lists and numbers. -/
def laws_FnExactValidStore.Pure : Prop := ∀ (l0_0 : List (S165)), (l0_0.length ≤ maxLen ∧ ∀ x_ ∈ l0_0, ok165 x_) → ∃ k, laws_FnExactValidStore.f k l0_0 = some true
end Go.Proofs.Ytdknjbadnbangaa.Q

namespace Go.Proofs.Ytdknjbadnbangaa.Q
open Go.RowKit Go.Proofs.YtdknjbadnbangaaW.PrintWords Go.Proofs.YtdknjbadnbangaaW.PrintLast
set_option linter.unusedVariables false
set_option linter.unusedSimpArgs false
theorem strcmp_is (a b : ByteArray) : strings_Compare.f a b = some (scmp a b) := rfl
theorem or_is (n : Nat) (a b c d e : Int) : cmp_Or_int.f (n + 6) [a, b, c, d, e] = some (fst0 a (fst0 b (fst0 c (fst0 d e)))) := by
  unfold cmp_Or_int.f
  have w : ∀ i : Int, 0 ≤ i → i < 10 → wrap64 (i + 1) = i + 1 := fun i h0 h1 => by unfold wrap64; omega
  have l : (([a, b, c, d, e] : List Int).length : Int) = 5 := rfl
  rw [l]
  simp only [cmp_Or_int.l0, rd, l]
  rw [w 0 (by omega) (by omega)]; simp only [Int.zero_add]; rw [w 1 (by omega) (by omega), w (1 + 1) (by omega) (by omega), w (1 + 1 + 1) (by omega) (by omega), w (1 + 1 + 1 + 1) (by omega) (by omega)]
  simp only [fst0]
  by_cases ha : a = 0 <;> by_cases hb : b = 0 <;> by_cases hc : c = 0 <;> by_cases hd : d = 0 <;> by_cases he : e = 0 <;> simp [ha, hb, hc, hd, he]
theorem cmpint_is (a b : Int) : cmp_Compare_int.f a b = some (if a < b then -1 else if a > b then 1 else 0) := by
  unfold cmp_Compare_int.f cmp_isNaN_int.f
  simp only [Option.bind_some, bne_self_eq_false, Bool.false_eq_true, if_false]
  repeat' (first | rfl | split)
theorem cmpu64_is (a b : Int) : cmp_Compare_uint64.f a b = some (if a < b then -1 else if a > b then 1 else 0) := by
  unfold cmp_Compare_uint64.f cmp_isNaN_uint64.f
  simp only [Option.bind_some, bne_self_eq_false, Bool.false_eq_true, if_false]
  repeat' (first | rfl | split)
theorem impl_cmp_is (n : Nat) (r f q : ByteArray) (t k : Int) (v r' f' q' : ByteArray) (t' k' : Int) (v' : ByteArray) :
    impl_Entry_compare.f (n + 6) r f q t k v r' f' q' t' k' v' = some (cmpK r f q t k r' f' q' t' k') := by
  unfold impl_Entry_compare.f impl_Entry_marks.f
  have hm : ∀ x : Int, (if x = 2 then some 0 else some 1 : Option Int) = some (if x = 2 then 0 else 1) := fun x => by split <;> rfl
  simp only [strcmp_is, hm, cmpint_is, cmpu64_is, Option.bind_some, or_is]
  congr 1
  unfold cmpK
  have e1 : (if (if k = 2 then (0 : Int) else 1) < (if k' = 2 then 0 else 1) then (-1 : Int) else if (if k = 2 then (0 : Int) else 1) > (if k' = 2 then 0 else 1) then 1 else 0) = kcmp k k' := by
    unfold kcmp
    by_cases h1 : k = 2 <;> by_cases h2 : k' = 2 <;> simp [h1, h2]
  rw [e1]
  have e2 : (if t' < t then (-1 : Int) else if t' > t then 1 else 0) = tcmp t t' := by
    unfold tcmp
    rfl
  rw [e2]
theorem impl_cmp_ge (m : Nat) (hm : 6 ≤ m) (r f q : ByteArray) (t k : Int) (v r' f' q' : ByteArray) (t' k' : Int) (v' : ByteArray) :
    impl_Entry_compare.f m r f q t k v r' f' q' t' k' v' = some (cmpK r f q t k r' f' q' t' k') := by
  obtain ⟨n, rfl⟩ : ∃ n, m = n + 6 := ⟨m - 6, by omega⟩
  exact impl_cmp_is ..
end Go.Proofs.Ytdknjbadnbangaa.Q

namespace Go.Proofs.Ytdknjbadnbangaa.Q
open Go.RowKit Go.Proofs.YtdknjbadnbangaaW.PrintWords Go.Proofs.YtdknjbadnbangaaW.PrintLast
set_option linter.unusedVariables false
set_option linter.unusedSimpArgs false
abbrev LE := S32
abbrev IE := S35
theorem szEntry_is (x : LE) (n : Int) (h0 : 0 ≤ n) (h1 : n ≤ 1048576) (hx : ok32 x) :
    ∃ t, laws_szEntry.f x.f0 x.f1 x.f2 x.f3 x.f4 x.f5 n = some t ∧ (t < 0 ∨ (0 ≤ t ∧ t ≤ n)) := by
  obtain ⟨s0, s1, s2, _, _, s5⟩ := hx
  simp only [maxLen] at s0 s1 s2 s5
  unfold laws_szEntry.f
  rw [wrap_id (n - (x.f0.size : Int)) (by omega) (by omega)]
  split
  · exact ⟨_, rfl, .inl (by omega)⟩
  rw [wrap_id (n - (x.f0.size : Int) - (x.f1.size : Int)) (by omega) (by omega)]
  split
  · exact ⟨_, rfl, .inl (by omega)⟩
  rw [wrap_id (n - (x.f0.size : Int) - (x.f1.size : Int) - (x.f2.size : Int)) (by omega) (by omega)]
  split
  · exact ⟨_, rfl, .inl (by omega)⟩
  rw [wrap_id (n - (x.f0.size : Int) - (x.f1.size : Int) - (x.f2.size : Int) - (x.f5.size : Int)) (by omega) (by omega)]
  split
  · exact ⟨_, rfl, .inl (by omega)⟩
  · exact ⟨_, rfl, .inr ⟨by omega, by omega⟩⟩
theorem szEntryS_loop (xs : List LE) (hb : xs.length < 4611686018427387904) : ∀ (rest pre : List LE) (n : Int), xs = pre ++ rest → (∀ x ∈ rest, ok32 x) → 0 ≤ n → n ≤ 1048576 →
    ∃ t, Ev (fun k => laws_szEntryS.l0 k xs n (pre.length : Int)) t ∧ (t < 0 ∨ (0 ≤ t ∧ t ≤ n)) := by
  intro rest
  induction rest with
  | nil =>
    intro pre n e _ h0 h1
    refine ⟨n, Ev.shift 1 fun k => ?_, .inr ⟨h0, Int.le_refl _⟩⟩
    simp only [laws_szEntryS.l0]; rw [if_neg (by rw [e]; simp)]
  | cons x rest ih =>
    intro pre n e hok h0 h1
    have hlt : pre.length < xs.length := by rw [e]; exact len_cut _ _ _
    have hr : rd_T32 xs (pre.length : Int) = x := by unfold rd_T32; rw [Int.toNat_natCast, e, getD_cut]
    obtain ⟨t, ht, h2⟩ := szEntry_is x n h0 h1 (hok x List.mem_cons_self)
    rcases h2 with h2 | ⟨h2, h3⟩
    · refine ⟨-1, Ev.shift 1 fun k => ?_, .inl (by omega)⟩
      simp only [laws_szEntryS.l0]; rw [if_pos (by omega), if_pos (by omega), hr, ht]; simp only [Option.bind_some]; rw [if_pos h2]
    · obtain ⟨u, hu, h4⟩ := ih (pre ++ [x]) t (by simp [e]) (fun y hy => hok y (List.mem_cons_of_mem _ hy)) h2 (by omega)
      refine ⟨u, Ev.round (fun k => ?_) hu, by omega⟩
      simp only [laws_szEntryS.l0]; rw [if_pos (by omega), if_pos (by omega), hr, ht]; simp only [Option.bind_some]; rw [if_neg (by omega), wrap_nat _ (by omega)]; simp
theorem szEntryS_is (xs : List LE) (n : Int) (hl : xs.length ≤ maxLen) (hok : ∀ x ∈ xs, ok32 x) (h0 : 0 ≤ n) (h1 : n ≤ 1048576) :
    ∃ t, Ev (fun k => laws_szEntryS.f k xs n) t ∧ (t < 0 ∨ (0 ≤ t ∧ t + xs.length ≤ n)) := by
  simp only [maxLen] at hl
  unfold laws_szEntryS.f
  rw [wrap_id _ (by omega) (by omega)]
  by_cases h : n - (xs.length : Int) < 0
  · exact ⟨-1, Ev.if_pos h (Ev.now _), .inl (by omega)⟩
  · obtain ⟨t, ht, h2⟩ := szEntryS_loop xs (by omega) xs [] (n - xs.length) rfl hok (by omega) (by omega)
    exact ⟨t, Ev.if_neg h ht, by omega⟩
def cvE (x : LE) : IE := ⟨x.f0, x.f1, x.f2, x.f3, x.f4, x.f5⟩
theorem toEntryS_loop (xs : List LE) (hb : xs.length < 4611686018427387904) : ∀ (rest pre : List LE), xs = pre ++ rest →
    Ev (fun k => laws_toEntryS.l0 k xs (pre.map cvE ++ List.replicate rest.length z35) (pre.length : Int)) (xs.map cvE) := by
  intro rest
  induction rest with
  | nil =>
    intro pre e
    refine Ev.shift 1 fun k => ?_
    simp only [laws_toEntryS.l0]; rw [if_neg (by rw [e]; simp), e]; simp
  | cons x rest ih =>
    intro pre e
    have hlt : pre.length < xs.length := by rw [e]; exact len_cut _ _ _
    have hr : rd_T32 xs (pre.length : Int) = x := by unfold rd_T32; rw [Int.toNat_natCast, e, getD_cut]
    have h := ih (pre ++ [x]) (by simp [e])
    refine Ev.round (fun k => ?_) h
    simp only [laws_toEntryS.l0]; rw [if_pos (by omega), if_pos (by omega), hr]; simp only [laws_toEntry.f, Option.bind_some]
    rw [if_pos (by simp; omega), wrap_nat _ (by omega), Int.toNat_natCast]
    have hs := set_fill (pre.map cvE) z35 (cvE x) rest.length
    rw [List.length_map] at hs
    rw [List.length_cons]
    have hs' : (pre.map cvE ++ List.replicate (rest.length + 1) z35).set pre.length ⟨x.f0, x.f1, x.f2, x.f3, x.f4, x.f5⟩ = _ := hs
    rw [hs']; simp
theorem toEntryS_is (xs : List LE) (hl : xs.length ≤ 1048576) : Ev (fun k => laws_toEntryS.f k xs) (xs.map cvE) := by
  have h := toEntryS_loop xs (by omega) xs [] rfl
  unfold laws_toEntryS.f
  simp only [Int.toNat_natCast]
  refine Ev.if_pos (by omega) (Ev.if_pos (by omega) ?_)
  simpa using h
theorem eqEntry_refl (x : IE) : laws_eqEntry.f x.f0 x.f1 x.f2 x.f3 x.f4 x.f5 x.f0 x.f1 x.f2 x.f3 x.f4 x.f5 = some true := by simp [laws_eqEntry.f]
theorem eqEntryS_loop (xs : List IE) (hb : xs.length < 4611686018427387904) : ∀ (rest pre : List IE), xs = pre ++ rest → Ev (fun k => laws_eqEntryS.l0 k xs xs (pre.length : Int)) true := by
  intro rest
  induction rest with
  | nil => intro pre e; exact Ev.shift 1 fun k => by simp only [laws_eqEntryS.l0]; rw [if_neg (by rw [e]; simp)]
  | cons x rest ih =>
    intro pre e
    have hlt : pre.length < xs.length := by rw [e]; exact len_cut _ _ _
    have h := ih (pre ++ [x]) (by simp [e])
    refine Ev.round (fun k => ?_) h
    simp only [laws_eqEntryS.l0]; rw [if_pos (by omega), if_pos (by omega), if_pos (by omega), eqEntry_refl]; simp only [Option.bind_some, if_true]; rw [wrap_nat _ (by omega)]; simp
theorem eqEntryS_refl (xs : List IE) (hb : xs.length < 4611686018427387904) : Ev (fun k => laws_eqEntryS.f k xs xs) true :=
  Ev.if_pos rfl (eqEntryS_loop xs hb xs [] rfl)
/-! a valid entry -/
def vent (e : IE) : Bool := decide ((e.f0.size : Int) ≥ 1) && (decide ((e.f0.size : Int) ≤ 64) && (decide ((e.f1.size : Int) ≥ 1) && (decide ((e.f1.size : Int) ≤ 16) && (decide ((e.f2.size : Int) ≤ 64) && (decide ((e.f5.size : Int) ≤ 200) && (decide (e.f4 ≥ 0) && (decide (e.f4 ≤ 2) && (decide (e.f4 = 0) || e.f5.toList == []))))))))
theorem implValidEntry_is (e : IE) : impl_ValidEntry.f e.f0 e.f1 e.f2 e.f3 e.f4 e.f5 = some (vent e) := by
  have st : ∀ (c : Prop) [Decidable c] (a : Option Bool) (b : Bool), a = some b → (if c then a else some false) = some (decide c && b) := fun c _ a b h => by by_cases hc : c <;> simp [hc, h]
  unfold impl_ValidEntry.f vent
  refine st _ _ _ (st _ _ _ (st _ _ _ (st _ _ _ (st _ _ _ (st _ _ _ (st _ _ _ (st _ _ _ ?_)))))))
  by_cases h : e.f4 = 0
  · rw [if_pos h]; simp [h]
  · rw [if_neg h]; simp [h]
theorem specValidEntry_is (e : IE) : spec_ValidEntry.f e.f0 e.f1 e.f2 e.f3 e.f4 e.f5 = some (vent e) := implValidEntry_is e
/-! a valid run -/
def cmpE (a b : IE) : Int := cmpK a.f0 a.f1 a.f2 a.f3 a.f4 b.f0 b.f1 b.f2 b.f3 b.f4
def sameCol (a b : IE) : Bool := a.f0.toList == b.f0.toList && (a.f1.toList == b.f1.toList && a.f2.toList == b.f2.toList)
def nextOk (p e : IE) : Bool := decide (cmpE p e = -1) && !(decide (p.f4 = 2) && decide (e.f4 = 2) && sameCol p e)
def vfrom : IE → List IE → Bool
  | _, [] => true
  | p, e :: es => vent e && nextOk p e && vfrom e es
def vall : List IE → Bool
  | [] => true
  | e :: es => vent e && vfrom e es
def vrun (xs : List IE) : Bool := decide (xs.length ≤ 10000) && vall xs
theorem cmpK_range (r f q : ByteArray) (t k : Int) (r' f' q' : ByteArray) (t' k' : Int) : cmpK r f q t k r' f' q' t' k' = -1 ∨ cmpK r f q t k r' f' q' t' k' = 0 ∨ cmpK r f q t k r' f' q' t' k' = 1 := by
  have hs : ∀ a b, scmp a b = -1 ∨ scmp a b = 0 ∨ scmp a b = 1 := fun a b => by unfold scmp; repeat' (first | split | simp)
  have hk : ∀ a b, kcmp a b = -1 ∨ kcmp a b = 0 ∨ kcmp a b = 1 := fun a b => by unfold kcmp; repeat' (first | split | simp)
  have ht : ∀ a b, tcmp a b = -1 ∨ tcmp a b = 0 ∨ tcmp a b = 1 := fun a b => by unfold tcmp; repeat' (first | split | simp)
  have hf : ∀ a b : Int, (a = -1 ∨ a = 0 ∨ a = 1) → (b = -1 ∨ b = 0 ∨ b = 1) → (fst0 a b = -1 ∨ fst0 a b = 0 ∨ fst0 a b = 1) := fun a b h1 h2 => by unfold fst0; split <;> assumption
  exact hf _ _ (hs _ _) (hf _ _ (hs _ _) (hf _ _ (hs _ _) (hf _ _ (hk _ _) (ht _ _))))
theorem cmpE_range (a b : IE) : cmpE a b = -1 ∨ cmpE a b = 0 ∨ cmpE a b = 1 := cmpK_range ..
theorem sameColumn_is (a b : IE) : spec_l1SameColumn.f a.f0 a.f1 a.f2 a.f3 a.f4 a.f5 b.f0 b.f1 b.f2 b.f3 b.f4 b.f5 = some (sameCol a b) := by
  unfold spec_l1SameColumn.f sameCol
  by_cases h1 : a.f0.toList = b.f0.toList <;> by_cases h2 : a.f1.toList = b.f1.toList <;> simp [h1, h2]
/-- One entry behind another, in the reference's loop. -/
theorem specRun_loop (xs : List IE) (hb : xs.length < 4611686018427387904) : ∀ (rest pre : List IE) (p : IE), xs = pre ++ p :: rest → Ev (fun k => spec_ValidRun.l0 k ((pre.length + 1 : Nat) : Int) xs) (vfrom p rest) := by
  intro rest
  induction rest with
  | nil => intro pre p e; exact Ev.shift 1 fun k => by simp only [spec_ValidRun.l0]; rw [if_neg (by rw [e]; simp)]; rfl
  | cons x rest ih =>
    intro pre p e
    have hlt : pre.length + 1 < xs.length := by rw [e]; simp
    have hr : rd_T35 xs ((pre.length + 1 : Nat) : Int) = x := by
      unfold rd_T35; rw [Int.toNat_natCast, e]; simp
    have hw : wrap64 (((pre.length + 1 : Nat) : Int) - 1) = (pre.length : Int) := by unfold wrap64; omega
    have hp : rd_T35 xs (pre.length : Int) = p := by unfold rd_T35; rw [Int.toNat_natCast, e, getD_cut]
    have h := ih (pre ++ [p]) x (by rw [e]; simp)
    rw [List.length_append, List.length_singleton] at h
    have key : ∀ m, 6 ≤ m → spec_ValidRun.l0 (m + 1 + 1) ((pre.length + 1 : Nat) : Int) xs = if vent x = true then (if cmpE p x = -1 then (if p.f4 = 2 ∧ x.f4 = 2 ∧ sameCol p x = true then some false else spec_ValidRun.l0 m ((pre.length + 1 + 1 : Nat) : Int) xs) else some false) else some false := by
      intro m hm
      have hj : ∀ b, spec_ValidRun.j1 (m + 1) ((pre.length + 1 : Nat) : Int) b xs = if b = true then some false else spec_ValidRun.l0 m ((pre.length + 1 + 1 : Nat) : Int) xs := fun b => by rw [spec_ValidRun.j1, wrap_nat _ (show pre.length + 1 < 4611686018427387904 by omega)]
      rw [spec_ValidRun.l0]
      rw [if_pos (by omega), if_pos (by omega), hr, specValidEntry_is]; simp only [Option.bind_some]
      by_cases hv : vent x = true
      · rw [if_pos hv, if_pos hv, if_pos (by omega), hw, if_pos (by omega), if_pos (by omega), hp, spec_cmp_ge (m + 1) (by omega)]; simp only [Option.bind_some]
        show (if cmpE p x = -1 then _ else _) = _
        by_cases hc : cmpE p x = -1
        · rw [if_pos hc, if_pos hc, sameColumn_is]; simp only [Option.bind_some]
          by_cases h1 : p.f4 = 2 <;> by_cases h2 : x.f4 = 2 <;> by_cases h3 : sameCol p x = true <;> simp only [h1, h2, h3, hj, Option.bind_some, if_true, if_false, and_true, and_false, true_and, false_and, Bool.false_eq_true]
        · rw [if_neg hc, if_neg hc, hj, if_pos rfl]
      · rw [if_neg hv, if_neg hv]
    have hg : Ev (fun k => if vent x = true then (if cmpE p x = -1 then (if p.f4 = 2 ∧ x.f4 = 2 ∧ sameCol p x = true then some false else spec_ValidRun.l0 k ((pre.length + 1 + 1 : Nat) : Int) xs) else some false) else some false) (vfrom p (x :: rest)) := by
      unfold vfrom
      by_cases hv : vent x = true
      · refine Ev.if_pos hv ?_
        by_cases hc : cmpE p x = -1
        · refine Ev.if_pos hc ?_
          by_cases h3 : p.f4 = 2 ∧ x.f4 = 2 ∧ sameCol p x = true
          · refine Ev.if_pos h3 ?_
            have : (vent x && nextOk p x && vfrom x rest) = false := by simp [nextOk, h3.1, h3.2.1, h3.2.2]
            rw [this]; exact Ev.now _
          · refine Ev.if_neg h3 ?_
            have : (vent x && nextOk p x && vfrom x rest) = vfrom x rest := by
              have : nextOk p x = true := by
                simp only [nextOk, hc, decide_true, Bool.true_and, Bool.not_eq_true', Bool.and_eq_false_iff, decide_eq_false_iff_not]
                by_cases h1 : p.f4 = 2 <;> by_cases h2 : x.f4 = 2 <;> simp_all
              simp [hv, this]
            rw [this]; exact h
        · refine Ev.if_neg hc ?_
          have : (vent x && nextOk p x && vfrom x rest) = false := by simp [nextOk, hc]
          rw [this]; exact Ev.now _
      · refine Ev.if_neg hv ?_
        have : (vent x && nextOk p x && vfrom x rest) = false := by simp [hv]
        rw [this]; exact Ev.now _
    obtain ⟨K, hK⟩ := hg
    refine ⟨K + 8, fun k hk => ?_⟩
    obtain ⟨m, rfl⟩ : ∃ m, k = m + 1 + 1 := ⟨k - 2, by omega⟩
    exact (key m (by omega)).trans (hK m (by omega))
theorem specRun_is (xs : List IE) (hb : xs.length < 4611686018427387904) : Ev (fun k => spec_ValidRun.f k xs) (vrun xs) := by
  unfold spec_ValidRun.f vrun
  by_cases h : (xs.length : Int) > 10000
  · refine Ev.if_pos h ?_
    have : ¬ xs.length ≤ 10000 := by omega
    simp only [this, decide_false, Bool.false_and]; exact Ev.now _
  · refine Ev.if_neg h ?_
    have h' : xs.length ≤ 10000 := by omega
    simp only [h', decide_true, Bool.true_and]
    cases xs with
    | nil => exact Ev.shift 1 fun k => by simp only [spec_ValidRun.l0]; rfl
    | cons x rest =>
      have h2 := specRun_loop (x :: rest) hb rest [] x rfl
      have hr : rd_T35 (x :: rest) 0 = x := rfl
      by_cases hv : vent x = true
      · refine Ev.round (f := fun k => spec_ValidRun.l0 k (([] : List IE).length + 1 : Nat) (x :: rest)) (fun k => ?_) (by simpa [vall, hv] using h2)
        rw [spec_ValidRun.l0, if_pos (by rw [List.length_cons]; omega), if_pos (by omega), hr, specValidEntry_is]; simp only [Option.bind_some]; rw [if_pos hv, if_neg (by omega), show wrap64 (0 + 1) = ((([] : List IE).length + 1 : Nat) : Int) from by unfold wrap64; rfl]
      · refine Ev.shift 1 fun k => ?_
        rw [spec_ValidRun.l0, if_pos (by rw [List.length_cons]; omega), if_pos (by omega), hr, specValidEntry_is]; simp only [Option.bind_some]; rw [if_neg hv]; simp [vall, hv]
/-- The same in the program's. -/
theorem implRun_loop (xs : List IE) (hb : xs.length < 4611686018427387904) : ∀ (rest pre : List IE) (p : IE), xs = pre ++ p :: rest → Ev (fun k => impl_ValidRun.l0 k xs (xs.length : Int) ((pre.length + 1 : Nat) : Int) xs) (vfrom p rest) := by
  intro rest
  induction rest with
  | nil => intro pre p e; exact Ev.shift 1 fun k => by simp only [impl_ValidRun.l0]; rw [if_neg (by rw [e]; simp)]; rfl
  | cons x rest ih =>
    intro pre p e
    have hlt : pre.length + 1 < xs.length := by rw [e]; simp
    have hr : rd_T35 xs ((pre.length + 1 : Nat) : Int) = x := by
      unfold rd_T35; rw [Int.toNat_natCast, e]; simp
    have hw : wrap64 (((pre.length + 1 : Nat) : Int) - 1) = (pre.length : Int) := by unfold wrap64; omega
    have hp : rd_T35 xs (pre.length : Int) = p := by unfold rd_T35; rw [Int.toNat_natCast, e, getD_cut]
    have h := ih (pre ++ [p]) x (by rw [e]; simp)
    rw [List.length_append, List.length_singleton] at h
    have key : ∀ m, 6 ≤ m → impl_ValidRun.l0 (m + 1 + 1) xs (xs.length : Int) ((pre.length + 1 : Nat) : Int) xs = if vent x = true then (if cmpE p x = -1 then (if p.f4 = 2 ∧ x.f4 = 2 ∧ sameCol p x = true then some false else impl_ValidRun.l0 m xs (xs.length : Int) ((pre.length + 1 + 1 : Nat) : Int) xs) else some false) else some false := by
      intro m hm
      have hj : ∀ b, impl_ValidRun.j1 (m + 1) xs (xs.length : Int) ((pre.length + 1 : Nat) : Int) b xs = if b = true then some false else impl_ValidRun.l0 m xs (xs.length : Int) ((pre.length + 1 + 1 : Nat) : Int) xs := fun b => by rw [impl_ValidRun.j1, wrap_nat _ (show pre.length + 1 < 4611686018427387904 by omega)]
      rw [impl_ValidRun.l0]
      rw [if_pos (by omega), if_pos (by omega), if_pos (by omega), hr, implValidEntry_is]; simp only [Option.bind_some]
      by_cases hv : vent x = true
      · rw [if_pos hv, if_pos hv, if_neg (by omega), hw, if_pos (by omega), if_pos (by omega), hp, impl_cmp_ge (m + 1) (by omega)]; simp only [Option.bind_some, impl_Entry_column.f]
        show (if cmpE p x ≥ 0 then _ else _) = _
        by_cases hc : cmpE p x = -1
        · have hs : (p.f0.toList == x.f0.toList && (p.f1.toList == x.f1.toList && p.f2.toList == x.f2.toList)) = sameCol p x := rfl
          rw [if_neg (by omega), if_pos hc, hs]
          by_cases h1 : p.f4 = 2 <;> by_cases h2 : x.f4 = 2 <;> by_cases h3 : sameCol p x = true <;> simp only [h1, h2, h3, hj, if_true, if_false, and_true, and_false, true_and, false_and, Bool.false_eq_true]
        · rw [if_pos (by rcases cmpE_range p x with h | h | h <;> omega), if_neg hc, hj, if_pos rfl]
      · rw [if_neg hv, if_neg hv]
    have hg : Ev (fun k => if vent x = true then (if cmpE p x = -1 then (if p.f4 = 2 ∧ x.f4 = 2 ∧ sameCol p x = true then some false else impl_ValidRun.l0 k xs (xs.length : Int) ((pre.length + 1 + 1 : Nat) : Int) xs) else some false) else some false) (vfrom p (x :: rest)) := by
      unfold vfrom
      by_cases hv : vent x = true
      · refine Ev.if_pos hv ?_
        by_cases hc : cmpE p x = -1
        · refine Ev.if_pos hc ?_
          by_cases h3 : p.f4 = 2 ∧ x.f4 = 2 ∧ sameCol p x = true
          · refine Ev.if_pos h3 ?_
            have : (vent x && nextOk p x && vfrom x rest) = false := by simp [nextOk, h3.1, h3.2.1, h3.2.2]
            rw [this]; exact Ev.now _
          · refine Ev.if_neg h3 ?_
            have : (vent x && nextOk p x && vfrom x rest) = vfrom x rest := by
              have : nextOk p x = true := by
                simp only [nextOk, hc, decide_true, Bool.true_and, Bool.not_eq_true', Bool.and_eq_false_iff, decide_eq_false_iff_not]
                by_cases h1 : p.f4 = 2 <;> by_cases h2 : x.f4 = 2 <;> simp_all
              simp [hv, this]
            rw [this]; exact h
        · refine Ev.if_neg hc ?_
          have : (vent x && nextOk p x && vfrom x rest) = false := by simp [nextOk, hc]
          rw [this]; exact Ev.now _
      · refine Ev.if_neg hv ?_
        have : (vent x && nextOk p x && vfrom x rest) = false := by simp [hv]
        rw [this]; exact Ev.now _
    obtain ⟨K, hK⟩ := hg
    refine ⟨K + 8, fun k hk => ?_⟩
    obtain ⟨m, rfl⟩ : ∃ m, k = m + 1 + 1 := ⟨k - 2, by omega⟩
    exact (key m (by omega)).trans (hK m (by omega))
theorem implRun_is (xs : List IE) (hb : xs.length < 4611686018427387904) : Ev (fun k => impl_ValidRun.f k xs) (vrun xs) := by
  unfold impl_ValidRun.f vrun
  by_cases h : (xs.length : Int) > 10000
  · refine Ev.if_pos h ?_
    have : ¬ xs.length ≤ 10000 := by omega
    simp only [this, decide_false, Bool.false_and]; exact Ev.now _
  · refine Ev.if_neg h ?_
    have h' : xs.length ≤ 10000 := by omega
    simp only [h', decide_true, Bool.true_and]
    cases xs with
    | nil => exact Ev.shift 1 fun k => by simp only [impl_ValidRun.l0]; rfl
    | cons x rest =>
      have h2 := implRun_loop (x :: rest) hb rest [] x rfl
      have hr : rd_T35 (x :: rest) 0 = x := rfl
      by_cases hv : vent x = true
      · refine Ev.round (f := fun k => impl_ValidRun.l0 k (x :: rest) ((x :: rest).length : Int) (([] : List IE).length + 1 : Nat) (x :: rest)) (fun k => ?_) (by simpa [vall, hv] using h2)
        rw [impl_ValidRun.l0, if_pos (by rw [List.length_cons]; omega), if_pos (by omega), if_pos (by rw [List.length_cons]; omega), hr, implValidEntry_is]; simp only [Option.bind_some]; rw [if_pos hv, if_pos trivial, show wrap64 (0 + 1) = ((([] : List IE).length + 1 : Nat) : Int) from by unfold wrap64; rfl]
      · refine Ev.shift 1 fun k => ?_
        rw [impl_ValidRun.l0, if_pos (by rw [List.length_cons]; omega), if_pos (by omega), if_pos (by rw [List.length_cons]; omega), hr, implValidEntry_is]; simp only [Option.bind_some]; rw [if_neg hv]; simp [vall, hv]
end Go.Proofs.Ytdknjbadnbangaa.Q

namespace Go.Proofs.Ytdknjbadnbangaa.Q
open Go.RowKit Go.Proofs.YtdknjbadnbangaaW.PrintWords Go.Proofs.YtdknjbadnbangaaW.PrintLast
set_option linter.unusedVariables false
set_option linter.unusedSimpArgs false
theorem Ev.of_all {α : Type} {g : Nat → Option α} {r : α} (h : ∀ k, g k = some r) : Ev g r := ⟨0, fun k _ => h k⟩
/-- What is left of the room behind all elements. -/
theorem sz_all {α : Type} (xs : List α) (z : α) (P : α → Prop) (S : Nat → α → Int → Option Int) (L : Nat → Int → Int → Option Int) (hb : xs.length < 4611686018427387904)
    (hL : ∀ k n (i : Nat), i < xs.length → L (k + 1) n i = (S k (xs.getD i z) n).bind fun t => if t < 0 then some (-1) else L k t ((i + 1 : Nat) : Int))
    (hE : ∀ k n, L (k + 1) n (xs.length : Int) = some n)
    (hS : ∀ x ∈ xs, ∀ n : Int, 0 ≤ n → n ≤ 1048576 → ∃ t, Ev (fun k => S k x n) t ∧ (t < 0 ∨ (0 ≤ t ∧ t ≤ n ∧ P x))) :
    ∀ (rest pre : List α) (n : Int), xs = pre ++ rest → 0 ≤ n → n ≤ 1048576 → ∃ t, Ev (fun k => L k n (pre.length : Int)) t ∧ (t < 0 ∨ (0 ≤ t ∧ t ≤ n ∧ ∀ x ∈ rest, P x)) := by
  intro rest
  induction rest with
  | nil => intro pre n e h0 h1; exact ⟨n, Ev.shift 1 fun k => by rw [show pre.length = xs.length by rw [e]; simp, hE], .inr ⟨h0, Int.le_refl _, by simp⟩⟩
  | cons x rest ih =>
    intro pre n e h0 h1
    have hlt : pre.length < xs.length := by rw [e]; exact len_cut _ _ _
    have hr : xs.getD pre.length z = x := by rw [e, getD_cut]
    obtain ⟨t, ht, h2⟩ := hS x (by rw [e]; simp) n h0 h1
    rcases h2 with h2 | ⟨h2, h3, h4⟩
    · exact ⟨-1, Ev.round (f := fun k => (S k x n).bind fun t => if t < 0 then some (-1) else L k t ((pre.length + 1 : Nat) : Int)) (fun k => by rw [hL _ _ _ hlt, hr]) (Ev.bind ht (Ev.if_pos h2 (Ev.now _))), .inl (by omega)⟩
    · obtain ⟨u, hu, h5⟩ := ih (pre ++ [x]) t (by simp [e]) h2 (by omega)
      rw [List.length_append, List.length_singleton] at hu
      refine ⟨u, Ev.round (f := fun k => (S k x n).bind fun t => if t < 0 then some (-1) else L k t ((pre.length + 1 : Nat) : Int)) (fun k => by rw [hL _ _ _ hlt, hr]) (Ev.bind ht (Ev.if_neg (by omega) hu)), ?_⟩
      rcases h5 with h5 | ⟨h5, h6, h7⟩
      · exact .inl h5
      · refine .inr ⟨h5, by omega, fun y hy => ?_⟩
        rcases List.mem_cons.mp hy with rfl | hy
        · exact h4
        · exact h7 y hy
/-- A row that is filled, element by element. -/
theorem to_all {α β γ : Type} (xs : List α) (z : α) (z' : β) (T : Nat → α → Option γ) (mk : γ → β) (g : α → β) (L : Nat → List β → Int → Option (List β)) (hb : xs.length < 4611686018427387904)
    (hL : ∀ k ys (i : Nat), i < xs.length → i < ys.length → L (k + 1) ys i = (T k (xs.getD i z)).bind fun t => L k (ys.set i (mk t)) ((i + 1 : Nat) : Int))
    (hE : ∀ k ys, L (k + 1) ys (xs.length : Int) = some ys)
    (hT : ∀ x ∈ xs, ∃ t, Ev (fun k => T k x) t ∧ mk t = g x) :
    ∀ (rest pre : List α), xs = pre ++ rest → Ev (fun k => L k (pre.map g ++ List.replicate rest.length z') (pre.length : Int)) (xs.map g) := by
  intro rest
  induction rest with
  | nil => intro pre e; exact Ev.shift 1 fun k => by rw [show pre.length = xs.length by rw [e]; simp, hE, e]; simp
  | cons x rest ih =>
    intro pre e
    have hlt : pre.length < xs.length := by rw [e]; exact len_cut _ _ _
    have hr : xs.getD pre.length z = x := by rw [e, getD_cut]
    obtain ⟨t, ht, hg⟩ := hT x (by rw [e]; simp)
    have h := ih (pre ++ [x]) (by simp [e])
    rw [List.length_append, List.length_singleton, List.map_append] at h
    have hs := set_fill (pre.map g) z' (g x) rest.length
    rw [List.length_map] at hs
    refine Ev.round (f := fun k => (T k x).bind fun t => L k ((pre.map g ++ List.replicate (rest.length + 1) z').set pre.length (mk t)) ((pre.length + 1 : Nat) : Int)) (fun k => by rw [List.length_cons, hL _ _ _ hlt (by simp), hr]) (Ev.bind ht ?_)
    rw [hg, hs]
    exact h
/-- All elements of a list pass, and then what follows. -/
theorem all_loop {α : Type} (xs : List α) (z : α) (p : α → Bool) (V : Nat → α → Option Bool) (L : Nat → Int → Option Bool) (F : Nat → Option Bool) (r : Bool) (hb : xs.length < 4611686018427387904)
    (hL : ∀ k (i : Nat), i < xs.length → L (k + 1) i = (V k (xs.getD i z)).bind fun t => if t = true then L k ((i + 1 : Nat) : Int) else some false)
    (hF : ∀ k, L (k + 1) (xs.length : Int) = F k) (hV : ∀ x ∈ xs, Ev (fun k => V k x) (p x)) (hr : Ev F r) :
    ∀ (rest pre : List α), xs = pre ++ rest → Ev (fun k => L k (pre.length : Int)) (rest.all p && r) := by
  intro rest
  induction rest with
  | nil => intro pre e; rw [show pre.length = xs.length by rw [e]; simp]; simpa using Ev.round hF hr
  | cons x rest ih =>
    intro pre e
    have hlt : pre.length < xs.length := by rw [e]; exact len_cut _ _ _
    have hx : xs.getD pre.length z = x := by rw [e, getD_cut]
    have h := ih (pre ++ [x]) (by simp [e])
    rw [List.length_append, List.length_singleton] at h
    refine Ev.round (f := fun k => (V k x).bind fun t => if t = true then L k ((pre.length + 1 : Nat) : Int) else some false) (fun k => by rw [hL _ _ hlt, hx]) (Ev.bind (hV x (by rw [e]; simp)) ?_)
    rw [List.all_cons]
    cases hp : p x with
    | true => exact Ev.if_pos rfl (by simpa using h)
    | false => exact Ev.if_neg (by decide) (Ev.now _)
/-! the order of strings -/
theorem less_irrefl : ∀ a : List UInt8, Op.bytesLess a a = false
  | [] => rfl
  | a :: x => by simp [Op.bytesLess, less_irrefl x]
theorem less_trans : ∀ a b c : List UInt8, Op.bytesLess a b = true → Op.bytesLess b c = true → Op.bytesLess a c = true
  | _, _, [] => by intro _ h; simp [Op.bytesLess] at h
  | _, [], _ :: _ => by intro h _; simp [Op.bytesLess] at h
  | [], _ :: _, _ :: _ => by intro _ _; rfl
  | a :: x, b :: y, c :: z => by
    have ih := less_trans x y z
    simp only [Op.bytesLess, Bool.or_eq_true, Bool.and_eq_true, decide_eq_true_eq, beq_iff_eq]
    rintro (h1 | ⟨rfl, h1⟩) (h2 | ⟨rfl, h2⟩)
    · exact .inl (UInt8.lt_trans h1 h2)
    · exact .inl h1
    · exact .inl h2
    · exact .inr ⟨rfl, ih h1 h2⟩
theorem less_tri : ∀ a b : List UInt8, Op.bytesLess a b = true ∨ a = b ∨ Op.bytesLess b a = true
  | [], [] => .inr (.inl rfl)
  | [], _ :: _ => .inl rfl
  | _ :: _, [] => .inr (.inr rfl)
  | a :: x, b :: y => by
    simp only [Op.bytesLess, Bool.or_eq_true, Bool.and_eq_true, decide_eq_true_eq, beq_iff_eq]
    by_cases h1 : a < b
    · exact .inl (.inl h1)
    · by_cases h2 : b < a
      · exact .inr (.inr (.inl h2))
      · have h3 : a = b := UInt8.le_antisymm (UInt8.not_lt.1 h2) (UInt8.not_lt.1 h1)
        subst h3
        rcases less_tri x y with h | rfl | h
        · exact .inl (.inr ⟨rfl, h⟩)
        · exact .inr (.inl rfl)
        · exact .inr (.inr (.inr ⟨rfl, h⟩))
/-- a ≤ b and b < c -/
theorem le_less {a b c : List UInt8} (h : Op.bytesLess b a = false) (k : Op.bytesLess b c = true) : Op.bytesLess a c = true := by
  rcases less_tri a b with h1 | rfl | h1
  · exact less_trans _ _ _ h1 k
  · exact k
  · rw [h] at h1; cases h1
theorem less_le {a b c : List UInt8} (h : Op.bytesLess a b = true) (k : Op.bytesLess c b = false) : Op.bytesLess a c = true := by
  rcases less_tri b c with h1 | rfl | h1
  · exact less_trans _ _ _ h h1
  · exact h
  · rw [k] at h1; cases h1
theorem le_trans' {a b c : List UInt8} (h : Op.bytesLess b a = false) (k : Op.bytesLess c b = false) : Op.bytesLess c a = false := by
  cases e : Op.bytesLess c a with
  | false => rfl
  | true => have := less_le e h; rw [k] at this; cases this
theorem less_asymm {a b : List UInt8} (h : Op.bytesLess a b = true) : Op.bytesLess b a = false := by
  cases e : Op.bytesLess b a with
  | false => rfl
  | true => have := less_trans _ _ _ h e; rw [less_irrefl] at this; cases this
/-! ranges of rows -/
def inR (lo : ByteArray) (has : Bool) (hi : ByteArray) (row : ByteArray) : Bool := !(Op.bytesLess row.toList lo.toList) && (!has || Op.bytesLess row.toList hi.toList)
end Go.Proofs.Ytdknjbadnbangaa.Q

namespace Go.Proofs.Ytdknjbadnbangaa.Q
open Go.RowKit Go.Proofs.YtdknjbadnbangaaW.PrintWords Go.Proofs.YtdknjbadnbangaaW.PrintLast
set_option linter.unusedVariables false
set_option linter.unusedSimpArgs false
abbrev LR := S61
abbrev IR := S66
abbrev LT := S165
abbrev IT := S98
def cvR (x : LR) : IR := ⟨x.f0.map cvE⟩
def cvT (x : LT) : IT := ⟨x.f0, x.f1.map cvR⟩
/-! sizes -/
def bR (x : LR) : Prop := x.f0.length ≤ 1048576
def bT (x : LT) : Prop := x.f1.length ≤ 1048576 ∧ ∀ q ∈ x.f1, bR q
theorem szRun_ok (x : LR) (n : Int) (hx : ok61 x) (h0 : 0 ≤ n) (h1 : n ≤ 1048576) : ∃ t, Ev (fun k => laws_szRun.f k x.f0 n) t ∧ (t < 0 ∨ (0 ≤ t ∧ t ≤ n ∧ bR x)) := by
  obtain ⟨t, ht, h2⟩ := szEntryS_is x.f0 n hx.1 hx.2 h0 h1
  rcases h2 with h2 | ⟨h2, h3⟩
  · exact ⟨-1, Ev.bind ht (Ev.if_pos h2 (Ev.now _)), .inl (by omega)⟩
  · exact ⟨t, Ev.bind ht (Ev.if_neg (by omega) (Ev.now _)), .inr ⟨h2, by omega, by unfold bR; omega⟩⟩
theorem szRunS_ok (xs : List LR) (n : Int) (hl : xs.length ≤ maxLen) (hok : ∀ x ∈ xs, ok61 x) (h0 : 0 ≤ n) (h1 : n ≤ 1048576) :
    ∃ t, Ev (fun k => laws_szRunS.f k xs n) t ∧ (t < 0 ∨ (0 ≤ t ∧ t ≤ n ∧ xs.length ≤ 1048576 ∧ ∀ q ∈ xs, bR q)) := by
  simp only [maxLen] at hl
  unfold laws_szRunS.f
  rw [wrap_id _ (by omega) (by omega)]
  by_cases h : n - (xs.length : Int) < 0
  · exact ⟨-1, Ev.if_pos h (Ev.now _), .inl (by omega)⟩
  · obtain ⟨t, ht, h2⟩ := sz_all xs z61 bR (fun k x n => laws_szRun.f k x.f0 n) (fun k n i => laws_szRunS.l0 k xs n i) (by omega)
      (fun k n i hi => by simp only [laws_szRunS.l0]; rw [if_pos (by omega), if_pos (by omega), wrap_nat _ (by omega)]; rfl)
      (fun k n => by simp only [laws_szRunS.l0]; rw [if_neg (by omega)]) (fun x hx n h0 h1 => szRun_ok x n (hok x hx) h0 h1) xs [] (n - xs.length) rfl (by omega) (by omega)
    exact ⟨t, Ev.if_neg h ht, h2.imp id fun ⟨a, b, c⟩ => ⟨a, by omega, by omega, c⟩⟩
theorem szTablet_ok (x : LT) (n : Int) (hx : ok165 x) (h0 : 0 ≤ n) (h1 : n ≤ 1048576) : ∃ t, Ev (fun k => laws_szTablet.f k x.f0 x.f1 n) t ∧ (t < 0 ∨ (0 ≤ t ∧ t ≤ n ∧ bT x)) := by
  obtain ⟨s0, hl, hok⟩ := hx
  simp only [maxLen] at s0
  unfold laws_szTablet.f
  rw [wrap_id _ (by omega) (by omega)]
  by_cases h : n - (x.f0.size : Int) < 0
  · exact ⟨-1, Ev.if_pos h (Ev.now _), .inl (by omega)⟩
  · obtain ⟨t, ht, h2⟩ := szRunS_ok x.f1 (n - x.f0.size) hl hok (by omega) (by omega)
    rcases h2 with h2 | ⟨h2, h3, h4⟩
    · exact ⟨-1, Ev.if_neg h (Ev.bind ht (Ev.if_pos h2 (Ev.now _))), .inl (by omega)⟩
    · exact ⟨t, Ev.if_neg h (Ev.bind ht (Ev.if_neg (by omega) (Ev.now _))), .inr ⟨h2, by omega, h4⟩⟩
theorem szStore_ok (xs : List LT) (n : Int) (hl : xs.length ≤ maxLen) (hok : ∀ x ∈ xs, ok165 x) (h0 : 0 ≤ n) (h1 : n ≤ 1048576) :
    ∃ t, Ev (fun k => laws_szStore.f k xs n) t ∧ (t < 0 ∨ (0 ≤ t ∧ t ≤ n ∧ xs.length ≤ 1048576 ∧ ∀ q ∈ xs, bT q)) := by
  simp only [maxLen] at hl
  unfold laws_szStore.f laws_szTabletS.f
  rw [wrap_id _ (by omega) (by omega)]
  by_cases h : n - (xs.length : Int) < 0
  · exact ⟨-1, Ev.bind (Ev.if_pos h (Ev.now (-1))) (Ev.if_pos (by omega) (Ev.now _)), .inl (by omega)⟩
  · obtain ⟨t, ht, h2⟩ := sz_all xs z165 bT (fun k x n => laws_szTablet.f k x.f0 x.f1 n) (fun k n i => laws_szTabletS.l0 k xs n i) (by omega)
      (fun k n i hi => by simp only [laws_szTabletS.l0]; rw [if_pos (by omega), if_pos (by omega), wrap_nat _ (by omega)]; rfl)
      (fun k n => by simp only [laws_szTabletS.l0]; rw [if_neg (by omega)]) (fun x hx n h0 h1 => szTablet_ok x n (hok x hx) h0 h1) xs [] (n - xs.length) rfl (by omega) (by omega)
    rcases h2 with h2 | ⟨h2, h3, h4⟩
    · exact ⟨-1, Ev.bind (Ev.if_neg h ht) (Ev.if_pos h2 (Ev.now _)), .inl (by omega)⟩
    · exact ⟨t, Ev.bind (Ev.if_neg h ht) (Ev.if_neg (by omega) (Ev.now _)), .inr ⟨h2, by omega, by omega, h4⟩⟩
/-! copies -/
theorem toRunS_is (xs : List LR) (hl : xs.length ≤ 1048576) (hq : ∀ q ∈ xs, bR q) : Ev (fun k => laws_toRunS.f k xs) (xs.map cvR) := by
  unfold laws_toRunS.f
  simp only [Int.toNat_natCast]
  refine Ev.if_pos (by omega) (Ev.if_pos (by omega) ?_)
  have h := to_all xs z61 z66 (fun k x => laws_toRun.f k x.f0) (fun t => (⟨t⟩ : IR)) cvR (fun k ys i => laws_toRunS.l0 k xs ys i) (by omega)
    (fun k ys i hi hj => by
      simp only [laws_toRunS.l0]; rw [if_pos (by omega), if_pos (by omega), wrap_nat _ (by omega)]
      have hj' : (i : Int) < (ys.length : Int) := by omega
      simp only [Int.toNat_natCast, hj', if_true]; rfl)
    (fun k ys => by simp only [laws_toRunS.l0]; rw [if_neg (by omega)])
    (fun x hx => ⟨x.f0.map cvE, Ev.bind (toEntryS_is x.f0 (hq x hx)) (Ev.now _), rfl⟩) xs [] rfl
  simpa using h
theorem toStore_is (xs : List LT) (hl : xs.length ≤ 1048576) (hq : ∀ q ∈ xs, bT q) : Ev (fun k => laws_toStore.f k xs) (xs.map cvT) := by
  unfold laws_toStore.f laws_toTabletS.f
  simp only [Int.toNat_natCast]
  refine Ev.bind (Ev.if_pos (by omega) (Ev.if_pos (by omega) ?_)) (Ev.now _)
  have h := to_all xs z165 z98 (fun k x => laws_toTablet.f k x.f0 x.f1) (fun t => (⟨t.1, t.2⟩ : IT)) cvT (fun k ys i => laws_toTabletS.l0 k xs ys i) (by omega)
    (fun k ys i hi hj => by
      simp only [laws_toTabletS.l0]; rw [if_pos (by omega), if_pos (by omega), wrap_nat _ (by omega)]
      have hj' : (i : Int) < (ys.length : Int) := by omega
      simp only [Int.toNat_natCast, hj', if_true]; rfl)
    (fun k ys => by simp only [laws_toTabletS.l0]; rw [if_neg (by omega)])
    (fun x hx => ⟨(x.f0, x.f1.map cvR), Ev.bind (toRunS_is x.f1 (hq x hx).1 (hq x hx).2) (Ev.now _), rfl⟩) xs [] rfl
  simpa using h
/-! equality of what is one and the same -/
def sR (x : IR) : Prop := x.f0.length < 4611686018427387904
def sT (x : IT) : Prop := x.f1.length < 4611686018427387904 ∧ ∀ q ∈ x.f1, sR q
theorem all_true {α : Type} (xs : List α) : (xs.all (fun _ => true) && true) = true := by simp
theorem eqRunS_refl (xs : List IR) (hb : xs.length < 4611686018427387904) (hq : ∀ q ∈ xs, sR q) : Ev (fun k => laws_eqRunS.f k xs xs) true := by
  have h := all_loop xs z66 (fun _ => true) (fun k x => laws_eqRun.f k x.f0 x.f0) (fun k i => laws_eqRunS.l0 k xs xs i) (fun _ => some true) true hb
    (fun k i hi => by simp only [laws_eqRunS.l0]; rw [if_pos (by omega), if_pos (by omega), if_pos (by omega), wrap_nat _ (by omega)]; rfl)
    (fun k => by simp only [laws_eqRunS.l0]; rw [if_neg (by omega)])
    (fun x hx => Ev.bind (eqEntryS_refl x.f0 (hq x hx)) (Ev.if_pos rfl (Ev.now _))) (Ev.now _) xs [] rfl
  rw [all_true] at h
  exact Ev.if_pos rfl h
theorem eqStore_refl (xs : List IT) (hb : xs.length < 4611686018427387904) (hq : ∀ q ∈ xs, sT q) : Ev (fun k => laws_eqStore.f k xs xs) true := by
  have h := all_loop xs z98 (fun _ => true) (fun k x => laws_eqTablet.f k x.f0 x.f1 x.f0 x.f1) (fun k i => laws_eqTabletS.l0 k xs xs i) (fun _ => some true) true hb
    (fun k i hi => by simp only [laws_eqTabletS.l0]; rw [if_pos (by omega), if_pos (by omega), if_pos (by omega), wrap_nat _ (by omega)]; rfl)
    (fun k => by simp only [laws_eqTabletS.l0]; rw [if_neg (by omega)])
    (fun x hx => Ev.if_pos rfl (Ev.bind (eqRunS_refl x.f1 (hq x hx).1 (hq x hx).2) (Ev.if_pos rfl (Ev.now _)))) (Ev.now _) xs [] rfl
  rw [all_true] at h
  exact Ev.bind (Ev.if_pos rfl h) (Ev.if_pos rfl (Ev.now _))
/-! good runs -/
def goodR (xs : List IR) : Bool := decide (xs.length ≤ 50) && xs.all fun q => vrun q.f0
theorem specGood_is (xs : List IR) (hb : xs.length < 4611686018427387904) (hq : ∀ q ∈ xs, sR q) : Ev (fun k => spec_l3GoodRuns.f k xs) (goodR xs) := by
  unfold spec_l3GoodRuns.f goodR
  by_cases h : (xs.length : Int) > 50
  · rw [decide_eq_false (by omega)]; exact Ev.if_pos h (Ev.now _)
  · rw [decide_eq_true (by omega)]
    have h1 := all_loop xs z66 (fun q => vrun q.f0) (fun k x => spec_ValidRun.f k x.f0) (fun k i => spec_l3GoodRuns.l0 k xs i) (fun _ => some true) true hb
      (fun k i hi => by simp only [spec_l3GoodRuns.l0]; rw [if_pos (by omega), if_pos (by omega), wrap_nat _ (by omega)]; rfl)
      (fun k => by simp only [spec_l3GoodRuns.l0]; rw [if_neg (by omega)])
      (fun x hx => specRun_is x.f0 (hq x hx)) (Ev.now _) xs [] rfl
    rw [Bool.and_true] at h1
    exact Ev.if_neg h h1
theorem implGood_is (xs : List IR) (hb : xs.length < 4611686018427387904) (hq : ∀ q ∈ xs, sR q) : Ev (fun k => impl_goodRuns.f k xs) (goodR xs) := by
  unfold impl_goodRuns.f goodR
  by_cases h : (xs.length : Int) > 50
  · rw [decide_eq_false (by omega)]; exact Ev.if_pos h (Ev.now _)
  · rw [decide_eq_true (by omega)]
    have h1 := all_loop xs z66 (fun q => vrun q.f0) (fun k x => impl_ValidRun.f k x.f0) (fun k i => impl_goodRuns.l0 k xs (xs.length : Int) i) (fun _ => some true) true hb
      (fun k i hi => by simp only [impl_goodRuns.l0]; rw [if_pos (by omega), if_pos (by omega), if_pos (by omega), wrap_nat _ (by omega)]; rfl)
      (fun k => by simp only [impl_goodRuns.l0]; rw [if_neg (by omega)])
      (fun x hx => implRun_is x.f0 (hq x hx)) (Ev.now _) xs [] rfl
    rw [Bool.and_true] at h1
    exact Ev.if_neg h h1
end Go.Proofs.Ytdknjbadnbangaa.Q

namespace Go.Proofs.Ytdknjbadnbangaa.Q
open Go.RowKit Go.Proofs.YtdknjbadnbangaaW.PrintWords Go.Proofs.YtdknjbadnbangaaW.PrintLast
set_option linter.unusedVariables false
set_option linter.unusedSimpArgs false
/-! rows in order -/
theorem cmp_rows {a b : IE} (h : cmpE a b = -1) : Op.bytesLess b.f0.toList a.f0.toList = false := by
  cases e : Op.bytesLess b.f0.toList a.f0.toList with
  | false => rfl
  | true =>
    exfalso
    have h1 : scmp a.f0 b.f0 = 1 := by unfold scmp; rw [if_neg (by rw [less_asymm e]; simp), if_pos e]
    unfold cmpE cmpK at h
    rw [h1] at h
    simp [fst0] at h
theorem vfrom_cons {p e : IE} {es : List IE} (h : vfrom p (e :: es) = true) : Op.bytesLess e.f0.toList p.f0.toList = false ∧ vfrom e es = true := by
  simp only [vfrom, nextOk, Bool.and_eq_true, decide_eq_true_eq] at h
  exact ⟨cmp_rows h.1.2.1, h.2⟩
theorem rows_lo : ∀ (es : List IE) (p : IE), vfrom p es = true → ∀ e ∈ es, Op.bytesLess e.f0.toList p.f0.toList = false
  | [], _, _, _, h => by cases h
  | x :: es, p, h, e, he => by
    obtain ⟨h1, h2⟩ := vfrom_cons h
    rcases List.mem_cons.mp he with rfl | he
    · exact h1
    · exact le_trans' h1 (rows_lo es x h2 e he)
theorem rows_hi (z : IE) : ∀ (es : List IE) (p : IE), vfrom p es = true → ∀ e ∈ p :: es, Op.bytesLess ((p :: es).getD es.length z).f0.toList e.f0.toList = false
  | [], p, _, e, he => by
    obtain rfl : e = p := (by simpa using he)
    exact less_irrefl _
  | x :: es, p, h, e, he => by
    obtain ⟨h1, h2⟩ := vfrom_cons h
    have ih := rows_hi z es x h2
    rcases List.mem_cons.mp he with rfl | he
    · exact le_trans' h1 (ih x List.mem_cons_self)
    · exact ih e he
theorem inR_mid {lo hi x y w : ByteArray} {has : Bool} (h1 : inR lo has hi x = true) (h2 : inR lo has hi w = true) (k1 : Op.bytesLess y.toList x.toList = false) (k2 : Op.bytesLess w.toList y.toList = false) : inR lo has hi y = true := by
  unfold inR at *
  simp only [Bool.and_eq_true, Bool.not_eq_true', Bool.or_eq_true] at *
  exact ⟨le_trans' h1.1 k1, h2.2.imp id fun h => le_less k2 h⟩
theorem run_ends {lo hi : ByteArray} {has : Bool} (z e : IE) (es : List IE) (h : vfrom e es = true) :
    ((e :: es).all fun x => inR lo has hi x.f0) = (inR lo has hi e.f0 && inR lo has hi ((e :: es).getD es.length z).f0) := by
  rw [Bool.eq_iff_iff]
  simp only [List.all_eq_true, Bool.and_eq_true]
  constructor
  · intro k
    refine ⟨k e List.mem_cons_self, k _ ?_⟩
    rw [List.getD_eq_getElem?_getD, List.getElem?_eq_getElem (by simp)]
    exact List.getElem_mem _
  · rintro ⟨k1, k2⟩ x hx
    refine inR_mid k1 k2 ?_ (rows_hi z es e h x hx)
    rcases List.mem_cons.mp hx with rfl | hx
    · exact less_irrefl _
    · exact rows_lo es e h x hx
/-! the range of a tablet -/
def loT (l : List IT) (i : Nat) : ByteArray := (rd_T98 l (i : Int)).f0
def inT (l : List IT) (i : Nat) (row : ByteArray) : Bool := inR (loT l i) (decide (i + 1 < l.length)) (if i + 1 < l.length then loT l (i + 1) else ⟨#[]⟩) row
theorem implRows_is (l : List IT) (hb : l.length < 4611686018427387904) (i : Nat) (h : i < l.length) : impl_Store_rows.f l i = some (loT l i, decide (i + 1 < l.length), if i + 1 < l.length then loT l (i + 1) else ⟨#[]⟩) := by
  unfold impl_Store_rows.f
  rw [if_pos (by omega), if_pos (by omega), wrap_nat _ (by omega)]
  by_cases h1 : i + 1 < l.length
  · rw [if_pos (by omega), if_pos (by omega), if_pos h1, decide_eq_true h1]; rfl
  · rw [if_neg (by omega), if_neg h1, decide_eq_false h1]; rfl
theorem specRange_is (l : List IT) (hb : l.length < 4611686018427387904) (i : Nat) (h : i < l.length) : spec_l7Range.f l i = some (loT l i, decide (i + 1 < l.length), if i + 1 < l.length then loT l (i + 1) else ⟨#[]⟩) := implRows_is l hb i h
theorem implInRange_is (lo : ByteArray) (has : Bool) (hi row : ByteArray) : impl_InRange.f lo has hi row = some (inR lo has hi row) := by
  unfold impl_InRange.f inR
  cases Op.bytesLess row.toList lo.toList <;> cases has <;> simp
theorem specInRange_is (lo : ByteArray) (has : Bool) (hi row : ByteArray) : spec_InRange.f lo has hi row = some (inR lo has hi row) := implInRange_is lo has hi row
def runS (l : List IT) (i : Nat) (q : IR) : Bool := !q.f0.isEmpty && q.f0.all fun e => inT l i e.f0
theorem runOk_is (k : Nat) (l : List IT) (hb : l.length < 4611686018427387904) (i : Nat) (h : i < l.length) (q : IR) (hv : vrun q.f0 = true) : runOk k l i q = some (runS l i q) := by
  unfold runOk runS
  cases hq : q.f0 with
  | nil => rw [if_pos (by simp)]; rfl
  | cons e es =>
    rw [hq] at hv
    simp only [vrun, vall, Bool.and_eq_true] at hv
    rw [if_neg (by simp; omega), implRows_is l hb i h]
    simp only [Option.bind_some, implInRange_is]
    have h0 : rd_T35 (e :: es) 0 = e := rfl
    have h1 : rd_T35 (e :: es) (((e :: es).length : Int) - 1) = (e :: es).getD es.length z35 := by
      unfold rd_T35; rw [show (((e :: es).length : Int) - 1).toNat = es.length by simp]
    have hr := run_ends (lo := loT l i) (has := decide (i + 1 < l.length)) (hi := if i + 1 < l.length then loT l (i + 1) else ⟨#[]⟩) z35 e es hv.2.2
    rw [h0, h1]
    unfold inT
    rw [hr]
    cases inR (loT l i) (decide (i + 1 < l.length)) (if i + 1 < l.length then loT l (i + 1) else ⟨#[]⟩) e.f0 <;> simp
def headOk (l : List IT) (i : Nat) (t : IT) : Bool := decide (t.f0.size ≤ 64) && (decide (i = 0) || Op.bytesLess (loT l (i - 1)).toList t.f0.toList) && goodR t.f1
def tabsV (l : List IT) : Nat → List IT → Bool
  | _, [] => true
  | i, t :: ts => headOk l i t && (t.f1.all (runS l i) && tabsV l (i + 1) ts)
def vstore (l : List IT) : Bool := decide (1 ≤ l.length) && decide (l.length ≤ 100) && (loT l 0).toList.isEmpty && tabsV l 0 l
/-! the program's -/
theorem allO_is {α : Type} (f : α → Option Bool) (p : α → Bool) : ∀ xs : List α, (∀ x ∈ xs, f x = some (p x)) → allO f xs = some (xs.all p)
  | [], _ => rfl
  | x :: xs, h => by
    rw [allO, h x List.mem_cons_self, List.all_cons]
    simp only [Option.bind_some]
    rw [allO_is f p xs fun y hy => h y (List.mem_cons_of_mem _ hy)]
    cases p x <;> rfl
theorem goodR_runs {xs : List IR} (h : goodR xs = true) : ∀ q ∈ xs, vrun q.f0 = true := by
  simp only [goodR, Bool.and_eq_true, List.all_eq_true] at h
  exact h.2
theorem tabsO_is (l : List IT) (hb : l.length < 4611686018427387904) (hs : ∀ q ∈ l, sT q) : ∀ (ts pre : List IT), l = pre ++ ts → Ev (fun k => tabsO k l (pre.length : Int) ts) (tabsV l pre.length ts)
  | [], _, _ => Ev.now _
  | t :: ts, pre, e => by
    have hlt : pre.length < l.length := by rw [e]; exact len_cut _ _ _
    have ht : sT t := hs t (by rw [e]; simp)
    have ih := tabsO_is l hb hs ts (pre ++ [t]) (by simp [e])
    rw [List.length_append, List.length_singleton] at ih
    have hh : Ev (fun k => tabOk k l (pre.length : Int) t) (headOk l pre.length t) := by
      unfold tabOk headOk
      by_cases h1 : (t.f0.size : Int) > 64
      · rw [decide_eq_false (by omega : ¬ t.f0.size ≤ 64)]; exact Ev.if_pos h1 (Ev.now _)
      · rw [decide_eq_true (by omega : t.f0.size ≤ 64)]
        refine Ev.if_neg h1 ?_
        by_cases h0 : pre.length = 0
        · rw [decide_eq_true h0]
          exact Ev.if_neg (fun h => by have := h.1; omega) (implGood_is t.f1 ht.1 ht.2)
        · rw [decide_eq_false h0]
          have hm : ((pre.length : Int) - 1) = ((pre.length - 1 : Nat) : Int) := by omega
          rw [hm]
          cases hl : Op.bytesLess (loT l (pre.length - 1)).toList t.f0.toList with
          | true => exact Ev.if_neg (fun h => h.2 hl) (implGood_is t.f1 ht.1 ht.2)
          | false => exact Ev.if_pos ⟨by omega, by unfold loT at hl; rw [hl]; simp⟩ (Ev.now _)
    unfold tabsO tabsV
    refine Ev.bind hh ?_
    cases hk : headOk l pre.length t with
    | false => exact Ev.if_neg (by decide) (Ev.now _)
    | true =>
      have hg : goodR t.f1 = true := by unfold headOk at hk; simp only [Bool.and_eq_true] at hk; exact hk.2
      refine Ev.if_pos rfl (Ev.bind (Ev.of_all fun k => allO_is _ (runS l pre.length) _ fun q hq => runOk_is k l hb _ hlt q (goodR_runs hg q hq)) ?_)
      cases t.f1.all (runS l pre.length) with
      | false => exact Ev.if_neg (by decide) (Ev.now _)
      | true => exact Ev.if_pos rfl (by simpa using ih)
theorem implStore_is (l : List IT) (hb : l.length < 4611686018427387904) (hs : ∀ q ∈ l, sT q) : Ev (fun k => impl_ValidStore.f k l) (vstore l) := by
  unfold impl_ValidStore.f vstore
  by_cases h1 : (l.length : Int) < 1
  · rw [decide_eq_false (by omega : ¬ 1 ≤ l.length)]; exact Ev.if_pos h1 (Ev.now _)
  rw [decide_eq_true (by omega : 1 ≤ l.length)]
  by_cases h2 : (l.length : Int) > 100
  · rw [decide_eq_false (by omega : ¬ l.length ≤ 100)]; exact Ev.if_neg h1 (Ev.if_pos h2 (Ev.now _))
  rw [decide_eq_true (by omega : l.length ≤ 100)]
  refine Ev.if_neg h1 (Ev.if_neg h2 ?_)
  have e0 : (rd_T98 l 0).f0 = loT l 0 := rfl
  rw [e0]
  cases h3 : (loT l 0).toList.isEmpty with
  | false => exact Ev.if_pos rfl (Ev.now _)
  | true => exact Ev.if_neg (by simp) (by simpa using tabsO_is l hb hs l [] rfl)
/-! the reference's -/
theorem specL2 (l : List IT) (hb : l.length < 4611686018427387904) (i q : Nat) (hi : i < l.length) (lo : ByteArray) (rs : List IR) (es : List IE) (he : es.length < 4611686018427387904) (r : Bool) (n : Int)
    (hq : q < 4611686018427387904) (hr : Ev (fun k => spec_ValidStore.l1 k n i ((q + 1 : Nat) : Int) l lo rs) r) :
    Ev (fun k => spec_ValidStore.l2 k n i q es 0 l lo rs) ((es.all fun e => inT l i e.f0) && r) :=
  all_loop es z35 (fun e => inT l i e.f0) (fun k e => (spec_l7Range.f l i).bind fun b => spec_InRange.f b.1 b.2.1 b.2.2 e.f0) (fun k j => spec_ValidStore.l2 k n i q es j l lo rs) _ r he
    (fun k j hj => by
      simp only [spec_ValidStore.l2]; rw [if_pos (by omega), specRange_is l hb i hi]; simp only [Option.bind_some]; rw [if_pos (by omega), wrap_nat _ (by omega)]; rfl)
    (fun k => by simp only [spec_ValidStore.l2]; rw [if_neg (by omega), wrap_nat _ hq])
    (fun e he => by rw [specRange_is l hb i hi]; simp only [Option.bind_some, specInRange_is]; exact Ev.now _) hr es [] rfl
theorem specL1 (l : List IT) (hb : l.length < 4611686018427387904) (i : Nat) (hi : i < l.length) (lo : ByteArray) (xs : List IR) (hx : xs.length < 4611686018427387904) (hq : ∀ q ∈ xs, sR q) (r : Bool) (n : Int)
    (hr : Ev (fun k => spec_ValidStore.l0 k n ((i + 1 : Nat) : Int) l) r) :
    ∀ (rest pre : List IR), xs = pre ++ rest → Ev (fun k => spec_ValidStore.l1 k n i (pre.length : Int) l lo xs) (rest.all (runS l i) && r) := by
  intro rest
  induction rest with
  | nil => intro pre e; exact Ev.round (fun k => by simp only [spec_ValidStore.l1]; rw [if_neg (by rw [e]; simp), wrap_nat _ (by omega)]) (by simpa using hr)
  | cons x rest ih =>
    intro pre e
    have hlt : pre.length < xs.length := by rw [e]; exact len_cut _ _ _
    have hd : rd_T66 xs (pre.length : Int) = x := by unfold rd_T66; rw [Int.toNat_natCast, e, getD_cut]
    have h := ih (pre ++ [x]) (by simp [e])
    rw [List.length_append, List.length_singleton] at h
    have h2 := specL2 l hb i pre.length hi lo xs x.f0 (hq x (by rw [e]; simp)) _ n (by omega) h
    by_cases h0 : x.f0 = []
    · refine Ev.shift 1 fun k => ?_
      simp only [spec_ValidStore.l1]; rw [if_pos (by omega), if_pos (by omega), hd, if_pos (by rw [h0]; rfl), List.all_cons]
      unfold runS; rw [h0]; rfl
    · refine Ev.round (fun k => ?_) (f := fun k => spec_ValidStore.l2 k n i pre.length x.f0 0 l lo xs) ?_
      · simp only [spec_ValidStore.l1]; rw [if_pos (by omega), if_pos (by omega), hd, if_neg (by have := List.length_pos_iff.mpr h0; omega)]
      · rw [List.all_cons]
        have hne : x.f0.isEmpty = false := by cases hx0 : x.f0 with
          | nil => exact absurd hx0 h0
          | cons _ _ => rfl
        have h3 : (runS l i x && rest.all (runS l i) && r) = ((x.f0.all fun e => inT l i e.f0) && (rest.all (runS l i) && r)) := by unfold runS; rw [hne]; simp [Bool.and_assoc]
        rw [h3]
        exact h2
theorem specL0 (l : List IT) (hb : l.length < 4611686018427387904) (hs : ∀ q ∈ l, sT q) : ∀ (ts pre : List IT), l = pre ++ ts → Ev (fun k => spec_ValidStore.l0 k (l.length : Int) (pre.length : Int) l) (tabsV l pre.length ts)
  | [], pre, e => Ev.shift 1 fun k => by simp only [spec_ValidStore.l0]; rw [if_neg (by rw [e]; simp)]; rfl
  | t :: ts, pre, e => by
    have hlt : pre.length < l.length := by rw [e]; exact len_cut _ _ _
    have ht : sT t := hs t (by rw [e]; simp)
    have hd : rd_T98 l (pre.length : Int) = t := by unfold rd_T98; rw [Int.toNat_natCast, e, getD_cut]
    have ih := specL0 l hb hs ts (pre ++ [t]) (by simp [e])
    rw [List.length_append, List.length_singleton] at ih
    have h1 := specL1 l hb pre.length hlt t.f0 t.f1 ht.1 ht.2 _ (l.length : Int) ih t.f1 [] rfl
    have hj : ∀ b : Bool, Ev (fun k => spec_ValidStore.j2 k (l.length : Int) (pre.length : Int) b l t.f0 t.f1) (!b && (t.f1.all (runS l pre.length) && tabsV l (pre.length + 1) ts)) := by
      intro b
      cases b with
      | true => exact Ev.shift 1 fun k => by simp only [spec_ValidStore.j2]; rfl
      | false => exact Ev.round (f := fun k => spec_ValidStore.l1 k (l.length : Int) (pre.length : Int) 0 l t.f0 t.f1) (fun k => by simp only [spec_ValidStore.j2]; rfl) h1
    have hg := specGood_is t.f1 ht.1 ht.2
    unfold tabsV headOk
    by_cases h2 : (t.f0.size : Int) > 64
    · rw [decide_eq_false (by omega : ¬ t.f0.size ≤ 64)]
      exact Ev.round (f := fun k => spec_ValidStore.j2 k (l.length : Int) (pre.length : Int) true l t.f0 t.f1) (fun k => by simp only [spec_ValidStore.l0]; rw [if_pos (by omega), if_pos (by omega), if_pos (by omega), hd, if_pos h2]) (hj true)
    · rw [decide_eq_true (by omega : t.f0.size ≤ 64)]
      by_cases h0 : pre.length = 0
      · rw [decide_eq_true h0]
        refine Ev.round (f := fun k => (spec_l3GoodRuns.f k t.f1).bind fun b => spec_ValidStore.j2 k (l.length : Int) (pre.length : Int) (!b) l t.f0 t.f1) (fun k => by simp only [spec_ValidStore.l0]; rw [if_pos (by omega), if_pos (by omega), if_pos (by omega), hd, if_neg h2, if_neg (by omega)]) (Ev.bind hg ?_)
        have h3 := hj (!goodR t.f1)
        simpa using h3
      · rw [decide_eq_false h0]
        have hm : wrap64 ((pre.length : Int) - 1) = ((pre.length - 1 : Nat) : Int) := by unfold wrap64; omega
        have hl0 : (rd_T98 l ((pre.length - 1 : Nat) : Int)).f0 = loT l (pre.length - 1) := rfl
        cases hl : Op.bytesLess (loT l (pre.length - 1)).toList t.f0.toList with
        | true =>
          refine Ev.round (f := fun k => (spec_l3GoodRuns.f k t.f1).bind fun b => spec_ValidStore.j2 k (l.length : Int) (pre.length : Int) (!b) l t.f0 t.f1) (fun k => by simp only [spec_ValidStore.l0]; rw [if_pos (by omega), if_pos (by omega), if_pos (by omega), hd, if_neg h2, if_pos (by omega), hm, if_pos (by omega), if_pos (by omega), hl0, if_pos hl]) (Ev.bind hg ?_)
          have h3 := hj (!goodR t.f1)
          simpa using h3
        | false =>
          exact Ev.round (f := fun k => spec_ValidStore.j2 k (l.length : Int) (pre.length : Int) true l t.f0 t.f1) (fun k => by simp only [spec_ValidStore.l0]; rw [if_pos (by omega), if_pos (by omega), if_pos (by omega), hd, if_neg h2, if_pos (by omega), hm, if_pos (by omega), if_pos (by omega), hl0, if_neg (by rw [hl]; simp)]) (hj true)
theorem specStore_is (l : List IT) (hb : l.length < 4611686018427387904) (hs : ∀ q ∈ l, sT q) : Ev (fun k => spec_ValidStore.f k l) (vstore l) := by
  have hj : ∀ b : Bool, Ev (fun k => spec_ValidStore.j0 k (l.length : Int) b l) (!b && tabsV l 0 l) := by
    intro b
    cases b with
    | true => exact Ev.shift 1 fun k => by simp only [spec_ValidStore.j0]; rfl
    | false => exact Ev.round (f := fun k => spec_ValidStore.l0 k (l.length : Int) 0 l) (fun k => by simp only [spec_ValidStore.j0]; rfl) (specL0 l hb hs l [] rfl)
  unfold spec_ValidStore.f vstore
  by_cases h1 : (l.length : Int) < 1
  · rw [decide_eq_false (by omega : ¬ 1 ≤ l.length)]; exact Ev.if_pos h1 (hj true)
  rw [decide_eq_true (by omega : 1 ≤ l.length)]
  by_cases h2 : (l.length : Int) > 100
  · rw [decide_eq_false (by omega : ¬ l.length ≤ 100)]; exact Ev.if_neg h1 (Ev.if_pos h2 (hj true))
  rw [decide_eq_true (by omega : l.length ≤ 100)]
  have e0 : (rd_T98 l 0).f0 = loT l 0 := rfl
  refine Ev.if_neg h1 (Ev.if_neg h2 (Ev.if_pos (by omega) ?_))
  rw [e0]
  have h3 := hj ((loT l 0).toList != [])
  have h4 : (!((loT l 0).toList != [])) = (loT l 0).toList.isEmpty := (isE _).symm
  rw [h4] at h3
  simpa using h3
end Go.Proofs.Ytdknjbadnbangaa.Q

namespace Go.Proofs.Ytdknjbadnbangaa.Pr
open Q Go.Proofs.YtdknjbadnbangaaW.PrintWords
theorem FnExactValidStore : laws_FnExactValidStore.Pure := by
  intro xs ⟨hl, hok⟩
  apply Ev.rounds
  unfold laws_FnExactValidStore.f
  obtain ⟨t, ht, h1⟩ := szStore_ok xs 1048576 hl hok (by omega) (by omega)
  rcases h1 with h1 | ⟨h1, h2, h3, h4⟩
  · exact Ev.bind ht (Ev.if_pos h1 (Ev.now _))
  · have hc := toStore_is xs h3 h4
    have hle : (xs.map cvT).length < 4611686018427387904 := by rw [List.length_map]; omega
    have hs : ∀ q ∈ xs.map cvT, sT q := by
      intro q hq
      obtain ⟨y, hy, rfl⟩ := List.mem_map.mp hq
      obtain ⟨h5, h6⟩ := h4 y hy
      refine ⟨by show (y.f1.map cvR).length < _; rw [List.length_map]; omega, fun p hp => ?_⟩
      obtain ⟨u, hu, rfl⟩ := List.mem_map.mp hp
      have h7 := h6 u hu
      unfold bR at h7
      show (u.f0.map cvE).length < _
      rw [List.length_map]; omega
    refine Ev.bind ht (Ev.if_neg (by omega) (Ev.bind hc (Ev.bind (specStore_is _ hle hs) (Ev.bind hc (Ev.bind (implStore_is _ hle hs) (Ev.if_neg (by simp) (Ev.bind hc (Ev.bind (eqStore_refl _ hle hs) (Ev.if_pos rfl (Ev.now _))))))))))
end Go.Proofs.Ytdknjbadnbangaa.Pr

namespace Go.Proofs.Ytdknjbadnbangaa.fnExactValidStore
open Go.ChangeShapes Go.WideShapes Go.ChangeAt Go.RowKit Go.Proofs.YtdknjbadnbangaaW.PrintWords Go.Proofs.Ytdknjbadnbangaa.RowK Go.Proofs.Ytdknjbadnbangaa.Q
open Go.ChangeMaps (open_string shut_string)
set_option linter.unusedVariables false
theorem own : ownKnob Try.prog.godebug = none := by kernel_rfl
theorem laidOut : laidOutB Try.prog = true := by kernel_rfl
set_option maxRecDepth 100000 in
theorem lifted (os : Os) (started : os.Started) (H : Type) (enc : TypeId × Value → H) :
    ReturnsInHanded {} Try.checked os 13 .any (Rows.fnExactValidStoreSpec.pre6 enc Try.prog Try.f13 Rows.fnExactValidStoreRow.domain false) (Rows.fnExactValidStoreSpec.post enc Try.prog Try.f13 false true false false) := by
  refine returnsInHanded_of_change_sized (C := Try.checked) own started (by kernel_rfl) Try.func13
    (ChangeSpec.witness6 (enc := enc) (C := Try.checked) false ⟨#[], #[.agg #[.slice none 0 0]], []⟩ 8 (by kernel_rfl) (by kernel_rfl) (by kernel_rfl) (by kernel_rfl)) ?_
  intro W base args ds gs before hval0 hW hcnd hsz0 _
  have hval : ∀ (j : Nat) t v, Try.f13.params[j]? = some t → args[j]? = some v → Value.okWide Try.prog W .any base t v := hval0
  have hW' := hW
  obtain ⟨p, q, hA0, hV, rfl, hfz, hnd⟩ := hW
  have hA : DataW.TrodAll enc Try.prog W 0 (fun _ => true) true Try.f13.params.toList args.toList ds p := hA0
  rw [Try.params13] at hA hval
  obtain ⟨v0, vs0, d0, ds0, p0, q0, hargs, rfl, rfl, h0, r0⟩ := trodAll_cons hA
  obtain ⟨rfl, rfl, rfl⟩ := trodAll_nil r0
  obtain rfl : args = #[v0] := by cases args; simp_all
  obtain ⟨rfl, rfl⟩ := trodVars_none hV
  obtain ⟨cs0, rfl, _⟩ := okWide_struct Try.underlying81 (hval 0 81 v0 rfl rfl)
  have k0 := h0
  have lt0 : ∀ x ∈ p0, x.block < W.heap.size := by obtain ⟨m, hm⟩ := k0; exact DataW.trod_lt m _ _ _ hm
  obtain ⟨x0_, hK0, ok0_⟩ := Opens.arg (d := (Kd.slice 165 k165)) (opens_imp (opens_struct Try.underlying81 (by kernel_rfl) (opensF_last rfl (by kernel_rfl) (opens_slice Try.underlying79 (by kernel_rfl) opens165))) (fun _ h => h)) h0
  obtain ⟨A0_0, c0_0, hs0_0, hc0_0, hr0_0⟩ := hK0
  have hv0 : Value.agg cs0 = .agg #[.slice A0_0 (x0_).length c0_0] := agg_cells (l := [.slice A0_0 (x0_).length c0_0]) (by simp only [hs0_0] <;> rfl)
  obtain ⟨k_, hp_⟩ := Pr.FnExactValidStore x0_ ok0_
  clear hA0 hval0 hsz0
  have hc_ := Q.laws_FnExactValidStore.calls k_ _ _ x0_ true W hr0_0 hc0_0 hp_
  rw [← hv0] at hc_
  refine hc_.mono fun e W' ⟨he, bel0⟩ => ?_
  subst he
  have bel : Below W.heap.size W W' := bel0
  exact ⟨_, rfl, _, _, _, [], _, [], hW', trodAll_mk1 (shut_bool Try.underlying4 _), (trodAll_cons_mk (Below.trod laidOut (by kernel_rfl) (of_decide_eq_true (by kernel_rfl)) k0 bel lt0) trodAll_mk0), rfl, bel.frame _, fun h => by cases h⟩
theorem over : Rows.fnExactValidStoreRow.holds Try.pinned (OpenSpec.ofChange Rows.fnExactValidStoreSpec) :=
  OpenClaim.holds_of_wide 13 Try.f13 rfl rfl rfl rfl rfl rfl rfl ⟨rfl, rfl, rfl, rfl, rfl⟩ rfl rfl rfl rfl rfl (by kernel_rfl) Try.func13 (by kernel_rfl)
    (of_decide_eq_true (by kernel_rfl)) (by unfold Func.isWrapper; first | (rw [if_pos (by decide +kernel)]; kernel_rfl) | (rw [if_neg (by decide +kernel)]; exact ⟨rfl, rfl⟩))
    (fun os started H enc _ => lifted os started H enc)
end Go.Proofs.Ytdknjbadnbangaa.fnExactValidStore
namespace Go.Proofs.Ytdknjbadnbangaa
theorem fnExactValidStore_holds : Rows.FnExactValidStoreSaid := fnExactValidStore.over
#print axioms fnExactValidStore_holds
end Go.Proofs.Ytdknjbadnbangaa
