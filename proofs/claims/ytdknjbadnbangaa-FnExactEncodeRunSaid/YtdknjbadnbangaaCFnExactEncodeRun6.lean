/- FnExactEncodeRun: the row of the law: its arguments opened, its walk, its statement over lists (PrFnExactEncodeRun). No condition. -/
import Derived.Test.YtdknjbadnbangaaCFnExactEncodeRun5
import Derived.Test.YtdknjbadnbangaaRows
import Derived.WalkKit
import Derived.ProofKit
import Derived.OpenShut
import Derived.ShutString
import Derived.ChangeOld
import Derived.Below
import Derived.SizedLaws

namespace Go.Proofs.Ytdknjbadnbangaa.Q
open Go.RowKit Go.Proofs.YtdknjbadnbangaaW.PrintWords Go.Proofs.YtdknjbadnbangaaW.PrintLast Go.Proofs.YtdknjbadnbangaaW.PrintMore
set_option linter.unusedVariables false
set_option linter.unusedSimpArgs false

/-! ### laws_FnExactEncodeRun: function 14 -/
def laws_FnExactEncodeRun.j0 : Nat → Int → List Int → List Int → Bool → List (S32) → Option (Bool)
 | 0, _, _, _, _, _ => none
 | k + 1, x1, x6, x8, x46, x801000 => if x46 = true then (some false) else ((laws_markByteS.f k x8 1).bind fun bt823 => ((laws_heldByteS.f k bt823.2 1).bind fun t825 => (if t825 < 0 then (some false) else (if t825 = bt823.1 then ((laws_toRun.f k x801000).bind fun t826 => ((impl_EncodeRun.f k t826 x1).bind fun t829 => ((laws_eqByteS.f k t829 x6).bind fun t832 => (if t832 = true then (some true) else (some false))))) else (some false)))))
def laws_FnExactEncodeRun.f (k : Nat) (l0_0 : List (S32)) (a1 : Int) : Option (Bool) := (laws_szRun.f k l0_0 1048576).bind fun t801 => (if t801 < 0 then (some true) else ((laws_toRun.f k l0_0).bind fun t802 => ((spec_EncodeRun.f k t802 a1).bind fun t805 => ((laws_toRun.f k l0_0).bind fun t808 => ((impl_EncodeRun.f k t808 a1).bind fun t812 => ((laws_eqByteS.f k t812 t805).bind fun t815 => (if t815 = true then ((laws_toRun.f k l0_0).bind fun t816 => ((laws_eqRun.f k t808 t816).bind fun t819 => (if t819 = true then ((laws_markRun.f k t808 1).bind fun bt820 => (if bt820.1 < 0 then (laws_FnExactEncodeRun.j0 k a1 t805 t812 true l0_0) else ((laws_eqByteS.f k t812 t805).bind fun t822 => (laws_FnExactEncodeRun.j0 k a1 t805 t812 (!t822) l0_0)))) else (some false)))) else (some false))))))))
set_option maxHeartbeats 8000000 in
set_option maxRecDepth 100000 in
theorem laws_FnExactEncodeRun.calls (k : Nat) (A0_0 : Option Addr) (c0_0 : Nat) (l0_0 : List (S32)) (a1 : Int) (r : Bool) (w : World) (hr0_0 : Kd.C k32 w A0_0 l0_0.length l0_0) (hc0_0 : l0_0.length ≤ c0_0) (h : laws_FnExactEncodeRun.f k l0_0 a1 = some r) :
  Calls Try.prog 14 #[.agg #[.slice A0_0 l0_0.length c0_0], .int .i64 a1] w fun e w' => e = .returned (.bool r) ∧ Below w.heap.size w w' := by
 have hu61 := Try.underlying61
 have hu66 := Try.underlying66
 have HR0_0 := Aside0.mk hr0_0
 have HC0_0 := Aside0.mk hc0_0
 clear hr0_0 hc0_0
 have HB := Aside0.mk (Below.refl w.heap.size w)
 have H : ((laws_szRun.f k l0_0 1048576).bind fun t801 => (if t801 < 0 then (some true) else ((laws_toRun.f k l0_0).bind fun t802 => ((spec_EncodeRun.f k t802 a1).bind fun t805 => ((laws_toRun.f k l0_0).bind fun t808 => ((impl_EncodeRun.f k t808 a1).bind fun t812 => ((laws_eqByteS.f k t812 t805).bind fun t815 => (if t815 = true then ((laws_toRun.f k l0_0).bind fun t816 => ((laws_eqRun.f k t808 t816).bind fun t819 => (if t819 = true then ((laws_markRun.f k t808 1).bind fun bt820 => (if bt820.1 < 0 then (laws_FnExactEncodeRun.j0 k a1 t805 t812 true l0_0) else ((laws_eqByteS.f k t812 t805).bind fun t822 => (laws_FnExactEncodeRun.j0 k a1 t805 t812 (!t822) l0_0)))) else (some false)))) else (some false))))))))) = some r := h
 clear h
 replace H := Option.bind_eq_some_iff.mp H
 obtain ⟨t801, A30, H⟩ := H
 replace H : (if t801 < 0 then (some true) else ((laws_toRun.f k l0_0).bind fun t802 => ((spec_EncodeRun.f k t802 a1).bind fun t805 => ((laws_toRun.f k l0_0).bind fun t808 => ((impl_EncodeRun.f k t808 a1).bind fun t812 => ((laws_eqByteS.f k t812 t805).bind fun t815 => (if t815 = true then ((laws_toRun.f k l0_0).bind fun t816 => ((laws_eqRun.f k t808 t816).bind fun t819 => (if t819 = true then ((laws_markRun.f k t808 1).bind fun bt820 => (if bt820.1 < 0 then (laws_FnExactEncodeRun.j0 k a1 t805 t812 true l0_0) else ((laws_eqByteS.f k t812 t805).bind fun t822 => (laws_FnExactEncodeRun.j0 k a1 t805 t812 (!t822) l0_0)))) else (some false)))) else (some false)))))))) = some r := H
 have A3 := Aside0.mk A30
 clear A30
 by_cases c4 : t801 < 0
 ·rw [if_pos c4] at H
  have c4b0 : decide (t801 < 0) = true := decide_eq_true c4
  clear c4
  obtain rfl := Option.some.inj H
  go_enter Try.func14, Try.ntmps14
  go_wp2_with (first | ((with_reducible refine gate_dst (N := 2) rfl ?_); refine box_event ?hg (N := 2) ?hd (cs := #[.slice A0_0 l0_0.length c0_0]) (t := 61) ?hr ?_; (case hd => rfl); (case hg => rfl); (case hr => first | (go_simp; done) | (go_simp; rfl)); intro gb800 hg w5 hbox hb; have n0_ := Aside0.mk (below_step bw hb); have n1_ := Aside0.mk (hbox); have n2_ := Aside0.mk ((by rw [hg]; exact (below_size bw) : w.heap.size ≤ gb800)); have n3_ := Aside0.mk ((by rw [hg]; exact (below_size bw) : w.heap.size ≤ gb800)); clear HB; have HB := n0_; have BK800 := n1_; have GW800 := n2_; have GE800 := n3_; clear n0_ n1_ n2_ n3_; clear hb hbox hg; have hcz6_0 : w5.cell? ⟨gb800, 0, none⟩ = some (.slice A0_0 l0_0.length c0_0) := (blk_cell BK800.out 0).trans rfl; have hfz6_0 := blk_frozen BK800.out 0) | ((with_reducible refine at_fn (f := 39) rfl ?_); refine goesL_ (some 15) rfl rfl Try.func39 (by kernel_rfl) rfl #[.agg #[.slice A0_0 l0_0.length c0_0], .int .i64 1048576] rfl (by (try simp only [List.map_toArray, List.map_cons, List.map_nil]); first | done | rfl | (simp only [List.length_drop, List.length_take]; rfl)) ?_; (with_reducible refine (laws_szRun.calls k _ _ l0_0 1048576 t801 _ ?side1 ?side2 A3.out).mono ?_); (case side1 => repeat (first | exact (Kd.C_below HR0_0.out HB.out) | (with_reducible refine Kd.C_alloc ?_ _) | (with_reducible refine Kd.C_drewN ?_ _) | (with_reducible refine Kd.C_drew ?_))); (case side2 => exact HC0_0.out); rintro e w7 ⟨rfl, hb⟩; refine ⟨_, rfl, ?_⟩; have n0_ := Aside0.mk (blk_below (g := gb800) (o := .cells #[.slice A0_0 l0_0.length c0_0] 61 (0, 0)) (lb BK800) hb); have n1_ := Aside0.mk (below_step bw hb); clear BK800; clear HB; have BK800 := n0_; have HB := n1_; clear n0_ n1_; (try clear hb); (try clear hb2); (try clear hk); (try clear hi)))
  go_ret
  exact ⟨by first | rfl | (simp [errW_none, errW_some] <;> rfl) | (simp [*, errW_none, errW_some] <;> rfl), bw⟩
 ·rw [if_neg c4] at H
  have c4b0 : decide (t801 < 0) = false := decide_eq_false c4
  clear c4
  replace H := Option.bind_eq_some_iff.mp H
  obtain ⟨t802, A80, H⟩ := H
  replace H : ((spec_EncodeRun.f k t802 a1).bind fun t805 => ((laws_toRun.f k l0_0).bind fun t808 => ((impl_EncodeRun.f k t808 a1).bind fun t812 => ((laws_eqByteS.f k t812 t805).bind fun t815 => (if t815 = true then ((laws_toRun.f k l0_0).bind fun t816 => ((laws_eqRun.f k t808 t816).bind fun t819 => (if t819 = true then ((laws_markRun.f k t808 1).bind fun bt820 => (if bt820.1 < 0 then (laws_FnExactEncodeRun.j0 k a1 t805 t812 true l0_0) else ((laws_eqByteS.f k t812 t805).bind fun t822 => (laws_FnExactEncodeRun.j0 k a1 t805 t812 (!t822) l0_0)))) else (some false)))) else (some false)))))) = some r := H
  have A8 := Aside0.mk A80
  clear A80
  replace H := Option.bind_eq_some_iff.mp H
  obtain ⟨t805, A90, H⟩ := H
  replace H : ((laws_toRun.f k l0_0).bind fun t808 => ((impl_EncodeRun.f k t808 a1).bind fun t812 => ((laws_eqByteS.f k t812 t805).bind fun t815 => (if t815 = true then ((laws_toRun.f k l0_0).bind fun t816 => ((laws_eqRun.f k t808 t816).bind fun t819 => (if t819 = true then ((laws_markRun.f k t808 1).bind fun bt820 => (if bt820.1 < 0 then (laws_FnExactEncodeRun.j0 k a1 t805 t812 true l0_0) else ((laws_eqByteS.f k t812 t805).bind fun t822 => (laws_FnExactEncodeRun.j0 k a1 t805 t812 (!t822) l0_0)))) else (some false)))) else (some false))))) = some r := H
  have A9 := Aside0.mk A90
  clear A90
  replace H := Option.bind_eq_some_iff.mp H
  obtain ⟨t808, A100, H⟩ := H
  replace H : ((impl_EncodeRun.f k t808 a1).bind fun t812 => ((laws_eqByteS.f k t812 t805).bind fun t815 => (if t815 = true then ((laws_toRun.f k l0_0).bind fun t816 => ((laws_eqRun.f k t808 t816).bind fun t819 => (if t819 = true then ((laws_markRun.f k t808 1).bind fun bt820 => (if bt820.1 < 0 then (laws_FnExactEncodeRun.j0 k a1 t805 t812 true l0_0) else ((laws_eqByteS.f k t812 t805).bind fun t822 => (laws_FnExactEncodeRun.j0 k a1 t805 t812 (!t822) l0_0)))) else (some false)))) else (some false)))) = some r := H
  have A10 := Aside0.mk A100
  clear A100
  replace H := Option.bind_eq_some_iff.mp H
  obtain ⟨t812, A110, H⟩ := H
  replace H : ((laws_eqByteS.f k t812 t805).bind fun t815 => (if t815 = true then ((laws_toRun.f k l0_0).bind fun t816 => ((laws_eqRun.f k t808 t816).bind fun t819 => (if t819 = true then ((laws_markRun.f k t808 1).bind fun bt820 => (if bt820.1 < 0 then (laws_FnExactEncodeRun.j0 k a1 t805 t812 true l0_0) else ((laws_eqByteS.f k t812 t805).bind fun t822 => (laws_FnExactEncodeRun.j0 k a1 t805 t812 (!t822) l0_0)))) else (some false)))) else (some false))) = some r := H
  have A11 := Aside0.mk A110
  clear A110
  replace H := Option.bind_eq_some_iff.mp H
  obtain ⟨t815, A120, H⟩ := H
  replace H : (if t815 = true then ((laws_toRun.f k l0_0).bind fun t816 => ((laws_eqRun.f k t808 t816).bind fun t819 => (if t819 = true then ((laws_markRun.f k t808 1).bind fun bt820 => (if bt820.1 < 0 then (laws_FnExactEncodeRun.j0 k a1 t805 t812 true l0_0) else ((laws_eqByteS.f k t812 t805).bind fun t822 => (laws_FnExactEncodeRun.j0 k a1 t805 t812 (!t822) l0_0)))) else (some false)))) else (some false)) = some r := H
  have A12 := Aside0.mk A120
  clear A120
  by_cases c13 : t815 = true
  ·subst c13
   have H1 : ((laws_toRun.f k l0_0).bind fun t816 => ((laws_eqRun.f k t808 t816).bind fun t819 => (if t819 = true then ((laws_markRun.f k t808 1).bind fun bt820 => (if bt820.1 < 0 then (laws_FnExactEncodeRun.j0 k a1 t805 t812 true l0_0) else ((laws_eqByteS.f k t812 t805).bind fun t822 => (laws_FnExactEncodeRun.j0 k a1 t805 t812 (!t822) l0_0)))) else (some false)))) = some r := by rw [if_pos rfl] at H; exact H
   clear H
   have H := H1
   clear H1
   replace H := Option.bind_eq_some_iff.mp H
   obtain ⟨t816, A140, H⟩ := H
   replace H : ((laws_eqRun.f k t808 t816).bind fun t819 => (if t819 = true then ((laws_markRun.f k t808 1).bind fun bt820 => (if bt820.1 < 0 then (laws_FnExactEncodeRun.j0 k a1 t805 t812 true l0_0) else ((laws_eqByteS.f k t812 t805).bind fun t822 => (laws_FnExactEncodeRun.j0 k a1 t805 t812 (!t822) l0_0)))) else (some false))) = some r := H
   have A14 := Aside0.mk A140
   clear A140
   replace H := Option.bind_eq_some_iff.mp H
   obtain ⟨t819, A150, H⟩ := H
   replace H : (if t819 = true then ((laws_markRun.f k t808 1).bind fun bt820 => (if bt820.1 < 0 then (laws_FnExactEncodeRun.j0 k a1 t805 t812 true l0_0) else ((laws_eqByteS.f k t812 t805).bind fun t822 => (laws_FnExactEncodeRun.j0 k a1 t805 t812 (!t822) l0_0)))) else (some false)) = some r := H
   have A15 := Aside0.mk A150
   clear A150
   by_cases c16 : t819 = true
   ·subst c16
    have H1 : ((laws_markRun.f k t808 1).bind fun bt820 => (if bt820.1 < 0 then (laws_FnExactEncodeRun.j0 k a1 t805 t812 true l0_0) else ((laws_eqByteS.f k t812 t805).bind fun t822 => (laws_FnExactEncodeRun.j0 k a1 t805 t812 (!t822) l0_0)))) = some r := by rw [if_pos rfl] at H; exact H
    clear H
    have H := H1
    clear H1
    replace H := Option.bind_eq_some_iff.mp H
    obtain ⟨⟨t820, t821⟩, A170, H⟩ := H
    replace H : (if t820 < 0 then (laws_FnExactEncodeRun.j0 k a1 t805 t812 true l0_0) else ((laws_eqByteS.f k t812 t805).bind fun t822 => (laws_FnExactEncodeRun.j0 k a1 t805 t812 (!t822) l0_0))) = some r := H
    have A17 := Aside0.mk A170
    clear A170
    have HC18 := Aside0.mk H
    clear H
    go_enter Try.func14, Try.ntmps14
    try go_wp2_with (first | ((with_reducible refine gate_dst (N := 2) rfl ?_); refine box_event ?hg (N := 2) ?hd (cs := #[.slice A0_0 l0_0.length c0_0]) (t := 61) ?hr ?_; (case hd => rfl); (case hg => rfl); (case hr => first | (go_simp; done) | (go_simp; rfl)); intro gb800 hg w19 hbox hb; have n0_ := Aside0.mk (below_step bw hb); have n1_ := Aside0.mk (hbox); have n2_ := Aside0.mk ((by rw [hg]; exact (below_size bw) : w.heap.size ≤ gb800)); have n3_ := Aside0.mk ((by rw [hg]; exact (below_size bw) : w.heap.size ≤ gb800)); clear HB; have HB := n0_; have BK800 := n1_; have GW800 := n2_; have GE800 := n3_; clear n0_ n1_ n2_ n3_; clear hb hbox hg; have hcz20_0 : w19.cell? ⟨gb800, 0, none⟩ = some (.slice A0_0 l0_0.length c0_0) := (blk_cell BK800.out 0).trans rfl; have hfz20_0 := blk_frozen BK800.out 0) | ((with_reducible refine at_fn (f := 39) rfl ?_); refine goesL_ (some 15) rfl rfl Try.func39 (by kernel_rfl) rfl #[.agg #[.slice A0_0 l0_0.length c0_0], .int .i64 1048576] rfl (by (try simp only [List.map_toArray, List.map_cons, List.map_nil]); first | done | rfl | (simp only [List.length_drop, List.length_take]; rfl)) ?_; (with_reducible refine (laws_szRun.calls k _ _ l0_0 1048576 t801 _ ?side1 ?side2 A3.out).mono ?_); (case side1 => repeat (first | exact (Kd.C_below HR0_0.out HB.out) | (with_reducible refine Kd.C_alloc ?_ _) | (with_reducible refine Kd.C_drewN ?_ _) | (with_reducible refine Kd.C_drew ?_))); (case side2 => exact HC0_0.out); rintro e w21 ⟨rfl, hb⟩; refine ⟨_, rfl, ?_⟩; have n0_ := Aside0.mk (blk_below (g := gb800) (o := .cells #[.slice A0_0 l0_0.length c0_0] 61 (0, 0)) (lb BK800) hb); have n1_ := Aside0.mk (below_step bw hb); clear BK800; clear HB; have BK800 := n0_; have HB := n1_; clear n0_ n1_; (try clear hb); (try clear hb2); (try clear hk); (try clear hi); have hcz22_0 : w21.cell? ⟨gb800, 0, none⟩ = some (.slice A0_0 l0_0.length c0_0) := (blk_cell BK800.out 0).trans rfl; have hfz22_0 := blk_frozen BK800.out 0) | ((with_reducible refine at_fn (f := 41) rfl ?_); refine goesL_ (some 19) rfl rfl Try.func41 (by kernel_rfl) rfl #[.agg #[.slice A0_0 l0_0.length c0_0]] rfl (by (try simp only [List.map_toArray, List.map_cons, List.map_nil]); first | done | rfl | (simp only [List.length_drop, List.length_take]; rfl)) ?_; (with_reducible refine (laws_toRun.calls k _ _ l0_0 t802 _ ?side1 ?side2 A8.out).mono ?_); (case side1 => repeat (first | exact (Kd.C_below HR0_0.out HB.out) | (with_reducible refine Kd.C_alloc ?_ _) | (with_reducible refine Kd.C_drewN ?_ _) | (with_reducible refine Kd.C_drew ?_))); (case side2 => exact HC0_0.out); rintro e w23 ⟨v803, rfl, ho0, hb⟩; refine ⟨_, rfl, ?_⟩; have n0_ := Aside0.mk (Kd.R_lower ho0 (below_size bw)); have n1_ := Aside0.mk (blk_below (g := gb800) (o := .cells #[.slice A0_0 l0_0.length c0_0] 61 (0, 0)) (lb BK800) hb); have n2_ := Aside0.mk (below_step bw hb); clear BK800; clear HB; have HO804 := n0_; have BK800 := n1_; have HB := n2_; clear n0_ n1_ n2_; (try clear hb); (try clear hb2); (try clear hk); (try clear hi); (try clear ho0); obtain ⟨Ao24, co24, eo24⟩ := Kd.R_slice HO804.out; subst eo24) | ((with_reducible refine at_fn (f := 54) rfl ?_); refine goesL_ (some 21) rfl rfl Try.func54 (by kernel_rfl) rfl #[.agg #[.slice Ao24 t802.length co24], .int .i64 a1] rfl (by (try simp only [List.map_toArray, List.map_cons, List.map_nil]); first | done | rfl | (simp only [List.length_drop, List.length_take]; rfl)) ?_; (with_reducible refine (spec_EncodeRun.calls k (fun k_ => some k_ = (.slice Ao24 t802.length co24 : Value).ownBlock) _ _ t802 a1 t805 _ ?side1 A9.out).mono ?_); (case side1 => exact Kd.R_V (Kd.R_tight rfl (Kd.R_types (HO804.out) BK800.out (by decide)))); rintro e w25 ⟨v806, rfl, ho0, hb⟩; refine ⟨_, rfl, ?_⟩; have n0_ := Aside0.mk (Kd.R_below (lf HO804) hb); have n1_ := Aside0.mk (Kd.R_lower (Kd.R_mono (ok' := fun k_ => True) ho0 (fun _ hk_ => trivial)) (below_size bw)); have n2_ := Aside0.mk (blk_below (g := gb800) (o := .cells #[.slice A0_0 l0_0.length c0_0] 61 (0, 0)) (lb BK800) hb); have n3_ := Aside0.mk (below_step bw hb); clear HO804; clear BK800; clear HB; have HO804 := n0_; have HO807 := n1_; have BK800 := n2_; have HB := n3_; clear n0_ n1_ n2_ n3_; (try clear hb); (try clear hb2); (try clear hk); (try clear hi); (try clear ho0); have hcz26_0 : w25.cell? ⟨gb800, 0, none⟩ = some (.slice A0_0 l0_0.length c0_0) := (blk_cell BK800.out 0).trans rfl; have hfz26_0 := blk_frozen BK800.out 0) | ((with_reducible refine at_fn (f := 41) rfl ?_); refine goesL_ (some 23) rfl rfl Try.func41 (by kernel_rfl) rfl #[.agg #[.slice A0_0 l0_0.length c0_0]] rfl (by (try simp only [List.map_toArray, List.map_cons, List.map_nil]); first | done | rfl | (simp only [List.length_drop, List.length_take]; rfl)) ?_; (with_reducible refine (laws_toRun.calls k _ _ l0_0 t808 _ ?side1 ?side2 A10.out).mono ?_); (case side1 => repeat (first | exact (Kd.C_below HR0_0.out HB.out) | (with_reducible refine Kd.C_alloc ?_ _) | (with_reducible refine Kd.C_drewN ?_ _) | (with_reducible refine Kd.C_drew ?_))); (case side2 => exact HC0_0.out); rintro e w27 ⟨v809, rfl, ho0, hb⟩; refine ⟨_, rfl, ?_⟩; have n0_ := Aside0.mk (Kd.R_elder' (lf HO804) (Kd.R_base ho0) hb); have n1_ := Aside0.mk (Kd.R_below (lf HO807) hb); have n2_ := Aside0.mk (Kd.R_lower (Kd.R_new' ho0 (Kd.R_lt (lf HO804))) (below_size bw)); have n3_ := Aside0.mk (blk_below (g := gb800) (o := .cells #[.slice A0_0 l0_0.length c0_0] 61 (0, 0)) (lb BK800) hb); have n4_ := Aside0.mk (below_step bw hb); clear HO804; clear HO807; clear BK800; clear HB; have HO804 := n0_; have HO807 := n1_; have HO810 := n2_; have BK800 := n3_; have HB := n4_; clear n0_ n1_ n2_ n3_ n4_; (try clear hb); (try clear hb2); (try clear hk); (try clear hi); (try clear ho0)) | ((with_reducible refine gate_dst (N := 7) rfl ?_); refine box_event ?hg (N := 7) ?hd (cs := #[.slice none 0 0]) (t := 66) ?hr ?_; (case hd => rfl); (case hg => rfl); (case hr => first | (go_simp; done) | (go_simp; rfl)); intro gb811 hg w28 hbox hb; have n0_ := Aside0.mk (Kd.R_below (lf HO804) hb); have n1_ := Aside0.mk (Kd.R_below (lf HO807) hb); have n2_ := Aside0.mk (Kd.R_below (lf HO810) hb); have n3_ := Aside0.mk (blk_below (g := gb800) (o := .cells #[.slice A0_0 l0_0.length c0_0] 61 (0, 0)) (lb BK800) hb); have n4_ := Aside0.mk (below_step bw hb); have n5_ := Aside0.mk (hbox); have n6_ := Aside0.mk ((by rw [hg]; exact (below_size bw) : w.heap.size ≤ gb811)); have n7_ := Aside0.mk ((by rw [hg]; exact (below_size bw) : w.heap.size ≤ gb811)); have n8_ := Aside0.mk ((by rw [hg]; exact Nat.ne_of_lt (blk_lt (g := gb800) (o := .cells #[.slice A0_0 l0_0.length c0_0] 61 (0, 0)) (lb BK800)) : gb800 ≠ gb811)); have n9_ := Aside0.mk ((by rw [hg]; exact Nat.ne_of_gt (blk_lt (g := gb800) (o := .cells #[.slice A0_0 l0_0.length c0_0] 61 (0, 0)) (lb BK800)) : gb811 ≠ gb800)); clear HO804; clear HO807; clear HO810; clear BK800; clear HB; have HO804 := n0_; have HO807 := n1_; have HO810 := n2_; have BK800 := n3_; have HB := n4_; have BK811 := n5_; have GW811 := n6_; have GE811 := n7_; have NB800_811 := n8_; have NB811_800 := n9_; clear n0_ n1_ n2_ n3_ n4_ n5_ n6_ n7_ n8_ n9_; clear hb hbox hg; obtain ⟨Ao29, co29, eo29⟩ := Kd.R_slice HO810.out; subst eo29; have hnb30 := NB811_800.out; have hnc30 := NB800_811.out; have hcz31_0 : w28.cell? ⟨gb811, 0, none⟩ = some (.slice none 0 0) := (blk_cell BK811.out 0).trans rfl; have hfz31_0 := blk_frozen BK811.out 0) | ((with_reducible refine at_fn (f := 55) rfl ?_); refine goesL_ (some 26) rfl rfl Try.func55 (by kernel_rfl) rfl #[.agg #[.slice Ao29 t808.length co29], .int .i64 a1] rfl (by (try simp only [List.map_toArray, List.map_cons, List.map_nil]); first | done | rfl | (simp only [List.length_drop, List.length_take]; rfl)) ?_; (with_reducible refine (impl_EncodeRun.calls k _ _ t808 a1 t812 _ ?side1 ?side2 A11.out).mono ?_); (case side1 => refine (Kd.R_reads' (e := 35) (base := w.heap.size) (ok := fun k_ => (True ∧ some k_ ≠ (.slice Ao24 t802.length co24 : Value).ownBlock)) (n := t808.length) (c := co29) ?_).2.2; exact (by (with_reducible repeat (first | apply Kd.R_alloc | apply Kd.R_drewN | apply Kd.R_drew)); exact (Kd.R_mono (Kd.R_far (p := ⟨gb811, 0, none⟩) (Kd.R_types HO810.out BK811.out (by decide)) (fun _ hk => hk.2) (.slice Ao29 t808.length co29)) (fun _ h_ => h_.1)))); (case side2 => exact (Kd.R_reads' HO810.out).2.1); rintro e w32 ⟨v813, rfl, ho0, hb⟩; refine ⟨_, rfl, ?_⟩; have n0_ := Aside0.mk (Kd.R_below (by (with_reducible repeat (first | apply Kd.R_alloc | apply Kd.R_drewN | apply Kd.R_drew)); exact (Kd.R_mono (Kd.R_far (p := ⟨gb811, 0, none⟩) (Kd.R_types HO804.out BK811.out (by decide)) (fun _ hk => hk.2) (.slice Ao29 t808.length co29)) (fun _ h_ => h_.1))) hb); have n1_ := Aside0.mk (Kd.R_elder' (by (with_reducible repeat (first | apply Kd.R_alloc | apply Kd.R_drewN | apply Kd.R_drew)); exact (Kd.R_mono (Kd.R_far (p := ⟨gb811, 0, none⟩) (Kd.R_types HO807.out BK811.out (by decide)) (fun _ hk => hk.2) (.slice Ao29 t808.length co29)) (fun _ h_ => h_.1))) (Kd.R_base ho0) hb); have n2_ := Aside0.mk (Kd.R_below (by (with_reducible repeat (first | apply Kd.R_alloc | apply Kd.R_drewN | apply Kd.R_drew)); exact (Kd.R_mono (Kd.R_far (p := ⟨gb811, 0, none⟩) (Kd.R_types HO810.out BK811.out (by decide)) (fun _ hk => hk.2) (.slice Ao29 t808.length co29)) (fun _ h_ => h_.1))) hb); have n3_ := Aside0.mk (Kd.R_lower (Kd.R_new' ho0 (Kd.R_lt (by (with_reducible repeat (first | apply Kd.R_alloc | apply Kd.R_drewN | apply Kd.R_drew)); exact (Kd.R_mono (Kd.R_far (p := ⟨gb811, 0, none⟩) (Kd.R_types HO807.out BK811.out (by decide)) (fun _ hk => hk.2) (.slice Ao29 t808.length co29)) (fun _ h_ => h_.1))))) (below_size bw)); have n4_ := Aside0.mk (blk_below (g := gb800) (o := .cells #[.slice A0_0 l0_0.length c0_0] 61 (0, 0)) (by (with_reducible repeat (first | refine blk_drewN ?_ _ | refine blk_drew ?_ | refine blk_alloc ?_ _)); refine blk_far ?_ NB800_811.out _; (with_reducible repeat (first | refine blk_drewN ?_ _ | refine blk_drew ?_ | refine blk_alloc ?_ _)); exact BK800.out) hb); have n5_ := Aside0.mk (blk_below (g := gb811) (o := .cells #[.slice Ao29 t808.length co29] 66 (0, 0)) (by (with_reducible repeat (first | refine blk_drewN ?_ _ | refine blk_drew ?_ | refine blk_alloc ?_ _)); refine blk_put (cs := #[.slice none 0 0]) ?_ 0 _ rfl; (with_reducible repeat (first | refine blk_drewN ?_ _ | refine blk_drew ?_ | refine blk_alloc ?_ _)); exact BK811.out) hb); have n6_ := Aside0.mk (below_step bw hb); clear HO804; clear HO807; clear HO810; clear BK800; clear BK811; clear HB; have HO804 := n0_; have HO807 := n1_; have HO810 := n2_; have HO814 := n3_; have BK800 := n4_; have BK811 := n5_; have HB := n6_; clear n0_ n1_ n2_ n3_ n4_ n5_ n6_; (try clear hb); (try clear hb2); (try clear hk); (try clear hi); (try clear ho0); obtain ⟨Ao33, co33, eo33⟩ := Kd.R_slice HO814.out; subst eo33; obtain ⟨Ao34, co34, eo34⟩ := Kd.R_slice HO807.out; subst eo34) | ((with_reducible refine at_fn (f := 26) rfl ?_); refine goesL_ (some 29) rfl rfl Try.func26 (by kernel_rfl) rfl #[.slice Ao33 t812.length co33, .slice Ao34 t805.length co34] rfl (by (try simp only [List.map_toArray, List.map_cons, List.map_nil]); first | done | rfl | (simp only [List.length_drop, List.length_take]; rfl)) ?_; (with_reducible refine (laws_eqByteS.calls k _ _ t812 _ _ t805 true _ ?side1 ?side2 ?side3 ?side4 A12.out).mono ?_); (case side1 => repeat (first | exact (Kd.R_reads' HO814.out).2.2 | (with_reducible refine Kd.C_alloc ?_ _) | (with_reducible refine Kd.C_drewN ?_ _) | (with_reducible refine Kd.C_drew ?_))); (case side2 => exact (Kd.R_reads' HO814.out).2.1); (case side3 => repeat (first | exact (Kd.R_reads' HO807.out).2.2 | (with_reducible refine Kd.C_alloc ?_ _) | (with_reducible refine Kd.C_drewN ?_ _) | (with_reducible refine Kd.C_drew ?_))); (case side4 => exact (Kd.R_reads' HO807.out).2.1); rintro e w' ⟨rfl, ⟨nd, rfl⟩⟩; refine ⟨_, rfl, ?_⟩))
    (try (rw [drewN_self w32]; generalize hq_ : World.drewN w32 _ = w32; have n0_ : Aside0 (Kd.R k35 35 w32 w.heap.size (fun k_ => some k_ ≠ (.slice Ao29 t808.length co29 : Value).ownBlock) (.slice Ao24 t802.length co24) t802) := ⟨by rw [← hq_]; exact (by (with_reducible repeat (first | apply Kd.R_alloc | apply Kd.R_drewN | apply Kd.R_drew)); exact Kd.R_mono HO804.out (fun _ hk => hk.2))⟩; have n1_ : Aside0 (Kd.R (Kd.int .u8) 5 w32 w.heap.size (fun k_ => some k_ ≠ (.slice Ao33 t812.length co33 : Value).ownBlock) (.slice Ao34 t805.length co34) t805) := ⟨by rw [← hq_]; exact (by (with_reducible repeat (first | apply Kd.R_alloc | apply Kd.R_drewN | apply Kd.R_drew)); exact Kd.R_mono HO807.out (fun _ hk => hk.2))⟩; have n2_ : Aside0 (Kd.R k35 35 w32 w.heap.size (fun k_ => some k_ ≠ (.slice Ao24 t802.length co24 : Value).ownBlock) (.slice Ao29 t808.length co29) t808) := ⟨by rw [← hq_]; exact (by (with_reducible repeat (first | apply Kd.R_alloc | apply Kd.R_drewN | apply Kd.R_drew)); exact Kd.R_mono HO810.out (fun _ hk => hk.2))⟩; have n3_ : Aside0 (Kd.R (Kd.int .u8) 5 w32 w.heap.size (fun k_ => some k_ ≠ (.slice Ao34 t805.length co34 : Value).ownBlock) (.slice Ao33 t812.length co33) t812) := ⟨by rw [← hq_]; exact (by (with_reducible repeat (first | apply Kd.R_alloc | apply Kd.R_drewN | apply Kd.R_drew)); exact Kd.R_mono HO814.out (fun _ hk => hk.2))⟩; have n4_ : Aside0 (w32.heap[gb800]? = some (.cells #[.slice A0_0 l0_0.length c0_0] 61 (0, 0))) := ⟨by rw [← hq_]; exact (lb BK800)⟩; have n5_ : Aside0 (w32.heap[gb811]? = some (.cells #[.slice Ao29 t808.length co29] 66 (0, 0))) := ⟨by rw [← hq_]; exact (lb BK811)⟩; have n6_ : Aside0 (Below w.heap.size w w32) := ⟨by rw [← hq_]; exact bw⟩; clear HO804 HO807 HO810 HO814 BK800 BK811 HB hq_; have HO804 := n0_; have HO807 := n1_; have HO810 := n2_; have HO814 := n3_; have BK800 := n4_; have BK811 := n5_; have HB := n6_; clear n0_ n1_ n2_ n3_ n4_ n5_ n6_))
    have n0_ := Aside0.mk (Kd.R_drew HO804.out)
    have n1_ := Aside0.mk (Kd.R_drew HO807.out)
    have n2_ := Aside0.mk (Kd.R_drew HO810.out)
    have n3_ := Aside0.mk (Kd.R_drew HO814.out)
    have n4_ := Aside0.mk (blk_drew BK800.out)
    have n5_ := Aside0.mk (blk_drew BK811.out)
    have n6_ := Aside0.mk (below_drew1 HB.out)
    clear HO804
    clear HO807
    clear HO810
    clear HO814
    clear BK800
    clear BK811
    clear HB
    have HO804 := n0_
    have HO807 := n1_
    have HO810 := n2_
    have HO814 := n3_
    have BK800 := n4_
    have BK811 := n5_
    have HB := n6_
    clear n0_ n1_ n2_ n3_ n4_ n5_ n6_
    refine start_ (n := 5) (S := fun w' => w'.cell? ⟨gb811, 0, none⟩ = some (.slice Ao29 t808.length co29) ∧ w'.cell? ⟨gb800, 0, none⟩ = some (.slice A0_0 l0_0.length c0_0)) (ds := []) #[false, false, false, false, false] (by kernel_rfl) rfl rfl ⟨(blk_cell BK811.out 0).trans rfl, (blk_cell BK800.out 0).trans rfl⟩ (fun hHeld => ?_)
    generalize w32.drew = w35 at HO804 HO807 HO810 HO814 BK800 BK811 HB hHeld ⊢
    refine take_ (i := 0) (N := some 31) (v := ?_) (a' := ?_) #[true, false, false, false, false] rfl rfl (by kernel_rfl) (fun _ _ _ h => h) (Or.inl ⟨by rfl, ?_⟩) hHeld ?_ ?_
    rotate_left
    ·rintro w' ⟨s0, s1⟩
     go_simp
     with_reducible rfl
    rotate_left
    ·simp only [Act.put, List.setIfInBounds_toArray, List.set_cons_zero, List.set_cons_succ, i64_w, i32_w]
     rfl
    refine take_ (i := 1) (N := some 32) (v := ?_) (a' := ?_) #[true, true, false, false, false] rfl rfl (by kernel_rfl) (fun _ _ _ h => h) (Or.inl ⟨by rfl, ?_⟩) hHeld ?_ ?_
    rotate_left
    ·rintro w' ⟨s0, s1⟩
     go_simp
     with_reducible rfl
    rotate_left
    ·simp only [Act.put, List.setIfInBounds_toArray, List.set_cons_zero, List.set_cons_succ, i64_w, i32_w]
     rfl
    refine one_ (i := 2) (N := some 33) #[true, true, true, false, false] rfl rfl (by kernel_rfl) (by decide) (fun K hK => ?_)
    refine goes_ Try.func41 (by kernel_rfl) rfl #[.agg #[.slice A0_0 l0_0.length c0_0]] (by rfl) rfl rfl (by (try simp only [List.map_toArray, List.map_cons, List.map_nil]); first | done | rfl | (simp only [List.length_drop, List.length_take]; rfl)) ?_
    with_reducible refine (laws_toRun.calls k _ _ l0_0 t816 _ ?side1 ?side2 A14.out).mono ?_
    (case side1 => repeat (first | exact (Kd.C_below HR0_0.out HB.out) | (with_reducible refine Kd.C_alloc ?_ _) | (with_reducible refine Kd.C_drewN ?_ _) | (with_reducible refine Kd.C_drew ?_)))
    (case side2 => exact HC0_0.out)
    rintro e w36 ⟨v817, rfl, ho0, hb⟩
    refine ⟨_, rfl, ?_⟩
    have n0_ := Aside0.mk (Kd.R_elder' (lf HO804) (Kd.R_base ho0) hb)
    have n1_ := Aside0.mk (Kd.R_below (lf HO807) hb)
    have n2_ := Aside0.mk (Kd.R_elder' (lf HO810) (Kd.R_base ho0) hb)
    have n3_ := Aside0.mk (Kd.R_below (lf HO814) hb)
    have n4_ := Aside0.mk (Kd.R_lower (Kd.R_new' (Kd.R_new' ho0 (Kd.R_lt (lf HO804))) (Kd.R_lt (lf HO810))) (below_size bw))
    have n5_ := Aside0.mk (blk_below (g := gb800) (o := .cells #[.slice A0_0 l0_0.length c0_0] 61 (0, 0)) (lb BK800) hb)
    have n6_ := Aside0.mk (blk_below (g := gb811) (o := .cells #[.slice Ao29 t808.length co29] 66 (0, 0)) (lb BK811) hb)
    have n7_ := Aside0.mk (below_step bw hb)
    clear HO804
    clear HO807
    clear HO810
    clear HO814
    clear BK800
    clear BK811
    clear HB
    have HO804 := n0_
    have HO807 := n1_
    have HO810 := n2_
    have HO814 := n3_
    have HO818 := n4_
    have BK800 := n5_
    have BK811 := n6_
    have HB := n7_
    clear n0_ n1_ n2_ n3_ n4_ n5_ n6_ n7_
    (try clear hb)
    (try clear hb2)
    (try clear hk)
    (try clear hi)
    (try clear ho0)
    obtain ⟨Ao37, co37, eo37⟩ := Kd.R_slice HO818.out
    (first | subst eo37 | (injection eo37 with f1_ f2_ f3_; have f4_ := f1_.symm; have f5_ := f3_.symm; clear f1_ f2_ f3_; subst f4_; subst f5_))
    refine hK.out _ _ ⟨(blk_cell BK811.out 0).trans rfl, (blk_cell BK800.out 0).trans rfl⟩ (fun hHeld => ?_)
    clear hK K
    refine norm_ (a' := ?_) ?_ ?_
    rotate_left
    ·show Act.put _ (some 33) _ = _
     simp only [Act.put, List.setIfInBounds_toArray, List.set_cons_zero, List.set_cons_succ, i64_w, i32_w]
     rfl
    refine one_ (i := 3) (N := some 34) #[true, true, true, true, false] rfl rfl (by kernel_rfl) (by decide) (fun K hK => ?_)
    refine goes_ Try.func43 (by kernel_rfl) rfl #[.agg #[.slice Ao29 t808.length co29], .agg #[.slice Ao37 t816.length co37]] (by rfl) rfl rfl (by (try simp only [List.map_toArray, List.map_cons, List.map_nil]); first | done | rfl | (simp only [List.length_drop, List.length_take]; rfl)) ?_
    with_reducible refine (laws_eqRun.calls k _ _ t808 _ _ t816 true _ ?side1 ?side2 ?side3 ?side4 A15.out).mono ?_
    (case side1 => repeat (first | exact (Kd.R_reads' HO810.out).2.2 | (with_reducible refine Kd.C_alloc ?_ _) | (with_reducible refine Kd.C_drewN ?_ _) | (with_reducible refine Kd.C_drew ?_)))
    (case side2 => exact (Kd.R_reads' HO810.out).2.1)
    (case side3 => repeat (first | exact (Kd.R_reads' HO818.out).2.2 | (with_reducible refine Kd.C_alloc ?_ _) | (with_reducible refine Kd.C_drewN ?_ _) | (with_reducible refine Kd.C_drew ?_)))
    (case side4 => exact (Kd.R_reads' HO818.out).2.1)
    rintro e w38 ⟨rfl, hb⟩
    refine ⟨_, rfl, ?_⟩
    have n0_ := Aside0.mk (Kd.R_below (lf HO804) hb)
    have n1_ := Aside0.mk (Kd.R_below (lf HO807) hb)
    have n2_ := Aside0.mk (Kd.R_below (lf HO810) hb)
    have n3_ := Aside0.mk (Kd.R_below (lf HO814) hb)
    have n4_ := Aside0.mk (Kd.R_below (lf HO818) hb)
    have n5_ := Aside0.mk (blk_below (g := gb800) (o := .cells #[.slice A0_0 l0_0.length c0_0] 61 (0, 0)) (lb BK800) hb)
    have n6_ := Aside0.mk (blk_below (g := gb811) (o := .cells #[.slice Ao29 t808.length co29] 66 (0, 0)) (lb BK811) hb)
    have n7_ := Aside0.mk (below_step bw hb)
    clear HO804
    clear HO807
    clear HO810
    clear HO814
    clear HO818
    clear BK800
    clear BK811
    clear HB
    have HO804 := n0_
    have HO807 := n1_
    have HO810 := n2_
    have HO814 := n3_
    have HO818 := n4_
    have BK800 := n5_
    have BK811 := n6_
    have HB := n7_
    clear n0_ n1_ n2_ n3_ n4_ n5_ n6_ n7_
    (try clear hb)
    (try clear hb2)
    (try clear hk)
    (try clear hi)
    refine hK.out _ _ ⟨(blk_cell BK811.out 0).trans rfl, (blk_cell BK800.out 0).trans rfl⟩ (fun hHeld => ?_)
    clear hK K
    refine norm_ (a' := ?_) ?_ ?_
    rotate_left
    ·show Act.put _ (some 34) _ = _
     simp only [Act.put, List.setIfInBounds_toArray, List.set_cons_zero, List.set_cons_succ, i64_w, i32_w]
     rfl
    refine pure_ (i := 4) (N := some 35) (v := ?_) (a' := ?_) #[true, true, true, true, true] rfl rfl (by kernel_rfl) (fun _ _ _ h => h) (Or.inl ⟨by rfl, ?_⟩) ?_ ?_
    rotate_left
    ·intro w'
     go_simp
     with_reducible rfl
    rotate_left
    ·simp only [Act.put, List.setIfInBounds_toArray, List.set_cons_zero, List.set_cons_succ, i64_w, i32_w]
     rfl
    refine done_ (by kernel_rfl) ?_
    have hcz39_0 : w38.cell? ⟨gb811, 0, none⟩ = some (.slice Ao29 t808.length co29) := (blk_cell BK811.out 0).trans rfl
    have hfz39_0 := blk_frozen BK811.out 0
    go_upto_region 14 with (first | ((with_reducible refine at_fn (f := 56) rfl ?_); refine goesL_ (some 38) rfl rfl Try.func56 (by kernel_rfl) rfl #[.agg #[.slice Ao29 t808.length co29], .int .i64 1] rfl (by (try simp only [List.map_toArray, List.map_cons, List.map_nil]); first | done | rfl | (simp only [List.length_drop, List.length_take]; rfl)) ?_; (with_reducible refine (laws_markRun.calls k (fun k_ => some k_ = (.slice Ao29 t808.length co29 : Value).ownBlock) (.slice Ao29 t808.length co29) t808 1 t820 t821 w _ ?side1 ?side2 A17.out).mono ?_); (case side1 => repeat (first | (with_reducible first | exact HB.out | apply below_alloc | apply pw_below_drewN | apply below_drew1 | refine below_set ?_ GE800.out | refine below_set ?_ GE811.out) | exact HB.out)); (case side2 => exact Kd.R_tight rfl HO810.out); rintro e w40 ⟨rfl, hy0, hb, hkp⟩; refine ⟨_, rfl, ?_⟩; have n0_ := Aside0.mk (blk_kept (lb BK800) hkp (fun hs_ => (fun e_ => (Kd.R_ne HO810.out BK800.out (by decide)) e_) hs_)); have n1_ := Aside0.mk (Kd.R_mono (ok' := fun k_ => some k_ ≠ (.slice Ao29 t808.length co29 : Value).ownBlock ∧ some k_ ≠ (.slice Ao37 t816.length co37 : Value).ownBlock) (Kd.R_keptB (HO804.out) hkp (fun k_ hk_ hs_ => (by first | exact hk_.1.1.2 hs_ | exact hk_.1.1.1 hs_ | exact hk_.1.1 hs_ | exact hk_.1.2 hs_ | exact hk_.1 hs_ | exact hk_.2 hs_ | exact hk_.1.2.1 hs_ | exact hk_.1.2.2 hs_ | exact hk_.2.1 hs_ | exact hk_.2.2 hs_ | exact hk_.1.1.2.1 hs_ | exact hk_.1.1.2.2 hs_ | exact hk_.1.1.1.1 hs_ | exact hk_.1.1.1.2 hs_ | exact hk_ hs_))) (fun k_ hk_ => ⟨(by first | exact hk_.1.1.2 | exact hk_.1.1.1 | exact hk_.1.1 | exact hk_.1.2 | exact hk_.1 | exact hk_.2 | exact hk_.1.2.1 | exact hk_.1.2.2 | exact hk_.2.1 | exact hk_.2.2 | exact hk_.1.1.2.1 | exact hk_.1.1.2.2 | exact hk_.1.1.1.1 | exact hk_.1.1.1.2), (by first | exact hk_.1.1.2 | exact hk_.1.1.1 | exact hk_.1.1 | exact hk_.1.2 | exact hk_.1 | exact hk_.2 | exact hk_.1.2.1 | exact hk_.1.2.2 | exact hk_.2.1 | exact hk_.2.2 | exact hk_.1.1.2.1 | exact hk_.1.1.2.2 | exact hk_.1.1.1.1 | exact hk_.1.1.1.2)⟩)); have n2_ := Aside0.mk (Kd.R_mono (ok' := fun k_ => some k_ ≠ (.slice Ao33 t812.length co33 : Value).ownBlock) (Kd.R_keptB ((Kd.R_apart' HO807.out (Kd.R_typed HO810.out) (by decide))) hkp (fun k_ hk_ hs_ => (by first | exact hk_.1.1.2 hs_ | exact hk_.1.1.1 hs_ | exact hk_.1.1 hs_ | exact hk_.1.2 hs_ | exact hk_.1 hs_ | exact hk_.2 hs_ | exact hk_.1.2.1 hs_ | exact hk_.1.2.2 hs_ | exact hk_.2.1 hs_ | exact hk_.2.2 hs_ | exact hk_.1.1.2.1 hs_ | exact hk_.1.1.2.2 hs_ | exact hk_.1.1.1.1 hs_ | exact hk_.1.1.1.2 hs_ | exact hk_ hs_))) (fun k_ hk_ => (by first | exact hk_.1.1.2 | exact hk_.1.1.1 | exact hk_.1.1 | exact hk_.1.2 | exact hk_.1 | exact hk_.2 | exact hk_.1.2.1 | exact hk_.1.2.2 | exact hk_.2.1 | exact hk_.2.2 | exact hk_.1.1.2.1 | exact hk_.1.1.2.2 | exact hk_.1.1.1.1 | exact hk_.1.1.1.2))); have n3_ := Aside0.mk (Kd.R_reok rfl hy0 (fun k_ e_ => HO810.out.1 k_ e_)); have n4_ := Aside0.mk (blk_kept (lb BK811) hkp (fun hs_ => (fun e_ => (Kd.R_ne HO810.out BK811.out (by decide)) e_) hs_)); have n5_ := Aside0.mk (Kd.R_mono (ok' := fun k_ => some k_ ≠ (.slice Ao34 t805.length co34 : Value).ownBlock) (Kd.R_keptB ((Kd.R_apart' HO814.out (Kd.R_typed HO810.out) (by decide))) hkp (fun k_ hk_ hs_ => (by first | exact hk_.1.1.2 hs_ | exact hk_.1.1.1 hs_ | exact hk_.1.1 hs_ | exact hk_.1.2 hs_ | exact hk_.1 hs_ | exact hk_.2 hs_ | exact hk_.1.2.1 hs_ | exact hk_.1.2.2 hs_ | exact hk_.2.1 hs_ | exact hk_.2.2 hs_ | exact hk_.1.1.2.1 hs_ | exact hk_.1.1.2.2 hs_ | exact hk_.1.1.1.1 hs_ | exact hk_.1.1.1.2 hs_ | exact hk_ hs_))) (fun k_ hk_ => (by first | exact hk_.1.1.2 | exact hk_.1.1.1 | exact hk_.1.1 | exact hk_.1.2 | exact hk_.1 | exact hk_.2 | exact hk_.1.2.1 | exact hk_.1.2.2 | exact hk_.2.1 | exact hk_.2.2 | exact hk_.1.1.2.1 | exact hk_.1.1.2.2 | exact hk_.1.1.1.1 | exact hk_.1.1.1.2))); have n6_ := Aside0.mk (Kd.R_mono (ok' := fun k_ => some k_ ≠ (.slice Ao24 t802.length co24 : Value).ownBlock ∧ some k_ ≠ (.slice Ao29 t808.length co29 : Value).ownBlock) (Kd.R_keptB (HO818.out) hkp (fun k_ hk_ hs_ => (by first | exact hk_.1.1.2 hs_ | exact hk_.1.1.1 hs_ | exact hk_.1.1 hs_ | exact hk_.1.2 hs_ | exact hk_.1 hs_ | exact hk_.2 hs_ | exact hk_.1.2.1 hs_ | exact hk_.1.2.2 hs_ | exact hk_.2.1 hs_ | exact hk_.2.2 hs_ | exact hk_.1.1.2.1 hs_ | exact hk_.1.1.2.2 hs_ | exact hk_.1.1.1.1 hs_ | exact hk_.1.1.1.2 hs_ | exact hk_ hs_))) (fun k_ hk_ => ⟨(by first | exact hk_.1.1.2 | exact hk_.1.1.1 | exact hk_.1.1 | exact hk_.1.2 | exact hk_.1 | exact hk_.2 | exact hk_.1.2.1 | exact hk_.1.2.2 | exact hk_.2.1 | exact hk_.2.2 | exact hk_.1.1.2.1 | exact hk_.1.1.2.2 | exact hk_.1.1.1.1 | exact hk_.1.1.1.2), (by first | exact hk_.1.1.2 | exact hk_.1.1.1 | exact hk_.1.1 | exact hk_.1.2 | exact hk_.1 | exact hk_.2 | exact hk_.1.2.1 | exact hk_.1.2.2 | exact hk_.2.1 | exact hk_.2.2 | exact hk_.1.1.2.1 | exact hk_.1.1.2.2 | exact hk_.1.1.1.1 | exact hk_.1.1.1.2)⟩)); have n7_ := Aside0.mk (hb); clear BK800; clear HO804; clear HO807; clear HO810; clear BK811; clear HO814; clear HO818; clear HB; have BK800 := n0_; have HO804 := n1_; have HO807 := n2_; have HO810 := n3_; have BK811 := n4_; have HO814 := n5_; have HO818 := n6_; have HB := n7_; clear n0_ n1_ n2_ n3_ n4_ n5_ n6_ n7_; (try clear hb); (try clear hkp); (try clear hy0)))
    (try simp only [Act.put, List.setIfInBounds_toArray, List.set_cons_zero, List.set_cons_succ])
    go_cut [46] (fun v46 wc => ∃ (kq : Nat) (x46_17 : Bool), v46 = .bool x46_17 ∧ Aside0 (laws_FnExactEncodeRun.j0 kq a1 t805 t812 x46_17 l0_0 = some r) ∧ Aside0 (kq ≤ k) ∧ Aside0 (Kd.R (Kd.int .u8) 5 wc w.heap.size (fun k_ => some k_ ≠ ((.slice Ao33 t812.length co33) : Value).ownBlock) (.slice Ao34 t805.length co34) t805) ∧ Aside0 (Kd.R (Kd.int .u8) 5 wc w.heap.size (fun k_ => some k_ ≠ ((.slice Ao34 t805.length co34) : Value).ownBlock) (.slice Ao33 t812.length co33) t812) ∧ Aside0 (Kd.R k35 35 wc w.heap.size (fun _ => True) (.slice Ao29 t808.length co29) t821) ∧ Aside0 (wc.heap[gb800]? = some (.cells #[(.slice A0_0 l0_0.length c0_0)] 61 (0, 0))) ∧ Aside0 (wc.heap[gb811]? = some (.cells #[(.slice Ao29 t808.length co29)] 66 (0, 0))) ∧ Aside0 (Below w.heap.size w wc))
    case first =>
     have H := HC18.out
     clear HC18
     by_cases c41 : t820 < 0
     ·rw [if_pos c41] at H
      have c41b0 : decide (t820 < 0) = true := decide_eq_true c41
      clear c41
      (first | rw [c41b0] | (simp only [i64_w, i32_w]; rw [c41b0]) | skip)
      have H' := Aside0.mk H
      clear H
      go_wp2
      go_meet
      case rel => exact ⟨_, (true), (by first | rfl | (simp; done) | (simp [*]; done)), H', ⟨by first | omega | exact Nat.le_refl _⟩, ⟨lf HO807⟩, ⟨lf HO814⟩, ⟨by (with_reducible repeat (first | apply Kd.R_alloc | apply Kd.R_drewN | apply Kd.R_drew)); exact Kd.R_mono HO810.out (fun _ hk => trivial)⟩, ⟨lb BK800⟩, ⟨lb BK811⟩, ⟨bw⟩⟩
     ·rw [if_neg c41] at H
      have c41b0 : decide (t820 < 0) = false := decide_eq_false c41
      clear c41
      (first | rw [c41b0] | (simp only [i64_w, i32_w]; rw [c41b0]) | skip)
      replace H := Option.bind_eq_some_iff.mp H
      obtain ⟨t822, A420, H⟩ := H
      replace H : (laws_FnExactEncodeRun.j0 k a1 t805 t812 (!t822) l0_0) = some r := H
      have A42 := Aside0.mk A420
      clear A420
      have H' := Aside0.mk H
      clear H
      go_wp2_with (first | (go_at_call 26; (with_reducible refine (laws_eqByteS.calls k _ _ t812 _ _ t805 t822 _ ?side1 ?side2 ?side3 ?side4 A42.out).mono ?_); (case side1 => repeat (first | exact (Kd.R_reads' HO814.out).2.2 | (with_reducible refine Kd.C_alloc ?_ _) | (with_reducible refine Kd.C_drewN ?_ _) | (with_reducible refine Kd.C_drew ?_))); (case side2 => exact (Kd.R_reads' HO814.out).2.1); (case side3 => repeat (first | exact (Kd.R_reads' HO807.out).2.2 | (with_reducible refine Kd.C_alloc ?_ _) | (with_reducible refine Kd.C_drewN ?_ _) | (with_reducible refine Kd.C_drew ?_))); (case side4 => exact (Kd.R_reads' HO807.out).2.1); rintro e w' ⟨rfl, ⟨nd, rfl⟩⟩))
      go_meet
      case rel => exact ⟨_, (!t822), (by first | rfl | (simp; done) | (simp [*]; done)), H', ⟨by first | omega | exact Nat.le_refl _⟩, ⟨lf HO807⟩, ⟨lf HO814⟩, ⟨by (with_reducible repeat (first | apply Kd.R_alloc | apply Kd.R_drewN | apply Kd.R_drew)); exact Kd.R_mono HO810.out (fun _ hk => trivial)⟩, ⟨lb BK800⟩, ⟨lb BK811⟩, ⟨bw⟩⟩
    case rest =>
     clear HC18
     try clear c1
     try clear c2
     try clear p2
     try clear c3
     try clear c4
     try clear c4b0
     try clear c5
     try clear c13
     try clear c14
     try clear c16
     try clear c26
     try clear c30
     try clear c39
     try clear c41
     try clear c41b0
     try clear hcz20_0
     try clear hcz22_0
     try clear hcz26_0
     try clear hcz31_0
     try clear hcz39_0
     try clear hcz6_0
     try clear hfz20_0
     try clear hfz22_0
     try clear hfz26_0
     try clear hfz31_0
     try clear hfz39_0
     try clear hfz6_0
     obtain ⟨kq, x46_17, rfl, HA, HJ17, HO_6, HO_8, HO_812000, BK800, BK811, HB⟩ := hcut
     have hl812000_17 := (Kd.R_reads' HO_812000.out).1
     rw [hl812000_17] at HO_812000
     (try simp only [hl812000_17])
     (try simp only [hl812000_17] at BK800)
     (try simp only [hl812000_17] at BK811)
     (try simp only [hl812000_17] at HO_6)
     (try simp only [hl812000_17] at HO_8)
     cases kq with
     | zero => exact absurd HA.out (by simp [laws_FnExactEncodeRun.j0])
     | succ kj17 =>
      have H := HA.out
      clear HA
      simp only [laws_FnExactEncodeRun.j0] at H
      by_cases c43 : x46_17 = true
      ·subst c43
       have H1 : (some false) = some r := by rw [if_pos rfl] at H; exact H
       clear H
       have H := H1
       clear H1
       obtain rfl := Option.some.inj H
       go_wp2
       go_ret
       exact ⟨by first | rfl | (simp [errW_none, errW_some] <;> rfl) | (simp [*, errW_none, errW_some] <;> rfl), bw⟩
      ·replace c43 := Bool.eq_false_iff.mpr c43
       subst c43
       have H1 : ((laws_markByteS.f kj17 t812 1).bind fun bt823 => ((laws_heldByteS.f kj17 bt823.2 1).bind fun t825 => (if t825 < 0 then (some false) else (if t825 = bt823.1 then ((laws_toRun.f kj17 l0_0).bind fun t826 => ((impl_EncodeRun.f kj17 t826 a1).bind fun t829 => ((laws_eqByteS.f kj17 t829 t805).bind fun t832 => (if t832 = true then (some true) else (some false))))) else (some false))))) = some r := by rw [if_neg (show ¬ (false = true) by decide)] at H; exact H
       clear H
       have H := H1
       clear H1
       replace H := Option.bind_eq_some_iff.mp H
       obtain ⟨⟨t823, t824⟩, A440, H⟩ := H
       replace H : ((laws_heldByteS.f kj17 t824 1).bind fun t825 => (if t825 < 0 then (some false) else (if t825 = t823 then ((laws_toRun.f kj17 l0_0).bind fun t826 => ((impl_EncodeRun.f kj17 t826 a1).bind fun t829 => ((laws_eqByteS.f kj17 t829 t805).bind fun t832 => (if t832 = true then (some true) else (some false))))) else (some false)))) = some r := H
       have A44 := Aside0.mk A440
       clear A440
       replace H := Option.bind_eq_some_iff.mp H
       obtain ⟨t825, A450, H⟩ := H
       replace H : (if t825 < 0 then (some false) else (if t825 = t823 then ((laws_toRun.f kj17 l0_0).bind fun t826 => ((impl_EncodeRun.f kj17 t826 a1).bind fun t829 => ((laws_eqByteS.f kj17 t829 t805).bind fun t832 => (if t832 = true then (some true) else (some false))))) else (some false))) = some r := H
       have A45 := Aside0.mk A450
       clear A450
       by_cases c46 : t825 < 0
       ·rw [if_pos c46] at H
        have c46b0 : decide (t825 < 0) = true := decide_eq_true c46
        clear c46
        obtain rfl := Option.some.inj H
        go_wp2_with (first | ((with_reducible refine at_fn (f := 57) rfl ?_); refine goesL_ (some 49) rfl rfl Try.func57 (by kernel_rfl) rfl #[.slice Ao33 t812.length co33, .int .i64 1] rfl (by (try simp only [List.map_toArray, List.map_cons, List.map_nil]); first | done | rfl | (simp only [List.length_drop, List.length_take]; rfl)) ?_; (with_reducible refine (laws_markByteS.calls kj17 (fun k_ => some k_ = (.slice Ao33 t812.length co33 : Value).ownBlock) (.slice Ao33 t812.length co33) t812 1 t823 t824 w _ ?side1 ?side2 A44.out).mono ?_); (case side1 => repeat (first | (with_reducible first | exact HB.out | apply below_alloc | apply pw_below_drewN | apply below_drew1 | refine below_set ?_ GE800.out | refine below_set ?_ GE811.out) | exact HB.out)); (case side2 => exact Kd.R_tight rfl HO_8.out); rintro e w47 ⟨rfl, hy0, hb, hkp⟩; refine ⟨_, rfl, ?_⟩; have n0_ := Aside0.mk (Kd.R_mono (ok' := fun k_ => some k_ ≠ (.slice Ao33 t812.length co33 : Value).ownBlock) (Kd.R_keptB (HO_6.out) hkp (fun k_ hk_ hs_ => (by first | exact hk_.1.1.2 hs_ | exact hk_.1.1.1 hs_ | exact hk_.1.1 hs_ | exact hk_.1.2 hs_ | exact hk_.1 hs_ | exact hk_.2 hs_ | exact hk_.1.2.1 hs_ | exact hk_.1.2.2 hs_ | exact hk_.2.1 hs_ | exact hk_.2.2 hs_ | exact hk_.1.1.2.1 hs_ | exact hk_.1.1.2.2 hs_ | exact hk_.1.1.1.1 hs_ | exact hk_.1.1.1.2 hs_ | exact hk_ hs_))) (fun k_ hk_ => (by first | exact hk_.1.1.2 | exact hk_.1.1.1 | exact hk_.1.1 | exact hk_.1.2 | exact hk_.1 | exact hk_.2 | exact hk_.1.2.1 | exact hk_.1.2.2 | exact hk_.2.1 | exact hk_.2.2 | exact hk_.1.1.2.1 | exact hk_.1.1.2.2 | exact hk_.1.1.1.1 | exact hk_.1.1.1.2))); have n1_ := Aside0.mk (Kd.R_reok rfl hy0 (fun k_ e_ => HO_8.out.1 k_ e_)); have n2_ := Aside0.mk (Kd.R_mono (ok' := fun k_ => True) (Kd.R_keptB ((Kd.R_apart' HO_812000.out (Kd.R_typed HO_8.out) (by decide))) hkp (fun k_ hk_ hs_ => (by first | exact hk_.1.1.2 hs_ | exact hk_.1.1.1 hs_ | exact hk_.1.1 hs_ | exact hk_.1.2 hs_ | exact hk_.1 hs_ | exact hk_.2 hs_ | exact hk_.1.2.1 hs_ | exact hk_.1.2.2 hs_ | exact hk_.2.1 hs_ | exact hk_.2.2 hs_ | exact hk_.1.1.2.1 hs_ | exact hk_.1.1.2.2 hs_ | exact hk_.1.1.1.1 hs_ | exact hk_.1.1.1.2 hs_ | exact hk_ hs_))) (fun k_ hk_ => trivial)); have n3_ := Aside0.mk (blk_kept (lb BK800) hkp (fun hs_ => (fun e_ => (Kd.R_ne HO_8.out BK800.out (by decide)) e_) hs_)); have n4_ := Aside0.mk (blk_kept (lb BK811) hkp (fun hs_ => (fun e_ => (Kd.R_ne HO_8.out BK811.out (by decide)) e_) hs_)); have n5_ := Aside0.mk (hb); clear HO_6; clear HO_8; clear HO_812000; clear BK800; clear BK811; clear HB; have HO_6 := n0_; have HO_8 := n1_; have HO_812000 := n2_; have BK800 := n3_; have BK811 := n4_; have HB := n5_; clear n0_ n1_ n2_ n3_ n4_ n5_; (try clear hb); (try clear hkp); (try clear hy0)) | ((with_reducible refine at_fn (f := 58) rfl ?_); refine goesL_ (some 52) rfl rfl Try.func58 (by kernel_rfl) rfl #[.slice Ao33 t824.length co33, .int .i64 1] rfl (by (try simp only [List.map_toArray, List.map_cons, List.map_nil]); first | done | (rw [show t824.length = t812.length from (Kd.R_reads' HO_8.out).1.symm] <;> rfl) | rfl | (simp only [List.length_drop, List.length_take]; rfl)) ?_; (with_reducible refine (laws_heldByteS.calls kj17 _ _ t824 1 t825 _ ?side1 ?side2 A45.out).mono ?_); (case side1 => repeat (first | exact (Kd.R_reads' HO_8.out).2.2 | (with_reducible refine Kd.C_alloc ?_ _) | (with_reducible refine Kd.C_drewN ?_ _) | (with_reducible refine Kd.C_drew ?_))); (case side2 => rw [show t824.length = t812.length from (Kd.R_reads' HO_8.out).1.symm]; exact (Kd.R_reads' HO_8.out).2.1); rintro e w' ⟨rfl, ⟨nd, rfl⟩⟩; refine ⟨_, rfl, ?_⟩))
        go_ret
        exact ⟨by first | rfl | (simp [errW_none, errW_some] <;> rfl) | (simp [*, errW_none, errW_some] <;> rfl), bw⟩
       ·rw [if_neg c46] at H
        have c46b0 : decide (t825 < 0) = false := decide_eq_false c46
        clear c46
        by_cases c48 : t825 = t823
        ·rw [if_pos c48] at H
         have c48b0 : (t825 == t823) = true := beq_iff_eq.mpr c48
         have c48b1 : (t825 != t823) = false := bne_eq_false_iff_eq.mpr c48
         clear c48
         replace H := Option.bind_eq_some_iff.mp H
         obtain ⟨t826, A490, H⟩ := H
         replace H : ((impl_EncodeRun.f kj17 t826 a1).bind fun t829 => ((laws_eqByteS.f kj17 t829 t805).bind fun t832 => (if t832 = true then (some true) else (some false)))) = some r := H
         have A49 := Aside0.mk A490
         clear A490
         replace H := Option.bind_eq_some_iff.mp H
         obtain ⟨t829, A500, H⟩ := H
         replace H : ((laws_eqByteS.f kj17 t829 t805).bind fun t832 => (if t832 = true then (some true) else (some false))) = some r := H
         have A50 := Aside0.mk A500
         clear A500
         replace H := Option.bind_eq_some_iff.mp H
         obtain ⟨t832, A510, H⟩ := H
         replace H : (if t832 = true then (some true) else (some false)) = some r := H
         have A51 := Aside0.mk A510
         clear A510
         by_cases c52 : t832 = true
         ·subst c52
          have H1 : (some true) = some r := by rw [if_pos rfl] at H; exact H
          clear H
          have H := H1
          clear H1
          obtain rfl := Option.some.inj H
          go_wp2_with (first | ((with_reducible refine at_fn (f := 57) rfl ?_); refine goesL_ (some 49) rfl rfl Try.func57 (by kernel_rfl) rfl #[.slice Ao33 t812.length co33, .int .i64 1] rfl (by (try simp only [List.map_toArray, List.map_cons, List.map_nil]); first | done | rfl | (simp only [List.length_drop, List.length_take]; rfl)) ?_; (with_reducible refine (laws_markByteS.calls kj17 (fun k_ => some k_ = (.slice Ao33 t812.length co33 : Value).ownBlock) (.slice Ao33 t812.length co33) t812 1 t823 t824 w _ ?side1 ?side2 A44.out).mono ?_); (case side1 => repeat (first | (with_reducible first | exact HB.out | apply below_alloc | apply pw_below_drewN | apply below_drew1 | refine below_set ?_ GE800.out | refine below_set ?_ GE811.out) | exact HB.out)); (case side2 => exact Kd.R_tight rfl HO_8.out); rintro e w53 ⟨rfl, hy0, hb, hkp⟩; refine ⟨_, rfl, ?_⟩; have n0_ := Aside0.mk (Kd.R_mono (ok' := fun k_ => some k_ ≠ (.slice Ao33 t812.length co33 : Value).ownBlock) (Kd.R_keptB (HO_6.out) hkp (fun k_ hk_ hs_ => (by first | exact hk_.1.1.2 hs_ | exact hk_.1.1.1 hs_ | exact hk_.1.1 hs_ | exact hk_.1.2 hs_ | exact hk_.1 hs_ | exact hk_.2 hs_ | exact hk_.1.2.1 hs_ | exact hk_.1.2.2 hs_ | exact hk_.2.1 hs_ | exact hk_.2.2 hs_ | exact hk_.1.1.2.1 hs_ | exact hk_.1.1.2.2 hs_ | exact hk_.1.1.1.1 hs_ | exact hk_.1.1.1.2 hs_ | exact hk_ hs_))) (fun k_ hk_ => (by first | exact hk_.1.1.2 | exact hk_.1.1.1 | exact hk_.1.1 | exact hk_.1.2 | exact hk_.1 | exact hk_.2 | exact hk_.1.2.1 | exact hk_.1.2.2 | exact hk_.2.1 | exact hk_.2.2 | exact hk_.1.1.2.1 | exact hk_.1.1.2.2 | exact hk_.1.1.1.1 | exact hk_.1.1.1.2))); have n1_ := Aside0.mk (Kd.R_reok rfl hy0 (fun k_ e_ => HO_8.out.1 k_ e_)); have n2_ := Aside0.mk (Kd.R_mono (ok' := fun k_ => True) (Kd.R_keptB ((Kd.R_apart' HO_812000.out (Kd.R_typed HO_8.out) (by decide))) hkp (fun k_ hk_ hs_ => (by first | exact hk_.1.1.2 hs_ | exact hk_.1.1.1 hs_ | exact hk_.1.1 hs_ | exact hk_.1.2 hs_ | exact hk_.1 hs_ | exact hk_.2 hs_ | exact hk_.1.2.1 hs_ | exact hk_.1.2.2 hs_ | exact hk_.2.1 hs_ | exact hk_.2.2 hs_ | exact hk_.1.1.2.1 hs_ | exact hk_.1.1.2.2 hs_ | exact hk_.1.1.1.1 hs_ | exact hk_.1.1.1.2 hs_ | exact hk_ hs_))) (fun k_ hk_ => trivial)); have n3_ := Aside0.mk (blk_kept (lb BK800) hkp (fun hs_ => (fun e_ => (Kd.R_ne HO_8.out BK800.out (by decide)) e_) hs_)); have n4_ := Aside0.mk (blk_kept (lb BK811) hkp (fun hs_ => (fun e_ => (Kd.R_ne HO_8.out BK811.out (by decide)) e_) hs_)); have n5_ := Aside0.mk (hb); clear HO_6; clear HO_8; clear HO_812000; clear BK800; clear BK811; clear HB; have HO_6 := n0_; have HO_8 := n1_; have HO_812000 := n2_; have BK800 := n3_; have BK811 := n4_; have HB := n5_; clear n0_ n1_ n2_ n3_ n4_ n5_; (try clear hb); (try clear hkp); (try clear hy0)) | ((with_reducible refine at_fn (f := 58) rfl ?_); refine goesL_ (some 52) rfl rfl Try.func58 (by kernel_rfl) rfl #[.slice Ao33 t824.length co33, .int .i64 1] rfl (by (try simp only [List.map_toArray, List.map_cons, List.map_nil]); first | done | (rw [show t824.length = t812.length from (Kd.R_reads' HO_8.out).1.symm] <;> rfl) | rfl | (simp only [List.length_drop, List.length_take]; rfl)) ?_; (with_reducible refine (laws_heldByteS.calls kj17 _ _ t824 1 t825 _ ?side1 ?side2 A45.out).mono ?_); (case side1 => repeat (first | exact (Kd.R_reads' HO_8.out).2.2 | (with_reducible refine Kd.C_alloc ?_ _) | (with_reducible refine Kd.C_drewN ?_ _) | (with_reducible refine Kd.C_drew ?_))); (case side2 => rw [show t824.length = t812.length from (Kd.R_reads' HO_8.out).1.symm]; exact (Kd.R_reads' HO_8.out).2.1); rintro e w' ⟨rfl, ⟨nd, rfl⟩⟩; refine ⟨_, rfl, ?_⟩; have hnb54 := NB800_811.out; have hnc54 := NB811_800.out; have hcz55_0 : w53.cell? ⟨gb800, 0, none⟩ = some (.slice A0_0 l0_0.length c0_0) := (blk_cell BK800.out 0).trans rfl; have hfz55_0 := blk_frozen BK800.out 0) | ((with_reducible refine at_fn (f := 41) rfl ?_); refine goesL_ (some 59) rfl rfl Try.func41 (by kernel_rfl) rfl #[.agg #[.slice A0_0 l0_0.length c0_0]] rfl (by (try simp only [List.map_toArray, List.map_cons, List.map_nil]); first | done | rfl | (simp only [List.length_drop, List.length_take]; rfl)) ?_; (with_reducible refine (laws_toRun.calls kj17 _ _ l0_0 t826 _ ?side1 ?side2 A49.out).mono ?_); (case side1 => repeat (first | exact (Kd.C_below HR0_0.out bw) | (with_reducible refine Kd.C_alloc ?_ _) | (with_reducible refine Kd.C_drewN ?_ _) | (with_reducible refine Kd.C_drew ?_))); (case side2 => exact HC0_0.out); rintro e w56 ⟨v827, rfl, ho0, hb⟩; refine ⟨_, rfl, ?_⟩; have n0_ := Aside0.mk (Kd.R_below (lf HO_6) hb); have n1_ := Aside0.mk (Kd.R_below (lf HO_8) hb); have n2_ := Aside0.mk (Kd.R_elder' (lf HO_812000) (Kd.R_base ho0) hb); have n3_ := Aside0.mk (Kd.R_lower (Kd.R_new' ho0 (Kd.R_lt (lf HO_812000))) (below_size bw)); have n4_ := Aside0.mk (blk_below (g := gb800) (o := .cells #[.slice A0_0 l0_0.length c0_0] 61 (0, 0)) (lb BK800) hb); have n5_ := Aside0.mk (blk_below (g := gb811) (o := .cells #[.slice Ao29 t821.length co29] 66 (0, 0)) (lb BK811) hb); have n6_ := Aside0.mk (below_step bw hb); clear HO_6; clear HO_8; clear HO_812000; clear BK800; clear BK811; clear HB; have HO_6 := n0_; have HO_8 := n1_; have HO_812000 := n2_; have HO828 := n3_; have BK800 := n4_; have BK811 := n5_; have HB := n6_; clear n0_ n1_ n2_ n3_ n4_ n5_ n6_; (try clear hb); (try clear hb2); (try clear hk); (try clear hi); (try clear ho0); obtain ⟨Ao57, co57, eo57⟩ := Kd.R_slice HO828.out; subst eo57) | ((with_reducible refine at_fn (f := 55) rfl ?_); refine goesL_ (some 61) rfl rfl Try.func55 (by kernel_rfl) rfl #[.agg #[.slice Ao57 t826.length co57], .int .i64 a1] rfl (by (try simp only [List.map_toArray, List.map_cons, List.map_nil]); first | done | rfl | (simp only [List.length_drop, List.length_take]; rfl)) ?_; (with_reducible refine (impl_EncodeRun.calls kj17 _ _ t826 a1 t829 _ ?side1 ?side2 A50.out).mono ?_); (case side1 => repeat (first | exact (Kd.R_reads' HO828.out).2.2 | (with_reducible refine Kd.C_alloc ?_ _) | (with_reducible refine Kd.C_drewN ?_ _) | (with_reducible refine Kd.C_drew ?_))); (case side2 => exact (Kd.R_reads' HO828.out).2.1); rintro e w58 ⟨v830, rfl, ho0, hb⟩; refine ⟨_, rfl, ?_⟩; have n0_ := Aside0.mk (Kd.R_elder' (lf HO_6) (Kd.R_base ho0) hb); have n1_ := Aside0.mk (Kd.R_elder' (lf HO_8) (Kd.R_base ho0) hb); have n2_ := Aside0.mk (Kd.R_below (lf HO_812000) hb); have n3_ := Aside0.mk (Kd.R_below (lf HO828) hb); have n4_ := Aside0.mk (Kd.R_lower (Kd.R_new' (Kd.R_new' ho0 (Kd.R_lt (lf HO_6))) (Kd.R_lt (lf HO_8))) (below_size bw)); have n5_ := Aside0.mk (blk_below (g := gb800) (o := .cells #[.slice A0_0 l0_0.length c0_0] 61 (0, 0)) (lb BK800) hb); have n6_ := Aside0.mk (blk_below (g := gb811) (o := .cells #[.slice Ao29 t821.length co29] 66 (0, 0)) (lb BK811) hb); have n7_ := Aside0.mk (below_step bw hb); clear HO_6; clear HO_8; clear HO_812000; clear HO828; clear BK800; clear BK811; clear HB; have HO_6 := n0_; have HO_8 := n1_; have HO_812000 := n2_; have HO828 := n3_; have HO831 := n4_; have BK800 := n5_; have BK811 := n6_; have HB := n7_; clear n0_ n1_ n2_ n3_ n4_ n5_ n6_ n7_; (try clear hb); (try clear hb2); (try clear hk); (try clear hi); (try clear ho0); obtain ⟨Ao59, co59, eo59⟩ := Kd.R_slice HO831.out; subst eo59) | ((with_reducible refine at_fn (f := 26) rfl ?_); refine goesL_ (some 64) rfl rfl Try.func26 (by kernel_rfl) rfl #[.slice Ao59 t829.length co59, .slice Ao34 t805.length co34] rfl (by (try simp only [List.map_toArray, List.map_cons, List.map_nil]); first | done | rfl | (simp only [List.length_drop, List.length_take]; rfl)) ?_; (with_reducible refine (laws_eqByteS.calls kj17 _ _ t829 _ _ t805 true _ ?side1 ?side2 ?side3 ?side4 A51.out).mono ?_); (case side1 => repeat (first | exact (Kd.R_reads' HO831.out).2.2 | (with_reducible refine Kd.C_alloc ?_ _) | (with_reducible refine Kd.C_drewN ?_ _) | (with_reducible refine Kd.C_drew ?_))); (case side2 => exact (Kd.R_reads' HO831.out).2.1); (case side3 => repeat (first | exact (Kd.R_reads' HO_6.out).2.2 | (with_reducible refine Kd.C_alloc ?_ _) | (with_reducible refine Kd.C_drewN ?_ _) | (with_reducible refine Kd.C_drew ?_))); (case side4 => exact (Kd.R_reads' HO_6.out).2.1); rintro e w' ⟨rfl, ⟨nd, rfl⟩⟩; refine ⟨_, rfl, ?_⟩))
          go_ret
          exact ⟨by first | rfl | (simp [errW_none, errW_some] <;> rfl) | (simp [*, errW_none, errW_some] <;> rfl), bw⟩
         ·replace c52 := Bool.eq_false_iff.mpr c52
          subst c52
          have H1 : (some false) = some r := by rw [if_neg (show ¬ (false = true) by decide)] at H; exact H
          clear H
          have H := H1
          clear H1
          obtain rfl := Option.some.inj H
          go_wp2_with (first | ((with_reducible refine at_fn (f := 57) rfl ?_); refine goesL_ (some 49) rfl rfl Try.func57 (by kernel_rfl) rfl #[.slice Ao33 t812.length co33, .int .i64 1] rfl (by (try simp only [List.map_toArray, List.map_cons, List.map_nil]); first | done | rfl | (simp only [List.length_drop, List.length_take]; rfl)) ?_; (with_reducible refine (laws_markByteS.calls kj17 (fun k_ => some k_ = (.slice Ao33 t812.length co33 : Value).ownBlock) (.slice Ao33 t812.length co33) t812 1 t823 t824 w _ ?side1 ?side2 A44.out).mono ?_); (case side1 => repeat (first | (with_reducible first | exact HB.out | apply below_alloc | apply pw_below_drewN | apply below_drew1 | refine below_set ?_ GE800.out | refine below_set ?_ GE811.out) | exact HB.out)); (case side2 => exact Kd.R_tight rfl HO_8.out); rintro e w60 ⟨rfl, hy0, hb, hkp⟩; refine ⟨_, rfl, ?_⟩; have n0_ := Aside0.mk (Kd.R_mono (ok' := fun k_ => some k_ ≠ (.slice Ao33 t812.length co33 : Value).ownBlock) (Kd.R_keptB (HO_6.out) hkp (fun k_ hk_ hs_ => (by first | exact hk_.1.1.2 hs_ | exact hk_.1.1.1 hs_ | exact hk_.1.1 hs_ | exact hk_.1.2 hs_ | exact hk_.1 hs_ | exact hk_.2 hs_ | exact hk_.1.2.1 hs_ | exact hk_.1.2.2 hs_ | exact hk_.2.1 hs_ | exact hk_.2.2 hs_ | exact hk_.1.1.2.1 hs_ | exact hk_.1.1.2.2 hs_ | exact hk_.1.1.1.1 hs_ | exact hk_.1.1.1.2 hs_ | exact hk_ hs_))) (fun k_ hk_ => (by first | exact hk_.1.1.2 | exact hk_.1.1.1 | exact hk_.1.1 | exact hk_.1.2 | exact hk_.1 | exact hk_.2 | exact hk_.1.2.1 | exact hk_.1.2.2 | exact hk_.2.1 | exact hk_.2.2 | exact hk_.1.1.2.1 | exact hk_.1.1.2.2 | exact hk_.1.1.1.1 | exact hk_.1.1.1.2))); have n1_ := Aside0.mk (Kd.R_reok rfl hy0 (fun k_ e_ => HO_8.out.1 k_ e_)); have n2_ := Aside0.mk (Kd.R_mono (ok' := fun k_ => True) (Kd.R_keptB ((Kd.R_apart' HO_812000.out (Kd.R_typed HO_8.out) (by decide))) hkp (fun k_ hk_ hs_ => (by first | exact hk_.1.1.2 hs_ | exact hk_.1.1.1 hs_ | exact hk_.1.1 hs_ | exact hk_.1.2 hs_ | exact hk_.1 hs_ | exact hk_.2 hs_ | exact hk_.1.2.1 hs_ | exact hk_.1.2.2 hs_ | exact hk_.2.1 hs_ | exact hk_.2.2 hs_ | exact hk_.1.1.2.1 hs_ | exact hk_.1.1.2.2 hs_ | exact hk_.1.1.1.1 hs_ | exact hk_.1.1.1.2 hs_ | exact hk_ hs_))) (fun k_ hk_ => trivial)); have n3_ := Aside0.mk (blk_kept (lb BK800) hkp (fun hs_ => (fun e_ => (Kd.R_ne HO_8.out BK800.out (by decide)) e_) hs_)); have n4_ := Aside0.mk (blk_kept (lb BK811) hkp (fun hs_ => (fun e_ => (Kd.R_ne HO_8.out BK811.out (by decide)) e_) hs_)); have n5_ := Aside0.mk (hb); clear HO_6; clear HO_8; clear HO_812000; clear BK800; clear BK811; clear HB; have HO_6 := n0_; have HO_8 := n1_; have HO_812000 := n2_; have BK800 := n3_; have BK811 := n4_; have HB := n5_; clear n0_ n1_ n2_ n3_ n4_ n5_; (try clear hb); (try clear hkp); (try clear hy0)) | ((with_reducible refine at_fn (f := 58) rfl ?_); refine goesL_ (some 52) rfl rfl Try.func58 (by kernel_rfl) rfl #[.slice Ao33 t824.length co33, .int .i64 1] rfl (by (try simp only [List.map_toArray, List.map_cons, List.map_nil]); first | done | (rw [show t824.length = t812.length from (Kd.R_reads' HO_8.out).1.symm] <;> rfl) | rfl | (simp only [List.length_drop, List.length_take]; rfl)) ?_; (with_reducible refine (laws_heldByteS.calls kj17 _ _ t824 1 t825 _ ?side1 ?side2 A45.out).mono ?_); (case side1 => repeat (first | exact (Kd.R_reads' HO_8.out).2.2 | (with_reducible refine Kd.C_alloc ?_ _) | (with_reducible refine Kd.C_drewN ?_ _) | (with_reducible refine Kd.C_drew ?_))); (case side2 => rw [show t824.length = t812.length from (Kd.R_reads' HO_8.out).1.symm]; exact (Kd.R_reads' HO_8.out).2.1); rintro e w' ⟨rfl, ⟨nd, rfl⟩⟩; refine ⟨_, rfl, ?_⟩; have hnb61 := NB800_811.out; have hnc61 := NB811_800.out; have hcz62_0 : w60.cell? ⟨gb800, 0, none⟩ = some (.slice A0_0 l0_0.length c0_0) := (blk_cell BK800.out 0).trans rfl; have hfz62_0 := blk_frozen BK800.out 0) | ((with_reducible refine at_fn (f := 41) rfl ?_); refine goesL_ (some 59) rfl rfl Try.func41 (by kernel_rfl) rfl #[.agg #[.slice A0_0 l0_0.length c0_0]] rfl (by (try simp only [List.map_toArray, List.map_cons, List.map_nil]); first | done | rfl | (simp only [List.length_drop, List.length_take]; rfl)) ?_; (with_reducible refine (laws_toRun.calls kj17 _ _ l0_0 t826 _ ?side1 ?side2 A49.out).mono ?_); (case side1 => repeat (first | exact (Kd.C_below HR0_0.out bw) | (with_reducible refine Kd.C_alloc ?_ _) | (with_reducible refine Kd.C_drewN ?_ _) | (with_reducible refine Kd.C_drew ?_))); (case side2 => exact HC0_0.out); rintro e w63 ⟨v827, rfl, ho0, hb⟩; refine ⟨_, rfl, ?_⟩; have n0_ := Aside0.mk (Kd.R_below (lf HO_6) hb); have n1_ := Aside0.mk (Kd.R_below (lf HO_8) hb); have n2_ := Aside0.mk (Kd.R_elder' (lf HO_812000) (Kd.R_base ho0) hb); have n3_ := Aside0.mk (Kd.R_lower (Kd.R_new' ho0 (Kd.R_lt (lf HO_812000))) (below_size bw)); have n4_ := Aside0.mk (blk_below (g := gb800) (o := .cells #[.slice A0_0 l0_0.length c0_0] 61 (0, 0)) (lb BK800) hb); have n5_ := Aside0.mk (blk_below (g := gb811) (o := .cells #[.slice Ao29 t821.length co29] 66 (0, 0)) (lb BK811) hb); have n6_ := Aside0.mk (below_step bw hb); clear HO_6; clear HO_8; clear HO_812000; clear BK800; clear BK811; clear HB; have HO_6 := n0_; have HO_8 := n1_; have HO_812000 := n2_; have HO828 := n3_; have BK800 := n4_; have BK811 := n5_; have HB := n6_; clear n0_ n1_ n2_ n3_ n4_ n5_ n6_; (try clear hb); (try clear hb2); (try clear hk); (try clear hi); (try clear ho0); obtain ⟨Ao64, co64, eo64⟩ := Kd.R_slice HO828.out; subst eo64) | ((with_reducible refine at_fn (f := 55) rfl ?_); refine goesL_ (some 61) rfl rfl Try.func55 (by kernel_rfl) rfl #[.agg #[.slice Ao64 t826.length co64], .int .i64 a1] rfl (by (try simp only [List.map_toArray, List.map_cons, List.map_nil]); first | done | rfl | (simp only [List.length_drop, List.length_take]; rfl)) ?_; (with_reducible refine (impl_EncodeRun.calls kj17 _ _ t826 a1 t829 _ ?side1 ?side2 A50.out).mono ?_); (case side1 => repeat (first | exact (Kd.R_reads' HO828.out).2.2 | (with_reducible refine Kd.C_alloc ?_ _) | (with_reducible refine Kd.C_drewN ?_ _) | (with_reducible refine Kd.C_drew ?_))); (case side2 => exact (Kd.R_reads' HO828.out).2.1); rintro e w65 ⟨v830, rfl, ho0, hb⟩; refine ⟨_, rfl, ?_⟩; have n0_ := Aside0.mk (Kd.R_elder' (lf HO_6) (Kd.R_base ho0) hb); have n1_ := Aside0.mk (Kd.R_elder' (lf HO_8) (Kd.R_base ho0) hb); have n2_ := Aside0.mk (Kd.R_below (lf HO_812000) hb); have n3_ := Aside0.mk (Kd.R_below (lf HO828) hb); have n4_ := Aside0.mk (Kd.R_lower (Kd.R_new' (Kd.R_new' ho0 (Kd.R_lt (lf HO_6))) (Kd.R_lt (lf HO_8))) (below_size bw)); have n5_ := Aside0.mk (blk_below (g := gb800) (o := .cells #[.slice A0_0 l0_0.length c0_0] 61 (0, 0)) (lb BK800) hb); have n6_ := Aside0.mk (blk_below (g := gb811) (o := .cells #[.slice Ao29 t821.length co29] 66 (0, 0)) (lb BK811) hb); have n7_ := Aside0.mk (below_step bw hb); clear HO_6; clear HO_8; clear HO_812000; clear HO828; clear BK800; clear BK811; clear HB; have HO_6 := n0_; have HO_8 := n1_; have HO_812000 := n2_; have HO828 := n3_; have HO831 := n4_; have BK800 := n5_; have BK811 := n6_; have HB := n7_; clear n0_ n1_ n2_ n3_ n4_ n5_ n6_ n7_; (try clear hb); (try clear hb2); (try clear hk); (try clear hi); (try clear ho0); obtain ⟨Ao66, co66, eo66⟩ := Kd.R_slice HO831.out; subst eo66) | ((with_reducible refine at_fn (f := 26) rfl ?_); refine goesL_ (some 64) rfl rfl Try.func26 (by kernel_rfl) rfl #[.slice Ao66 t829.length co66, .slice Ao34 t805.length co34] rfl (by (try simp only [List.map_toArray, List.map_cons, List.map_nil]); first | done | rfl | (simp only [List.length_drop, List.length_take]; rfl)) ?_; (with_reducible refine (laws_eqByteS.calls kj17 _ _ t829 _ _ t805 false _ ?side1 ?side2 ?side3 ?side4 A51.out).mono ?_); (case side1 => repeat (first | exact (Kd.R_reads' HO831.out).2.2 | (with_reducible refine Kd.C_alloc ?_ _) | (with_reducible refine Kd.C_drewN ?_ _) | (with_reducible refine Kd.C_drew ?_))); (case side2 => exact (Kd.R_reads' HO831.out).2.1); (case side3 => repeat (first | exact (Kd.R_reads' HO_6.out).2.2 | (with_reducible refine Kd.C_alloc ?_ _) | (with_reducible refine Kd.C_drewN ?_ _) | (with_reducible refine Kd.C_drew ?_))); (case side4 => exact (Kd.R_reads' HO_6.out).2.1); rintro e w' ⟨rfl, ⟨nd, rfl⟩⟩; refine ⟨_, rfl, ?_⟩))
          go_ret
          exact ⟨by first | rfl | (simp [errW_none, errW_some] <;> rfl) | (simp [*, errW_none, errW_some] <;> rfl), bw⟩
        ·rw [if_neg c48] at H
         have c48b0 : (t825 == t823) = false := beq_eq_false_iff_ne.mpr c48
         have c48b1 : (t825 != t823) = true := bne_iff_ne.mpr c48
         obtain rfl := Option.some.inj H
         go_wp2_with (first | ((with_reducible refine at_fn (f := 57) rfl ?_); refine goesL_ (some 49) rfl rfl Try.func57 (by kernel_rfl) rfl #[.slice Ao33 t812.length co33, .int .i64 1] rfl (by (try simp only [List.map_toArray, List.map_cons, List.map_nil]); first | done | rfl | (simp only [List.length_drop, List.length_take]; rfl)) ?_; (with_reducible refine (laws_markByteS.calls kj17 (fun k_ => some k_ = (.slice Ao33 t812.length co33 : Value).ownBlock) (.slice Ao33 t812.length co33) t812 1 t823 t824 w _ ?side1 ?side2 A44.out).mono ?_); (case side1 => repeat (first | (with_reducible first | exact HB.out | apply below_alloc | apply pw_below_drewN | apply below_drew1 | refine below_set ?_ GE800.out | refine below_set ?_ GE811.out) | exact HB.out)); (case side2 => exact Kd.R_tight rfl HO_8.out); rintro e w67 ⟨rfl, hy0, hb, hkp⟩; refine ⟨_, rfl, ?_⟩; have n0_ := Aside0.mk (Kd.R_mono (ok' := fun k_ => some k_ ≠ (.slice Ao33 t812.length co33 : Value).ownBlock) (Kd.R_keptB (HO_6.out) hkp (fun k_ hk_ hs_ => (by first | exact hk_.1.1.2 hs_ | exact hk_.1.1.1 hs_ | exact hk_.1.1 hs_ | exact hk_.1.2 hs_ | exact hk_.1 hs_ | exact hk_.2 hs_ | exact hk_.1.2.1 hs_ | exact hk_.1.2.2 hs_ | exact hk_.2.1 hs_ | exact hk_.2.2 hs_ | exact hk_.1.1.2.1 hs_ | exact hk_.1.1.2.2 hs_ | exact hk_.1.1.1.1 hs_ | exact hk_.1.1.1.2 hs_ | exact hk_ hs_))) (fun k_ hk_ => (by first | exact hk_.1.1.2 | exact hk_.1.1.1 | exact hk_.1.1 | exact hk_.1.2 | exact hk_.1 | exact hk_.2 | exact hk_.1.2.1 | exact hk_.1.2.2 | exact hk_.2.1 | exact hk_.2.2 | exact hk_.1.1.2.1 | exact hk_.1.1.2.2 | exact hk_.1.1.1.1 | exact hk_.1.1.1.2))); have n1_ := Aside0.mk (Kd.R_reok rfl hy0 (fun k_ e_ => HO_8.out.1 k_ e_)); have n2_ := Aside0.mk (Kd.R_mono (ok' := fun k_ => True) (Kd.R_keptB ((Kd.R_apart' HO_812000.out (Kd.R_typed HO_8.out) (by decide))) hkp (fun k_ hk_ hs_ => (by first | exact hk_.1.1.2 hs_ | exact hk_.1.1.1 hs_ | exact hk_.1.1 hs_ | exact hk_.1.2 hs_ | exact hk_.1 hs_ | exact hk_.2 hs_ | exact hk_.1.2.1 hs_ | exact hk_.1.2.2 hs_ | exact hk_.2.1 hs_ | exact hk_.2.2 hs_ | exact hk_.1.1.2.1 hs_ | exact hk_.1.1.2.2 hs_ | exact hk_.1.1.1.1 hs_ | exact hk_.1.1.1.2 hs_ | exact hk_ hs_))) (fun k_ hk_ => trivial)); have n3_ := Aside0.mk (blk_kept (lb BK800) hkp (fun hs_ => (fun e_ => (Kd.R_ne HO_8.out BK800.out (by decide)) e_) hs_)); have n4_ := Aside0.mk (blk_kept (lb BK811) hkp (fun hs_ => (fun e_ => (Kd.R_ne HO_8.out BK811.out (by decide)) e_) hs_)); have n5_ := Aside0.mk (hb); clear HO_6; clear HO_8; clear HO_812000; clear BK800; clear BK811; clear HB; have HO_6 := n0_; have HO_8 := n1_; have HO_812000 := n2_; have BK800 := n3_; have BK811 := n4_; have HB := n5_; clear n0_ n1_ n2_ n3_ n4_ n5_; (try clear hb); (try clear hkp); (try clear hy0)) | ((with_reducible refine at_fn (f := 58) rfl ?_); refine goesL_ (some 52) rfl rfl Try.func58 (by kernel_rfl) rfl #[.slice Ao33 t824.length co33, .int .i64 1] rfl (by (try simp only [List.map_toArray, List.map_cons, List.map_nil]); first | done | (rw [show t824.length = t812.length from (Kd.R_reads' HO_8.out).1.symm] <;> rfl) | rfl | (simp only [List.length_drop, List.length_take]; rfl)) ?_; (with_reducible refine (laws_heldByteS.calls kj17 _ _ t824 1 t825 _ ?side1 ?side2 A45.out).mono ?_); (case side1 => repeat (first | exact (Kd.R_reads' HO_8.out).2.2 | (with_reducible refine Kd.C_alloc ?_ _) | (with_reducible refine Kd.C_drewN ?_ _) | (with_reducible refine Kd.C_drew ?_))); (case side2 => rw [show t824.length = t812.length from (Kd.R_reads' HO_8.out).1.symm]; exact (Kd.R_reads' HO_8.out).2.1); rintro e w' ⟨rfl, ⟨nd, rfl⟩⟩; refine ⟨_, rfl, ?_⟩))
         go_ret
         exact ⟨by first | rfl | (simp [errW_none, errW_some] <;> rfl) | (simp [*, errW_none, errW_some] <;> rfl), bw⟩
   ·replace c16 := Bool.eq_false_iff.mpr c16
    subst c16
    have H1 : (some false) = some r := by rw [if_neg (show ¬ (false = true) by decide)] at H; exact H
    clear H
    have H := H1
    clear H1
    obtain rfl := Option.some.inj H
    go_enter Try.func14, Try.ntmps14
    try go_wp2_with (first | ((with_reducible refine gate_dst (N := 2) rfl ?_); refine box_event ?hg (N := 2) ?hd (cs := #[.slice A0_0 l0_0.length c0_0]) (t := 61) ?hr ?_; (case hd => rfl); (case hg => rfl); (case hr => first | (go_simp; done) | (go_simp; rfl)); intro gb800 hg w68 hbox hb; have n0_ := Aside0.mk (below_step bw hb); have n1_ := Aside0.mk (hbox); have n2_ := Aside0.mk ((by rw [hg]; exact (below_size bw) : w.heap.size ≤ gb800)); have n3_ := Aside0.mk ((by rw [hg]; exact (below_size bw) : w.heap.size ≤ gb800)); clear HB; have HB := n0_; have BK800 := n1_; have GW800 := n2_; have GE800 := n3_; clear n0_ n1_ n2_ n3_; clear hb hbox hg; have hcz69_0 : w68.cell? ⟨gb800, 0, none⟩ = some (.slice A0_0 l0_0.length c0_0) := (blk_cell BK800.out 0).trans rfl; have hfz69_0 := blk_frozen BK800.out 0) | ((with_reducible refine at_fn (f := 39) rfl ?_); refine goesL_ (some 15) rfl rfl Try.func39 (by kernel_rfl) rfl #[.agg #[.slice A0_0 l0_0.length c0_0], .int .i64 1048576] rfl (by (try simp only [List.map_toArray, List.map_cons, List.map_nil]); first | done | rfl | (simp only [List.length_drop, List.length_take]; rfl)) ?_; (with_reducible refine (laws_szRun.calls k _ _ l0_0 1048576 t801 _ ?side1 ?side2 A3.out).mono ?_); (case side1 => repeat (first | exact (Kd.C_below HR0_0.out HB.out) | (with_reducible refine Kd.C_alloc ?_ _) | (with_reducible refine Kd.C_drewN ?_ _) | (with_reducible refine Kd.C_drew ?_))); (case side2 => exact HC0_0.out); rintro e w70 ⟨rfl, hb⟩; refine ⟨_, rfl, ?_⟩; have n0_ := Aside0.mk (blk_below (g := gb800) (o := .cells #[.slice A0_0 l0_0.length c0_0] 61 (0, 0)) (lb BK800) hb); have n1_ := Aside0.mk (below_step bw hb); clear BK800; clear HB; have BK800 := n0_; have HB := n1_; clear n0_ n1_; (try clear hb); (try clear hb2); (try clear hk); (try clear hi); have hcz71_0 : w70.cell? ⟨gb800, 0, none⟩ = some (.slice A0_0 l0_0.length c0_0) := (blk_cell BK800.out 0).trans rfl; have hfz71_0 := blk_frozen BK800.out 0) | ((with_reducible refine at_fn (f := 41) rfl ?_); refine goesL_ (some 19) rfl rfl Try.func41 (by kernel_rfl) rfl #[.agg #[.slice A0_0 l0_0.length c0_0]] rfl (by (try simp only [List.map_toArray, List.map_cons, List.map_nil]); first | done | rfl | (simp only [List.length_drop, List.length_take]; rfl)) ?_; (with_reducible refine (laws_toRun.calls k _ _ l0_0 t802 _ ?side1 ?side2 A8.out).mono ?_); (case side1 => repeat (first | exact (Kd.C_below HR0_0.out HB.out) | (with_reducible refine Kd.C_alloc ?_ _) | (with_reducible refine Kd.C_drewN ?_ _) | (with_reducible refine Kd.C_drew ?_))); (case side2 => exact HC0_0.out); rintro e w72 ⟨v803, rfl, ho0, hb⟩; refine ⟨_, rfl, ?_⟩; have n0_ := Aside0.mk (Kd.R_lower ho0 (below_size bw)); have n1_ := Aside0.mk (blk_below (g := gb800) (o := .cells #[.slice A0_0 l0_0.length c0_0] 61 (0, 0)) (lb BK800) hb); have n2_ := Aside0.mk (below_step bw hb); clear BK800; clear HB; have HO804 := n0_; have BK800 := n1_; have HB := n2_; clear n0_ n1_ n2_; (try clear hb); (try clear hb2); (try clear hk); (try clear hi); (try clear ho0); obtain ⟨Ao73, co73, eo73⟩ := Kd.R_slice HO804.out; subst eo73) | ((with_reducible refine at_fn (f := 54) rfl ?_); refine goesL_ (some 21) rfl rfl Try.func54 (by kernel_rfl) rfl #[.agg #[.slice Ao73 t802.length co73], .int .i64 a1] rfl (by (try simp only [List.map_toArray, List.map_cons, List.map_nil]); first | done | rfl | (simp only [List.length_drop, List.length_take]; rfl)) ?_; (with_reducible refine (spec_EncodeRun.calls k (fun k_ => some k_ = (.slice Ao73 t802.length co73 : Value).ownBlock) _ _ t802 a1 t805 _ ?side1 A9.out).mono ?_); (case side1 => exact Kd.R_V (Kd.R_tight rfl (Kd.R_types (HO804.out) BK800.out (by decide)))); rintro e w74 ⟨v806, rfl, ho0, hb⟩; refine ⟨_, rfl, ?_⟩; have n0_ := Aside0.mk (Kd.R_below (lf HO804) hb); have n1_ := Aside0.mk (Kd.R_lower (Kd.R_mono (ok' := fun k_ => True) ho0 (fun _ hk_ => trivial)) (below_size bw)); have n2_ := Aside0.mk (blk_below (g := gb800) (o := .cells #[.slice A0_0 l0_0.length c0_0] 61 (0, 0)) (lb BK800) hb); have n3_ := Aside0.mk (below_step bw hb); clear HO804; clear BK800; clear HB; have HO804 := n0_; have HO807 := n1_; have BK800 := n2_; have HB := n3_; clear n0_ n1_ n2_ n3_; (try clear hb); (try clear hb2); (try clear hk); (try clear hi); (try clear ho0); have hcz75_0 : w74.cell? ⟨gb800, 0, none⟩ = some (.slice A0_0 l0_0.length c0_0) := (blk_cell BK800.out 0).trans rfl; have hfz75_0 := blk_frozen BK800.out 0) | ((with_reducible refine at_fn (f := 41) rfl ?_); refine goesL_ (some 23) rfl rfl Try.func41 (by kernel_rfl) rfl #[.agg #[.slice A0_0 l0_0.length c0_0]] rfl (by (try simp only [List.map_toArray, List.map_cons, List.map_nil]); first | done | rfl | (simp only [List.length_drop, List.length_take]; rfl)) ?_; (with_reducible refine (laws_toRun.calls k _ _ l0_0 t808 _ ?side1 ?side2 A10.out).mono ?_); (case side1 => repeat (first | exact (Kd.C_below HR0_0.out HB.out) | (with_reducible refine Kd.C_alloc ?_ _) | (with_reducible refine Kd.C_drewN ?_ _) | (with_reducible refine Kd.C_drew ?_))); (case side2 => exact HC0_0.out); rintro e w76 ⟨v809, rfl, ho0, hb⟩; refine ⟨_, rfl, ?_⟩; have n0_ := Aside0.mk (Kd.R_elder' (lf HO804) (Kd.R_base ho0) hb); have n1_ := Aside0.mk (Kd.R_below (lf HO807) hb); have n2_ := Aside0.mk (Kd.R_lower (Kd.R_new' ho0 (Kd.R_lt (lf HO804))) (below_size bw)); have n3_ := Aside0.mk (blk_below (g := gb800) (o := .cells #[.slice A0_0 l0_0.length c0_0] 61 (0, 0)) (lb BK800) hb); have n4_ := Aside0.mk (below_step bw hb); clear HO804; clear HO807; clear BK800; clear HB; have HO804 := n0_; have HO807 := n1_; have HO810 := n2_; have BK800 := n3_; have HB := n4_; clear n0_ n1_ n2_ n3_ n4_; (try clear hb); (try clear hb2); (try clear hk); (try clear hi); (try clear ho0)) | ((with_reducible refine gate_dst (N := 7) rfl ?_); refine box_event ?hg (N := 7) ?hd (cs := #[.slice none 0 0]) (t := 66) ?hr ?_; (case hd => rfl); (case hg => rfl); (case hr => first | (go_simp; done) | (go_simp; rfl)); intro gb811 hg w77 hbox hb; have n0_ := Aside0.mk (Kd.R_below (lf HO804) hb); have n1_ := Aside0.mk (Kd.R_below (lf HO807) hb); have n2_ := Aside0.mk (Kd.R_below (lf HO810) hb); have n3_ := Aside0.mk (blk_below (g := gb800) (o := .cells #[.slice A0_0 l0_0.length c0_0] 61 (0, 0)) (lb BK800) hb); have n4_ := Aside0.mk (below_step bw hb); have n5_ := Aside0.mk (hbox); have n6_ := Aside0.mk ((by rw [hg]; exact (below_size bw) : w.heap.size ≤ gb811)); have n7_ := Aside0.mk ((by rw [hg]; exact (below_size bw) : w.heap.size ≤ gb811)); have n8_ := Aside0.mk ((by rw [hg]; exact Nat.ne_of_lt (blk_lt (g := gb800) (o := .cells #[.slice A0_0 l0_0.length c0_0] 61 (0, 0)) (lb BK800)) : gb800 ≠ gb811)); have n9_ := Aside0.mk ((by rw [hg]; exact Nat.ne_of_gt (blk_lt (g := gb800) (o := .cells #[.slice A0_0 l0_0.length c0_0] 61 (0, 0)) (lb BK800)) : gb811 ≠ gb800)); clear HO804; clear HO807; clear HO810; clear BK800; clear HB; have HO804 := n0_; have HO807 := n1_; have HO810 := n2_; have BK800 := n3_; have HB := n4_; have BK811 := n5_; have GW811 := n6_; have GE811 := n7_; have NB800_811 := n8_; have NB811_800 := n9_; clear n0_ n1_ n2_ n3_ n4_ n5_ n6_ n7_ n8_ n9_; clear hb hbox hg; obtain ⟨Ao78, co78, eo78⟩ := Kd.R_slice HO810.out; subst eo78; have hnb79 := NB811_800.out; have hnc79 := NB800_811.out; have hcz80_0 : w77.cell? ⟨gb811, 0, none⟩ = some (.slice none 0 0) := (blk_cell BK811.out 0).trans rfl; have hfz80_0 := blk_frozen BK811.out 0) | ((with_reducible refine at_fn (f := 55) rfl ?_); refine goesL_ (some 26) rfl rfl Try.func55 (by kernel_rfl) rfl #[.agg #[.slice Ao78 t808.length co78], .int .i64 a1] rfl (by (try simp only [List.map_toArray, List.map_cons, List.map_nil]); first | done | rfl | (simp only [List.length_drop, List.length_take]; rfl)) ?_; (with_reducible refine (impl_EncodeRun.calls k _ _ t808 a1 t812 _ ?side1 ?side2 A11.out).mono ?_); (case side1 => refine (Kd.R_reads' (e := 35) (base := w.heap.size) (ok := fun k_ => (True ∧ some k_ ≠ (.slice Ao73 t802.length co73 : Value).ownBlock)) (n := t808.length) (c := co78) ?_).2.2; exact (by (with_reducible repeat (first | apply Kd.R_alloc | apply Kd.R_drewN | apply Kd.R_drew)); exact (Kd.R_mono (Kd.R_far (p := ⟨gb811, 0, none⟩) (Kd.R_types HO810.out BK811.out (by decide)) (fun _ hk => hk.2) (.slice Ao78 t808.length co78)) (fun _ h_ => h_.1)))); (case side2 => exact (Kd.R_reads' HO810.out).2.1); rintro e w81 ⟨v813, rfl, ho0, hb⟩; refine ⟨_, rfl, ?_⟩; have n0_ := Aside0.mk (Kd.R_below (by (with_reducible repeat (first | apply Kd.R_alloc | apply Kd.R_drewN | apply Kd.R_drew)); exact (Kd.R_mono (Kd.R_far (p := ⟨gb811, 0, none⟩) (Kd.R_types HO804.out BK811.out (by decide)) (fun _ hk => hk.2) (.slice Ao78 t808.length co78)) (fun _ h_ => h_.1))) hb); have n1_ := Aside0.mk (Kd.R_elder' (by (with_reducible repeat (first | apply Kd.R_alloc | apply Kd.R_drewN | apply Kd.R_drew)); exact (Kd.R_mono (Kd.R_far (p := ⟨gb811, 0, none⟩) (Kd.R_types HO807.out BK811.out (by decide)) (fun _ hk => hk.2) (.slice Ao78 t808.length co78)) (fun _ h_ => h_.1))) (Kd.R_base ho0) hb); have n2_ := Aside0.mk (Kd.R_below (by (with_reducible repeat (first | apply Kd.R_alloc | apply Kd.R_drewN | apply Kd.R_drew)); exact (Kd.R_mono (Kd.R_far (p := ⟨gb811, 0, none⟩) (Kd.R_types HO810.out BK811.out (by decide)) (fun _ hk => hk.2) (.slice Ao78 t808.length co78)) (fun _ h_ => h_.1))) hb); have n3_ := Aside0.mk (Kd.R_lower (Kd.R_new' ho0 (Kd.R_lt (by (with_reducible repeat (first | apply Kd.R_alloc | apply Kd.R_drewN | apply Kd.R_drew)); exact (Kd.R_mono (Kd.R_far (p := ⟨gb811, 0, none⟩) (Kd.R_types HO807.out BK811.out (by decide)) (fun _ hk => hk.2) (.slice Ao78 t808.length co78)) (fun _ h_ => h_.1))))) (below_size bw)); have n4_ := Aside0.mk (blk_below (g := gb800) (o := .cells #[.slice A0_0 l0_0.length c0_0] 61 (0, 0)) (by (with_reducible repeat (first | refine blk_drewN ?_ _ | refine blk_drew ?_ | refine blk_alloc ?_ _)); refine blk_far ?_ NB800_811.out _; (with_reducible repeat (first | refine blk_drewN ?_ _ | refine blk_drew ?_ | refine blk_alloc ?_ _)); exact BK800.out) hb); have n5_ := Aside0.mk (blk_below (g := gb811) (o := .cells #[.slice Ao78 t808.length co78] 66 (0, 0)) (by (with_reducible repeat (first | refine blk_drewN ?_ _ | refine blk_drew ?_ | refine blk_alloc ?_ _)); refine blk_put (cs := #[.slice none 0 0]) ?_ 0 _ rfl; (with_reducible repeat (first | refine blk_drewN ?_ _ | refine blk_drew ?_ | refine blk_alloc ?_ _)); exact BK811.out) hb); have n6_ := Aside0.mk (below_step bw hb); clear HO804; clear HO807; clear HO810; clear BK800; clear BK811; clear HB; have HO804 := n0_; have HO807 := n1_; have HO810 := n2_; have HO814 := n3_; have BK800 := n4_; have BK811 := n5_; have HB := n6_; clear n0_ n1_ n2_ n3_ n4_ n5_ n6_; (try clear hb); (try clear hb2); (try clear hk); (try clear hi); (try clear ho0); obtain ⟨Ao82, co82, eo82⟩ := Kd.R_slice HO814.out; subst eo82; obtain ⟨Ao83, co83, eo83⟩ := Kd.R_slice HO807.out; subst eo83) | ((with_reducible refine at_fn (f := 26) rfl ?_); refine goesL_ (some 29) rfl rfl Try.func26 (by kernel_rfl) rfl #[.slice Ao82 t812.length co82, .slice Ao83 t805.length co83] rfl (by (try simp only [List.map_toArray, List.map_cons, List.map_nil]); first | done | rfl | (simp only [List.length_drop, List.length_take]; rfl)) ?_; (with_reducible refine (laws_eqByteS.calls k _ _ t812 _ _ t805 true _ ?side1 ?side2 ?side3 ?side4 A12.out).mono ?_); (case side1 => repeat (first | exact (Kd.R_reads' HO814.out).2.2 | (with_reducible refine Kd.C_alloc ?_ _) | (with_reducible refine Kd.C_drewN ?_ _) | (with_reducible refine Kd.C_drew ?_))); (case side2 => exact (Kd.R_reads' HO814.out).2.1); (case side3 => repeat (first | exact (Kd.R_reads' HO807.out).2.2 | (with_reducible refine Kd.C_alloc ?_ _) | (with_reducible refine Kd.C_drewN ?_ _) | (with_reducible refine Kd.C_drew ?_))); (case side4 => exact (Kd.R_reads' HO807.out).2.1); rintro e w' ⟨rfl, ⟨nd, rfl⟩⟩; refine ⟨_, rfl, ?_⟩))
    (try (rw [drewN_self w81]; generalize hq_ : World.drewN w81 _ = w81; have n0_ : Aside0 (Kd.R k35 35 w81 w.heap.size (fun k_ => some k_ ≠ (.slice Ao78 t808.length co78 : Value).ownBlock) (.slice Ao73 t802.length co73) t802) := ⟨by rw [← hq_]; exact (by (with_reducible repeat (first | apply Kd.R_alloc | apply Kd.R_drewN | apply Kd.R_drew)); exact Kd.R_mono HO804.out (fun _ hk => hk.2))⟩; have n1_ : Aside0 (Kd.R (Kd.int .u8) 5 w81 w.heap.size (fun k_ => some k_ ≠ (.slice Ao82 t812.length co82 : Value).ownBlock) (.slice Ao83 t805.length co83) t805) := ⟨by rw [← hq_]; exact (by (with_reducible repeat (first | apply Kd.R_alloc | apply Kd.R_drewN | apply Kd.R_drew)); exact Kd.R_mono HO807.out (fun _ hk => hk.2))⟩; have n2_ : Aside0 (Kd.R k35 35 w81 w.heap.size (fun k_ => some k_ ≠ (.slice Ao73 t802.length co73 : Value).ownBlock) (.slice Ao78 t808.length co78) t808) := ⟨by rw [← hq_]; exact (by (with_reducible repeat (first | apply Kd.R_alloc | apply Kd.R_drewN | apply Kd.R_drew)); exact Kd.R_mono HO810.out (fun _ hk => hk.2))⟩; have n3_ : Aside0 (Kd.R (Kd.int .u8) 5 w81 w.heap.size (fun k_ => some k_ ≠ (.slice Ao83 t805.length co83 : Value).ownBlock) (.slice Ao82 t812.length co82) t812) := ⟨by rw [← hq_]; exact (by (with_reducible repeat (first | apply Kd.R_alloc | apply Kd.R_drewN | apply Kd.R_drew)); exact Kd.R_mono HO814.out (fun _ hk => hk.2))⟩; have n4_ : Aside0 (w81.heap[gb800]? = some (.cells #[.slice A0_0 l0_0.length c0_0] 61 (0, 0))) := ⟨by rw [← hq_]; exact (lb BK800)⟩; have n5_ : Aside0 (w81.heap[gb811]? = some (.cells #[.slice Ao78 t808.length co78] 66 (0, 0))) := ⟨by rw [← hq_]; exact (lb BK811)⟩; have n6_ : Aside0 (Below w.heap.size w w81) := ⟨by rw [← hq_]; exact bw⟩; clear HO804 HO807 HO810 HO814 BK800 BK811 HB hq_; have HO804 := n0_; have HO807 := n1_; have HO810 := n2_; have HO814 := n3_; have BK800 := n4_; have BK811 := n5_; have HB := n6_; clear n0_ n1_ n2_ n3_ n4_ n5_ n6_))
    have n0_ := Aside0.mk (Kd.R_drew HO804.out)
    have n1_ := Aside0.mk (Kd.R_drew HO807.out)
    have n2_ := Aside0.mk (Kd.R_drew HO810.out)
    have n3_ := Aside0.mk (Kd.R_drew HO814.out)
    have n4_ := Aside0.mk (blk_drew BK800.out)
    have n5_ := Aside0.mk (blk_drew BK811.out)
    have n6_ := Aside0.mk (below_drew1 HB.out)
    clear HO804
    clear HO807
    clear HO810
    clear HO814
    clear BK800
    clear BK811
    clear HB
    have HO804 := n0_
    have HO807 := n1_
    have HO810 := n2_
    have HO814 := n3_
    have BK800 := n4_
    have BK811 := n5_
    have HB := n6_
    clear n0_ n1_ n2_ n3_ n4_ n5_ n6_
    refine start_ (n := 5) (S := fun w' => w'.cell? ⟨gb811, 0, none⟩ = some (.slice Ao78 t808.length co78) ∧ w'.cell? ⟨gb800, 0, none⟩ = some (.slice A0_0 l0_0.length c0_0)) (ds := []) #[false, false, false, false, false] (by kernel_rfl) rfl rfl ⟨(blk_cell BK811.out 0).trans rfl, (blk_cell BK800.out 0).trans rfl⟩ (fun hHeld => ?_)
    generalize w81.drew = w84 at HO804 HO807 HO810 HO814 BK800 BK811 HB hHeld ⊢
    refine take_ (i := 0) (N := some 31) (v := ?_) (a' := ?_) #[true, false, false, false, false] rfl rfl (by kernel_rfl) (fun _ _ _ h => h) (Or.inl ⟨by rfl, ?_⟩) hHeld ?_ ?_
    rotate_left
    ·rintro w' ⟨s0, s1⟩
     go_simp
     with_reducible rfl
    rotate_left
    ·simp only [Act.put, List.setIfInBounds_toArray, List.set_cons_zero, List.set_cons_succ, i64_w, i32_w]
     rfl
    refine take_ (i := 1) (N := some 32) (v := ?_) (a' := ?_) #[true, true, false, false, false] rfl rfl (by kernel_rfl) (fun _ _ _ h => h) (Or.inl ⟨by rfl, ?_⟩) hHeld ?_ ?_
    rotate_left
    ·rintro w' ⟨s0, s1⟩
     go_simp
     with_reducible rfl
    rotate_left
    ·simp only [Act.put, List.setIfInBounds_toArray, List.set_cons_zero, List.set_cons_succ, i64_w, i32_w]
     rfl
    refine one_ (i := 2) (N := some 33) #[true, true, true, false, false] rfl rfl (by kernel_rfl) (by decide) (fun K hK => ?_)
    refine goes_ Try.func41 (by kernel_rfl) rfl #[.agg #[.slice A0_0 l0_0.length c0_0]] (by rfl) rfl rfl (by (try simp only [List.map_toArray, List.map_cons, List.map_nil]); first | done | rfl | (simp only [List.length_drop, List.length_take]; rfl)) ?_
    with_reducible refine (laws_toRun.calls k _ _ l0_0 t816 _ ?side1 ?side2 A14.out).mono ?_
    (case side1 => repeat (first | exact (Kd.C_below HR0_0.out HB.out) | (with_reducible refine Kd.C_alloc ?_ _) | (with_reducible refine Kd.C_drewN ?_ _) | (with_reducible refine Kd.C_drew ?_)))
    (case side2 => exact HC0_0.out)
    rintro e w85 ⟨v817, rfl, ho0, hb⟩
    refine ⟨_, rfl, ?_⟩
    have n0_ := Aside0.mk (Kd.R_elder' (lf HO804) (Kd.R_base ho0) hb)
    have n1_ := Aside0.mk (Kd.R_below (lf HO807) hb)
    have n2_ := Aside0.mk (Kd.R_elder' (lf HO810) (Kd.R_base ho0) hb)
    have n3_ := Aside0.mk (Kd.R_below (lf HO814) hb)
    have n4_ := Aside0.mk (Kd.R_lower (Kd.R_new' (Kd.R_new' ho0 (Kd.R_lt (lf HO804))) (Kd.R_lt (lf HO810))) (below_size bw))
    have n5_ := Aside0.mk (blk_below (g := gb800) (o := .cells #[.slice A0_0 l0_0.length c0_0] 61 (0, 0)) (lb BK800) hb)
    have n6_ := Aside0.mk (blk_below (g := gb811) (o := .cells #[.slice Ao78 t808.length co78] 66 (0, 0)) (lb BK811) hb)
    have n7_ := Aside0.mk (below_step bw hb)
    clear HO804
    clear HO807
    clear HO810
    clear HO814
    clear BK800
    clear BK811
    clear HB
    have HO804 := n0_
    have HO807 := n1_
    have HO810 := n2_
    have HO814 := n3_
    have HO818 := n4_
    have BK800 := n5_
    have BK811 := n6_
    have HB := n7_
    clear n0_ n1_ n2_ n3_ n4_ n5_ n6_ n7_
    (try clear hb)
    (try clear hb2)
    (try clear hk)
    (try clear hi)
    (try clear ho0)
    obtain ⟨Ao86, co86, eo86⟩ := Kd.R_slice HO818.out
    (first | subst eo86 | (injection eo86 with f1_ f2_ f3_; have f4_ := f1_.symm; have f5_ := f3_.symm; clear f1_ f2_ f3_; subst f4_; subst f5_))
    refine hK.out _ _ ⟨(blk_cell BK811.out 0).trans rfl, (blk_cell BK800.out 0).trans rfl⟩ (fun hHeld => ?_)
    clear hK K
    refine norm_ (a' := ?_) ?_ ?_
    rotate_left
    ·show Act.put _ (some 33) _ = _
     simp only [Act.put, List.setIfInBounds_toArray, List.set_cons_zero, List.set_cons_succ, i64_w, i32_w]
     rfl
    refine one_ (i := 3) (N := some 34) #[true, true, true, true, false] rfl rfl (by kernel_rfl) (by decide) (fun K hK => ?_)
    refine goes_ Try.func43 (by kernel_rfl) rfl #[.agg #[.slice Ao78 t808.length co78], .agg #[.slice Ao86 t816.length co86]] (by rfl) rfl rfl (by (try simp only [List.map_toArray, List.map_cons, List.map_nil]); first | done | rfl | (simp only [List.length_drop, List.length_take]; rfl)) ?_
    with_reducible refine (laws_eqRun.calls k _ _ t808 _ _ t816 false _ ?side1 ?side2 ?side3 ?side4 A15.out).mono ?_
    (case side1 => repeat (first | exact (Kd.R_reads' HO810.out).2.2 | (with_reducible refine Kd.C_alloc ?_ _) | (with_reducible refine Kd.C_drewN ?_ _) | (with_reducible refine Kd.C_drew ?_)))
    (case side2 => exact (Kd.R_reads' HO810.out).2.1)
    (case side3 => repeat (first | exact (Kd.R_reads' HO818.out).2.2 | (with_reducible refine Kd.C_alloc ?_ _) | (with_reducible refine Kd.C_drewN ?_ _) | (with_reducible refine Kd.C_drew ?_)))
    (case side4 => exact (Kd.R_reads' HO818.out).2.1)
    rintro e w87 ⟨rfl, hb⟩
    refine ⟨_, rfl, ?_⟩
    have n0_ := Aside0.mk (Kd.R_below (lf HO804) hb)
    have n1_ := Aside0.mk (Kd.R_below (lf HO807) hb)
    have n2_ := Aside0.mk (Kd.R_below (lf HO810) hb)
    have n3_ := Aside0.mk (Kd.R_below (lf HO814) hb)
    have n4_ := Aside0.mk (Kd.R_below (lf HO818) hb)
    have n5_ := Aside0.mk (blk_below (g := gb800) (o := .cells #[.slice A0_0 l0_0.length c0_0] 61 (0, 0)) (lb BK800) hb)
    have n6_ := Aside0.mk (blk_below (g := gb811) (o := .cells #[.slice Ao78 t808.length co78] 66 (0, 0)) (lb BK811) hb)
    have n7_ := Aside0.mk (below_step bw hb)
    clear HO804
    clear HO807
    clear HO810
    clear HO814
    clear HO818
    clear BK800
    clear BK811
    clear HB
    have HO804 := n0_
    have HO807 := n1_
    have HO810 := n2_
    have HO814 := n3_
    have HO818 := n4_
    have BK800 := n5_
    have BK811 := n6_
    have HB := n7_
    clear n0_ n1_ n2_ n3_ n4_ n5_ n6_ n7_
    (try clear hb)
    (try clear hb2)
    (try clear hk)
    (try clear hi)
    refine hK.out _ _ ⟨(blk_cell BK811.out 0).trans rfl, (blk_cell BK800.out 0).trans rfl⟩ (fun hHeld => ?_)
    clear hK K
    refine norm_ (a' := ?_) ?_ ?_
    rotate_left
    ·show Act.put _ (some 34) _ = _
     simp only [Act.put, List.setIfInBounds_toArray, List.set_cons_zero, List.set_cons_succ, i64_w, i32_w]
     rfl
    refine pure_ (i := 4) (N := some 35) (v := ?_) (a' := ?_) #[true, true, true, true, true] rfl rfl (by kernel_rfl) (fun _ _ _ h => h) (Or.inl ⟨by rfl, ?_⟩) ?_ ?_
    rotate_left
    ·intro w'
     go_simp
     with_reducible rfl
    rotate_left
    ·simp only [Act.put, List.setIfInBounds_toArray, List.set_cons_zero, List.set_cons_succ, i64_w, i32_w]
     rfl
    refine done_ (by kernel_rfl) ?_
    try go_wp2
    go_ret
    exact ⟨by first | rfl | (simp [errW_none, errW_some] <;> rfl) | (simp [*, errW_none, errW_some] <;> rfl), bw⟩
  ·replace c13 := Bool.eq_false_iff.mpr c13
   subst c13
   have H1 : (some false) = some r := by rw [if_neg (show ¬ (false = true) by decide)] at H; exact H
   clear H
   have H := H1
   clear H1
   obtain rfl := Option.some.inj H
   go_enter Try.func14, Try.ntmps14
   go_wp2_with (first | ((with_reducible refine gate_dst (N := 2) rfl ?_); refine box_event ?hg (N := 2) ?hd (cs := #[.slice A0_0 l0_0.length c0_0]) (t := 61) ?hr ?_; (case hd => rfl); (case hg => rfl); (case hr => first | (go_simp; done) | (go_simp; rfl)); intro gb800 hg w88 hbox hb; have n0_ := Aside0.mk (below_step bw hb); have n1_ := Aside0.mk (hbox); have n2_ := Aside0.mk ((by rw [hg]; exact (below_size bw) : w.heap.size ≤ gb800)); have n3_ := Aside0.mk ((by rw [hg]; exact (below_size bw) : w.heap.size ≤ gb800)); clear HB; have HB := n0_; have BK800 := n1_; have GW800 := n2_; have GE800 := n3_; clear n0_ n1_ n2_ n3_; clear hb hbox hg; have hcz89_0 : w88.cell? ⟨gb800, 0, none⟩ = some (.slice A0_0 l0_0.length c0_0) := (blk_cell BK800.out 0).trans rfl; have hfz89_0 := blk_frozen BK800.out 0) | ((with_reducible refine at_fn (f := 39) rfl ?_); refine goesL_ (some 15) rfl rfl Try.func39 (by kernel_rfl) rfl #[.agg #[.slice A0_0 l0_0.length c0_0], .int .i64 1048576] rfl (by (try simp only [List.map_toArray, List.map_cons, List.map_nil]); first | done | rfl | (simp only [List.length_drop, List.length_take]; rfl)) ?_; (with_reducible refine (laws_szRun.calls k _ _ l0_0 1048576 t801 _ ?side1 ?side2 A3.out).mono ?_); (case side1 => repeat (first | exact (Kd.C_below HR0_0.out HB.out) | (with_reducible refine Kd.C_alloc ?_ _) | (with_reducible refine Kd.C_drewN ?_ _) | (with_reducible refine Kd.C_drew ?_))); (case side2 => exact HC0_0.out); rintro e w90 ⟨rfl, hb⟩; refine ⟨_, rfl, ?_⟩; have n0_ := Aside0.mk (blk_below (g := gb800) (o := .cells #[.slice A0_0 l0_0.length c0_0] 61 (0, 0)) (lb BK800) hb); have n1_ := Aside0.mk (below_step bw hb); clear BK800; clear HB; have BK800 := n0_; have HB := n1_; clear n0_ n1_; (try clear hb); (try clear hb2); (try clear hk); (try clear hi); have hcz91_0 : w90.cell? ⟨gb800, 0, none⟩ = some (.slice A0_0 l0_0.length c0_0) := (blk_cell BK800.out 0).trans rfl; have hfz91_0 := blk_frozen BK800.out 0) | ((with_reducible refine at_fn (f := 41) rfl ?_); refine goesL_ (some 19) rfl rfl Try.func41 (by kernel_rfl) rfl #[.agg #[.slice A0_0 l0_0.length c0_0]] rfl (by (try simp only [List.map_toArray, List.map_cons, List.map_nil]); first | done | rfl | (simp only [List.length_drop, List.length_take]; rfl)) ?_; (with_reducible refine (laws_toRun.calls k _ _ l0_0 t802 _ ?side1 ?side2 A8.out).mono ?_); (case side1 => repeat (first | exact (Kd.C_below HR0_0.out HB.out) | (with_reducible refine Kd.C_alloc ?_ _) | (with_reducible refine Kd.C_drewN ?_ _) | (with_reducible refine Kd.C_drew ?_))); (case side2 => exact HC0_0.out); rintro e w92 ⟨v803, rfl, ho0, hb⟩; refine ⟨_, rfl, ?_⟩; have n0_ := Aside0.mk (Kd.R_lower ho0 (below_size bw)); have n1_ := Aside0.mk (blk_below (g := gb800) (o := .cells #[.slice A0_0 l0_0.length c0_0] 61 (0, 0)) (lb BK800) hb); have n2_ := Aside0.mk (below_step bw hb); clear BK800; clear HB; have HO804 := n0_; have BK800 := n1_; have HB := n2_; clear n0_ n1_ n2_; (try clear hb); (try clear hb2); (try clear hk); (try clear hi); (try clear ho0); obtain ⟨Ao93, co93, eo93⟩ := Kd.R_slice HO804.out; subst eo93) | ((with_reducible refine at_fn (f := 54) rfl ?_); refine goesL_ (some 21) rfl rfl Try.func54 (by kernel_rfl) rfl #[.agg #[.slice Ao93 t802.length co93], .int .i64 a1] rfl (by (try simp only [List.map_toArray, List.map_cons, List.map_nil]); first | done | rfl | (simp only [List.length_drop, List.length_take]; rfl)) ?_; (with_reducible refine (spec_EncodeRun.calls k (fun k_ => some k_ = (.slice Ao93 t802.length co93 : Value).ownBlock) _ _ t802 a1 t805 _ ?side1 A9.out).mono ?_); (case side1 => exact Kd.R_V (Kd.R_tight rfl (Kd.R_types (HO804.out) BK800.out (by decide)))); rintro e w94 ⟨v806, rfl, ho0, hb⟩; refine ⟨_, rfl, ?_⟩; have n0_ := Aside0.mk (Kd.R_below (lf HO804) hb); have n1_ := Aside0.mk (Kd.R_lower (Kd.R_mono (ok' := fun k_ => True) ho0 (fun _ hk_ => trivial)) (below_size bw)); have n2_ := Aside0.mk (blk_below (g := gb800) (o := .cells #[.slice A0_0 l0_0.length c0_0] 61 (0, 0)) (lb BK800) hb); have n3_ := Aside0.mk (below_step bw hb); clear HO804; clear BK800; clear HB; have HO804 := n0_; have HO807 := n1_; have BK800 := n2_; have HB := n3_; clear n0_ n1_ n2_ n3_; (try clear hb); (try clear hb2); (try clear hk); (try clear hi); (try clear ho0); have hcz95_0 : w94.cell? ⟨gb800, 0, none⟩ = some (.slice A0_0 l0_0.length c0_0) := (blk_cell BK800.out 0).trans rfl; have hfz95_0 := blk_frozen BK800.out 0) | ((with_reducible refine at_fn (f := 41) rfl ?_); refine goesL_ (some 23) rfl rfl Try.func41 (by kernel_rfl) rfl #[.agg #[.slice A0_0 l0_0.length c0_0]] rfl (by (try simp only [List.map_toArray, List.map_cons, List.map_nil]); first | done | rfl | (simp only [List.length_drop, List.length_take]; rfl)) ?_; (with_reducible refine (laws_toRun.calls k _ _ l0_0 t808 _ ?side1 ?side2 A10.out).mono ?_); (case side1 => repeat (first | exact (Kd.C_below HR0_0.out HB.out) | (with_reducible refine Kd.C_alloc ?_ _) | (with_reducible refine Kd.C_drewN ?_ _) | (with_reducible refine Kd.C_drew ?_))); (case side2 => exact HC0_0.out); rintro e w96 ⟨v809, rfl, ho0, hb⟩; refine ⟨_, rfl, ?_⟩; have n0_ := Aside0.mk (Kd.R_elder' (lf HO804) (Kd.R_base ho0) hb); have n1_ := Aside0.mk (Kd.R_below (lf HO807) hb); have n2_ := Aside0.mk (Kd.R_lower (Kd.R_new' ho0 (Kd.R_lt (lf HO804))) (below_size bw)); have n3_ := Aside0.mk (blk_below (g := gb800) (o := .cells #[.slice A0_0 l0_0.length c0_0] 61 (0, 0)) (lb BK800) hb); have n4_ := Aside0.mk (below_step bw hb); clear HO804; clear HO807; clear BK800; clear HB; have HO804 := n0_; have HO807 := n1_; have HO810 := n2_; have BK800 := n3_; have HB := n4_; clear n0_ n1_ n2_ n3_ n4_; (try clear hb); (try clear hb2); (try clear hk); (try clear hi); (try clear ho0)) | ((with_reducible refine gate_dst (N := 7) rfl ?_); refine box_event ?hg (N := 7) ?hd (cs := #[.slice none 0 0]) (t := 66) ?hr ?_; (case hd => rfl); (case hg => rfl); (case hr => first | (go_simp; done) | (go_simp; rfl)); intro gb811 hg w97 hbox hb; have n0_ := Aside0.mk (Kd.R_below (lf HO804) hb); have n1_ := Aside0.mk (Kd.R_below (lf HO807) hb); have n2_ := Aside0.mk (Kd.R_below (lf HO810) hb); have n3_ := Aside0.mk (blk_below (g := gb800) (o := .cells #[.slice A0_0 l0_0.length c0_0] 61 (0, 0)) (lb BK800) hb); have n4_ := Aside0.mk (below_step bw hb); have n5_ := Aside0.mk (hbox); have n6_ := Aside0.mk ((by rw [hg]; exact (below_size bw) : w.heap.size ≤ gb811)); have n7_ := Aside0.mk ((by rw [hg]; exact (below_size bw) : w.heap.size ≤ gb811)); have n8_ := Aside0.mk ((by rw [hg]; exact Nat.ne_of_lt (blk_lt (g := gb800) (o := .cells #[.slice A0_0 l0_0.length c0_0] 61 (0, 0)) (lb BK800)) : gb800 ≠ gb811)); have n9_ := Aside0.mk ((by rw [hg]; exact Nat.ne_of_gt (blk_lt (g := gb800) (o := .cells #[.slice A0_0 l0_0.length c0_0] 61 (0, 0)) (lb BK800)) : gb811 ≠ gb800)); clear HO804; clear HO807; clear HO810; clear BK800; clear HB; have HO804 := n0_; have HO807 := n1_; have HO810 := n2_; have BK800 := n3_; have HB := n4_; have BK811 := n5_; have GW811 := n6_; have GE811 := n7_; have NB800_811 := n8_; have NB811_800 := n9_; clear n0_ n1_ n2_ n3_ n4_ n5_ n6_ n7_ n8_ n9_; clear hb hbox hg; obtain ⟨Ao98, co98, eo98⟩ := Kd.R_slice HO810.out; subst eo98; have hnb99 := NB811_800.out; have hnc99 := NB800_811.out; have hcz100_0 : w97.cell? ⟨gb811, 0, none⟩ = some (.slice none 0 0) := (blk_cell BK811.out 0).trans rfl; have hfz100_0 := blk_frozen BK811.out 0) | ((with_reducible refine at_fn (f := 55) rfl ?_); refine goesL_ (some 26) rfl rfl Try.func55 (by kernel_rfl) rfl #[.agg #[.slice Ao98 t808.length co98], .int .i64 a1] rfl (by (try simp only [List.map_toArray, List.map_cons, List.map_nil]); first | done | rfl | (simp only [List.length_drop, List.length_take]; rfl)) ?_; (with_reducible refine (impl_EncodeRun.calls k _ _ t808 a1 t812 _ ?side1 ?side2 A11.out).mono ?_); (case side1 => refine (Kd.R_reads' (e := 35) (base := w.heap.size) (ok := fun k_ => (True ∧ some k_ ≠ (.slice Ao93 t802.length co93 : Value).ownBlock)) (n := t808.length) (c := co98) ?_).2.2; exact (by (with_reducible repeat (first | apply Kd.R_alloc | apply Kd.R_drewN | apply Kd.R_drew)); exact (Kd.R_mono (Kd.R_far (p := ⟨gb811, 0, none⟩) (Kd.R_types HO810.out BK811.out (by decide)) (fun _ hk => hk.2) (.slice Ao98 t808.length co98)) (fun _ h_ => h_.1)))); (case side2 => exact (Kd.R_reads' HO810.out).2.1); rintro e w101 ⟨v813, rfl, ho0, hb⟩; refine ⟨_, rfl, ?_⟩; have n0_ := Aside0.mk (Kd.R_below (by (with_reducible repeat (first | apply Kd.R_alloc | apply Kd.R_drewN | apply Kd.R_drew)); exact (Kd.R_mono (Kd.R_far (p := ⟨gb811, 0, none⟩) (Kd.R_types HO804.out BK811.out (by decide)) (fun _ hk => hk.2) (.slice Ao98 t808.length co98)) (fun _ h_ => h_.1))) hb); have n1_ := Aside0.mk (Kd.R_elder' (by (with_reducible repeat (first | apply Kd.R_alloc | apply Kd.R_drewN | apply Kd.R_drew)); exact (Kd.R_mono (Kd.R_far (p := ⟨gb811, 0, none⟩) (Kd.R_types HO807.out BK811.out (by decide)) (fun _ hk => hk.2) (.slice Ao98 t808.length co98)) (fun _ h_ => h_.1))) (Kd.R_base ho0) hb); have n2_ := Aside0.mk (Kd.R_below (by (with_reducible repeat (first | apply Kd.R_alloc | apply Kd.R_drewN | apply Kd.R_drew)); exact (Kd.R_mono (Kd.R_far (p := ⟨gb811, 0, none⟩) (Kd.R_types HO810.out BK811.out (by decide)) (fun _ hk => hk.2) (.slice Ao98 t808.length co98)) (fun _ h_ => h_.1))) hb); have n3_ := Aside0.mk (Kd.R_lower (Kd.R_new' ho0 (Kd.R_lt (by (with_reducible repeat (first | apply Kd.R_alloc | apply Kd.R_drewN | apply Kd.R_drew)); exact (Kd.R_mono (Kd.R_far (p := ⟨gb811, 0, none⟩) (Kd.R_types HO807.out BK811.out (by decide)) (fun _ hk => hk.2) (.slice Ao98 t808.length co98)) (fun _ h_ => h_.1))))) (below_size bw)); have n4_ := Aside0.mk (blk_below (g := gb800) (o := .cells #[.slice A0_0 l0_0.length c0_0] 61 (0, 0)) (by (with_reducible repeat (first | refine blk_drewN ?_ _ | refine blk_drew ?_ | refine blk_alloc ?_ _)); refine blk_far ?_ NB800_811.out _; (with_reducible repeat (first | refine blk_drewN ?_ _ | refine blk_drew ?_ | refine blk_alloc ?_ _)); exact BK800.out) hb); have n5_ := Aside0.mk (blk_below (g := gb811) (o := .cells #[.slice Ao98 t808.length co98] 66 (0, 0)) (by (with_reducible repeat (first | refine blk_drewN ?_ _ | refine blk_drew ?_ | refine blk_alloc ?_ _)); refine blk_put (cs := #[.slice none 0 0]) ?_ 0 _ rfl; (with_reducible repeat (first | refine blk_drewN ?_ _ | refine blk_drew ?_ | refine blk_alloc ?_ _)); exact BK811.out) hb); have n6_ := Aside0.mk (below_step bw hb); clear HO804; clear HO807; clear HO810; clear BK800; clear BK811; clear HB; have HO804 := n0_; have HO807 := n1_; have HO810 := n2_; have HO814 := n3_; have BK800 := n4_; have BK811 := n5_; have HB := n6_; clear n0_ n1_ n2_ n3_ n4_ n5_ n6_; (try clear hb); (try clear hb2); (try clear hk); (try clear hi); (try clear ho0); obtain ⟨Ao102, co102, eo102⟩ := Kd.R_slice HO814.out; subst eo102; obtain ⟨Ao103, co103, eo103⟩ := Kd.R_slice HO807.out; subst eo103) | ((with_reducible refine at_fn (f := 26) rfl ?_); refine goesL_ (some 29) rfl rfl Try.func26 (by kernel_rfl) rfl #[.slice Ao102 t812.length co102, .slice Ao103 t805.length co103] rfl (by (try simp only [List.map_toArray, List.map_cons, List.map_nil]); first | done | rfl | (simp only [List.length_drop, List.length_take]; rfl)) ?_; (with_reducible refine (laws_eqByteS.calls k _ _ t812 _ _ t805 false _ ?side1 ?side2 ?side3 ?side4 A12.out).mono ?_); (case side1 => repeat (first | exact (Kd.R_reads' HO814.out).2.2 | (with_reducible refine Kd.C_alloc ?_ _) | (with_reducible refine Kd.C_drewN ?_ _) | (with_reducible refine Kd.C_drew ?_))); (case side2 => exact (Kd.R_reads' HO814.out).2.1); (case side3 => repeat (first | exact (Kd.R_reads' HO807.out).2.2 | (with_reducible refine Kd.C_alloc ?_ _) | (with_reducible refine Kd.C_drewN ?_ _) | (with_reducible refine Kd.C_drew ?_))); (case side4 => exact (Kd.R_reads' HO807.out).2.1); rintro e w' ⟨rfl, ⟨nd, rfl⟩⟩; refine ⟨_, rfl, ?_⟩))
   go_ret
   exact ⟨by first | rfl | (simp [errW_none, errW_some] <;> rfl) | (simp [*, errW_none, errW_some] <;> rfl), bw⟩

end Go.Proofs.Ytdknjbadnbangaa.Q

namespace Go.Proofs.Ytdknjbadnbangaa.Q
open Go.RowKit Go.Proofs.YtdknjbadnbangaaW.PrintWords Go.Proofs.YtdknjbadnbangaaW.PrintLast
set_option linter.unusedVariables false

/-- The law over lists and numbers. -/
def laws_FnExactEncodeRun.Pure : Prop := ∀ (l0_0 : List (S32)) (a1 : Int), (l0_0.length ≤ maxLen ∧ ∀ x_ ∈ l0_0, ok32 x_) → (Lit.int .i64 a1).wf = true → ∃ k, laws_FnExactEncodeRun.f k l0_0 a1 = some true
end Go.Proofs.Ytdknjbadnbangaa.Q

namespace Go.Proofs.Ytdknjbadnbangaa.Q
open Go.RowKit Go.Proofs.YtdknjbadnbangaaW.PrintWords Go.Proofs.YtdknjbadnbangaaW.PrintLast
set_option linter.unusedVariables false
set_option linter.unusedSimpArgs false
theorem strcmp_is (a b : ByteArray) : strings_Compare.f a b = some (scmp a b) := rfl
theorem or_is (n : Nat) (a b c d e : Int) : cmp_Or_int.f (n + 6) [a, b, c, d, e] = some (fst0 a (fst0 b (fst0 c (fst0 d e)))) := by
  unfold cmp_Or_int.f
  have w : ∀ i : Int, 0 ≤ i → i < 10 → wrap64 (i + 1) = i + 1 := fun i h0 h1 => by unfold wrap64; omega
  have l : (([a, b, c, d, e] : List Int).length : Int) = 5 := rfl
  rw [l]
  simp only [cmp_Or_int.l0, rd, l]
  rw [w 0 (by omega) (by omega)]; simp only [Int.zero_add]; rw [w 1 (by omega) (by omega), w (1 + 1) (by omega) (by omega), w (1 + 1 + 1) (by omega) (by omega), w (1 + 1 + 1 + 1) (by omega) (by omega)]
  simp only [fst0]
  by_cases ha : a = 0 <;> by_cases hb : b = 0 <;> by_cases hc : c = 0 <;> by_cases hd : d = 0 <;> by_cases he : e = 0 <;> simp [ha, hb, hc, hd, he]
theorem cmpint_is (a b : Int) : cmp_Compare_int.f a b = some (if a < b then -1 else if a > b then 1 else 0) := by
  unfold cmp_Compare_int.f cmp_isNaN_int.f
  simp only [Option.bind_some, bne_self_eq_false, Bool.false_eq_true, if_false]
  repeat' (first | rfl | split)
theorem cmpu64_is (a b : Int) : cmp_Compare_uint64.f a b = some (if a < b then -1 else if a > b then 1 else 0) := by
  unfold cmp_Compare_uint64.f cmp_isNaN_uint64.f
  simp only [Option.bind_some, bne_self_eq_false, Bool.false_eq_true, if_false]
  repeat' (first | rfl | split)
theorem impl_cmp_is (n : Nat) (r f q : ByteArray) (t k : Int) (v r' f' q' : ByteArray) (t' k' : Int) (v' : ByteArray) :
    impl_Entry_compare.f (n + 6) r f q t k v r' f' q' t' k' v' = some (cmpK r f q t k r' f' q' t' k') := by
  unfold impl_Entry_compare.f impl_Entry_marks.f
  have hm : ∀ x : Int, (if x = 2 then some 0 else some 1 : Option Int) = some (if x = 2 then 0 else 1) := fun x => by split <;> rfl
  simp only [strcmp_is, hm, cmpint_is, cmpu64_is, Option.bind_some, or_is]
  congr 1
  unfold cmpK
  have e1 : (if (if k = 2 then (0 : Int) else 1) < (if k' = 2 then 0 else 1) then (-1 : Int) else if (if k = 2 then (0 : Int) else 1) > (if k' = 2 then 0 else 1) then 1 else 0) = kcmp k k' := by
    unfold kcmp
    by_cases h1 : k = 2 <;> by_cases h2 : k' = 2 <;> simp [h1, h2]
  rw [e1]
  have e2 : (if t' < t then (-1 : Int) else if t' > t then 1 else 0) = tcmp t t' := by
    unfold tcmp
    rfl
  rw [e2]
theorem impl_cmp_ge (m : Nat) (hm : 6 ≤ m) (r f q : ByteArray) (t k : Int) (v r' f' q' : ByteArray) (t' k' : Int) (v' : ByteArray) :
    impl_Entry_compare.f m r f q t k v r' f' q' t' k' v' = some (cmpK r f q t k r' f' q' t' k') := by
  obtain ⟨n, rfl⟩ : ∃ n, m = n + 6 := ⟨m - 6, by omega⟩
  exact impl_cmp_is ..
end Go.Proofs.Ytdknjbadnbangaa.Q

namespace Go.Proofs.Ytdknjbadnbangaa.Q
open Go.RowKit Go.Proofs.YtdknjbadnbangaaW.PrintWords Go.Proofs.YtdknjbadnbangaaW.PrintLast
set_option linter.unusedVariables false
set_option linter.unusedSimpArgs false
abbrev LE := S32
abbrev IE := S35
theorem szEntry_is (x : LE) (n : Int) (h0 : 0 ≤ n) (h1 : n ≤ 1048576) (hx : ok32 x) :
    ∃ t, laws_szEntry.f x.f0 x.f1 x.f2 x.f3 x.f4 x.f5 n = some t ∧ (t < 0 ∨ (0 ≤ t ∧ t ≤ n)) := by
  obtain ⟨s0, s1, s2, _, _, s5⟩ := hx
  simp only [maxLen] at s0 s1 s2 s5
  unfold laws_szEntry.f
  rw [wrap_id (n - (x.f0.size : Int)) (by omega) (by omega)]
  split
  · exact ⟨_, rfl, .inl (by omega)⟩
  rw [wrap_id (n - (x.f0.size : Int) - (x.f1.size : Int)) (by omega) (by omega)]
  split
  · exact ⟨_, rfl, .inl (by omega)⟩
  rw [wrap_id (n - (x.f0.size : Int) - (x.f1.size : Int) - (x.f2.size : Int)) (by omega) (by omega)]
  split
  · exact ⟨_, rfl, .inl (by omega)⟩
  rw [wrap_id (n - (x.f0.size : Int) - (x.f1.size : Int) - (x.f2.size : Int) - (x.f5.size : Int)) (by omega) (by omega)]
  split
  · exact ⟨_, rfl, .inl (by omega)⟩
  · exact ⟨_, rfl, .inr ⟨by omega, by omega⟩⟩
theorem szEntryS_loop (xs : List LE) (hb : xs.length < 4611686018427387904) : ∀ (rest pre : List LE) (n : Int), xs = pre ++ rest → (∀ x ∈ rest, ok32 x) → 0 ≤ n → n ≤ 1048576 →
    ∃ t, Ev (fun k => laws_szEntryS.l0 k xs n (pre.length : Int)) t ∧ (t < 0 ∨ (0 ≤ t ∧ t ≤ n)) := by
  intro rest
  induction rest with
  | nil =>
    intro pre n e _ h0 h1
    refine ⟨n, Ev.shift 1 fun k => ?_, .inr ⟨h0, Int.le_refl _⟩⟩
    simp only [laws_szEntryS.l0]; rw [if_neg (by rw [e]; simp)]
  | cons x rest ih =>
    intro pre n e hok h0 h1
    have hlt : pre.length < xs.length := by rw [e]; exact len_cut _ _ _
    have hr : rd_T32 xs (pre.length : Int) = x := by unfold rd_T32; rw [Int.toNat_natCast, e, getD_cut]
    obtain ⟨t, ht, h2⟩ := szEntry_is x n h0 h1 (hok x List.mem_cons_self)
    rcases h2 with h2 | ⟨h2, h3⟩
    · refine ⟨-1, Ev.shift 1 fun k => ?_, .inl (by omega)⟩
      simp only [laws_szEntryS.l0]; rw [if_pos (by omega), if_pos (by omega), hr, ht]; simp only [Option.bind_some]; rw [if_pos h2]
    · obtain ⟨u, hu, h4⟩ := ih (pre ++ [x]) t (by simp [e]) (fun y hy => hok y (List.mem_cons_of_mem _ hy)) h2 (by omega)
      refine ⟨u, Ev.round (fun k => ?_) hu, by omega⟩
      simp only [laws_szEntryS.l0]; rw [if_pos (by omega), if_pos (by omega), hr, ht]; simp only [Option.bind_some]; rw [if_neg (by omega), wrap_nat _ (by omega)]; simp
theorem szEntryS_is (xs : List LE) (n : Int) (hl : xs.length ≤ maxLen) (hok : ∀ x ∈ xs, ok32 x) (h0 : 0 ≤ n) (h1 : n ≤ 1048576) :
    ∃ t, Ev (fun k => laws_szEntryS.f k xs n) t ∧ (t < 0 ∨ (0 ≤ t ∧ t + xs.length ≤ n)) := by
  simp only [maxLen] at hl
  unfold laws_szEntryS.f
  rw [wrap_id _ (by omega) (by omega)]
  by_cases h : n - (xs.length : Int) < 0
  · exact ⟨-1, Ev.if_pos h (Ev.now _), .inl (by omega)⟩
  · obtain ⟨t, ht, h2⟩ := szEntryS_loop xs (by omega) xs [] (n - xs.length) rfl hok (by omega) (by omega)
    exact ⟨t, Ev.if_neg h ht, by omega⟩
def cvE (x : LE) : IE := ⟨x.f0, x.f1, x.f2, x.f3, x.f4, x.f5⟩
theorem toEntryS_loop (xs : List LE) (hb : xs.length < 4611686018427387904) : ∀ (rest pre : List LE), xs = pre ++ rest →
    Ev (fun k => laws_toEntryS.l0 k xs (pre.map cvE ++ List.replicate rest.length z35) (pre.length : Int)) (xs.map cvE) := by
  intro rest
  induction rest with
  | nil =>
    intro pre e
    refine Ev.shift 1 fun k => ?_
    simp only [laws_toEntryS.l0]; rw [if_neg (by rw [e]; simp), e]; simp
  | cons x rest ih =>
    intro pre e
    have hlt : pre.length < xs.length := by rw [e]; exact len_cut _ _ _
    have hr : rd_T32 xs (pre.length : Int) = x := by unfold rd_T32; rw [Int.toNat_natCast, e, getD_cut]
    have h := ih (pre ++ [x]) (by simp [e])
    refine Ev.round (fun k => ?_) h
    simp only [laws_toEntryS.l0]; rw [if_pos (by omega), if_pos (by omega), hr]; simp only [laws_toEntry.f, Option.bind_some]
    rw [if_pos (by simp; omega), wrap_nat _ (by omega), Int.toNat_natCast]
    have hs := set_fill (pre.map cvE) z35 (cvE x) rest.length
    rw [List.length_map] at hs
    rw [List.length_cons]
    have hs' : (pre.map cvE ++ List.replicate (rest.length + 1) z35).set pre.length ⟨x.f0, x.f1, x.f2, x.f3, x.f4, x.f5⟩ = _ := hs
    rw [hs']; simp
theorem toEntryS_is (xs : List LE) (hl : xs.length ≤ 1048576) : Ev (fun k => laws_toEntryS.f k xs) (xs.map cvE) := by
  have h := toEntryS_loop xs (by omega) xs [] rfl
  unfold laws_toEntryS.f
  simp only [Int.toNat_natCast]
  refine Ev.if_pos (by omega) (Ev.if_pos (by omega) ?_)
  simpa using h
theorem eqEntry_refl (x : IE) : laws_eqEntry.f x.f0 x.f1 x.f2 x.f3 x.f4 x.f5 x.f0 x.f1 x.f2 x.f3 x.f4 x.f5 = some true := by simp [laws_eqEntry.f]
theorem eqEntryS_loop (xs : List IE) (hb : xs.length < 4611686018427387904) : ∀ (rest pre : List IE), xs = pre ++ rest → Ev (fun k => laws_eqEntryS.l0 k xs xs (pre.length : Int)) true := by
  intro rest
  induction rest with
  | nil => intro pre e; exact Ev.shift 1 fun k => by simp only [laws_eqEntryS.l0]; rw [if_neg (by rw [e]; simp)]
  | cons x rest ih =>
    intro pre e
    have hlt : pre.length < xs.length := by rw [e]; exact len_cut _ _ _
    have h := ih (pre ++ [x]) (by simp [e])
    refine Ev.round (fun k => ?_) h
    simp only [laws_eqEntryS.l0]; rw [if_pos (by omega), if_pos (by omega), if_pos (by omega), eqEntry_refl]; simp only [Option.bind_some, if_true]; rw [wrap_nat _ (by omega)]; simp
theorem eqEntryS_refl (xs : List IE) (hb : xs.length < 4611686018427387904) : Ev (fun k => laws_eqEntryS.f k xs xs) true :=
  Ev.if_pos rfl (eqEntryS_loop xs hb xs [] rfl)
/-! a valid entry -/
def vent (e : IE) : Bool := decide ((e.f0.size : Int) ≥ 1) && (decide ((e.f0.size : Int) ≤ 64) && (decide ((e.f1.size : Int) ≥ 1) && (decide ((e.f1.size : Int) ≤ 16) && (decide ((e.f2.size : Int) ≤ 64) && (decide ((e.f5.size : Int) ≤ 200) && (decide (e.f4 ≥ 0) && (decide (e.f4 ≤ 2) && (decide (e.f4 = 0) || e.f5.toList == []))))))))
theorem implValidEntry_is (e : IE) : impl_ValidEntry.f e.f0 e.f1 e.f2 e.f3 e.f4 e.f5 = some (vent e) := by
  have st : ∀ (c : Prop) [Decidable c] (a : Option Bool) (b : Bool), a = some b → (if c then a else some false) = some (decide c && b) := fun c _ a b h => by by_cases hc : c <;> simp [hc, h]
  unfold impl_ValidEntry.f vent
  refine st _ _ _ (st _ _ _ (st _ _ _ (st _ _ _ (st _ _ _ (st _ _ _ (st _ _ _ (st _ _ _ ?_)))))))
  by_cases h : e.f4 = 0
  · rw [if_pos h]; simp [h]
  · rw [if_neg h]; simp [h]
theorem specValidEntry_is (e : IE) : spec_ValidEntry.f e.f0 e.f1 e.f2 e.f3 e.f4 e.f5 = some (vent e) := implValidEntry_is e
/-! a valid run -/
def cmpE (a b : IE) : Int := cmpK a.f0 a.f1 a.f2 a.f3 a.f4 b.f0 b.f1 b.f2 b.f3 b.f4
def sameCol (a b : IE) : Bool := a.f0.toList == b.f0.toList && (a.f1.toList == b.f1.toList && a.f2.toList == b.f2.toList)
def nextOk (p e : IE) : Bool := decide (cmpE p e = -1) && !(decide (p.f4 = 2) && decide (e.f4 = 2) && sameCol p e)
def vfrom : IE → List IE → Bool
  | _, [] => true
  | p, e :: es => vent e && nextOk p e && vfrom e es
def vall : List IE → Bool
  | [] => true
  | e :: es => vent e && vfrom e es
def vrun (xs : List IE) : Bool := decide (xs.length ≤ 10000) && vall xs
theorem cmpK_range (r f q : ByteArray) (t k : Int) (r' f' q' : ByteArray) (t' k' : Int) : cmpK r f q t k r' f' q' t' k' = -1 ∨ cmpK r f q t k r' f' q' t' k' = 0 ∨ cmpK r f q t k r' f' q' t' k' = 1 := by
  have hs : ∀ a b, scmp a b = -1 ∨ scmp a b = 0 ∨ scmp a b = 1 := fun a b => by unfold scmp; repeat' (first | split | simp)
  have hk : ∀ a b, kcmp a b = -1 ∨ kcmp a b = 0 ∨ kcmp a b = 1 := fun a b => by unfold kcmp; repeat' (first | split | simp)
  have ht : ∀ a b, tcmp a b = -1 ∨ tcmp a b = 0 ∨ tcmp a b = 1 := fun a b => by unfold tcmp; repeat' (first | split | simp)
  have hf : ∀ a b : Int, (a = -1 ∨ a = 0 ∨ a = 1) → (b = -1 ∨ b = 0 ∨ b = 1) → (fst0 a b = -1 ∨ fst0 a b = 0 ∨ fst0 a b = 1) := fun a b h1 h2 => by unfold fst0; split <;> assumption
  exact hf _ _ (hs _ _) (hf _ _ (hs _ _) (hf _ _ (hs _ _) (hf _ _ (hk _ _) (ht _ _))))
theorem cmpE_range (a b : IE) : cmpE a b = -1 ∨ cmpE a b = 0 ∨ cmpE a b = 1 := cmpK_range ..
theorem sameColumn_is (a b : IE) : spec_l1SameColumn.f a.f0 a.f1 a.f2 a.f3 a.f4 a.f5 b.f0 b.f1 b.f2 b.f3 b.f4 b.f5 = some (sameCol a b) := by
  unfold spec_l1SameColumn.f sameCol
  by_cases h1 : a.f0.toList = b.f0.toList <;> by_cases h2 : a.f1.toList = b.f1.toList <;> simp [h1, h2]
/-- One entry behind another, in the reference's loop. -/
theorem specRun_loop (xs : List IE) (hb : xs.length < 4611686018427387904) : ∀ (rest pre : List IE) (p : IE), xs = pre ++ p :: rest → Ev (fun k => spec_ValidRun.l0 k ((pre.length + 1 : Nat) : Int) xs) (vfrom p rest) := by
  intro rest
  induction rest with
  | nil => intro pre p e; exact Ev.shift 1 fun k => by simp only [spec_ValidRun.l0]; rw [if_neg (by rw [e]; simp)]; rfl
  | cons x rest ih =>
    intro pre p e
    have hlt : pre.length + 1 < xs.length := by rw [e]; simp
    have hr : rd_T35 xs ((pre.length + 1 : Nat) : Int) = x := by
      unfold rd_T35; rw [Int.toNat_natCast, e]; simp
    have hw : wrap64 (((pre.length + 1 : Nat) : Int) - 1) = (pre.length : Int) := by unfold wrap64; omega
    have hp : rd_T35 xs (pre.length : Int) = p := by unfold rd_T35; rw [Int.toNat_natCast, e, getD_cut]
    have h := ih (pre ++ [p]) x (by rw [e]; simp)
    rw [List.length_append, List.length_singleton] at h
    have key : ∀ m, 6 ≤ m → spec_ValidRun.l0 (m + 1 + 1) ((pre.length + 1 : Nat) : Int) xs = if vent x = true then (if cmpE p x = -1 then (if p.f4 = 2 ∧ x.f4 = 2 ∧ sameCol p x = true then some false else spec_ValidRun.l0 m ((pre.length + 1 + 1 : Nat) : Int) xs) else some false) else some false := by
      intro m hm
      have hj : ∀ b, spec_ValidRun.j1 (m + 1) ((pre.length + 1 : Nat) : Int) b xs = if b = true then some false else spec_ValidRun.l0 m ((pre.length + 1 + 1 : Nat) : Int) xs := fun b => by rw [spec_ValidRun.j1, wrap_nat _ (show pre.length + 1 < 4611686018427387904 by omega)]
      rw [spec_ValidRun.l0]
      rw [if_pos (by omega), if_pos (by omega), hr, specValidEntry_is]; simp only [Option.bind_some]
      by_cases hv : vent x = true
      · rw [if_pos hv, if_pos hv, if_pos (by omega), hw, if_pos (by omega), if_pos (by omega), hp, spec_cmp_ge (m + 1) (by omega)]; simp only [Option.bind_some]
        show (if cmpE p x = -1 then _ else _) = _
        by_cases hc : cmpE p x = -1
        · rw [if_pos hc, if_pos hc, sameColumn_is]; simp only [Option.bind_some]
          by_cases h1 : p.f4 = 2 <;> by_cases h2 : x.f4 = 2 <;> by_cases h3 : sameCol p x = true <;> simp only [h1, h2, h3, hj, Option.bind_some, if_true, if_false, and_true, and_false, true_and, false_and, Bool.false_eq_true]
        · rw [if_neg hc, if_neg hc, hj, if_pos rfl]
      · rw [if_neg hv, if_neg hv]
    have hg : Ev (fun k => if vent x = true then (if cmpE p x = -1 then (if p.f4 = 2 ∧ x.f4 = 2 ∧ sameCol p x = true then some false else spec_ValidRun.l0 k ((pre.length + 1 + 1 : Nat) : Int) xs) else some false) else some false) (vfrom p (x :: rest)) := by
      unfold vfrom
      by_cases hv : vent x = true
      · refine Ev.if_pos hv ?_
        by_cases hc : cmpE p x = -1
        · refine Ev.if_pos hc ?_
          by_cases h3 : p.f4 = 2 ∧ x.f4 = 2 ∧ sameCol p x = true
          · refine Ev.if_pos h3 ?_
            have : (vent x && nextOk p x && vfrom x rest) = false := by simp [nextOk, h3.1, h3.2.1, h3.2.2]
            rw [this]; exact Ev.now _
          · refine Ev.if_neg h3 ?_
            have : (vent x && nextOk p x && vfrom x rest) = vfrom x rest := by
              have : nextOk p x = true := by
                simp only [nextOk, hc, decide_true, Bool.true_and, Bool.not_eq_true', Bool.and_eq_false_iff, decide_eq_false_iff_not]
                by_cases h1 : p.f4 = 2 <;> by_cases h2 : x.f4 = 2 <;> simp_all
              simp [hv, this]
            rw [this]; exact h
        · refine Ev.if_neg hc ?_
          have : (vent x && nextOk p x && vfrom x rest) = false := by simp [nextOk, hc]
          rw [this]; exact Ev.now _
      · refine Ev.if_neg hv ?_
        have : (vent x && nextOk p x && vfrom x rest) = false := by simp [hv]
        rw [this]; exact Ev.now _
    obtain ⟨K, hK⟩ := hg
    refine ⟨K + 8, fun k hk => ?_⟩
    obtain ⟨m, rfl⟩ : ∃ m, k = m + 1 + 1 := ⟨k - 2, by omega⟩
    exact (key m (by omega)).trans (hK m (by omega))
theorem specRun_is (xs : List IE) (hb : xs.length < 4611686018427387904) : Ev (fun k => spec_ValidRun.f k xs) (vrun xs) := by
  unfold spec_ValidRun.f vrun
  by_cases h : (xs.length : Int) > 10000
  · refine Ev.if_pos h ?_
    have : ¬ xs.length ≤ 10000 := by omega
    simp only [this, decide_false, Bool.false_and]; exact Ev.now _
  · refine Ev.if_neg h ?_
    have h' : xs.length ≤ 10000 := by omega
    simp only [h', decide_true, Bool.true_and]
    cases xs with
    | nil => exact Ev.shift 1 fun k => by simp only [spec_ValidRun.l0]; rfl
    | cons x rest =>
      have h2 := specRun_loop (x :: rest) hb rest [] x rfl
      have hr : rd_T35 (x :: rest) 0 = x := rfl
      by_cases hv : vent x = true
      · refine Ev.round (f := fun k => spec_ValidRun.l0 k (([] : List IE).length + 1 : Nat) (x :: rest)) (fun k => ?_) (by simpa [vall, hv] using h2)
        rw [spec_ValidRun.l0, if_pos (by rw [List.length_cons]; omega), if_pos (by omega), hr, specValidEntry_is]; simp only [Option.bind_some]; rw [if_pos hv, if_neg (by omega), show wrap64 (0 + 1) = ((([] : List IE).length + 1 : Nat) : Int) from by unfold wrap64; rfl]
      · refine Ev.shift 1 fun k => ?_
        rw [spec_ValidRun.l0, if_pos (by rw [List.length_cons]; omega), if_pos (by omega), hr, specValidEntry_is]; simp only [Option.bind_some]; rw [if_neg hv]; simp [vall, hv]
/-- The same in the program's. -/
theorem implRun_loop (xs : List IE) (hb : xs.length < 4611686018427387904) : ∀ (rest pre : List IE) (p : IE), xs = pre ++ p :: rest → Ev (fun k => impl_ValidRun.l0 k xs (xs.length : Int) ((pre.length + 1 : Nat) : Int) xs) (vfrom p rest) := by
  intro rest
  induction rest with
  | nil => intro pre p e; exact Ev.shift 1 fun k => by simp only [impl_ValidRun.l0]; rw [if_neg (by rw [e]; simp)]; rfl
  | cons x rest ih =>
    intro pre p e
    have hlt : pre.length + 1 < xs.length := by rw [e]; simp
    have hr : rd_T35 xs ((pre.length + 1 : Nat) : Int) = x := by
      unfold rd_T35; rw [Int.toNat_natCast, e]; simp
    have hw : wrap64 (((pre.length + 1 : Nat) : Int) - 1) = (pre.length : Int) := by unfold wrap64; omega
    have hp : rd_T35 xs (pre.length : Int) = p := by unfold rd_T35; rw [Int.toNat_natCast, e, getD_cut]
    have h := ih (pre ++ [p]) x (by rw [e]; simp)
    rw [List.length_append, List.length_singleton] at h
    have key : ∀ m, 6 ≤ m → impl_ValidRun.l0 (m + 1 + 1) xs (xs.length : Int) ((pre.length + 1 : Nat) : Int) xs = if vent x = true then (if cmpE p x = -1 then (if p.f4 = 2 ∧ x.f4 = 2 ∧ sameCol p x = true then some false else impl_ValidRun.l0 m xs (xs.length : Int) ((pre.length + 1 + 1 : Nat) : Int) xs) else some false) else some false := by
      intro m hm
      have hj : ∀ b, impl_ValidRun.j1 (m + 1) xs (xs.length : Int) ((pre.length + 1 : Nat) : Int) b xs = if b = true then some false else impl_ValidRun.l0 m xs (xs.length : Int) ((pre.length + 1 + 1 : Nat) : Int) xs := fun b => by rw [impl_ValidRun.j1, wrap_nat _ (show pre.length + 1 < 4611686018427387904 by omega)]
      rw [impl_ValidRun.l0]
      rw [if_pos (by omega), if_pos (by omega), if_pos (by omega), hr, implValidEntry_is]; simp only [Option.bind_some]
      by_cases hv : vent x = true
      · rw [if_pos hv, if_pos hv, if_neg (by omega), hw, if_pos (by omega), if_pos (by omega), hp, impl_cmp_ge (m + 1) (by omega)]; simp only [Option.bind_some, impl_Entry_column.f]
        show (if cmpE p x ≥ 0 then _ else _) = _
        by_cases hc : cmpE p x = -1
        · have hs : (p.f0.toList == x.f0.toList && (p.f1.toList == x.f1.toList && p.f2.toList == x.f2.toList)) = sameCol p x := rfl
          rw [if_neg (by omega), if_pos hc, hs]
          by_cases h1 : p.f4 = 2 <;> by_cases h2 : x.f4 = 2 <;> by_cases h3 : sameCol p x = true <;> simp only [h1, h2, h3, hj, if_true, if_false, and_true, and_false, true_and, false_and, Bool.false_eq_true]
        · rw [if_pos (by rcases cmpE_range p x with h | h | h <;> omega), if_neg hc, hj, if_pos rfl]
      · rw [if_neg hv, if_neg hv]
    have hg : Ev (fun k => if vent x = true then (if cmpE p x = -1 then (if p.f4 = 2 ∧ x.f4 = 2 ∧ sameCol p x = true then some false else impl_ValidRun.l0 k xs (xs.length : Int) ((pre.length + 1 + 1 : Nat) : Int) xs) else some false) else some false) (vfrom p (x :: rest)) := by
      unfold vfrom
      by_cases hv : vent x = true
      · refine Ev.if_pos hv ?_
        by_cases hc : cmpE p x = -1
        · refine Ev.if_pos hc ?_
          by_cases h3 : p.f4 = 2 ∧ x.f4 = 2 ∧ sameCol p x = true
          · refine Ev.if_pos h3 ?_
            have : (vent x && nextOk p x && vfrom x rest) = false := by simp [nextOk, h3.1, h3.2.1, h3.2.2]
            rw [this]; exact Ev.now _
          · refine Ev.if_neg h3 ?_
            have : (vent x && nextOk p x && vfrom x rest) = vfrom x rest := by
              have : nextOk p x = true := by
                simp only [nextOk, hc, decide_true, Bool.true_and, Bool.not_eq_true', Bool.and_eq_false_iff, decide_eq_false_iff_not]
                by_cases h1 : p.f4 = 2 <;> by_cases h2 : x.f4 = 2 <;> simp_all
              simp [hv, this]
            rw [this]; exact h
        · refine Ev.if_neg hc ?_
          have : (vent x && nextOk p x && vfrom x rest) = false := by simp [nextOk, hc]
          rw [this]; exact Ev.now _
      · refine Ev.if_neg hv ?_
        have : (vent x && nextOk p x && vfrom x rest) = false := by simp [hv]
        rw [this]; exact Ev.now _
    obtain ⟨K, hK⟩ := hg
    refine ⟨K + 8, fun k hk => ?_⟩
    obtain ⟨m, rfl⟩ : ∃ m, k = m + 1 + 1 := ⟨k - 2, by omega⟩
    exact (key m (by omega)).trans (hK m (by omega))
theorem implRun_is (xs : List IE) (hb : xs.length < 4611686018427387904) : Ev (fun k => impl_ValidRun.f k xs) (vrun xs) := by
  unfold impl_ValidRun.f vrun
  by_cases h : (xs.length : Int) > 10000
  · refine Ev.if_pos h ?_
    have : ¬ xs.length ≤ 10000 := by omega
    simp only [this, decide_false, Bool.false_and]; exact Ev.now _
  · refine Ev.if_neg h ?_
    have h' : xs.length ≤ 10000 := by omega
    simp only [h', decide_true, Bool.true_and]
    cases xs with
    | nil => exact Ev.shift 1 fun k => by simp only [impl_ValidRun.l0]; rfl
    | cons x rest =>
      have h2 := implRun_loop (x :: rest) hb rest [] x rfl
      have hr : rd_T35 (x :: rest) 0 = x := rfl
      by_cases hv : vent x = true
      · refine Ev.round (f := fun k => impl_ValidRun.l0 k (x :: rest) ((x :: rest).length : Int) (([] : List IE).length + 1 : Nat) (x :: rest)) (fun k => ?_) (by simpa [vall, hv] using h2)
        rw [impl_ValidRun.l0, if_pos (by rw [List.length_cons]; omega), if_pos (by omega), if_pos (by rw [List.length_cons]; omega), hr, implValidEntry_is]; simp only [Option.bind_some]; rw [if_pos hv, if_pos trivial, show wrap64 (0 + 1) = ((([] : List IE).length + 1 : Nat) : Int) from by unfold wrap64; rfl]
      · refine Ev.shift 1 fun k => ?_
        rw [impl_ValidRun.l0, if_pos (by rw [List.length_cons]; omega), if_pos (by omega), if_pos (by rw [List.length_cons]; omega), hr, implValidEntry_is]; simp only [Option.bind_some]; rw [if_neg hv]; simp [vall, hv]
end Go.Proofs.Ytdknjbadnbangaa.Q

namespace Go.Proofs.Ytdknjbadnbangaa.Q
open Go.RowKit Go.Proofs.YtdknjbadnbangaaW.PrintWords Go.Proofs.YtdknjbadnbangaaW.PrintLast
set_option linter.unusedVariables false
set_option linter.unusedSimpArgs false
theorem rd_at (xs : List Int) (pre : List Int) (x : Int) (rest : List Int) (e : xs = pre ++ x :: rest) : rd xs (pre.length : Int) = x := by
  unfold rd; rw [Int.toNat_natCast, e]; simp
theorem eqByteS_loop (xs : List Int) (hb : xs.length < 4611686018427387904) : ∀ (rest pre : List Int), xs = pre ++ rest → Ev (fun k => laws_eqByteS.l0 k xs xs (pre.length : Int)) true := by
  intro rest
  induction rest with
  | nil => intro pre e; exact Ev.shift 1 fun k => by simp only [laws_eqByteS.l0]; rw [if_neg (by rw [e]; simp)]
  | cons x rest ih =>
    intro pre e
    have hlt : pre.length < xs.length := by rw [e]; simp
    have h := ih (pre ++ [x]) (by rw [e]; simp)
    rw [List.length_append, List.length_singleton] at h
    refine Ev.round (fun k => ?_) h
    rw [laws_eqByteS.l0, if_pos (by omega), if_pos (by omega), if_pos (by omega), if_pos rfl, wrap_nat _ (by omega)]
theorem eqByteS_refl (xs : List Int) (hb : xs.length ≤ 281474976710656) : Ev (fun k => laws_eqByteS.f k xs xs) true := by
  unfold laws_eqByteS.f
  exact Ev.if_pos rfl (eqByteS_loop xs (by omega) xs [] rfl)
end Go.Proofs.Ytdknjbadnbangaa.Q

namespace Go.Proofs.Ytdknjbadnbangaa.Q
open Go.RowKit Go.Proofs.YtdknjbadnbangaaW.PrintWords Go.Proofs.YtdknjbadnbangaaW.PrintLast
set_option linter.unusedVariables false
set_option linter.unusedSimpArgs false
theorem bx32 (a b : Nat) (ha : a < 4294967296) (hb : b < 4294967296) : Go.bits .xor .u32 (a : Int) (b : Int) = ((a ^^^ b : Nat) : Int) := by
  have h : a ^^^ b < 2 ^ 32 := Nat.xor_lt_two_pow ha hb
  have ha' : a % 2 ^ IntKind.u32.bits = a := Nat.mod_eq_of_lt ha
  have hb' : b % 2 ^ IntKind.u32.bits = b := Nat.mod_eq_of_lt hb
  simp only [Go.bits, BitVec.ofInt_natCast, BitVec.toNat_xor, BitVec.toNat_ofNat, ha', hb']
  rw [IntKind.wrap_u32]; omega
theorem bx8 (a b : Nat) (ha : a < 256) (hb : b < 256) : Go.bits .xor .u8 (a : Int) (b : Int) = ((a ^^^ b : Nat) : Int) := by
  have h : a ^^^ b < 2 ^ 8 := Nat.xor_lt_two_pow ha hb
  have ha' : a % 2 ^ IntKind.u8.bits = a := Nat.mod_eq_of_lt ha
  have hb' : b % 2 ^ IntKind.u8.bits = b := Nat.mod_eq_of_lt hb
  simp only [Go.bits, BitVec.ofInt_natCast, BitVec.toNat_xor, BitVec.toNat_ofNat, ha', hb']
  rw [IntKind.wrap_u8]; omega
theorem ba32 (a b : Nat) (ha : a < 4294967296) (hb : b < 4294967296) : Go.bits .and .u32 (a : Int) (b : Int) = ((a &&& b : Nat) : Int) := by
  have h : a &&& b < 2 ^ 32 := Nat.and_lt_two_pow _ hb
  have ha' : a % 2 ^ IntKind.u32.bits = a := Nat.mod_eq_of_lt ha
  have hb' : b % 2 ^ IntKind.u32.bits = b := Nat.mod_eq_of_lt hb
  simp only [Go.bits, BitVec.ofInt_natCast, BitVec.toNat_and, BitVec.toNat_ofNat, ha', hb']
  rw [IntKind.wrap_u32]; omega
def nstep (n : Nat) : Nat := n / 2 ^^^ (if n % 2 = 1 then 3988292384 else 0)
def niter (n : Nat) : Nat → Nat | 0 => n | m + 1 => nstep (niter n m)
theorem nstep_lt (n : Nat) (h : n < 4294967296) : nstep n < 4294967296 := by
  unfold nstep
  exact Nat.xor_lt_two_pow (n := 32) (by omega) (by split <;> decide)
theorem niter_lt (n : Nat) (h : n < 4294967296) : ∀ m, niter n m < 4294967296
  | 0 => h
  | m + 1 => nstep_lt _ (niter_lt n h m)
theorem niter_front (n : Nat) : ∀ m, niter n (m + 1) = niter (nstep n) m
  | 0 => rfl
  | m + 1 => by have h := niter_front n m; show nstep (niter n (m + 1)) = nstep (niter (nstep n) m); rw [h]
theorem crcStep_is (n : Nat) (h : n < 4294967296) : crcStep (n : Int) = (nstep n : Nat) := by
  have h1 : Go.bits .and .u32 (n : Int) 1 = ((n % 2 : Nat) : Int) := by
    have := ba32 n 1 h (by decide)
    rw [Nat.and_one_is_mod] at this; exact this
  have h2 : ((n : Int) / 2) = ((n / 2 : Nat) : Int) := by omega
  unfold crcStep nstep
  rw [h1, h2]
  by_cases hp : n % 2 = 1
  · rw [hp, if_pos rfl]
    have : Go.bits .and .u32 3988292384 ((-((1 : Nat) : Int)) % 4294967296) = ((3988292384 : Nat) : Int) := by decide
    rw [this]; exact bx32 _ _ (by omega) (by decide)
  · have h0 : n % 2 = 0 := by omega
    rw [h0, if_neg (by omega)]
    have : Go.bits .and .u32 3988292384 ((-((0 : Nat) : Int)) % 4294967296) = ((0 : Nat) : Int) := by decide
    rw [this]; exact bx32 _ _ (by omega) (by decide)
theorem crcIter_is (n : Nat) (h : n < 4294967296) : ∀ m, crcIter (n : Int) m = (niter n m : Nat)
  | 0 => rfl
  | m + 1 => by
    show crcStep (crcIter (n : Int) m) = _
    rw [crcIter_is n h m, crcStep_is _ (niter_lt n h m)]; rfl
theorem nstep_xor (a b : Nat) : nstep (a ^^^ b) = nstep a ^^^ nstep b := by
  have hd : (a ^^^ b) / 2 = a / 2 ^^^ b / 2 := by
    have := @Nat.shiftRight_xor_distrib 1 a b
    simpa [Nat.shiftRight_succ] using this
  have hm := @Nat.xor_mod_two_eq_one a b
  unfold nstep
  rw [hd]
  apply Nat.eq_of_testBit_eq
  intro i
  by_cases h1 : a % 2 = 1 <;> by_cases h2 : b % 2 = 1 <;> simp [h1, h2, hm, Nat.testBit_xor, Bool.xor_assoc, Bool.xor_comm, Bool.xor_left_comm]
theorem niter_xor (a b : Nat) : ∀ m, niter (a ^^^ b) m = niter a m ^^^ niter b m
  | 0 => rfl
  | m + 1 => by show nstep (niter (a ^^^ b) m) = _; rw [niter_xor a b m, nstep_xor]; rfl
theorem nstep_two (d : Nat) : nstep (2 * d) = d := by
  unfold nstep
  rw [if_neg (by omega), show 2 * d / 2 = d by omega, Nat.xor_zero]
theorem niter_shift (d : Nat) : niter (256 * d) 8 = d := by
  rw [show 256 * d = 2 * (2 * (2 * (2 * (2 * (2 * (2 * (2 * d))))))) by omega]
  simp only [niter, nstep_two]
theorem cut8 (c x : Nat) : c ^^^ x = (256 * (c / 256)) ^^^ ((c % 256) ^^^ x) := by
  apply Nat.eq_of_testBit_eq
  intro i
  have h1 : (256 * (c / 256)).testBit i = (decide (i ≥ 8) && (c / 256).testBit (i - 8)) := Nat.testBit_two_pow_mul (i := 8)
  have h2 : (c % 256).testBit i = (decide (i < 8) && c.testBit i) := Nat.testBit_mod_two_pow c 8 i
  have h3 : (c / 256).testBit (i - 8) = c.testBit (8 + (i - 8)) := by
    have : c / 256 = c / 2 ^ 8 := rfl
    rw [this, Nat.testBit_div_two_pow, Nat.add_comm]
  rw [Nat.testBit_xor, Nat.testBit_xor, Nat.testBit_xor, h1, h2, h3]
  by_cases h : i < 8
  · simp [h, Nat.not_le.mpr h]
  · have : 8 + (i - 8) = i := by omega
    simp [h, Nat.not_lt.mp h, this]
theorem byte_step (c x : Nat) : niter (c ^^^ x) 8 = niter ((c % 256) ^^^ x) 8 ^^^ (c / 256) := by
  rw [cut8, niter_xor, niter_shift, Nat.xor_comm]
/-- The checksum of bytes, on natural numbers. -/
def nGo : Nat → List Int → Nat
  | c, [] => c
  | c, x :: xs => nGo (niter (c ^^^ x.toNat) 8) xs
def isBytes (xs : List Int) : Prop := ∀ x ∈ xs, 0 ≤ x ∧ x < 256
theorem nGo_lt : ∀ (xs : List Int) (c : Nat), c < 4294967296 → isBytes xs → nGo c xs < 4294967296
  | [], c, h, _ => h
  | x :: xs, c, h, hx => by
    have hx0 := hx x (by simp)
    exact nGo_lt xs _ (niter_lt _ (Nat.xor_lt_two_pow (n := 32) h (by omega)) 8) (fun y hy => hx y (by simp [hy]))
theorem crcGo_is : ∀ (xs : List Int) (c : Nat), c < 4294967296 → isBytes xs → crcGo (c : Int) xs = (nGo c xs : Nat)
  | [], c, h, _ => rfl
  | x :: xs, c, h, hx => by
    obtain ⟨h0, h1⟩ := hx x (by simp)
    obtain ⟨n, rfl⟩ := Int.eq_ofNat_of_zero_le h0
    have hn : n < 256 := by omega
    have e1 : (c : Int) % 256 = ((c % 256 : Nat) : Int) := by omega
    have e2 : (c : Int) / 256 = ((c / 256 : Nat) : Int) := by omega
    have hx8 : (c % 256) ^^^ n < 256 := Nat.xor_lt_two_pow (n := 8) (by omega) hn
    simp only [crcGo, nGo]
    rw [e1, e2, bx8 _ _ (by omega) hn, Int.toNat_natCast]
    unfold crcT
    rw [crcIter_is _ (by omega), bx32 _ _ (niter_lt _ (by omega) 8) (by omega), ← byte_step, crcGo_is xs _ (niter_lt _ (Nat.xor_lt_two_pow (n := 32) h (by omega)) 8) (fun y hy => hx y (by simp [hy])), Int.toNat_natCast]
theorem specIn (xs : List Int) (i : Nat) (hi : i < 4611686018427387904) (r : Int) : ∀ (m c : Nat), m ≤ 8 → c < 4294967296 → Ev (fun k => spec_Crc32.l0 k xs ((niter c m : Nat) : Int) ((i + 1 : Nat) : Int)) r → Ev (fun k => spec_Crc32.l1 k xs (c : Int) (i : Int) ((8 - m : Nat) : Int)) r
  | 0, c, _, _, h => by
    refine Ev.round (fun k => ?_) h
    rw [spec_Crc32.l1, if_neg (by omega), wrap_nat i hi]; rfl
  | m + 1, c, hm, hc, h => by
    rw [niter_front] at h
    have h' := specIn xs i hi r m (nstep c) (by omega) (nstep_lt c hc) h
    refine Ev.round (fun k => ?_) h'
    have e1 : Int.tmod (c : Int) 2 = ((c % 2 : Nat) : Int) := by rw [Int.tmod_eq_emod_of_nonneg (by omega)]; omega
    have e2 : Int.tdiv (c : Int) 2 % 4294967296 = ((c / 2 : Nat) : Int) := by rw [Int.tdiv_eq_ediv_of_nonneg (by omega)]; omega
    have e3 : wrap64 (((8 - (m + 1) : Nat) : Int) + 1) = ((8 - m : Nat) : Int) := by unfold wrap64; omega
    rw [spec_Crc32.l1, if_pos (by omega), e1, e2, e3]
    by_cases hp : c % 2 = 1
    · rw [if_pos (by omega)]
      have := bx32 (c / 2) 3988292384 (by omega) (by decide)
      unfold nstep
      rw [if_pos hp, ← this]; rfl
    · rw [if_neg (by omega)]
      unfold nstep
      rw [if_neg hp, Nat.xor_zero]
theorem specCrc_loop (xs : List Int) (hb : xs.length < 4611686018427387904) (hx : isBytes xs) : ∀ (rest pre : List Int) (c : Nat), xs = pre ++ rest → c < 4294967296 → Ev (fun k => spec_Crc32.l0 k xs (c : Int) (pre.length : Int)) (Go.bits .xor .u32 ((nGo c rest : Nat) : Int) 4294967295) := by
  intro rest
  induction rest with
  | nil => intro pre c e hc; exact Ev.shift 1 fun k => by simp only [spec_Crc32.l0]; rw [if_neg (by rw [e]; simp)]; rfl
  | cons x rest ih =>
    intro pre c e hc
    have hlt : pre.length < xs.length := by rw [e]; simp
    obtain ⟨h0, h1⟩ := hx x (by rw [e]; simp)
    have hxn : x % 4294967296 = ((x.toNat : Nat) : Int) := by omega
    have hlt' : c ^^^ x.toNat < 4294967296 := Nat.xor_lt_two_pow (n := 32) hc (by omega)
    have h := ih (pre ++ [x]) (niter (c ^^^ x.toNat) 8) (by rw [e]; simp) (niter_lt _ hlt' 8)
    rw [List.length_append, List.length_singleton] at h
    have h2 := specIn xs pre.length (by omega) _ 8 (c ^^^ x.toNat) (by omega) hlt' h
    refine Ev.round (fun k => ?_) h2
    rw [spec_Crc32.l0, if_pos (by omega), if_pos (by omega), rd_at xs pre x rest e, hxn, bx32 _ _ hc (by omega)]; rfl
theorem specCrc_is (xs : List Int) (hb : xs.length < 4611686018427387904) (hx : isBytes xs) : Ev (fun k => spec_Crc32.f k xs) (Go.bits .xor .u32 ((nGo 4294967295 xs : Nat) : Int) 4294967295) := by
  unfold spec_Crc32.f
  exact specCrc_loop xs hb hx xs [] 4294967295 rfl (by decide)
theorem implCrc_is (xs : List Int) (hb : xs.length < 4611686018427387904) (hx : isBytes xs) : impl_Crc32.f xs = some (Go.bits .xor .u32 ((nGo 4294967295 xs : Nat) : Int) 4294967295) := by
  unfold impl_Crc32.f
  rw [if_pos hb]
  have h := crcGo_is xs 4294967295 (by decide) hx
  have hl := nGo_lt xs 4294967295 (by decide) hx
  rw [show (4294967295 : Int) = ((4294967295 : Nat) : Int) from rfl, h, bx32 _ _ (by decide) hl, bx32 _ _ hl (by decide), Nat.xor_comm]
end Go.Proofs.Ytdknjbadnbangaa.Q

namespace Go.Proofs.Ytdknjbadnbangaa.Q
open Go.RowKit Go.Proofs.YtdknjbadnbangaaW.PrintWords Go.Proofs.YtdknjbadnbangaaW.PrintLast
set_option linter.unusedVariables false
set_option linter.unusedSimpArgs false
/-- A number, seven bits a byte, the lowest first; at most f + 1 bytes. -/
def numF : Nat → Nat → List Int
  | 0, n => [(n : Int)]
  | f + 1, n => if n < 128 then [(n : Int)] else ((128 + n % 128 : Nat) : Int) :: numF f (n / 128)
theorem numF_len : ∀ f n, (numF f n).length ≤ f + 1
  | 0, n => Nat.le_refl _
  | f + 1, n => by
    unfold numF; split
    · simp
    · have := numF_len f (n / 128); simp; omega
theorem numF_bytes : ∀ f n, n < 128 ^ (f + 1) → isBytes (numF f n)
  | 0, n, h => by intro x hx; simp [numF] at hx; subst hx; simp at h; omega
  | f + 1, n, h => by
    intro x hx
    unfold numF at hx
    split at hx
    · simp at hx; omega
    · have h1 : n / 128 < 128 ^ (f + 1) := by rw [Nat.pow_succ] at h; exact Nat.div_lt_of_lt_mul (by rw [Nat.mul_comm]; exact h)
      rcases List.mem_cons.mp hx with rfl | hx
      · omega
      · exact numF_bytes f _ h1 x hx
theorem or128 (n : Nat) : Go.bits .or .u8 (((n : Int)) % 256) 128 = ((128 + n % 128 : Nat) : Int) := by
  have h : ∀ m : Fin 256, Go.bits .or .u8 ((m.val : Nat) : Int) 128 = ((128 + m.val % 128 : Nat) : Int) := by decide +kernel
  have h1 := h ⟨n % 256, by omega⟩
  have h2 : ((n : Int)) % 256 = ((n % 256 : Nat) : Int) := by omega
  rw [h2, h1]
  simp only
  omega
theorem implNum : ∀ (f n : Nat) (l : List Int), n < 128 ^ (f + 1) → l.length + f + 1 < 140737488355328 → Ev (fun k => impl_appendNum.l0 k l (n : Int)) (l ++ numF f n)
  | 0, n, l, h, hl => by
    simp at h
    refine Ev.shift 1 fun k => ?_
    simp only [impl_appendNum.l0]; rw [if_neg (by omega), if_pos (by omega)]
    unfold numF; rw [show ((n : Int)) % 256 = n by omega]
  | f + 1, n, l, h, hl => by
    have h1 : n / 128 < 128 ^ (f + 1) := by rw [Nat.pow_succ] at h; exact Nat.div_lt_of_lt_mul (by rw [Nat.mul_comm]; exact h)
    by_cases hn : n < 128
    · refine Ev.shift 1 fun k => ?_
      simp only [impl_appendNum.l0]; rw [if_neg (by omega), if_pos (by omega)]
      unfold numF; rw [if_pos hn, show ((n : Int)) % 256 = n by omega]
    · have ih := implNum f (n / 128) (l ++ [((128 + n % 128 : Nat) : Int)]) h1 (by simp; omega)
      refine Ev.round (fun k => ?_) (f := fun k => impl_appendNum.l0 k (l ++ [((128 + n % 128 : Nat) : Int)]) ((n / 128 : Nat) : Int)) ?_
      · simp only [impl_appendNum.l0]; rw [if_pos (by omega), if_pos (by omega), or128, show ((n : Int)) / 128 = ((n / 128 : Nat) : Int) by omega]
      · unfold numF; rw [if_neg hn]; simpa using ih
theorem specNum : ∀ (f n : Nat), n < 128 ^ (f + 1) → n < 18446744073709551616 → f < 1000 → Ev (fun k => spec_l2Num.f k (n : Int)) (numF f n)
  | 0, n, h, _, _ => by
    simp at h
    refine Ev.shift 1 fun k => ?_
    simp only [spec_l2Num.f]; rw [if_pos (by omega)]
    unfold numF; rw [show ((n : Int)) % 256 = n by omega]
  | f + 1, n, h, h64, hf => by
    have h1 : n / 128 < 128 ^ (f + 1) := by rw [Nat.pow_succ] at h; exact Nat.div_lt_of_lt_mul (by rw [Nat.mul_comm]; exact h)
    by_cases hn : n < 128
    · refine Ev.shift 1 fun k => ?_
      simp only [spec_l2Num.f]; rw [if_pos (by omega)]
      unfold numF; rw [if_pos hn, show ((n : Int)) % 256 = n by omega]
    · have ih := specNum f (n / 128) h1 (by omega) (by omega)
      have e1 : (IntKind.u64.wrap (128 + Int.tmod (n : Int) 128)) % 256 = ((128 + n % 128 : Nat) : Int) := by
        rw [IntKind.wrap_u64, Int.tmod_eq_emod_of_nonneg (by omega)]; omega
      have e2 : IntKind.u64.wrap (Int.tdiv (n : Int) 128) = ((n / 128 : Nat) : Int) := by
        rw [IntKind.wrap_u64, Int.tdiv_eq_ediv_of_nonneg (by omega)]; omega
      have hlen := numF_len f (n / 128)
      refine Ev.round (fun k => ?_) (f := fun k => (spec_l2Num.f k ((n / 128 : Nat) : Int)).bind fun t => if ([((128 + n % 128 : Nat) : Int)] : List Int).length + t.length < 140737488355328 then some (([((128 + n % 128 : Nat) : Int)] : List Int) ++ t) else none) ?_
      · simp only [spec_l2Num.f]; rw [if_neg (by omega), e1, e2]; rfl
      · unfold numF; rw [if_neg hn]
        exact Ev.bind ih (Ev.if_pos (by simp only [List.length_singleton]; omega) (Ev.now _))
theorem u64_id {x : Int} (h0 : 0 ≤ x) (h1 : x < 18446744073709551616) : IntKind.u64.wrap x = ((x.toNat : Nat) : Int) := by rw [IntKind.wrap_u64]; omega
theorem p128 : (18446744073709551616 : Nat) ≤ 128 ^ (9 + 1) := by decide
/-- A number of the kind uint64. -/
def nB (x : Int) : List Int := numF 9 x.toNat
theorem nB_len (x : Int) : (nB x).length ≤ 10 := numF_len _ _
theorem nB_bytes {x : Int} (h1 : x < 18446744073709551616) : isBytes (nB x) := numF_bytes 9 _ (by have := p128; omega)
theorem implNumB (x : Int) (l : List Int) (h0 : 0 ≤ x) (h1 : x < 18446744073709551616) (hl : l.length < 100000000000000) : Ev (fun k => impl_appendNum.f k l x) (l ++ nB x) := by
  have h := implNum 9 x.toNat l (by have := p128; omega) (by omega)
  rw [show ((x.toNat : Nat) : Int) = x by omega] at h
  exact h
theorem specNumB (x : Int) (h0 : 0 ≤ x) (h1 : x < 18446744073709551616) : Ev (fun k => spec_l2Num.f k x) (nB x) := by
  have h := specNum 9 x.toNat (by have := p128; omega) (by omega) (by omega)
  rw [show ((x.toNat : Nat) : Int) = x by omega] at h
  exact h
/-! strings -/
def sB (s : ByteArray) : List Int := nB (s.size : Int) ++ bytesOf s
theorem bytesOf_bytes (s : ByteArray) : isBytes (bytesOf s) := by
  intro x hx
  unfold bytesOf at hx
  obtain ⟨b, _, rfl⟩ := List.mem_map.mp hx
  have := b.toNat_lt
  omega
theorem isBytes_app {a b : List Int} (h : isBytes a) (k : isBytes b) : isBytes (a ++ b) := fun x hx => (List.mem_append.mp hx).elim (h x) (k x)
theorem sB_len (s : ByteArray) : (sB s).length ≤ 10 + s.size := by unfold sB; have := nB_len (s.size : Int); rw [List.length_append, bytesOf_length]; omega
theorem sB_bytes {s : ByteArray} (h : s.size < 1000000) : isBytes (sB s) := isBytes_app (nB_bytes (by omega)) (bytesOf_bytes s)
theorem implStrB (s : ByteArray) (l : List Int) (hs : s.size < 1000000) (hl : l.length < 10000000000000) : Ev (fun k => impl_appendStr.f k l s) (l ++ sB s) := by
  unfold impl_appendStr.f
  have hn := nB_len (s.size : Int)
  rw [u64_id (by omega) (by omega), show (((s.size : Int).toNat : Nat) : Int) = (s.size : Int) by omega]
  have h := Ev.bind (f := fun _ t => if t.length + s.size < 140737488355328 then some (t ++ bytesOf s) else none) (r := l ++ sB s) (implNumB (s.size : Int) l (by omega) (by omega) (by omega)) (by
    unfold sB; rw [← List.append_assoc]; exact Ev.if_pos (by rw [List.length_append]; omega) (Ev.now _))
  exact h
theorem specStrB (s : ByteArray) (hs : s.size < 1000000) : Ev (fun k => spec_l2Str.f k s) (sB s) := by
  unfold spec_l2Str.f
  have hn := nB_len (s.size : Int)
  rw [u64_id (by omega) (by omega), show (((s.size : Int).toNat : Nat) : Int) = (s.size : Int) by omega]
  refine Ev.bind (specNumB (s.size : Int) (by omega) (by omega)) (Ev.of_some ?_)
  unfold spec_l2Cat.f sB
  simp only [Option.bind_some, List.nil_append, List.length_nil, Nat.zero_add]
  rw [if_pos (by omega), if_pos (by rw [bytesOf_length]; omega)]
/-! fixed numbers -/
def fB (x : Int) : List Int := [x % 256, (x / 256) % 256, (x / 65536) % 256, (x / 16777216) % 256]
theorem specFixB (x : Int) (h0 : 0 ≤ x) (h1 : x < 4294967296) : spec_l2Fixed.f x = some (fB x) := by
  unfold spec_l2Fixed.f fB
  rw [Int.tmod_eq_emod_of_nonneg h0, Int.tdiv_eq_ediv_of_nonneg h0, Int.tdiv_eq_ediv_of_nonneg h0, Int.tdiv_eq_ediv_of_nonneg h0]
  congr 2
  · omega
  congr 1
  · omega
  congr 1
  · omega
  congr 1
  omega
theorem implFixB (l : List Int) (x : Int) (hl : l.length < 10000000000000) : impl_appendFixed.f l x = some (l ++ fB x) := by
  unfold impl_appendFixed.f fB
  simp only [Option.bind_some]
  rw [if_pos (by simp; omega)]
/-! what two strings begin with alike -/
theorem shared_same : ∀ k, (∀ a b i, spec_l2Shared.l0 k a b i = impl_shared.l0 k a b i) ∧ (∀ a b i c, spec_l2Shared.j1 k a b i c = impl_shared.j1 k a b i c)
  | 0 => ⟨fun _ _ _ => rfl, fun _ _ _ _ => rfl⟩
  | k + 1 => by
    obtain ⟨h1, h2⟩ := shared_same k
    refine ⟨fun a b i => ?_, fun a b i c => ?_⟩
    · simp only [spec_l2Shared.l0, impl_shared.l0, h2]
    · simp only [spec_l2Shared.j1, impl_shared.j1, h1]
def shF (a b : ByteArray) : Nat → Nat → Nat
  | 0, i => i
  | f + 1, i => if i < a.size ∧ i < b.size ∧ (bt a (i : Int) == bt b (i : Int)) = true then shF a b f (i + 1) else i
theorem shF_le (a b : ByteArray) : ∀ f i, i ≤ b.size → shF a b f i ≤ b.size
  | 0, _, h => h
  | f + 1, i, h => by
    unfold shF; split
    · rename_i h1; exact shF_le a b f (i + 1) (by have := h1.2.1; omega)
    · exact h
theorem shF_is (a b : ByteArray) (ha : a.size < 4611686018427387904) : ∀ f i, a.size ≤ i + f → i ≤ a.size → Ev (fun k => impl_shared.l0 k a b (i : Int)) (shF a b f i : Int)
  | 0, i, h, hi => by
    refine Ev.shift 2 fun k => ?_
    simp only [impl_shared.l0]; rw [if_neg (by omega)]; simp only [impl_shared.j1]; rfl
  | f + 1, i, h, hi => by
    unfold shF
    by_cases h1 : i < a.size
    · by_cases h2 : i < b.size
      · cases h3 : (bt a (i : Int) == bt b (i : Int)) with
        | true =>
          rw [if_pos ⟨h1, h2, rfl⟩]
          have ih := shF_is a b ha f (i + 1) (by omega) (by omega)
          refine Ev.round (fun k => ?_) (f := fun k => impl_shared.j1 k a b (i : Int) true) (Ev.round (fun k => ?_) ih)
          · simp only [impl_shared.l0]; rw [if_pos (by omega), if_pos (by omega), if_pos (by omega), h3]
          · simp only [impl_shared.j1]; rw [if_pos trivial, wrap_nat _ (by omega)]
        | false =>
          rw [if_neg (by simp)]
          refine Ev.shift 2 fun k => ?_
          simp only [impl_shared.l0]; rw [if_pos (by omega), if_pos (by omega), if_pos (by omega), h3]; simp only [impl_shared.j1]; rfl
      · rw [if_neg (fun q => h2 q.2.1)]
        refine Ev.shift 2 fun k => ?_
        simp only [impl_shared.l0]; rw [if_pos (by omega), if_neg (by omega)]; simp only [impl_shared.j1]; rfl
    · rw [if_neg (fun q => h1 q.1)]
      refine Ev.shift 2 fun k => ?_
      simp only [impl_shared.l0]; rw [if_neg (by omega)]; simp only [impl_shared.j1]; rfl
def sh (a b : ByteArray) : Nat := shF a b a.size 0
theorem implShared (a b : ByteArray) (ha : a.size < 4611686018427387904) : Ev (fun k => impl_shared.f k a b) (sh a b : Int) := shF_is a b ha a.size 0 (by omega) (by omega)
theorem specShared (a b : ByteArray) (ha : a.size < 4611686018427387904) : Ev (fun k => spec_l2Shared.f k a b) (sh a b : Int) := by
  have h : (fun k => spec_l2Shared.f k a b) = fun k => impl_shared.f k a b := by funext k; exact (shared_same k).1 a b 0
  rw [h]; exact implShared a b ha
/-! entries -/
def goodE (e : IE) : Prop := vent e = true ∧ 0 ≤ e.f3 ∧ e.f3 < 18446744073709551616
structure SzE (e : IE) : Prop where
  r : e.f0.size ≤ 64
  f : e.f1.size ≤ 16
  q : e.f2.size ≤ 64
  v : e.f5.size ≤ 200
  k0 : 0 ≤ e.f4
  k1 : e.f4 ≤ 2
  t0 : 0 ≤ e.f3
  t1 : e.f3 < 18446744073709551616
theorem goodE.sz {e : IE} (h : goodE e) : SzE e := by
  obtain ⟨h1, h2, h3⟩ := h
  simp only [vent, Bool.and_eq_true, decide_eq_true_eq] at h1
  exact ⟨by omega, by omega, by omega, by omega, by omega, by omega, h2, h3⟩
def tailB (b : ByteArray) (s : ByteArray) : ByteArray := s.extract (sh b s) s.size
theorem tailB_size (b s : ByteArray) : (tailB b s).size ≤ s.size := by unfold tailB; rw [ByteArray.size_extract]; omega
def entB (b : ByteArray) (e : IE) : List Int := nB (sh b e.f0 : Int) ++ (sB (tailB b e.f0) ++ (sB e.f1 ++ (sB e.f2 ++ (nB e.f3 ++ (nB e.f4 ++ sB e.f5)))))
theorem entB_len {b : ByteArray} {e : IE} (h : SzE e) : (entB b e).length ≤ 500 := by
  unfold entB
  have h1 := nB_len (sh b e.f0 : Int); have h2 := sB_len (tailB b e.f0); have h3 := sB_len e.f1; have h4 := sB_len e.f2; have h5 := nB_len e.f3; have h6 := nB_len e.f4; have h7 := sB_len e.f5
  have h8 := tailB_size b e.f0
  obtain ⟨r, f, q, v, k0, k1, t0, t1⟩ := h
  simp only [List.length_append]
  omega
theorem entB_bytes {b : ByteArray} {e : IE} (h : SzE e) : isBytes (entB b e) := by
  have h8 := tailB_size b e.f0
  have h9 := shF_le b e.f0 b.size 0 (by omega)
  obtain ⟨r, f, q, v, k0, k1, t0, t1⟩ := h
  refine isBytes_app (nB_bytes (by unfold sh; omega)) (isBytes_app (sB_bytes (by omega)) (isBytes_app (sB_bytes (by omega)) (isBytes_app (sB_bytes (by omega)) (isBytes_app (nB_bytes (by omega)) (isBytes_app (nB_bytes (by omega)) (sB_bytes (by omega)))))))
def bodyB : ByteArray → List IE → List Int
  | _, [] => []
  | b, e :: es => entB b e ++ bodyB e.f0 es
theorem bodyB_len : ∀ (es : List IE) (b : ByteArray), (∀ e ∈ es, SzE e) → (bodyB b es).length ≤ 500 * es.length
  | [], _, _ => Nat.le_refl _
  | e :: es, b, h => by
    have h1 := entB_len (b := b) (h e List.mem_cons_self)
    have h2 := bodyB_len es e.f0 fun x hx => h x (List.mem_cons_of_mem _ hx)
    unfold bodyB; rw [List.length_append, List.length_cons]; omega
theorem bodyB_bytes : ∀ (es : List IE) (b : ByteArray), (∀ e ∈ es, SzE e) → isBytes (bodyB b es)
  | [], _, _ => fun _ h => by cases h
  | e :: es, b, h => isBytes_app (entB_bytes (h e List.mem_cons_self)) (bodyB_bytes es e.f0 fun x hx => h x (List.mem_cons_of_mem _ hx))
theorem Ev.eq {α : Type} {g : Nat → Option α} {r r' : α} (h : r = r') (k : Ev g r) : Ev g r' := h ▸ k
theorem implBlock (es : List IE) (hb : es.length < 1000000) : ∀ (rest pre : List IE) (b : ByteArray) (l : List Int), es = pre ++ rest → (∀ e ∈ rest, SzE e) → b.size < 1000000 → l.length + 500 * rest.length < 1000000000000 →
    Ev (fun k => impl_appendBlock.l0 k l b es (es.length : Int) (pre.length : Int)) (l ++ bodyB b rest) := by
  intro rest
  induction rest with
  | nil => intro pre b l e _ _ _; exact Ev.shift 1 fun k => by simp only [impl_appendBlock.l0]; rw [if_neg (by rw [e]; simp)]; simp [bodyB]
  | cons x rest ih =>
    intro pre b l e hz hbs hl
    have hlt : pre.length < es.length := by rw [e]; exact len_cut _ _ _
    have hr : rd_T35 es (pre.length : Int) = x := by unfold rd_T35; rw [Int.toNat_natCast, e, getD_cut]
    have hx := hz x List.mem_cons_self
    obtain ⟨zr, zf, zq, zv, zk0, zk1, zt0, zt1⟩ := hx
    rw [List.length_cons] at hl
    have h := ih (pre ++ [x]) x.f0 (l ++ entB b x) (by simp [e]) (fun y hy => hz y (List.mem_cons_of_mem _ hy)) (by omega) (by rw [List.length_append]; have := entB_len (b := b) (hz x List.mem_cons_self); omega)
    rw [List.length_append, List.length_singleton] at h
    have hle := shF_le b x.f0 b.size 0 (by omega)
    have hle' : sh b x.f0 ≤ x.f0.size := hle
    have ht := tailB_size b x.f0
    have n1 := nB_len (sh b x.f0 : Int); have n2 := sB_len (tailB b x.f0); have n3 := sB_len x.f1; have n4 := sB_len x.f2; have n5 := nB_len x.f3; have n6 := nB_len x.f4
    refine Ev.round (f := ?f) (fun k => ?_) ?_
    rotate_left
    · simp only [impl_appendBlock.l0]
      rw [if_pos (by omega), if_pos (by omega), if_pos (by omega), hr]
    · refine Ev.bind (implShared b x.f0 (by omega)) ?_
      simp only [u64_id (x := (sh b x.f0 : Int)) (by omega) (by omega), Int.toNat_natCast]
      refine Ev.bind (implNumB _ l (by omega) (by omega) (by omega)) (Ev.if_pos (by omega) (Ev.if_pos (by omega) ?_))
      refine Ev.bind (implStrB (tailB b x.f0) _ (by omega) (by simp only [List.length_append]; omega)) ?_
      refine Ev.bind (implStrB x.f1 _ (by omega) (by simp only [List.length_append]; omega)) ?_
      refine Ev.bind (implStrB x.f2 _ (by omega) (by simp only [List.length_append]; omega)) ?_
      refine Ev.bind (implNumB x.f3 _ zt0 zt1 (by simp only [List.length_append]; omega)) ?_
      rw [u64_id (x := x.f4) (by omega) (by omega), show ((x.f4.toNat : Nat) : Int) = x.f4 by omega]
      refine Ev.bind (implNumB x.f4 _ (by omega) (by omega) (by simp only [List.length_append]; omega)) ?_
      refine Ev.bind (implStrB x.f5 _ (by omega) (by simp only [List.length_append]; omega)) ?_
      rw [wrap_nat _ (by omega)]
      have e1 : l ++ nB (sh b x.f0 : Int) ++ sB (tailB b x.f0) ++ sB x.f1 ++ sB x.f2 ++ nB x.f3 ++ nB x.f4 ++ sB x.f5 = l ++ entB b x := by simp [entB, List.append_assoc]
      rw [e1]
      exact Ev.eq (by simp [bodyB, List.append_assoc]) h
end Go.Proofs.Ytdknjbadnbangaa.Q

namespace Go.Proofs.Ytdknjbadnbangaa.Q
open Go.RowKit Go.Proofs.YtdknjbadnbangaaW.PrintWords Go.Proofs.YtdknjbadnbangaaW.PrintLast
set_option linter.unusedVariables false
set_option linter.unusedSimpArgs false
theorem specBody (es : List IE) (hb : es.length < 1000000) : ∀ (rest pre : List IE) (b : ByteArray) (l : List Int), es = pre ++ rest → (∀ e ∈ rest, SzE e) → b.size < 1000000 → l.length + 500 * rest.length < 1000000000000 →
    Ev (fun k => spec_l2Body.l0 k es l b (pre.length : Int)) (l ++ bodyB b rest) := by
  intro rest
  induction rest with
  | nil => intro pre b l e _ _ _; exact Ev.shift 1 fun k => by simp only [spec_l2Body.l0]; rw [if_neg (by rw [e]; simp)]; simp [bodyB]
  | cons x rest ih =>
    intro pre b l e hz hbs hl
    have hlt : pre.length < es.length := by rw [e]; exact len_cut _ _ _
    have hr : rd_T35 es (pre.length : Int) = x := by unfold rd_T35; rw [Int.toNat_natCast, e, getD_cut]
    have hx := hz x List.mem_cons_self
    obtain ⟨zr, zf, zq, zv, zk0, zk1, zt0, zt1⟩ := hx
    rw [List.length_cons] at hl
    have h := ih (pre ++ [x]) x.f0 (l ++ entB b x) (by simp [e]) (fun y hy => hz y (List.mem_cons_of_mem _ hy)) (by omega) (by rw [List.length_append]; have := entB_len (b := b) (hz x List.mem_cons_self); omega)
    rw [List.length_append, List.length_singleton] at h
    have hle' : sh b x.f0 ≤ x.f0.size := shF_le b x.f0 b.size 0 (by omega)
    have ht := tailB_size b x.f0
    have n1 := nB_len (sh b x.f0 : Int); have n2 := sB_len (tailB b x.f0); have n3 := sB_len x.f1; have n4 := sB_len x.f2; have n5 := nB_len x.f3; have n6 := nB_len x.f4; have n7 := sB_len x.f5
    refine Ev.round (f := ?f) (fun k => ?_) ?_
    rotate_left
    · simp only [spec_l2Body.l0]
      rw [if_pos (by omega), if_pos (by omega), hr]
    · refine Ev.bind (specShared b x.f0 (by omega)) ?_
      simp only [u64_id (x := (sh b x.f0 : Int)) (by omega) (by omega), Int.toNat_natCast, Option.bind_some]
      refine Ev.bind (specNumB _ (by omega) (by omega)) (Ev.if_pos (by omega) (Ev.if_pos (by omega) (Ev.if_pos (by omega) ?_)))
      refine Ev.bind (specStrB (tailB b x.f0) (by omega)) (Ev.if_pos (by simp only [List.length_append]; omega) ?_)
      refine Ev.bind (specStrB x.f1 (by omega)) (Ev.if_pos (by simp only [List.length_append]; omega) ?_)
      refine Ev.bind (specStrB x.f2 (by omega)) (Ev.if_pos (by simp only [List.length_append]; omega) ?_)
      refine Ev.bind (specNumB x.f3 zt0 zt1) (Ev.if_pos (by simp only [List.length_append]; omega) ?_)
      rw [u64_id (x := x.f4) (by omega) (by omega), show ((x.f4.toNat : Nat) : Int) = x.f4 by omega]
      refine Ev.bind (specNumB x.f4 (by omega) (by omega)) (Ev.if_pos (by simp only [List.length_append]; omega) ?_)
      refine Ev.bind (specStrB x.f5 (by omega)) (Ev.if_pos (by simp only [List.length_append]; omega) ?_)
      rw [wrap_nat _ (by omega)]
      have e1 : l ++ nB (sh b x.f0 : Int) ++ sB (tailB b x.f0) ++ sB x.f1 ++ sB x.f2 ++ nB x.f3 ++ nB x.f4 ++ sB x.f5 = l ++ entB b x := by simp [entB, List.append_assoc]
      rw [e1]
      exact Ev.eq (by simp [bodyB, List.append_assoc]) h
def e0 : ByteArray := ⟨#[]⟩
theorem specBody_is (es : List IE) (hz : ∀ e ∈ es, SzE e) (hb : es.length < 1000000) : Ev (fun k => spec_l2Body.f k es) (bodyB e0 es) := by
  have h := specBody es hb es [] e0 [] rfl hz (by decide) (by simp; omega)
  exact h
theorem implBlock_is (es : List IE) (l : List Int) (hz : ∀ e ∈ es, SzE e) (hb : es.length < 1000000) (hl : l.length < 100000000000) : Ev (fun k => impl_appendBlock.f k l es) (l ++ bodyB e0 es) :=
  implBlock es hb es [] e0 l rfl hz (by decide) (by omega)
/-! the sum of a row of bytes -/
def crcV (xs : List Int) : Int := Go.bits .xor .u32 ((nGo 4294967295 xs : Nat) : Int) 4294967295
theorem crcV_range (xs : List Int) (h : isBytes xs) : 0 ≤ crcV xs ∧ crcV xs < 4294967296 := by
  have h1 := nGo_lt xs 4294967295 (by omega) h
  have h2 := bx32 (nGo 4294967295 xs) 4294967295 h1 (by omega)
  have h3 : nGo 4294967295 xs ^^^ 4294967295 < 2 ^ 32 := Nat.xor_lt_two_pow (by omega) (by omega)
  have h4 : crcV xs = ((nGo 4294967295 xs ^^^ 4294967295 : Nat) : Int) := h2
  rw [h4]
  omega
/-! blocks -/
def blk : Nat → Nat → List IE → List (List IE)
  | 0, _, _ => []
  | f + 1, p, xs => if xs.length > p then xs.take p :: blk f p (xs.drop p) else if xs.length > 0 then [xs] else []
theorem blk_len (p : Nat) (hp : 0 < p) : ∀ (f : Nat) (xs : List IE), xs.length < f → (blk f p xs).length = (xs.length + p - 1) / p
  | 0, _, h => by omega
  | f + 1, xs, h => by
    unfold blk
    split
    · rename_i h1
      rw [List.length_cons, blk_len p hp f _ (by rw [List.length_drop]; omega), List.length_drop]
      have : xs.length + p - 1 = (xs.length - p + p - 1) + p := by omega
      rw [this, Nat.add_div_right _ hp]
    · split
      · rename_i h1 h2
        rw [List.length_singleton]
        exact (Nat.div_eq_of_lt_le (by omega) (by omega)).symm
      · rw [List.length_nil]
        exact (Nat.div_eq_of_lt (by omega)).symm
/-- One block more: what is written, and the index. -/
def stepF (a : List Int × List Int) (b : List IE) : List Int × List Int :=
  (a.1 ++ (bodyB e0 b ++ fB (crcV (bodyB e0 b))), a.2 ++ (nB ((bodyB e0 b).length : Int) ++ (nB (b.length : Int) ++ sB (rd_T35 b 0).f0)))
def finF (a : List Int × List Int) : List Int := a.1 ++ (a.2 ++ (fB (crcV a.2) ++ fB (((a.2.length : Int)) % 4294967296)))
/-- What holds of what is written while n entries are left. -/
structure Room (a : List Int × List Int) (n : Nat) : Prop where
  o : a.1.length + 600 * n ≤ 10000000
  i : a.2.length + 100 * n ≤ 10000000
  ib : isBytes a.2
theorem Room.step {a : List Int × List Int} {n : Nat} {b : List IE} (h : Room a (b.length + n)) (hb : 0 < b.length) (hl : b.length ≤ 10000) (hz : ∀ e ∈ b, SzE e) : Room (stepF a b) n := by
  have h1 := bodyB_len b e0 hz
  have h2 := nB_len ((bodyB e0 b).length : Int); have h3 := nB_len (b.length : Int); have h4 := sB_len (rd_T35 b 0).f0
  have h5 : (rd_T35 b 0).f0.size ≤ 64 := by
    cases b with
    | nil => simp at hb
    | cons x xs => exact (hz x List.mem_cons_self).r
  obtain ⟨o, i, ib⟩ := h
  refine ⟨?_, ?_, ?_⟩
  · simp only [stepF, List.length_append, fB, List.length_cons, List.length_nil]; omega
  · simp only [stepF, List.length_append]; omega
  · exact isBytes_app ib (isBytes_app (nB_bytes (by omega)) (isBytes_app (nB_bytes (by omega)) (sB_bytes (by omega))))
def sumL : List (List IE) → Nat
  | [] => 0
  | b :: bs => b.length + sumL bs
/-! the reference's -/
theorem rdL (xs pre : List (List IE)) (b : List IE) (rest : List (List IE)) (e : xs = pre ++ b :: rest) : rd_L7 xs (pre.length : Int) = b := by
  unfold rd_L7; rw [Int.toNat_natCast, e, getD_cut]
theorem specFile (bs : List (List IE)) (hbs : bs.length < 1000000) : ∀ (rest pre : List (List IE)) (a : List Int × List Int), bs = pre ++ rest → (∀ b ∈ rest, 0 < b.length ∧ b.length ≤ 10000 ∧ ∀ e ∈ b, SzE e) → Room a (sumL rest) →
    Ev (fun k => spec_l2File.l0 k bs a.1 a.2 (pre.length : Int)) (finF (rest.foldl stepF a)) := by
  intro rest
  induction rest with
  | nil =>
    intro pre a e _ hR
    obtain ⟨o, i, ib⟩ := hR
    have hc := crcV_range a.2 ib
    refine Ev.round (f := ?f1) (fun k => ?_) ?_
    rotate_left
    · simp only [spec_l2File.l0]; rw [if_neg (by rw [e]; simp), if_pos (by omega)]
    · simp only [Option.bind_some]
      refine Ev.bind (specCrc_is a.2 (by omega) ib) ?_
      have hfx := specFixB _ hc.1 hc.2
      unfold crcV at hfx
      rw [hfx, specFixB _ (by omega) (by omega)]
      simp only [Option.bind_some]
      refine Ev.if_pos (by simp [fB]; omega) (Ev.if_pos (by simp [fB]; omega) ?_)
      exact Ev.eq (by simp [finF, crcV, List.append_assoc]) (Ev.now _)
  | cons b rest ih =>
    intro pre a e hg hR
    obtain ⟨hb0, hb1, hz⟩ := hg b List.mem_cons_self
    have hlt : pre.length < bs.length := by rw [e]; exact len_cut _ _ _
    have hr := rdL bs pre b rest e
    have hR2 : Room (stepF a b) (sumL rest) := Room.step hR hb0 hb1 hz
    have h := ih (pre ++ [b]) (stepF a b) (by simp [e]) (fun x hx => hg x (List.mem_cons_of_mem _ hx)) hR2
    rw [List.length_append, List.length_singleton] at h
    have h1 := bodyB_len b e0 hz
    have h2 := nB_len ((bodyB e0 b).length : Int); have h3 := nB_len (b.length : Int); have h4 := sB_len (rd_T35 b 0).f0
    have h5 : (rd_T35 b 0).f0.size ≤ 64 := by
      cases b with
      | nil => simp at hb0
      | cons x xs => exact (hz x List.mem_cons_self).r
    have hbb := bodyB_bytes b e0 hz
    have hc := crcV_range (bodyB e0 b) hbb
    obtain ⟨o, i, ib⟩ := hR
    simp only [sumL] at o i
    refine Ev.round (f := ?f2) (fun k => ?_) ?_
    rotate_left
    · simp only [spec_l2File.l0]; rw [if_pos (by omega), if_pos (by omega), hr]
    · refine Ev.bind (specBody_is b hz (by omega)) (Ev.if_pos (by omega) ?_)
      simp only [Option.bind_some]
      refine Ev.bind (specCrc_is _ (by omega) hbb) ?_
      have hfx := specFixB _ hc.1 hc.2
      unfold crcV at hfx
      rw [hfx]
      simp only [Option.bind_some, List.length_append]
      rw [u64_id (x := ((bodyB e0 b).length : Int)) (by omega) (by omega), u64_id (x := (b.length : Int)) (by omega) (by omega), show ((((bodyB e0 b).length : Int).toNat : Nat) : Int) = ((bodyB e0 b).length : Int) by omega, show (((b.length : Int).toNat : Nat) : Int) = (b.length : Int) by omega]
      refine Ev.if_pos (by simp [fB]; omega) (Ev.bind (specNumB _ (by omega) (by omega)) (Ev.if_pos (by omega) (Ev.bind (specNumB _ (by omega) (by omega)) (Ev.if_pos (by omega) (Ev.if_pos (by omega) ?_)))))
      refine Ev.bind (specStrB _ (by omega)) (Ev.if_pos (by omega) ?_)
      rw [wrap_nat _ (by omega)]
      exact Ev.eq rfl (by simpa [stepF, crcV, List.append_assoc] using h)
def file (p : Nat) (xs : List IE) : List Int := finF ((blk (xs.length + 1) p xs).foldl stepF (([82, 85, 78, 49] : List Int), nB ((blk (xs.length + 1) p xs).length : Int)))
end Go.Proofs.Ytdknjbadnbangaa.Q

namespace Go.Proofs.Ytdknjbadnbangaa.Q
open Go.RowKit Go.Proofs.YtdknjbadnbangaaW.PrintWords Go.Proofs.YtdknjbadnbangaaW.PrintLast
set_option linter.unusedVariables false
set_option linter.unusedSimpArgs false
theorem blk_good (p : Nat) (hp : 0 < p) : ∀ (f : Nat) (xs : List IE), xs.length < f → xs.length ≤ 10000 → (∀ e ∈ xs, SzE e) → ∀ b ∈ blk f p xs, 0 < b.length ∧ b.length ≤ 10000 ∧ ∀ e ∈ b, SzE e
  | 0, _, h, _, _ => by omega
  | f + 1, xs, h, hl, hz => by
    intro b hb
    unfold blk at hb
    split at hb
    · rename_i h1
      rcases List.mem_cons.mp hb with rfl | hb
      · exact ⟨by rw [List.length_take]; omega, by rw [List.length_take]; omega, fun e he => hz e (List.mem_of_mem_take he)⟩
      · exact blk_good p hp f _ (by rw [List.length_drop]; omega) (by rw [List.length_drop]; omega) (fun e he => hz e (List.mem_of_mem_drop he)) b hb
    · split at hb
      · rename_i h1 h2
        obtain rfl : b = xs := by simpa using hb
        exact ⟨h2, hl, hz⟩
      · cases hb
theorem blk_sum (p : Nat) (hp : 0 < p) : ∀ (f : Nat) (xs : List IE), xs.length < f → sumL (blk f p xs) = xs.length
  | 0, _, h => by omega
  | f + 1, xs, h => by
    unfold blk
    split
    · rename_i h1
      rw [sumL, blk_sum p hp f _ (by rw [List.length_drop]; omega), List.length_take, List.length_drop]; omega
    · split
      · simp [sumL]
      · simp [sumL]; omega
theorem blk_count (p : Nat) (hp : 0 < p) : ∀ (f : Nat) (xs : List IE), xs.length < f → (blk f p xs).length ≤ xs.length
  | 0, _, h => by omega
  | f + 1, xs, h => by
    unfold blk
    split
    · have := blk_count p hp f (xs.drop p) (by rw [List.length_drop]; omega)
      rw [List.length_drop] at this; rw [List.length_cons]; omega
    · split
      · simp; omega
      · simp
def run1 : List Int := [82, 85, 78, 49]
theorem room0 (xs : List IE) (hl : xs.length ≤ 10000) (n : Nat) (hn : n ≤ 10000) : Room (run1, nB (n : Int)) xs.length :=
  ⟨by simp [run1]; omega, by have := nB_len (n : Int); simp only; omega, nB_bytes (by omega)⟩
/-! the reference's -/
theorem specFile_is (bs : List (List IE)) (n : Nat) (hn : n ≤ 10000) (hbs : bs.length ≤ 10000) (hg : ∀ b ∈ bs, 0 < b.length ∧ b.length ≤ 10000 ∧ ∀ e ∈ b, SzE e) (hs : sumL bs = n) :
    Ev (fun k => spec_l2File.f k bs) (finF (bs.foldl stepF (run1, nB (bs.length : Int)))) := by
  unfold spec_l2File.f
  rw [u64_id (x := (bs.length : Int)) (by omega) (by omega), show (((bs.length : Int).toNat : Nat) : Int) = (bs.length : Int) by omega]
  refine Ev.bind (specNumB _ (by omega) (by omega)) ?_
  exact specFile bs (by omega) bs [] (run1, nB (bs.length : Int)) rfl hg ⟨by simp [run1]; omega, by have := nB_len (bs.length : Int); simp only; omega, nB_bytes (by omega)⟩
theorem specEnc (p : Nat) (hp : 0 < p) (hp2 : p ≤ 1000) (r : List Int) : ∀ (f : Nat) (rest : List IE) (done : List (List IE)), rest.length < f → done.length + rest.length ≤ 20000 →
    Ev (fun k => spec_EncodeRun.j2 k (done ++ blk f p rest)) r → Ev (fun k => spec_EncodeRun.l0 k (p : Int) done rest) r
  | 0, _, _, h, _, _ => by omega
  | f + 1, rest, done, h, hd, hr => by
    unfold blk at hr
    by_cases h1 : rest.length > p
    · rw [if_pos h1] at hr
      have ih := specEnc p hp hp2 r f (rest.drop p) (done ++ [rest.take p]) (by rw [List.length_drop]; omega) (by rw [List.length_append, List.length_singleton, List.length_drop]; omega) (by simpa using hr)
      refine Ev.round (fun k => ?_) ih
      simp only [spec_EncodeRun.l0]
      rw [if_pos (by omega), if_pos (by omega), if_pos (by omega), if_pos (by omega), Int.toNat_natCast]
    · rw [if_neg h1] at hr
      by_cases h2 : rest.length > 0
      · rw [if_pos h2] at hr
        refine Ev.round (fun k => ?_) hr
        simp only [spec_EncodeRun.l0]
        rw [if_neg (by omega), if_pos (by omega), if_pos (by omega)]
      · rw [if_neg h2, List.append_nil] at hr
        refine Ev.round (fun k => ?_) hr
        simp only [spec_EncodeRun.l0]
        rw [if_neg (by omega), if_neg (by omega)]
def encV (xs : List IE) (p : Int) : List Int := if vrun xs = true ∧ 1 ≤ p ∧ p ≤ 1000 then file p.toNat xs else []
theorem vrun_len {xs : List IE} (h : vrun xs = true) : xs.length ≤ 10000 := by simp only [vrun, Bool.and_eq_true, decide_eq_true_eq] at h; exact h.1
theorem specEncode_is (xs : List IE) (p : Int) (hb : xs.length < 4611686018427387904) (hz : vrun xs = true → ∀ e ∈ xs, SzE e) : Ev (fun k => spec_EncodeRun.f k xs p) (encV xs p) := by
  have hj : Ev (fun k => spec_EncodeRun.j0 k p true xs) [] := Ev.shift 1 fun k => by simp only [spec_EncodeRun.j0]; rfl
  unfold spec_EncodeRun.f encV
  refine Ev.bind (specRun_is xs hb) ?_
  cases hv : vrun xs with
  | false => rw [if_neg (by simp)]; exact Ev.if_neg (by decide) hj
  | true =>
    refine Ev.if_pos rfl ?_
    by_cases h1 : p < 1
    · rw [if_neg (by omega)]; exact Ev.if_pos h1 hj
    · refine Ev.if_neg h1 ?_
      by_cases h2 : p > 1000
      · rw [if_neg (by omega), decide_eq_true h2]; exact hj
      · rw [if_pos ⟨rfl, by omega, by omega⟩, decide_eq_false h2]
        have hl := vrun_len hv
        obtain ⟨q, rfl⟩ : ∃ q : Nat, p = (q : Int) := ⟨p.toNat, by omega⟩
        rw [Int.toNat_natCast]
        have hc := blk_count q (by omega) (xs.length + 1) xs (by omega)
        have hF := specFile_is (blk (xs.length + 1) q xs) xs.length hl (by omega) (blk_good q (by omega) _ xs (by omega) hl (hz hv)) (blk_sum q (by omega) _ xs (by omega))
        refine Ev.round (fun k => ?_) (f := fun k => spec_EncodeRun.l0 k (q : Int) [] xs) ?_
        · simp only [spec_EncodeRun.j0]; rfl
        · refine specEnc q (by omega) (by omega) _ (xs.length + 1) xs [] (by omega) (by simp; omega) ?_
          rw [List.nil_append]
          refine Ev.round (fun k => ?_) (f := fun k => (spec_l2File.f k (blk (xs.length + 1) q xs)).bind some) (Ev.bind hF (Ev.now _))
          simp only [spec_EncodeRun.j2]
/-! the program's -/
theorem implLoop (xs : List IE) (hl : xs.length ≤ 10000) (p : Nat) (hp : 0 < p) (hp2 : p ≤ 1000) (n : Nat) : ∀ (f i : Nat) (a : List Int × List Int), (xs.drop (i * p)).length < f → i * p ≤ xs.length + p → (∀ e ∈ xs.drop (i * p), SzE e) → Room a (xs.drop (i * p)).length → n = i + (blk f p (xs.drop (i * p))).length → i ≤ 10000 →
    Ev (fun k => impl_EncodeRun.l0 k (p : Int) a.1 a.2 (n : Int) (i : Int) xs) (finF ((blk f p (xs.drop (i * p))).foldl stepF a))
  | 0, _, _, h, _, _, _, _, _ => by omega
  | f + 1, i, a, h, hi, hz, hR, hn, hi2 => by
    have hm : ((i : Int)) * (p : Int) = ((i * p : Nat) : Int) := by simp
    have hm1 : (((i + 1 : Nat) : Int)) * (p : Int) = ((i * p + p : Nat) : Int) := by rw [← Int.natCast_mul, Nat.succ_mul]
    have hs1 : (i + 1) * p = i * p + p := Nat.succ_mul i p
    have hdl : (xs.drop (i * p)).length = xs.length - i * p := List.length_drop
    generalize hmm : i * p = m at *
    unfold blk at hn ⊢
    -- one block, and the rest
    have one : ∀ (b : List IE) (rest : List (List IE)), 0 < b.length → b.length ≤ 10000 → (∀ e ∈ b, SzE e) → (xs.take (mn ((m + p : Nat) : Int) (xs.length : Int)).toNat).drop m = b → m ≤ xs.length → (xs.drop m).length = b.length + (xs.drop (m + p)).length →
        n = i + 1 + rest.length → Ev (fun k => impl_EncodeRun.l0 k (p : Int) (stepF a b).1 (stepF a b).2 (n : Int) ((i + 1 : Nat) : Int) xs) (finF (rest.foldl stepF (stepF a b))) →
        Ev (fun k => impl_EncodeRun.l0 k (p : Int) a.1 a.2 (n : Int) (i : Int) xs) (finF ((b :: rest).foldl stepF a)) := by
      intro b rest hb0 hb1 hbz hcut hml hlen hn2 hE
      have hmn : mn ((m + p : Nat) : Int) (xs.length : Int) = ((min (m + p) xs.length : Nat) : Int) := by unfold mn; omega
      have h1 := bodyB_len b e0 hbz
      have h2 := nB_len ((bodyB e0 b).length : Int); have h3 := nB_len (b.length : Int); have h4 := sB_len (rd_T35 b 0).f0
      have h5 : (rd_T35 b 0).f0.size ≤ 64 := by
        cases b with
        | nil => simp at hb0
        | cons x xs => exact (hbz x List.mem_cons_self).r
      have hbb := bodyB_bytes b e0 hbz
      obtain ⟨o, ii, ib⟩ := hR
      rw [hlen] at o ii
      refine Ev.round (f := ?f1) (fun k => ?_) ?_
      rotate_left
      · simp only [impl_EncodeRun.l0]
        rw [wrap_nat i (by omega), hm, hm1, wrap_id _ (by omega) (by omega), wrap_id _ (by omega) (by omega), if_pos (by omega), if_pos (by omega), if_pos (by rw [hmn]; omega), if_pos (by rw [hmn]; omega), Int.toNat_natCast, hcut]
      · simp only [Option.bind_some]
        refine Ev.bind (implBlock_is b a.1 hbz (by omega) (by omega)) ?_
        have hw : wrap64 (((a.1 ++ bodyB e0 b).length : Int) - (a.1.length : Int)) = ((bodyB e0 b).length : Int) := by rw [List.length_append, wrap_id _ (by omega) (by omega)]; omega
        simp only [hw]
        rw [u64_id (x := ((bodyB e0 b).length : Int)) (by omega) (by omega), u64_id (x := (b.length : Int)) (by omega) (by omega), show ((((bodyB e0 b).length : Int).toNat : Nat) : Int) = ((bodyB e0 b).length : Int) by omega, show (((b.length : Int).toNat : Nat) : Int) = (b.length : Int) by omega]
        refine Ev.bind (implNumB _ _ (by omega) (by omega) (by omega)) (Ev.bind (implNumB _ _ (by omega) (by omega) (by rw [List.length_append]; omega)) (Ev.if_pos (by omega) ?_))
        refine Ev.bind (implStrB _ _ (by omega) (by simp only [List.length_append]; omega)) (Ev.if_pos (by omega) (Ev.if_pos (by rw [List.length_append]; omega) ?_))
        have hd : (a.1 ++ bodyB e0 b).drop (((a.1.length : Int)).toNat) = bodyB e0 b := by rw [Int.toNat_natCast, List.drop_left]
        rw [hd, implCrc_is _ (by omega) hbb]
        simp only [Option.bind_some]
        rw [implFixB _ _ (by rw [List.length_append]; omega)]
        simp only [Option.bind_some]
        exact Ev.eq rfl (by simpa [stepF, crcV, List.append_assoc] using hE)
    by_cases h1 : (xs.drop m).length > p
    · rw [if_pos h1] at hn ⊢
      rw [List.length_cons] at hn
      have hdd : (xs.drop m).drop p = xs.drop (m + p) := by rw [List.drop_drop]
      rw [hdd] at hn ⊢
      have hdl2 : (xs.drop (m + p)).length = xs.length - (m + p) := List.length_drop
      have htl : ((xs.drop m).take p).length = p := by rw [List.length_take]; omega
      have hz1 : ∀ e ∈ (xs.drop m).take p, SzE e := fun e he => hz e (List.mem_of_mem_take he)
      have hz2 : ∀ e ∈ xs.drop (m + p), SzE e := fun e he => hz e (by rw [← hdd] at he; exact List.mem_of_mem_drop he)
      have hR2 : Room (stepF a ((xs.drop m).take p)) (xs.drop (m + p)).length := Room.step (by rw [htl]; rw [show p + (xs.drop (m + p)).length = (xs.drop m).length by omega]; exact hR) (by omega) (by omega) hz1
      have ih := implLoop xs hl p hp hp2 n f (i + 1) (stepF a ((xs.drop m).take p)) (by rw [hs1]; omega) (by rw [hs1]; omega) (by rw [hs1]; exact hz2) (by rw [hs1]; exact hR2) (by rw [hs1]; omega) (by have := Nat.le_mul_of_pos_right i hp; omega)
      rw [hs1] at ih
      refine one _ _ (by omega) (by omega) hz1 ?_ (by omega) (by omega) (by omega) ih
      have e1 : (mn ((m + p : Nat) : Int) (xs.length : Int)).toNat = m + p := by unfold mn; omega
      rw [e1, List.drop_take]
      congr 1
      omega
    · rw [if_neg h1] at hn ⊢
      by_cases h2 : (xs.drop m).length > 0
      · rw [if_pos h2] at hn ⊢
        have hdl2 : (xs.drop (m + p)).length = xs.length - (m + p) := List.length_drop
        have hR2 : Room (stepF a (xs.drop m)) 0 := Room.step (by simpa using hR) (by omega) (by omega) hz
        have e1 : (mn ((m + p : Nat) : Int) (xs.length : Int)).toNat = xs.length := by unfold mn; omega
        rw [List.length_singleton] at hn
        refine one _ [] h2 (by omega) hz (by rw [e1, List.take_length]) (by omega) (by omega) (by simpa using hn) ?_
        obtain ⟨o, ii, ib⟩ := hR2
        refine Ev.shift 1 fun k => ?_
        simp only [impl_EncodeRun.l0]
        rw [if_neg (by omega), if_pos (by omega), implCrc_is _ (by omega) ib]
        simp only [Option.bind_some]
        rw [implFixB _ _ (by rw [List.length_append]; omega)]
        simp only [Option.bind_some]
        rw [implFixB _ _ (by simp [fB]; omega)]
        simp [finF, crcV, List.append_assoc]
      · rw [if_neg h2] at hn ⊢
        obtain ⟨o, ii, ib⟩ := hR
        refine Ev.shift 1 fun k => ?_
        rw [List.length_nil] at hn
        simp only [impl_EncodeRun.l0]
        rw [if_neg (by omega), if_pos (by omega), implCrc_is _ (by omega) ib]
        simp only [Option.bind_some]
        rw [implFixB _ _ (by rw [List.length_append]; omega)]
        simp only [Option.bind_some]
        rw [implFixB _ _ (by simp [fB]; omega)]
        simp [finF, crcV, List.append_assoc]
theorem implEncode_is (xs : List IE) (p : Int) (hb : xs.length < 4611686018427387904) (hz : vrun xs = true → ∀ e ∈ xs, SzE e) : Ev (fun k => impl_EncodeRun.f k xs p) (encV xs p) := by
  have hj : Ev (fun k => impl_EncodeRun.j0 k p true xs) [] := Ev.shift 1 fun k => by simp only [impl_EncodeRun.j0]; rfl
  unfold impl_EncodeRun.f encV
  refine Ev.bind (implRun_is xs hb) ?_
  cases hv : vrun xs with
  | false => rw [if_neg (by simp)]; exact Ev.if_neg (by decide) hj
  | true =>
    refine Ev.if_pos rfl ?_
    by_cases h1 : p < 1
    · rw [if_neg (by omega)]; exact Ev.if_pos h1 hj
    · refine Ev.if_neg h1 ?_
      by_cases h2 : p > 1000
      · rw [if_neg (by omega), decide_eq_true h2]; exact hj
      · rw [if_pos ⟨rfl, by omega, by omega⟩, decide_eq_false h2]
        have hl := vrun_len hv
        obtain ⟨q, rfl⟩ : ∃ q : Nat, p = (q : Int) := ⟨p.toNat, by omega⟩
        rw [Int.toNat_natCast]
        have hn := blk_len q (by omega) (xs.length + 1) xs (by omega)
        have hc := blk_count q (by omega) (xs.length + 1) xs (by omega)
        have hw : wrap64 (Int.tdiv (wrap64 ((wrap64 ((xs.length : Int) + (q : Int))) - 1)) (q : Int)) = (((blk (xs.length + 1) q xs).length : Nat) : Int) := by
          rw [wrap_id ((xs.length : Int) + (q : Int)) (by omega) (by omega), wrap_id ((xs.length : Int) + (q : Int) - 1) (by omega) (by omega), Int.tdiv_eq_ediv_of_nonneg (by omega)]
          have e1 : ((xs.length : Int) + (q : Int) - 1) = ((xs.length + q - 1 : Nat) : Int) := by omega
          have e2 : ((xs.length + q - 1 : Nat) : Int) / (q : Int) = (((xs.length + q - 1) / q : Nat) : Int) := by simp
          rw [e1, e2, ← hn, wrap_id _ (by omega) (by omega)]
        have hL := implLoop xs hl q (by omega) (by omega) (blk (xs.length + 1) q xs).length (xs.length + 1) 0 (run1, nB ((blk (xs.length + 1) q xs).length : Int)) (by simp) (by omega) (by simpa using hz hv) (by simpa using room0 xs hl _ (by omega)) (by simp) (by omega)
        rw [Nat.zero_mul, List.drop_zero] at hL
        have hN := implNumB ((blk (xs.length + 1) q xs).length : Int) [] (by omega) (by omega) (by simp)
        refine Ev.round (f := ?f3) (fun k => ?_) ?_
        rotate_left
        · simp only [impl_EncodeRun.j0]
          rw [if_neg (by simp), if_neg (by omega), hw, u64_id (x := ((blk (xs.length + 1) q xs).length : Int)) (by omega) (by omega), show ((((blk (xs.length + 1) q xs).length : Int).toNat : Nat) : Int) = ((blk (xs.length + 1) q xs).length : Int) by omega]
        · exact Ev.bind hN hL
end Go.Proofs.Ytdknjbadnbangaa.Q

namespace Go.Proofs.Ytdknjbadnbangaa.Q
open Go.RowKit Go.Proofs.YtdknjbadnbangaaW.PrintWords Go.Proofs.YtdknjbadnbangaaW.PrintLast
set_option linter.unusedVariables false
set_option linter.unusedSimpArgs false
/-- Some answer, of which P holds. -/
def Evx {α : Type} (g : Nat → Option α) (P : α → Prop) : Prop := ∃ r, Ev g r ∧ P r
theorem Evx.bind {α β : Type} {g : Nat → Option α} {f : Nat → α → Option β} {a : α} {P : β → Prop} (h : Ev g a) (k : Evx (fun n => f n a) P) : Evx (fun n => (g n).bind (f n)) P := by
  obtain ⟨r, h1, h2⟩ := k; exact ⟨r, Ev.bind h h1, h2⟩
theorem Evx.if_pos {α : Type} {c : Prop} [Decidable c] {g f : Nat → Option α} {P : α → Prop} (h : c) (k : Evx g P) : Evx (fun n => if c then g n else f n) P := by
  obtain ⟨r, h1, h2⟩ := k; exact ⟨r, Ev.if_pos h h1, h2⟩
theorem Evx.round {α : Type} {g f : Nat → Option α} {P : α → Prop} (h : ∀ k, g (k + 1) = f k) (k : Evx f P) : Evx g P := by
  obtain ⟨r, h1, h2⟩ := k; exact ⟨r, Ev.round h h1, h2⟩
theorem Ev.of_eq {α : Type} {g : Nat → Option α} {r r' : α} (k : Ev g r) (h : r = r') : Ev g r' := h ▸ k
theorem strOne (x : Int) : (strOfNums [x]).size = 1 := by first | rfl | simp [strOfNums]
theorem markText_loop : ∀ (f : Nat) (x : Int) (s : ByteArray), 0 ≤ x → x ≤ 9223372036854775807 → x < 10 ^ f → s.size + f < 1000 → ∃ t, Ev (fun k => laws_markText.l0 k x s) t
  | 0, x, s, h0, hm, h1, hs => by
    have h2 : x = 0 := by simp at h1; omega
    subst h2
    exact ⟨_, Ev.shift 1 fun k => by simp only [laws_markText.l0]; rw [if_neg (by omega), if_pos (by omega)]⟩
  | f + 1, x, s, h0, hm, h1, hs => by
    by_cases h2 : x > 0
    · have hx : wrap64 (Int.tdiv x 10) = x / 10 := by
        rw [Int.tdiv_eq_ediv_of_nonneg h0]
        exact wrap_id _ (by omega) (by omega)
      obtain ⟨t, ht⟩ := markText_loop f (x / 10) (strOfNums [(wrap64 (48 + (Int.tmod x 10))) % 256] ++ s) (by omega) (by omega) (by rw [Int.pow_succ] at h1; omega) (by rw [ByteArray.size_append, strOne]; omega)
      refine ⟨t, Ev.round (fun k => ?_) ht⟩
      simp only [laws_markText.l0]; rw [if_pos h2]; simp only [Option.bind_some]; rw [if_pos (by rw [strOne]; omega), hx]
    · exact ⟨_, Ev.shift 1 fun k => by simp only [laws_markText.l0]; rw [if_neg h2, if_pos (by omega)]⟩
theorem markText_ev (x : Int) (h0 : 0 ≤ x) (h1 : x < 1000000000000) : ∃ t, Ev (fun k => laws_markText.f k x) t := by
  unfold laws_markText.f
  by_cases h : x ≤ 0
  · exact ⟨_, Ev.if_pos h (Ev.now _)⟩
  · obtain ⟨t, ht⟩ := markText_loop 12 x ⟨#[]⟩ h0 (by omega) (by omega) (by decide)
    exact ⟨t, Ev.if_neg h ht⟩
theorem markEntryS_ev : ∀ (d : Nat) (xs : List S35) (x : Int) (i : Nat), xs.length = i + d → 0 ≤ x → x + 6 * d < 1000000000 → i + d < 1000000000 → Evx (fun k => laws_markEntryS.l0 k xs x (i : Int)) fun r => 0 ≤ r.1
  | 0, xs, x, i, hl, h0, h1, hi => ⟨(x, xs), Ev.shift 1 fun k => by simp only [laws_markEntryS.l0]; rw [if_neg (by omega)], h0⟩
  | d + 1, xs, x, i, hl, h0, h1, hi => by
    have w1 : wrap64 (x + 1) = x + 1 := wrap_id _ (by omega) (by omega)
    have w2 : wrap64 (x + 1 + 1) = x + 1 + 1 := wrap_id _ (by omega) (by omega)
    have w3 : wrap64 (x + 1 + 1 + 1) = x + 1 + 1 + 1 := wrap_id _ (by omega) (by omega)
    have w4 : wrap64 (x + 1 + 1 + 1 + 1) = x + 1 + 1 + 1 + 1 := wrap_id _ (by omega) (by omega)
    have w5 : wrap64 (x + 1 + 1 + 1 + 1 + 1) = x + 1 + 1 + 1 + 1 + 1 := wrap_id _ (by omega) (by omega)
    have w6 : wrap64 (x + 1 + 1 + 1 + 1 + 1 + 1) = x + 1 + 1 + 1 + 1 + 1 + 1 := wrap_id _ (by omega) (by omega)
    have ih : ∀ zs : List S35, zs.length = xs.length → Evx (fun k => laws_markEntryS.l0 k zs (x + 1 + 1 + 1 + 1 + 1 + 1) ((i + 1 : Nat) : Int)) fun r => 0 ≤ r.1 := fun zs hz => markEntryS_ev d zs _ (i + 1) (by omega) (by omega) (by omega) (by omega)
    obtain ⟨t1, e1⟩ := markText_ev x h0 (by omega)
    obtain ⟨t2, e2⟩ := markText_ev (x + 1) (by omega) (by omega)
    obtain ⟨t3, e3⟩ := markText_ev (x + 1 + 1) (by omega) (by omega)
    obtain ⟨t6, e6⟩ := markText_ev (x + 1 + 1 + 1 + 1 + 1) (by omega) (by omega)
    refine Evx.round (f := ?f) (fun k => ?_) ?_
    rotate_left
    · simp only [laws_markEntryS.l0]
      rw [if_pos (by omega)]
    · simp only [w1, w2, w3, w4, w5, w6, wrap_nat i (by omega), Option.bind_some]
      exact Evx.bind e1 (Evx.if_pos (by omega) (Evx.bind e2 (Evx.bind e3 (Evx.bind e6 (ih _ (by simp only [List.length_set]))))))
theorem markRun_ev (xs : List S35) (hl : xs.length < 100000000) : Evx (fun k => laws_markRun.f k xs 1) fun r => 0 ≤ r.1 := by
  obtain ⟨r, h1, h2⟩ := markEntryS_ev xs.length xs 1 0 (by omega) (by omega) (by omega) (by omega)
  exact ⟨r, Ev.bind h1 (Ev.now _), h2⟩
/-! bytes -/
def mkB : Nat → Int → List Int
  | 0, _ => []
  | d + 1, x => x % 256 :: mkB d (x + 1)
theorem markByteS_loop : ∀ (rest pre : List Int) (x : Int), 0 ≤ x → x + rest.length < 1000000000000 → pre.length + rest.length < 1000000000000 → Ev (fun k => laws_markByteS.l0 k (pre ++ rest) x (pre.length : Int)) (x + rest.length, pre ++ mkB rest.length x)
  | [], pre, x, h0, h1, h2 => Ev.shift 1 fun k => by simp only [laws_markByteS.l0]; rw [if_neg (by simp)]; simp [mkB]
  | r :: rest, pre, x, h0, h1, h2 => by
    rw [List.length_cons] at h1 h2
    have ih := markByteS_loop rest (pre ++ [x % 256]) (x + 1) (by omega) (by omega) (by simp; omega)
    rw [List.length_append, List.length_singleton] at ih
    have hs : (pre ++ r :: rest).set pre.length (x % 256) = (pre ++ [x % 256]) ++ rest := by rw [List.set_append_right _ _ (Nat.le_refl _)]; simp
    refine Ev.round (fun k => ?_) (Ev.of_eq ih ?_)
    · simp only [laws_markByteS.l0]; rw [if_pos (by simp; omega), if_pos (by omega), Int.toNat_natCast, hs, wrap_id (x + 1) (by omega) (by omega), wrap_nat _ (by omega)]
    · simp [mkB]; omega
theorem heldByteS_loop : ∀ (d : Nat) (pre : List Int) (x : Int), 0 ≤ x → x + d < 1000000000000 → pre.length + d < 1000000000000 → Ev (fun k => laws_heldByteS.l0 k (pre ++ mkB d x) x (pre.length : Int)) (x + d)
  | 0, pre, x, h0, h1, h2 => Ev.shift 1 fun k => by simp only [laws_heldByteS.l0]; rw [if_neg (by simp [mkB])]; simp
  | d + 1, pre, x, h0, h1, h2 => by
    have ih := heldByteS_loop d (pre ++ [x % 256]) (x + 1) (by omega) (by omega) (by simp; omega)
    rw [List.length_append, List.length_singleton] at ih
    have hr : rd (pre ++ mkB (d + 1) x) (pre.length : Int) = x % 256 := rd_at _ pre (x % 256) (mkB d (x + 1)) rfl
    refine Ev.round (fun k => ?_) (Ev.of_eq ih (by omega))
    simp only [laws_heldByteS.l0]; rw [if_pos (by simp [mkB]; omega), if_pos (by omega), hr, if_pos rfl, wrap_id (x + 1) (by omega) (by omega), wrap_nat _ (by omega)]
    simp [mkB]
end Go.Proofs.Ytdknjbadnbangaa.Q

namespace Go.Proofs.Ytdknjbadnbangaa.Pr
open Q Go.Proofs.YtdknjbadnbangaaW.PrintWords
theorem vfrom_all : ∀ (es : List IE) (p : IE), vfrom p es = true → ∀ e ∈ es, vent e = true
  | [], _, _, _, h => by cases h
  | x :: es, p, h, e, he => by
    simp only [vfrom, Bool.and_eq_true] at h
    rcases List.mem_cons.mp he with rfl | he
    · exact h.1.1
    · exact vfrom_all es x h.2 e he
theorem vrun_all {xs : List IE} (h : vrun xs = true) : ∀ e ∈ xs, vent e = true := by
  simp only [vrun, Bool.and_eq_true] at h
  cases xs with
  | nil => intro e he; cases he
  | cons x es =>
    have h2 := h.2
    simp only [vall, Bool.and_eq_true] at h2
    intro e he
    rcases List.mem_cons.mp he with rfl | he
    · exact h2.1
    · exact vfrom_all es x h2.2 e he
theorem finF_len (a : List Int × List Int) : (finF a).length = a.1.length + a.2.length + 8 := by simp [finF, fB]; omega
theorem foldF_len : ∀ (bs : List (List IE)) (a : List Int × List Int), (∀ b ∈ bs, 0 < b.length ∧ b.length ≤ 10000 ∧ ∀ e ∈ b, SzE e) → Room a (sumL bs) → (finF (bs.foldl stepF a)).length ≤ 20000008
  | [], a, _, h => by rw [List.foldl_nil, finF_len]; have := h.o; have := h.i; simp [sumL] at *; omega
  | b :: bs, a, hg, h => by
    obtain ⟨h1, h2, h3⟩ := hg b List.mem_cons_self
    exact foldF_len bs (stepF a b) (fun x hx => hg x (List.mem_cons_of_mem _ hx)) (Room.step h h1 h2 h3)
theorem encV_len (xs : List IE) (p : Int) (hz : vrun xs = true → ∀ e ∈ xs, SzE e) : (encV xs p).length ≤ 20000008 := by
  unfold encV
  split
  · rename_i h
    obtain ⟨hv, h1, h2⟩ := h
    have hl := vrun_len hv
    have hc := blk_count p.toNat (by omega) (xs.length + 1) xs (by omega)
    refine foldF_len _ _ (blk_good p.toNat (by omega) _ xs (by omega) hl (hz hv)) ?_
    rw [blk_sum p.toNat (by omega) _ xs (by omega)]
    exact room0 xs hl _ (by omega)
  · simp
theorem FnExactEncodeRun : laws_FnExactEncodeRun.Pure := by
  intro xs p ⟨hl, hok⟩ hp
  apply Ev.rounds
  unfold laws_FnExactEncodeRun.f laws_szRun.f
  obtain ⟨t, ht, h1⟩ := szEntryS_is xs 1048576 hl hok (by omega) (by omega)
  rcases h1 with h1 | ⟨h1, h2⟩
  · exact Ev.bind (a := -1) (Ev.bind ht (Ev.if_pos h1 (Ev.now _))) (Ev.if_pos (by omega) (Ev.now _))
  · have he := toEntryS_is xs (by omega)
    have hr : Ev (fun k => laws_toRun.f k xs) (xs.map cvE) := Ev.bind he (Ev.now _)
    have hle : (xs.map cvE).length < 4611686018427387904 := by rw [List.length_map]; omega
    have hz : vrun (xs.map cvE) = true → ∀ e ∈ xs.map cvE, SzE e := by
      intro hv e he
      refine goodE.sz ⟨?_, ?_⟩
      · exact vrun_all hv e he
      · obtain ⟨y, hy, rfl⟩ := List.mem_map.mp he
        have h3 := (hok y hy).2.2.2.1
        simp only [Lit.wf, Bool.and_eq_true, decide_eq_true_eq] at h3
        have m0 : IntKind.u64.min = 0 := by decide
        have m1 : IntKind.u64.max = 18446744073709551615 := by decide
        rw [m0, m1] at h3
        exact ⟨h3.1, by show y.f3 < _; omega⟩
    have hlen := encV_len (xs.map cvE) p hz
    have hS := specEncode_is (xs.map cvE) p hle hz
    have hI := implEncode_is (xs.map cvE) p hle hz
    have hq := eqByteS_refl (encV (xs.map cvE) p) (by omega)
    obtain ⟨⟨m, ys⟩, hm, hm0⟩ := markRun_ev (xs.map cvE) (by rw [List.length_map]; omega)
    have hmb := markByteS_loop (encV (xs.map cvE) p) [] 1 (by omega) (by omega) (by simp; omega)
    have hhb := heldByteS_loop (encV (xs.map cvE) p).length [] 1 (by omega) (by omega) (by simp; omega)
    have hj : Ev (fun k => laws_FnExactEncodeRun.j0 k p (encV (xs.map cvE) p) (encV (xs.map cvE) p) false xs) true := by
      refine Ev.round (f := ?f) (fun k => ?_) ?_
      rotate_left
      · simp only [laws_FnExactEncodeRun.j0]
        rw [if_neg (by simp)]
      · refine Ev.bind hmb (Ev.bind hhb (Ev.if_neg (by omega) (Ev.if_pos rfl (Ev.bind hr (Ev.bind hI (Ev.bind hq (Ev.if_pos rfl (Ev.now _))))))))
    refine Ev.bind (Ev.bind ht (Ev.if_neg (by omega) (Ev.now _))) (Ev.if_neg (by omega) ?_)
    refine Ev.bind hr (Ev.bind hS (Ev.bind hr (Ev.bind hI (Ev.bind hq (Ev.if_pos rfl (Ev.bind hr ?_))))))
    refine Ev.bind (a := true) (by unfold laws_eqRun.f; exact Ev.bind (eqEntryS_refl _ hle) (Ev.if_pos rfl (Ev.now _))) (Ev.if_pos rfl (Ev.bind hm (Ev.if_neg (by simp only; omega) (Ev.bind hq ?_))))
    exact hj
end Go.Proofs.Ytdknjbadnbangaa.Pr

namespace Go.Proofs.Ytdknjbadnbangaa.fnExactEncodeRun
open Go.ChangeShapes Go.WideShapes Go.ChangeAt Go.RowKit Go.Proofs.YtdknjbadnbangaaW.PrintWords Go.Proofs.Ytdknjbadnbangaa.RowK Go.Proofs.Ytdknjbadnbangaa.Q
open Go.ChangeMaps (open_string shut_string)
set_option linter.unusedVariables false
theorem own : ownKnob Try.prog.godebug = none := by kernel_rfl
theorem laidOut : laidOutB Try.prog = true := by kernel_rfl
set_option maxRecDepth 100000 in
theorem lifted (os : Os) (started : os.Started) (H : Type) (enc : TypeId × Value → H) :
    ReturnsInHanded {} Try.checked os 14 .any (Rows.fnExactEncodeRunSpec.pre6 enc Try.prog Try.f14 Rows.fnExactEncodeRunRow.domain false) (Rows.fnExactEncodeRunSpec.post enc Try.prog Try.f14 false true false false) := by
  refine returnsInHanded_of_change_sized (C := Try.checked) own started (by kernel_rfl) Try.func14
    (ChangeSpec.witness6 (enc := enc) (C := Try.checked) false ⟨#[], #[.agg #[.slice none 0 0], .int .i64 0], []⟩ 8 (by kernel_rfl) (by kernel_rfl) (by kernel_rfl) (by kernel_rfl)) ?_
  intro W base args ds gs before hval0 hW hcnd hsz0 _
  have hval : ∀ (j : Nat) t v, Try.f14.params[j]? = some t → args[j]? = some v → Value.okWide Try.prog W .any base t v := hval0
  have hW' := hW
  obtain ⟨p, q, hA0, hV, rfl, hfz, hnd⟩ := hW
  have hA : DataW.TrodAll enc Try.prog W 0 (fun _ => true) true Try.f14.params.toList args.toList ds p := hA0
  rw [Try.params14] at hA hval
  obtain ⟨v0, vs0, d0, ds0, p0, q0, hargs, rfl, rfl, h0, r0⟩ := trodAll_cons hA
  obtain ⟨v1, vs1, d1, ds1, p1, q1, rfl, rfl, rfl, h1, r1⟩ := trodAll_cons r0
  obtain ⟨rfl, rfl, rfl⟩ := trodAll_nil r1
  obtain rfl : args = #[v0, v1] := by cases args; simp_all
  obtain ⟨rfl, rfl⟩ := trodVars_none hV
  obtain ⟨cs0, rfl, _⟩ := okWide_struct Try.underlying61 (hval 0 61 v0 rfl rfl)
  have k0 := h0
  have lt0 : ∀ x ∈ p0, x.block < W.heap.size := by obtain ⟨m, hm⟩ := k0; exact DataW.trod_lt m _ _ _ hm
  obtain ⟨x0_, hK0, ok0_⟩ := Opens.arg (d := (Kd.slice 32 k32)) (opens_imp (opens_struct Try.underlying61 (by kernel_rfl) (opensF_last rfl (by kernel_rfl) (opens_slice Try.underlying59 (by kernel_rfl) opens32))) (fun _ h => h)) h0
  obtain ⟨A0_0, c0_0, hs0_0, hc0_0, hr0_0⟩ := hK0
  have hv0 : Value.agg cs0 = .agg #[.slice A0_0 (x0_).length c0_0] := agg_cells (l := [.slice A0_0 (x0_).length c0_0]) (by simp only [hs0_0] <;> rfl)
  obtain ⟨a1, rfl, rfl, rfl, y1⟩ := open_int Try.underlying2 (hval 1 2 v1 rfl rfl) h1
  obtain ⟨k_, hp_⟩ := Pr.FnExactEncodeRun x0_ a1 ok0_ y1
  clear hA0 hval0 hsz0
  have hc_ := Q.laws_FnExactEncodeRun.calls k_ _ _ x0_ a1 true W hr0_0 hc0_0 hp_
  rw [← hv0] at hc_
  refine hc_.mono fun e W' ⟨he, bel0⟩ => ?_
  subst he
  have bel : Below W.heap.size W W' := bel0
  exact ⟨_, rfl, _, _, _, [], _, [], hW', trodAll_mk1 (shut_bool Try.underlying4 _), (trodAll_cons_mk (Below.trod laidOut (by kernel_rfl) (of_decide_eq_true (by kernel_rfl)) k0 bel lt0) (trodAll_cons_mk (shut_int Try.underlying2 y1) trodAll_mk0)), rfl, bel.frame _, fun h => by cases h⟩
theorem over : Rows.fnExactEncodeRunRow.holds Try.pinned (OpenSpec.ofChange Rows.fnExactEncodeRunSpec) :=
  OpenClaim.holds_of_wide 14 Try.f14 rfl rfl rfl rfl rfl rfl rfl ⟨rfl, rfl, rfl, rfl, rfl⟩ rfl rfl rfl rfl rfl (by kernel_rfl) Try.func14 (by kernel_rfl)
    (of_decide_eq_true (by kernel_rfl)) (by unfold Func.isWrapper; first | (rw [if_pos (by decide +kernel)]; kernel_rfl) | (rw [if_neg (by decide +kernel)]; exact ⟨rfl, rfl⟩))
    (fun os started H enc _ => lifted os started H enc)
end Go.Proofs.Ytdknjbadnbangaa.fnExactEncodeRun
namespace Go.Proofs.Ytdknjbadnbangaa
theorem fnExactEncodeRun_holds : Rows.FnExactEncodeRunSaid := fnExactEncodeRun.over
#print axioms fnExactEncodeRun_holds
end Go.Proofs.Ytdknjbadnbangaa
