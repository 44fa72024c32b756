/- FnExactEncodeRun: the row of the law: its arguments opened, its walk, its statement over lists (PrFnExactEncodeRun). No condition. -/
import Derived.Test.YtdknjbadnbangaaCFnExactEncodeRun2
import Derived.Shelf.Small.Strs
import Derived.Shelf.Small.Wraps
import Derived.Shelf.Strings.Search1
import Derived.Test.YtdknjbadnbangaaProg
import Derived.Lib.Strings

namespace Go.Proofs.Ytdknjbadnbangaa.Q
open Go.RowKit Go.Proofs.YtdknjbadnbangaaW.PrintWords Go.Proofs.YtdknjbadnbangaaW.PrintLast Go.Proofs.YtdknjbadnbangaaW.PrintMore
set_option linter.unusedVariables false
set_option linter.unusedSimpArgs false

/-! ### spec_l2Body: function 113 -/
def spec_l2Body.l0 : Nat → List (S35) → List Int → ByteArray → Int → Option (List Int)
 | 0, _, _, _, _ => none
 | k + 1, x0, x3, x4, x5 => if x5 < (x0.length : Int) then (if 0 ≤ x5 then ((spec_l2Shared.f k x4 ((rd_T35 x0 x5).f0)).bind fun t580 => ((spec_l2Num.f k (IntKind.u64.wrap (t580))).bind fun t581 => (if x3.length + t581.length < 140737488355328 then ((some (x3 ++ t581 : List Int)).bind fun y584 => (if 0 ≤ t580 then (if t580 ≤ (((rd_T35 x0 x5).f0).size : Int) then ((spec_l2Str.f k (((rd_T35 x0 x5).f0).extract (t580 : Int).toNat ((rd_T35 x0 x5).f0).size)).bind fun t587 => (if y584.length + t587.length < 140737488355328 then ((some (y584 ++ t587 : List Int)).bind fun y590 => ((spec_l2Str.f k ((rd_T35 x0 x5).f1)).bind fun t593 => (if y590.length + t593.length < 140737488355328 then ((some (y590 ++ t593 : List Int)).bind fun y596 => ((spec_l2Str.f k ((rd_T35 x0 x5).f2)).bind fun t599 => (if y596.length + t599.length < 140737488355328 then ((some (y596 ++ t599 : List Int)).bind fun y602 => ((spec_l2Num.f k ((rd_T35 x0 x5).f3)).bind fun t605 => (if y602.length + t605.length < 140737488355328 then ((some (y602 ++ t605 : List Int)).bind fun y608 => ((spec_l2Num.f k (IntKind.u64.wrap ((rd_T35 x0 x5).f4))).bind fun t611 => (if y608.length + t611.length < 140737488355328 then ((some (y608 ++ t611 : List Int)).bind fun y614 => ((spec_l2Str.f k ((rd_T35 x0 x5).f5)).bind fun t617 => (if y614.length + t617.length < 140737488355328 then (spec_l2Body.l0 k x0 (y614 ++ t617) ((rd_T35 x0 x5).f0) (wrap64 (x5 + 1))) else (none)))) else (none)))) else (none)))) else (none)))) else (none)))) else (none))) else (none)) else (none))) else (none)))) else (none)) else (some x3)
def spec_l2Body.f (k : Nat) (l0 : List (S35)) : Option (List Int) := spec_l2Body.l0 k l0 (([] : List Int)) (⟨#[]⟩ : ByteArray) 0
set_option maxHeartbeats 8000000 in
set_option maxRecDepth 100000 in
theorem spec_l2Body.calls (k : Nat) (A0 : Option Addr) (c0 : Nat) (l0 : List (S35)) (r : List Int) (w : World) (hr0 : Kd.C k35 w A0 l0.length l0) (hc0 : l0.length ≤ c0) (h : spec_l2Body.f k l0 = some r) :
  Calls Try.prog 113 #[.slice A0 l0.length c0] w fun e w' => ∃ v0_ : Value, e = .returned (v0_) ∧ Kd.R (Kd.int .u8) 5 w' w.heap.size (fun _ => True) v0_ r ∧ Below w.heap.size w w' := by
 have hu35 := Try.underlying35
 have HR0 := Aside0.mk hr0
 have HC0 := Aside0.mk hc0
 clear hr0 hc0
 have HB := Aside0.mk (Below.refl w.heap.size w)
 have H : (spec_l2Body.l0 k l0 (([] : List Int)) (⟨#[]⟩ : ByteArray) 0) = some r := h
 clear h
 obtain ⟨y575, hy575⟩ : ∃ y_ : List Int, y_ = (([] : List Int)) := ⟨_, rfl⟩
 replace H : (spec_l2Body.l0 k l0 y575 (⟨#[]⟩ : ByteArray) 0) = some r := by first | (rw [hy575]; with_reducible exact H) | (have H2_ := (Option.bind_some _ _).symm.trans H; rw [hy575]; with_reducible exact H2_) | (have H2_ := (Option.bind_some _ _).symm.trans H; with_reducible exact H2_) | with_reducible exact H | (rw [hy575]; exact H) | exact H
 have Ny575 := Aside0.mk hy575
 clear hy575
 have H' := Aside0.mk H
 clear H
 go_enter Try.func113, Try.ntmps113
 go_wp2_with (first | ((with_reducible refine gate_dst (N := 8) rfl ?_); refine Kd.R_lit (Kd.int .u8) _ 5 ?hg (N := 8) ?hd (xs := ([] : List Int)) (inner := []) (ok := fun _ => True) (okp := fun _ => True) ?hr ?hp (fun _ hk => hk) trivial (Below.refl _ _) (Nat.le_refl _) (by simp) ?_; (case hd => rfl); (case hg => rfl); (case hr => first | (go_simp; done) | (go_simp; rfl)); (case hp => exact (Reps.none _ _)); intro v576 w2 ho3 hb hg_ hnew_; clear hg_ hnew_; (first | rw [← Ny575.out] at ho3 | (simp only [Int.reduceToNat] at ho3; rw [← Ny575.out] at ho3)); have n0_ := Aside0.mk (Kd.R_lower ho3 (below_size bw)); have n1_ := Aside0.mk (below_step bw hb); clear HB; have HO577 := n0_; have HB := n1_; clear n0_ n1_; clear hb ho3))
 go_loopg [3, 4, 5] k (fun kq v3 v4 v5 w' => ∃ (x3_1 : List Int) (x4_1 : ByteArray) (x5_1 : Int), v4 = .string x4_1 ∧ v5 = .int .i64 x5_1 ∧ Aside0 (spec_l2Body.l0 kq l0 x3_1 x4_1 x5_1 = some r) ∧ Aside0 (kq ≤ k) ∧ Aside0 (Kd.R (Kd.int .u8) 5 w' w.heap.size (fun _ => True) v3 x3_1) ∧ Aside0 (Below w.heap.size w w'))
 case atStart => exact ⟨(y575), ((⟨#[]⟩ : ByteArray)), (0), (by first | rfl | (simp; done) | (simp [*]; done)), (by first | rfl | (simp; done) | (simp [*]; done)), H', ⟨Nat.le_refl _⟩, ⟨lf HO577⟩, ⟨bw⟩⟩
 case round =>
  clear H'
  try clear c1
  try clear p2
  obtain ⟨x3_1, x4_1, x5_1, rfl, rfl, HA, HK1, HO_3, HB⟩ := hrel
  cases gk with
  | zero => exact absurd HA.out (by simp [spec_l2Body.l0])
  | succ k1 =>
   have H := HA.out
   clear HA
   simp only [spec_l2Body.l0] at H
   by_cases c4 : x5_1 < (l0.length : Int)
   ·rw [if_pos c4] at H
    have c4b0 : decide (x5_1 < (l0.length : Int)) = true := decide_eq_true c4
    clear c4
    by_cases c5 : 0 ≤ x5_1
    ·rw [if_pos c5] at H
     have c5b0 : decide (0 ≤ x5_1) = true := decide_eq_true c5
     clear c5
     replace H := Option.bind_eq_some_iff.mp H
     obtain ⟨t580, A60, H⟩ := H
     replace H : ((spec_l2Num.f k1 (IntKind.u64.wrap (t580))).bind fun t581 => (if x3_1.length + t581.length < 140737488355328 then ((some (x3_1 ++ t581 : List Int)).bind fun y584 => (if 0 ≤ t580 then (if t580 ≤ (((rd_T35 l0 x5_1).f0).size : Int) then ((spec_l2Str.f k1 (((rd_T35 l0 x5_1).f0).extract (t580 : Int).toNat ((rd_T35 l0 x5_1).f0).size)).bind fun t587 => (if y584.length + t587.length < 140737488355328 then ((some (y584 ++ t587 : List Int)).bind fun y590 => ((spec_l2Str.f k1 ((rd_T35 l0 x5_1).f1)).bind fun t593 => (if y590.length + t593.length < 140737488355328 then ((some (y590 ++ t593 : List Int)).bind fun y596 => ((spec_l2Str.f k1 ((rd_T35 l0 x5_1).f2)).bind fun t599 => (if y596.length + t599.length < 140737488355328 then ((some (y596 ++ t599 : List Int)).bind fun y602 => ((spec_l2Num.f k1 ((rd_T35 l0 x5_1).f3)).bind fun t605 => (if y602.length + t605.length < 140737488355328 then ((some (y602 ++ t605 : List Int)).bind fun y608 => ((spec_l2Num.f k1 (IntKind.u64.wrap ((rd_T35 l0 x5_1).f4))).bind fun t611 => (if y608.length + t611.length < 140737488355328 then ((some (y608 ++ t611 : List Int)).bind fun y614 => ((spec_l2Str.f k1 ((rd_T35 l0 x5_1).f5)).bind fun t617 => (if y614.length + t617.length < 140737488355328 then (spec_l2Body.l0 k1 l0 (y614 ++ t617) ((rd_T35 l0 x5_1).f0) (wrap64 (x5_1 + 1))) else (none)))) else (none)))) else (none)))) else (none)))) else (none)))) else (none))) else (none)) else (none))) else (none))) = some r := H
     have A6 := Aside0.mk A60
     clear A60
     replace H := Option.bind_eq_some_iff.mp H
     obtain ⟨t581, A70, H⟩ := H
     replace H : (if x3_1.length + t581.length < 140737488355328 then ((some (x3_1 ++ t581 : List Int)).bind fun y584 => (if 0 ≤ t580 then (if t580 ≤ (((rd_T35 l0 x5_1).f0).size : Int) then ((spec_l2Str.f k1 (((rd_T35 l0 x5_1).f0).extract (t580 : Int).toNat ((rd_T35 l0 x5_1).f0).size)).bind fun t587 => (if y584.length + t587.length < 140737488355328 then ((some (y584 ++ t587 : List Int)).bind fun y590 => ((spec_l2Str.f k1 ((rd_T35 l0 x5_1).f1)).bind fun t593 => (if y590.length + t593.length < 140737488355328 then ((some (y590 ++ t593 : List Int)).bind fun y596 => ((spec_l2Str.f k1 ((rd_T35 l0 x5_1).f2)).bind fun t599 => (if y596.length + t599.length < 140737488355328 then ((some (y596 ++ t599 : List Int)).bind fun y602 => ((spec_l2Num.f k1 ((rd_T35 l0 x5_1).f3)).bind fun t605 => (if y602.length + t605.length < 140737488355328 then ((some (y602 ++ t605 : List Int)).bind fun y608 => ((spec_l2Num.f k1 (IntKind.u64.wrap ((rd_T35 l0 x5_1).f4))).bind fun t611 => (if y608.length + t611.length < 140737488355328 then ((some (y608 ++ t611 : List Int)).bind fun y614 => ((spec_l2Str.f k1 ((rd_T35 l0 x5_1).f5)).bind fun t617 => (if y614.length + t617.length < 140737488355328 then (spec_l2Body.l0 k1 l0 (y614 ++ t617) ((rd_T35 l0 x5_1).f0) (wrap64 (x5_1 + 1))) else (none)))) else (none)))) else (none)))) else (none)))) else (none)))) else (none))) else (none)) else (none))) else (none)) = some r := H
     have A7 := Aside0.mk A70
     clear A70
     by_cases c8 : x3_1.length + t581.length < 140737488355328
     ·rw [if_pos c8] at H
      have LMc8 := Aside0.mk c8
      clear c8
      obtain ⟨y584, hy584⟩ : ∃ y_ : List Int, y_ = (x3_1 ++ t581) := ⟨_, rfl⟩
      replace H : (if 0 ≤ t580 then (if t580 ≤ (((rd_T35 l0 x5_1).f0).size : Int) then ((spec_l2Str.f k1 (((rd_T35 l0 x5_1).f0).extract (t580 : Int).toNat ((rd_T35 l0 x5_1).f0).size)).bind fun t587 => (if y584.length + t587.length < 140737488355328 then ((some (y584 ++ t587 : List Int)).bind fun y590 => ((spec_l2Str.f k1 ((rd_T35 l0 x5_1).f1)).bind fun t593 => (if y590.length + t593.length < 140737488355328 then ((some (y590 ++ t593 : List Int)).bind fun y596 => ((spec_l2Str.f k1 ((rd_T35 l0 x5_1).f2)).bind fun t599 => (if y596.length + t599.length < 140737488355328 then ((some (y596 ++ t599 : List Int)).bind fun y602 => ((spec_l2Num.f k1 ((rd_T35 l0 x5_1).f3)).bind fun t605 => (if y602.length + t605.length < 140737488355328 then ((some (y602 ++ t605 : List Int)).bind fun y608 => ((spec_l2Num.f k1 (IntKind.u64.wrap ((rd_T35 l0 x5_1).f4))).bind fun t611 => (if y608.length + t611.length < 140737488355328 then ((some (y608 ++ t611 : List Int)).bind fun y614 => ((spec_l2Str.f k1 ((rd_T35 l0 x5_1).f5)).bind fun t617 => (if y614.length + t617.length < 140737488355328 then (spec_l2Body.l0 k1 l0 (y614 ++ t617) ((rd_T35 l0 x5_1).f0) (wrap64 (x5_1 + 1))) else (none)))) else (none)))) else (none)))) else (none)))) else (none)))) else (none))) else (none)) else (none)) = some r := by first | (rw [hy584]; with_reducible exact H) | (have H2_ := (Option.bind_some _ _).symm.trans H; rw [hy584]; with_reducible exact H2_) | (have H2_ := (Option.bind_some _ _).symm.trans H; with_reducible exact H2_) | with_reducible exact H | (rw [hy584]; exact H) | exact H
      have Ny584 := Aside0.mk hy584
      clear hy584
      by_cases c9 : 0 ≤ t580
      ·rw [if_pos c9] at H
       have c9b0 := eq_true c9
       have c9b1 : decide (0 ≤ t580) = true := decide_eq_true c9
       clear c9
       by_cases c10 : t580 ≤ (((rd_T35 l0 x5_1).f0).size : Int)
       ·rw [if_pos c10] at H
        have c10b0 := eq_true c10
        have c10b1 : decide (t580 ≤ (((rd_T35 l0 x5_1).f0).size : Int)) = true := decide_eq_true c10
        clear c10
        replace H := Option.bind_eq_some_iff.mp H
        obtain ⟨t587, A110, H⟩ := H
        replace H : (if y584.length + t587.length < 140737488355328 then ((some (y584 ++ t587 : List Int)).bind fun y590 => ((spec_l2Str.f k1 ((rd_T35 l0 x5_1).f1)).bind fun t593 => (if y590.length + t593.length < 140737488355328 then ((some (y590 ++ t593 : List Int)).bind fun y596 => ((spec_l2Str.f k1 ((rd_T35 l0 x5_1).f2)).bind fun t599 => (if y596.length + t599.length < 140737488355328 then ((some (y596 ++ t599 : List Int)).bind fun y602 => ((spec_l2Num.f k1 ((rd_T35 l0 x5_1).f3)).bind fun t605 => (if y602.length + t605.length < 140737488355328 then ((some (y602 ++ t605 : List Int)).bind fun y608 => ((spec_l2Num.f k1 (IntKind.u64.wrap ((rd_T35 l0 x5_1).f4))).bind fun t611 => (if y608.length + t611.length < 140737488355328 then ((some (y608 ++ t611 : List Int)).bind fun y614 => ((spec_l2Str.f k1 ((rd_T35 l0 x5_1).f5)).bind fun t617 => (if y614.length + t617.length < 140737488355328 then (spec_l2Body.l0 k1 l0 (y614 ++ t617) ((rd_T35 l0 x5_1).f0) (wrap64 (x5_1 + 1))) else (none)))) else (none)))) else (none)))) else (none)))) else (none)))) else (none)) = some r := H
        have A11 := Aside0.mk A110
        clear A110
        by_cases c12 : y584.length + t587.length < 140737488355328
        ·rw [if_pos c12] at H
         have LMc12 := Aside0.mk c12
         clear c12
         obtain ⟨y590, hy590⟩ : ∃ y_ : List Int, y_ = (y584 ++ t587) := ⟨_, rfl⟩
         replace H : ((spec_l2Str.f k1 ((rd_T35 l0 x5_1).f1)).bind fun t593 => (if y590.length + t593.length < 140737488355328 then ((some (y590 ++ t593 : List Int)).bind fun y596 => ((spec_l2Str.f k1 ((rd_T35 l0 x5_1).f2)).bind fun t599 => (if y596.length + t599.length < 140737488355328 then ((some (y596 ++ t599 : List Int)).bind fun y602 => ((spec_l2Num.f k1 ((rd_T35 l0 x5_1).f3)).bind fun t605 => (if y602.length + t605.length < 140737488355328 then ((some (y602 ++ t605 : List Int)).bind fun y608 => ((spec_l2Num.f k1 (IntKind.u64.wrap ((rd_T35 l0 x5_1).f4))).bind fun t611 => (if y608.length + t611.length < 140737488355328 then ((some (y608 ++ t611 : List Int)).bind fun y614 => ((spec_l2Str.f k1 ((rd_T35 l0 x5_1).f5)).bind fun t617 => (if y614.length + t617.length < 140737488355328 then (spec_l2Body.l0 k1 l0 (y614 ++ t617) ((rd_T35 l0 x5_1).f0) (wrap64 (x5_1 + 1))) else (none)))) else (none)))) else (none)))) else (none)))) else (none))) = some r := by first | (rw [hy590]; with_reducible exact H) | (have H2_ := (Option.bind_some _ _).symm.trans H; rw [hy590]; with_reducible exact H2_) | (have H2_ := (Option.bind_some _ _).symm.trans H; with_reducible exact H2_) | with_reducible exact H | (rw [hy590]; exact H) | exact H
         have Ny590 := Aside0.mk hy590
         clear hy590
         replace H := Option.bind_eq_some_iff.mp H
         obtain ⟨t593, A130, H⟩ := H
         replace H : (if y590.length + t593.length < 140737488355328 then ((some (y590 ++ t593 : List Int)).bind fun y596 => ((spec_l2Str.f k1 ((rd_T35 l0 x5_1).f2)).bind fun t599 => (if y596.length + t599.length < 140737488355328 then ((some (y596 ++ t599 : List Int)).bind fun y602 => ((spec_l2Num.f k1 ((rd_T35 l0 x5_1).f3)).bind fun t605 => (if y602.length + t605.length < 140737488355328 then ((some (y602 ++ t605 : List Int)).bind fun y608 => ((spec_l2Num.f k1 (IntKind.u64.wrap ((rd_T35 l0 x5_1).f4))).bind fun t611 => (if y608.length + t611.length < 140737488355328 then ((some (y608 ++ t611 : List Int)).bind fun y614 => ((spec_l2Str.f k1 ((rd_T35 l0 x5_1).f5)).bind fun t617 => (if y614.length + t617.length < 140737488355328 then (spec_l2Body.l0 k1 l0 (y614 ++ t617) ((rd_T35 l0 x5_1).f0) (wrap64 (x5_1 + 1))) else (none)))) else (none)))) else (none)))) else (none)))) else (none)) = some r := H
         have A13 := Aside0.mk A130
         clear A130
         by_cases c14 : y590.length + t593.length < 140737488355328
         ·rw [if_pos c14] at H
          have LMc14 := Aside0.mk c14
          clear c14
          obtain ⟨y596, hy596⟩ : ∃ y_ : List Int, y_ = (y590 ++ t593) := ⟨_, rfl⟩
          replace H : ((spec_l2Str.f k1 ((rd_T35 l0 x5_1).f2)).bind fun t599 => (if y596.length + t599.length < 140737488355328 then ((some (y596 ++ t599 : List Int)).bind fun y602 => ((spec_l2Num.f k1 ((rd_T35 l0 x5_1).f3)).bind fun t605 => (if y602.length + t605.length < 140737488355328 then ((some (y602 ++ t605 : List Int)).bind fun y608 => ((spec_l2Num.f k1 (IntKind.u64.wrap ((rd_T35 l0 x5_1).f4))).bind fun t611 => (if y608.length + t611.length < 140737488355328 then ((some (y608 ++ t611 : List Int)).bind fun y614 => ((spec_l2Str.f k1 ((rd_T35 l0 x5_1).f5)).bind fun t617 => (if y614.length + t617.length < 140737488355328 then (spec_l2Body.l0 k1 l0 (y614 ++ t617) ((rd_T35 l0 x5_1).f0) (wrap64 (x5_1 + 1))) else (none)))) else (none)))) else (none)))) else (none))) = some r := by first | (rw [hy596]; with_reducible exact H) | (have H2_ := (Option.bind_some _ _).symm.trans H; rw [hy596]; with_reducible exact H2_) | (have H2_ := (Option.bind_some _ _).symm.trans H; with_reducible exact H2_) | with_reducible exact H | (rw [hy596]; exact H) | exact H
          have Ny596 := Aside0.mk hy596
          clear hy596
          replace H := Option.bind_eq_some_iff.mp H
          obtain ⟨t599, A150, H⟩ := H
          replace H : (if y596.length + t599.length < 140737488355328 then ((some (y596 ++ t599 : List Int)).bind fun y602 => ((spec_l2Num.f k1 ((rd_T35 l0 x5_1).f3)).bind fun t605 => (if y602.length + t605.length < 140737488355328 then ((some (y602 ++ t605 : List Int)).bind fun y608 => ((spec_l2Num.f k1 (IntKind.u64.wrap ((rd_T35 l0 x5_1).f4))).bind fun t611 => (if y608.length + t611.length < 140737488355328 then ((some (y608 ++ t611 : List Int)).bind fun y614 => ((spec_l2Str.f k1 ((rd_T35 l0 x5_1).f5)).bind fun t617 => (if y614.length + t617.length < 140737488355328 then (spec_l2Body.l0 k1 l0 (y614 ++ t617) ((rd_T35 l0 x5_1).f0) (wrap64 (x5_1 + 1))) else (none)))) else (none)))) else (none)))) else (none)) = some r := H
          have A15 := Aside0.mk A150
          clear A150
          by_cases c16 : y596.length + t599.length < 140737488355328
          ·rw [if_pos c16] at H
           have LMc16 := Aside0.mk c16
           clear c16
           obtain ⟨y602, hy602⟩ : ∃ y_ : List Int, y_ = (y596 ++ t599) := ⟨_, rfl⟩
           replace H : ((spec_l2Num.f k1 ((rd_T35 l0 x5_1).f3)).bind fun t605 => (if y602.length + t605.length < 140737488355328 then ((some (y602 ++ t605 : List Int)).bind fun y608 => ((spec_l2Num.f k1 (IntKind.u64.wrap ((rd_T35 l0 x5_1).f4))).bind fun t611 => (if y608.length + t611.length < 140737488355328 then ((some (y608 ++ t611 : List Int)).bind fun y614 => ((spec_l2Str.f k1 ((rd_T35 l0 x5_1).f5)).bind fun t617 => (if y614.length + t617.length < 140737488355328 then (spec_l2Body.l0 k1 l0 (y614 ++ t617) ((rd_T35 l0 x5_1).f0) (wrap64 (x5_1 + 1))) else (none)))) else (none)))) else (none))) = some r := by first | (rw [hy602]; with_reducible exact H) | (have H2_ := (Option.bind_some _ _).symm.trans H; rw [hy602]; with_reducible exact H2_) | (have H2_ := (Option.bind_some _ _).symm.trans H; with_reducible exact H2_) | with_reducible exact H | (rw [hy602]; exact H) | exact H
           have Ny602 := Aside0.mk hy602
           clear hy602
           replace H := Option.bind_eq_some_iff.mp H
           obtain ⟨t605, A170, H⟩ := H
           replace H : (if y602.length + t605.length < 140737488355328 then ((some (y602 ++ t605 : List Int)).bind fun y608 => ((spec_l2Num.f k1 (IntKind.u64.wrap ((rd_T35 l0 x5_1).f4))).bind fun t611 => (if y608.length + t611.length < 140737488355328 then ((some (y608 ++ t611 : List Int)).bind fun y614 => ((spec_l2Str.f k1 ((rd_T35 l0 x5_1).f5)).bind fun t617 => (if y614.length + t617.length < 140737488355328 then (spec_l2Body.l0 k1 l0 (y614 ++ t617) ((rd_T35 l0 x5_1).f0) (wrap64 (x5_1 + 1))) else (none)))) else (none)))) else (none)) = some r := H
           have A17 := Aside0.mk A170
           clear A170
           by_cases c18 : y602.length + t605.length < 140737488355328
           ·rw [if_pos c18] at H
            have LMc18 := Aside0.mk c18
            clear c18
            obtain ⟨y608, hy608⟩ : ∃ y_ : List Int, y_ = (y602 ++ t605) := ⟨_, rfl⟩
            replace H : ((spec_l2Num.f k1 (IntKind.u64.wrap ((rd_T35 l0 x5_1).f4))).bind fun t611 => (if y608.length + t611.length < 140737488355328 then ((some (y608 ++ t611 : List Int)).bind fun y614 => ((spec_l2Str.f k1 ((rd_T35 l0 x5_1).f5)).bind fun t617 => (if y614.length + t617.length < 140737488355328 then (spec_l2Body.l0 k1 l0 (y614 ++ t617) ((rd_T35 l0 x5_1).f0) (wrap64 (x5_1 + 1))) else (none)))) else (none))) = some r := by first | (rw [hy608]; with_reducible exact H) | (have H2_ := (Option.bind_some _ _).symm.trans H; rw [hy608]; with_reducible exact H2_) | (have H2_ := (Option.bind_some _ _).symm.trans H; with_reducible exact H2_) | with_reducible exact H | (rw [hy608]; exact H) | exact H
            have Ny608 := Aside0.mk hy608
            clear hy608
            replace H := Option.bind_eq_some_iff.mp H
            obtain ⟨t611, A190, H⟩ := H
            replace H : (if y608.length + t611.length < 140737488355328 then ((some (y608 ++ t611 : List Int)).bind fun y614 => ((spec_l2Str.f k1 ((rd_T35 l0 x5_1).f5)).bind fun t617 => (if y614.length + t617.length < 140737488355328 then (spec_l2Body.l0 k1 l0 (y614 ++ t617) ((rd_T35 l0 x5_1).f0) (wrap64 (x5_1 + 1))) else (none)))) else (none)) = some r := H
            have A19 := Aside0.mk A190
            clear A190
            by_cases c20 : y608.length + t611.length < 140737488355328
            ·rw [if_pos c20] at H
             have LMc20 := Aside0.mk c20
             clear c20
             obtain ⟨y614, hy614⟩ : ∃ y_ : List Int, y_ = (y608 ++ t611) := ⟨_, rfl⟩
             replace H : ((spec_l2Str.f k1 ((rd_T35 l0 x5_1).f5)).bind fun t617 => (if y614.length + t617.length < 140737488355328 then (spec_l2Body.l0 k1 l0 (y614 ++ t617) ((rd_T35 l0 x5_1).f0) (wrap64 (x5_1 + 1))) else (none))) = some r := by first | (rw [hy614]; with_reducible exact H) | (have H2_ := (Option.bind_some _ _).symm.trans H; rw [hy614]; with_reducible exact H2_) | (have H2_ := (Option.bind_some _ _).symm.trans H; with_reducible exact H2_) | with_reducible exact H | (rw [hy614]; exact H) | exact H
             have Ny614 := Aside0.mk hy614
             clear hy614
             replace H := Option.bind_eq_some_iff.mp H
             obtain ⟨t617, A210, H⟩ := H
             replace H : (if y614.length + t617.length < 140737488355328 then (spec_l2Body.l0 k1 l0 (y614 ++ t617) ((rd_T35 l0 x5_1).f0) (wrap64 (x5_1 + 1))) else (none)) = some r := H
             have A21 := Aside0.mk A210
             clear A210
             by_cases c22 : y614.length + t617.length < 140737488355328
             ·rw [if_pos c22] at H
              have LMc22 := Aside0.mk c22
              clear c22
              obtain ⟨y620, hy620⟩ : ∃ y_ : List Int, y_ = (y614 ++ t617) := ⟨_, rfl⟩
              replace H : (spec_l2Body.l0 k1 l0 y620 ((rd_T35 l0 x5_1).f0) (wrap64 (x5_1 + 1))) = some r := by first | (rw [hy620]; with_reducible exact H) | (have H2_ := (Option.bind_some _ _).symm.trans H; rw [hy620]; with_reducible exact H2_) | (have H2_ := (Option.bind_some _ _).symm.trans H; with_reducible exact H2_) | with_reducible exact H | (rw [hy620]; exact H) | exact H
              have Ny620 := Aside0.mk hy620
              clear hy620
              have H' := Aside0.mk H
              clear H
              have p578 : 0 ≤ (x5_1 : Int) := of_decide_eq_true (by first | (with_reducible assumption) | assumption)
              have q578 : x5_1 < (l0.length : Int) := of_decide_eq_true (by first | (with_reducible assumption) | assumption)
              obtain ⟨ad578, e578, hx578_0, hx578_1, hx578_2, hx578_3, hx578_4, hx578_5⟩ := at_T35 HR0.out x5_1 p578 q578
              cases e578
              replace hx578_0 := (HB.out.cell (World.block_lt_of_cell? w _ hx578_0)).trans hx578_0
              replace hx578_1 := (HB.out.cell (World.block_lt_of_cell? w _ hx578_1)).trans hx578_1
              replace hx578_2 := (HB.out.cell (World.block_lt_of_cell? w _ hx578_2)).trans hx578_2
              replace hx578_3 := (HB.out.cell (World.block_lt_of_cell? w _ hx578_3)).trans hx578_3
              replace hx578_4 := (HB.out.cell (World.block_lt_of_cell? w _ hx578_4)).trans hx578_4
              replace hx578_5 := (HB.out.cell (World.block_lt_of_cell? w _ hx578_5)).trans hx578_5
              replace p578 := eq_true p578
              replace q578 := eq_true q578
              go_wp2_with (first | ((with_reducible refine gate_dst (N := 6) rfl ?_); refine box_event ?hg (N := 6) ?hd (cs := #[.string (⟨#[]⟩ : ByteArray), .string (⟨#[]⟩ : ByteArray), .string (⟨#[]⟩ : ByteArray), .int .u64 0, .int .i64 0, .string (⟨#[]⟩ : ByteArray)]) (t := 35) ?hr ?_; (case hd => rfl); (case hg => rfl); (case hr => first | (go_simp; done) | (go_simp; rfl)); intro gb579 hg w23 hbox hb; have n0_ := Aside0.mk (Kd.R_below (lf HO_3) hb); have n1_ := Aside0.mk (below_step bw hb); have n2_ := Aside0.mk (hbox); have n3_ := Aside0.mk ((by rw [hg]; exact (below_size bw) : w.heap.size ≤ gb579)); have n4_ := Aside0.mk ((by rw [hg]; exact (below_size bw) : w.heap.size ≤ gb579)); clear HO_3; clear HB; have HO_3 := n0_; have HB := n1_; have BK579 := n2_; have GW579 := n3_; have GE579 := n4_; clear n0_ n1_ n2_ n3_ n4_; clear hb hbox hg; have hcz24_0 : w23.cell? ⟨gb579, 0, none⟩ = some (.string (⟨#[]⟩ : ByteArray)) := (blk_cell BK579.out 0).trans rfl; have hcz24_1 : w23.cell? ⟨gb579, 1, none⟩ = some (.string (⟨#[]⟩ : ByteArray)) := (blk_cell BK579.out 1).trans rfl; have hcz24_2 : w23.cell? ⟨gb579, 2, none⟩ = some (.string (⟨#[]⟩ : ByteArray)) := (blk_cell BK579.out 2).trans rfl; have hcz24_3 : w23.cell? ⟨gb579, 3, none⟩ = some (.int .u64 0) := (blk_cell BK579.out 3).trans rfl; have hcz24_4 : w23.cell? ⟨gb579, 4, none⟩ = some (.int .i64 0) := (blk_cell BK579.out 4).trans rfl; have hcz24_5 : w23.cell? ⟨gb579, 5, none⟩ = some (.string (⟨#[]⟩ : ByteArray)) := (blk_cell BK579.out 5).trans rfl; have hfz24_0 := blk_frozen BK579.out 0; have hfz24_1 := blk_frozen BK579.out 1; have hfz24_2 := blk_frozen BK579.out 2; have hfz24_3 := blk_frozen BK579.out 3; have hfz24_4 := blk_frozen BK579.out 4; have hfz24_5 := blk_frozen BK579.out 5) | ((with_reducible refine at_fn (f := 126) rfl ?_); refine goesL_ (some 22) rfl rfl Try.func126 (by kernel_rfl) rfl #[.string x4_1, .string ((rd_T35 l0 x5_1).f0)] rfl (by (try simp only [List.map_toArray, List.map_cons, List.map_nil]); first | done | rfl | (simp only [List.length_drop, List.length_take]; rfl)) ?_; (with_reducible refine (spec_l2Shared.calls k1 x4_1 ((rd_T35 l0 x5_1).f0) t580 _ A6.out).mono ?_); rintro e w' ⟨rfl, ⟨nd, rfl⟩⟩; refine ⟨_, rfl, ?_⟩) | ((with_reducible refine at_fn (f := 112) rfl ?_); refine goesL_ (some 26) rfl rfl Try.func112 (by kernel_rfl) rfl #[.int .u64 (IntKind.u64.wrap (t580))] rfl (by (try simp only [List.map_toArray, List.map_cons, List.map_nil]); first | done | rfl | (simp only [List.length_drop, List.length_take]; rfl)) ?_; (with_reducible refine (spec_l2Num.calls k1 (IntKind.u64.wrap (t580)) t581 _ A7.out).mono ?_); rintro e w25 ⟨v582, rfl, ho0, hb⟩; refine ⟨_, rfl, ?_⟩; have n0_ := Aside0.mk (Kd.R_elder' (by (with_reducible repeat (first | apply Kd.R_alloc | apply Kd.R_drewN | apply Kd.R_drew)); exact (Kd.R_mono (Kd.R_far (p := ⟨gb579, 5, none⟩) (Kd.R_far (p := ⟨gb579, 4, none⟩) (Kd.R_far (p := ⟨gb579, 3, none⟩) (Kd.R_far (p := ⟨gb579, 2, none⟩) (Kd.R_far (p := ⟨gb579, 1, none⟩) (Kd.R_far (p := ⟨gb579, 0, none⟩) (Kd.R_types HO_3.out BK579.out (by decide)) (fun _ hk => hk.2) (.string ((rd_T35 l0 x5_1).f0))) (fun _ hk => hk.2) (.string ((rd_T35 l0 x5_1).f1))) (fun _ hk => hk.2) (.string ((rd_T35 l0 x5_1).f2))) (fun _ hk => hk.2) (.int .u64 ((rd_T35 l0 x5_1).f3))) (fun _ hk => hk.2) (.int .i64 ((rd_T35 l0 x5_1).f4))) (fun _ hk => hk.2) (.string ((rd_T35 l0 x5_1).f5))) (fun _ h_ => h_.1))) (Kd.R_base ho0) hb); have n1_ := Aside0.mk (Kd.R_lower (Kd.R_new' ho0 (Kd.R_lt (by (with_reducible repeat (first | apply Kd.R_alloc | apply Kd.R_drewN | apply Kd.R_drew)); exact (Kd.R_mono (Kd.R_far (p := ⟨gb579, 5, none⟩) (Kd.R_far (p := ⟨gb579, 4, none⟩) (Kd.R_far (p := ⟨gb579, 3, none⟩) (Kd.R_far (p := ⟨gb579, 2, none⟩) (Kd.R_far (p := ⟨gb579, 1, none⟩) (Kd.R_far (p := ⟨gb579, 0, none⟩) (Kd.R_types HO_3.out BK579.out (by decide)) (fun _ hk => hk.2) (.string ((rd_T35 l0 x5_1).f0))) (fun _ hk => hk.2) (.string ((rd_T35 l0 x5_1).f1))) (fun _ hk => hk.2) (.string ((rd_T35 l0 x5_1).f2))) (fun _ hk => hk.2) (.int .u64 ((rd_T35 l0 x5_1).f3))) (fun _ hk => hk.2) (.int .i64 ((rd_T35 l0 x5_1).f4))) (fun _ hk => hk.2) (.string ((rd_T35 l0 x5_1).f5))) (fun _ h_ => h_.1))))) (below_size bw)); have n2_ := Aside0.mk (blk_below (g := gb579) (o := .cells #[.string ((rd_T35 l0 x5_1).f0), .string ((rd_T35 l0 x5_1).f1), .string ((rd_T35 l0 x5_1).f2), .int .u64 ((rd_T35 l0 x5_1).f3), .int .i64 ((rd_T35 l0 x5_1).f4), .string ((rd_T35 l0 x5_1).f5)] 35 (0, 0)) (by (with_reducible repeat (first | refine blk_drewN ?_ _ | refine blk_drew ?_ | refine blk_alloc ?_ _)); refine blk_put (cs := #[.string ((rd_T35 l0 x5_1).f0), .string ((rd_T35 l0 x5_1).f1), .string ((rd_T35 l0 x5_1).f2), .int .u64 ((rd_T35 l0 x5_1).f3), .int .i64 ((rd_T35 l0 x5_1).f4), .string (⟨#[]⟩ : ByteArray)]) ?_ 5 _ rfl; (with_reducible repeat (first | refine blk_drewN ?_ _ | refine blk_drew ?_ | refine blk_alloc ?_ _)); refine blk_put (cs := #[.string ((rd_T35 l0 x5_1).f0), .string ((rd_T35 l0 x5_1).f1), .string ((rd_T35 l0 x5_1).f2), .int .u64 ((rd_T35 l0 x5_1).f3), .int .i64 0, .string (⟨#[]⟩ : ByteArray)]) ?_ 4 _ rfl; (with_reducible repeat (first | refine blk_drewN ?_ _ | refine blk_drew ?_ | refine blk_alloc ?_ _)); refine blk_put (cs := #[.string ((rd_T35 l0 x5_1).f0), .string ((rd_T35 l0 x5_1).f1), .string ((rd_T35 l0 x5_1).f2), .int .u64 0, .int .i64 0, .string (⟨#[]⟩ : ByteArray)]) ?_ 3 _ rfl; (with_reducible repeat (first | refine blk_drewN ?_ _ | refine blk_drew ?_ | refine blk_alloc ?_ _)); refine blk_put (cs := #[.string ((rd_T35 l0 x5_1).f0), .string ((rd_T35 l0 x5_1).f1), .string (⟨#[]⟩ : ByteArray), .int .u64 0, .int .i64 0, .string (⟨#[]⟩ : ByteArray)]) ?_ 2 _ rfl; (with_reducible repeat (first | refine blk_drewN ?_ _ | refine blk_drew ?_ | refine blk_alloc ?_ _)); refine blk_put (cs := #[.string ((rd_T35 l0 x5_1).f0), .string (⟨#[]⟩ : ByteArray), .string (⟨#[]⟩ : ByteArray), .int .u64 0, .int .i64 0, .string (⟨#[]⟩ : ByteArray)]) ?_ 1 _ rfl; (with_reducible repeat (first | refine blk_drewN ?_ _ | refine blk_drew ?_ | refine blk_alloc ?_ _)); refine blk_put (cs := #[.string (⟨#[]⟩ : ByteArray), .string (⟨#[]⟩ : ByteArray), .string (⟨#[]⟩ : ByteArray), .int .u64 0, .int .i64 0, .string (⟨#[]⟩ : ByteArray)]) ?_ 0 _ rfl; (with_reducible repeat (first | refine blk_drewN ?_ _ | refine blk_drew ?_ | refine blk_alloc ?_ _)); exact BK579.out) hb); have n3_ := Aside0.mk (below_step bw hb); clear HO_3; clear BK579; clear HB; have HO_3 := n0_; have HO583 := n1_; have BK579 := n2_; have HB := n3_; clear n0_ n1_ n2_ n3_; (try clear hb); (try clear hb2); (try clear hk); (try clear hi); (try clear ho0); obtain ⟨Ao27, co27, eo27⟩ := Kd.R_slice HO583.out; subst eo27) | ((with_reducible refine gate_builtin (b := .append) (xs := #[.tmp 23, .tmp 26]) rfl ?_); at_builtin; refine Kd.R_append_rows (Kd.int .u8) (w0 := w) w.heap.size rfl (.tmp 23) (.tmp 26) 38 5 (.int .u8 0) 1 rfl Try.underlying38 info5 rfl (by decide) (by omega) u3 x3_1 t581 _ _ _ (fun k_ => some k_ ≠ (.slice Ao27 t581.length co27 : Value).ownBlock) (fun _ => False) rfl rfl ?aO ?aR (fun _ _ h => h) (fun _ h => h.elim) ?aF ?aB ?aS ?aL ?_; (case aR => repeat (first | exact (Kd.R_reads' HO583.out).2.2 | (with_reducible refine Kd.C_alloc ?_ _) | (with_reducible refine Kd.C_drewN ?_ _) | (with_reducible refine Kd.C_drew ?_))); (case aB => exact bw); (case aF => exact (fun k_ hk => Kd.fresh' (Kd.R_lt (lf HO583)) k_ hk)); (case aO => exact (by (with_reducible repeat (first | apply Kd.R_alloc | apply Kd.R_drewN | apply Kd.R_drew)); exact Kd.R_mono HO_3.out (fun _ hk => hk.2))); (case aS => exact (below_size bw)); (case aL => have := LMc8.out; omega); intro v585 w26 ho hb hg hat; rw [← Ny584.out] at ho; have n0_ := Aside0.mk (blk_grown (g := gb579) (o := .cells #[.string ((rd_T35 l0 x5_1).f0), .string ((rd_T35 l0 x5_1).f1), .string ((rd_T35 l0 x5_1).f2), .int .u64 ((rd_T35 l0 x5_1).f3), .int .i64 ((rd_T35 l0 x5_1).f4), .string ((rd_T35 l0 x5_1).f5)] 35 (0, 0)) (lb BK579) hg (Kd.R_ne HO_3.out BK579.out (by decide))); have n1_ := Aside0.mk (Kd.R_after (ok := (fun _ => True)) (lf HO583) hg hat); have n2_ := Aside0.mk (hb); have n3_ := Aside0.mk (ho); clear BK579; clear HO583; clear HB; clear HO_3; have BK579 := n0_; have HO583 := n1_; have HB := n2_; have HO586 := n3_; clear n0_ n1_ n2_ n3_; clear ho hb hg hat; have hcz28_0 : w26.cell? ⟨gb579, 0, none⟩ = some (.string ((rd_T35 l0 x5_1).f0)) := (blk_cell BK579.out 0).trans rfl; have hcz28_1 : w26.cell? ⟨gb579, 1, none⟩ = some (.string ((rd_T35 l0 x5_1).f1)) := (blk_cell BK579.out 1).trans rfl; have hcz28_2 : w26.cell? ⟨gb579, 2, none⟩ = some (.string ((rd_T35 l0 x5_1).f2)) := (blk_cell BK579.out 2).trans rfl; have hcz28_3 : w26.cell? ⟨gb579, 3, none⟩ = some (.int .u64 ((rd_T35 l0 x5_1).f3)) := (blk_cell BK579.out 3).trans rfl; have hcz28_4 : w26.cell? ⟨gb579, 4, none⟩ = some (.int .i64 ((rd_T35 l0 x5_1).f4)) := (blk_cell BK579.out 4).trans rfl; have hcz28_5 : w26.cell? ⟨gb579, 5, none⟩ = some (.string ((rd_T35 l0 x5_1).f5)) := (blk_cell BK579.out 5).trans rfl; have hfz28_0 := blk_frozen BK579.out 0; have hfz28_1 := blk_frozen BK579.out 1; have hfz28_2 := blk_frozen BK579.out 2; have hfz28_3 := blk_frozen BK579.out 3; have hfz28_4 := blk_frozen BK579.out 4; have hfz28_5 := blk_frozen BK579.out 5) | ((with_reducible refine at_fn (f := 115) rfl ?_); refine goesL_ (some 33) rfl rfl Try.func115 (by kernel_rfl) rfl #[.string (((rd_T35 l0 x5_1).f0).extract (t580 : Int).toNat ((rd_T35 l0 x5_1).f0).size)] rfl (by (try simp only [List.map_toArray, List.map_cons, List.map_nil]); first | done | rfl | (simp only [List.length_drop, List.length_take]; rfl)) ?_; (with_reducible refine (spec_l2Str.calls k1 (((rd_T35 l0 x5_1).f0).extract (t580 : Int).toNat ((rd_T35 l0 x5_1).f0).size) t587 _ A11.out).mono ?_); rintro e w29 ⟨v588, rfl, ho0, hb⟩; refine ⟨_, rfl, ?_⟩; have n0_ := Aside0.mk (Kd.R_elder' (lf HO583) (Kd.R_base ho0) hb); have n1_ := Aside0.mk (Kd.R_elder' (lf HO586) (Kd.R_base ho0) hb); have n2_ := Aside0.mk (Kd.R_lower (Kd.R_new' (Kd.R_new' ho0 (Kd.R_lt (lf HO583))) (Kd.R_lt (lf HO586))) (below_size bw)); have n3_ := Aside0.mk (blk_below (g := gb579) (o := .cells #[.string ((rd_T35 l0 x5_1).f0), .string ((rd_T35 l0 x5_1).f1), .string ((rd_T35 l0 x5_1).f2), .int .u64 ((rd_T35 l0 x5_1).f3), .int .i64 ((rd_T35 l0 x5_1).f4), .string ((rd_T35 l0 x5_1).f5)] 35 (0, 0)) (lb BK579) hb); have n4_ := Aside0.mk (below_step bw hb); clear HO583; clear HO586; clear BK579; clear HB; have HO583 := n0_; have HO586 := n1_; have HO589 := n2_; have BK579 := n3_; have HB := n4_; clear n0_ n1_ n2_ n3_ n4_; (try clear hb); (try clear hb2); (try clear hk); (try clear hi); (try clear ho0); obtain ⟨Ao31, co31, eo31⟩ := Kd.R_slice HO589.out; subst eo31) | ((with_reducible refine gate_builtin (b := .append) (xs := #[.tmp 28, .tmp 33]) rfl ?_); at_builtin; refine Kd.R_append_rows (Kd.int .u8) (w0 := w) w.heap.size rfl (.tmp 28) (.tmp 33) 38 5 (.int .u8 0) 1 rfl Try.underlying38 info5 rfl (by decide) (by omega) v585 y584 t587 _ _ _ (fun k_ => some k_ ≠ (.slice Ao27 t581.length co27 : Value).ownBlock ∧ some k_ ≠ (.slice Ao31 t587.length co31 : Value).ownBlock) (fun _ => False) rfl rfl ?aO ?aR (fun _ _ h => h) (fun _ h => h.elim) ?aF ?aB ?aS ?aL ?_; (case aR => repeat (first | exact (Kd.R_reads' HO589.out).2.2 | (with_reducible refine Kd.C_alloc ?_ _) | (with_reducible refine Kd.C_drewN ?_ _) | (with_reducible refine Kd.C_drew ?_))); (case aB => exact bw); (case aF => exact (fun k_ hk => ⟨Kd.fresh' (Kd.R_lt (lf HO583)) k_ hk, Kd.fresh' (Kd.R_lt (lf HO589)) k_ hk⟩)); (case aO => exact (lf HO586)); (case aS => exact (below_size bw)); (case aL => have := LMc12.out; omega); intro v591 w30 ho hb hg hat; rw [← Ny590.out] at ho; have n0_ := Aside0.mk (blk_grown (g := gb579) (o := .cells #[.string ((rd_T35 l0 x5_1).f0), .string ((rd_T35 l0 x5_1).f1), .string ((rd_T35 l0 x5_1).f2), .int .u64 ((rd_T35 l0 x5_1).f3), .int .i64 ((rd_T35 l0 x5_1).f4), .string ((rd_T35 l0 x5_1).f5)] 35 (0, 0)) (lb BK579) hg (Kd.R_ne HO586.out BK579.out (by decide))); have n1_ := Aside0.mk (Kd.R_after (ok := (fun k_ => some k_ ≠ (.slice Ao31 t587.length co31 : Value).ownBlock)) (by (with_reducible repeat (first | apply Kd.R_alloc | apply Kd.R_drewN | apply Kd.R_drew)); exact Kd.R_mono HO583.out (fun _ hk => ⟨hk.2, hk.1.2⟩)) hg hat); have n2_ := Aside0.mk (Kd.R_after (ok := (fun k_ => some k_ ≠ (.slice Ao27 t581.length co27 : Value).ownBlock)) (by (with_reducible repeat (first | apply Kd.R_alloc | apply Kd.R_drewN | apply Kd.R_drew)); exact Kd.R_mono HO589.out (fun _ hk => ⟨hk.1.2, hk.2⟩)) hg hat); have n3_ := Aside0.mk (hb); have n4_ := Aside0.mk (ho); clear BK579; clear HO583; clear HO589; clear HB; clear HO586; have BK579 := n0_; have HO583 := n1_; have HO589 := n2_; have HB := n3_; have HO592 := n4_; clear n0_ n1_ n2_ n3_ n4_; clear ho hb hg hat; have hcz32_0 : w30.cell? ⟨gb579, 0, none⟩ = some (.string ((rd_T35 l0 x5_1).f0)) := (blk_cell BK579.out 0).trans rfl; have hcz32_1 : w30.cell? ⟨gb579, 1, none⟩ = some (.string ((rd_T35 l0 x5_1).f1)) := (blk_cell BK579.out 1).trans rfl; have hcz32_2 : w30.cell? ⟨gb579, 2, none⟩ = some (.string ((rd_T35 l0 x5_1).f2)) := (blk_cell BK579.out 2).trans rfl; have hcz32_3 : w30.cell? ⟨gb579, 3, none⟩ = some (.int .u64 ((rd_T35 l0 x5_1).f3)) := (blk_cell BK579.out 3).trans rfl; have hcz32_4 : w30.cell? ⟨gb579, 4, none⟩ = some (.int .i64 ((rd_T35 l0 x5_1).f4)) := (blk_cell BK579.out 4).trans rfl; have hcz32_5 : w30.cell? ⟨gb579, 5, none⟩ = some (.string ((rd_T35 l0 x5_1).f5)) := (blk_cell BK579.out 5).trans rfl; have hfz32_0 := blk_frozen BK579.out 0; have hfz32_1 := blk_frozen BK579.out 1; have hfz32_2 := blk_frozen BK579.out 2; have hfz32_3 := blk_frozen BK579.out 3; have hfz32_4 := blk_frozen BK579.out 4; have hfz32_5 := blk_frozen BK579.out 5) | ((with_reducible refine at_fn (f := 115) rfl ?_); refine goesL_ (some 38) rfl rfl Try.func115 (by kernel_rfl) rfl #[.string ((rd_T35 l0 x5_1).f1)] rfl (by (try simp only [List.map_toArray, List.map_cons, List.map_nil]); first | done | rfl | (simp only [List.length_drop, List.length_take]; rfl)) ?_; (with_reducible refine (spec_l2Str.calls k1 ((rd_T35 l0 x5_1).f1) t593 _ A13.out).mono ?_); rintro e w33 ⟨v594, rfl, ho0, hb⟩; refine ⟨_, rfl, ?_⟩; have n0_ := Aside0.mk (Kd.R_elder' (lf HO583) (Kd.R_base ho0) hb); have n1_ := Aside0.mk (Kd.R_elder' (lf HO589) (Kd.R_base ho0) hb); have n2_ := Aside0.mk (Kd.R_elder' (lf HO592) (Kd.R_base ho0) hb); have n3_ := Aside0.mk (Kd.R_lower (Kd.R_new' (Kd.R_new' (Kd.R_new' ho0 (Kd.R_lt (lf HO583))) (Kd.R_lt (lf HO589))) (Kd.R_lt (lf HO592))) (below_size bw)); have n4_ := Aside0.mk (blk_below (g := gb579) (o := .cells #[.string ((rd_T35 l0 x5_1).f0), .string ((rd_T35 l0 x5_1).f1), .string ((rd_T35 l0 x5_1).f2), .int .u64 ((rd_T35 l0 x5_1).f3), .int .i64 ((rd_T35 l0 x5_1).f4), .string ((rd_T35 l0 x5_1).f5)] 35 (0, 0)) (lb BK579) hb); have n5_ := Aside0.mk (below_step bw hb); clear HO583; clear HO589; clear HO592; clear BK579; clear HB; have HO583 := n0_; have HO589 := n1_; have HO592 := n2_; have HO595 := n3_; have BK579 := n4_; have HB := n5_; clear n0_ n1_ n2_ n3_ n4_ n5_; (try clear hb); (try clear hb2); (try clear hk); (try clear hi); (try clear ho0); obtain ⟨Ao35, co35, eo35⟩ := Kd.R_slice HO595.out; subst eo35) | ((with_reducible refine gate_builtin (b := .append) (xs := #[.tmp 35, .tmp 38]) rfl ?_); at_builtin; refine Kd.R_append_rows (Kd.int .u8) (w0 := w) w.heap.size rfl (.tmp 35) (.tmp 38) 38 5 (.int .u8 0) 1 rfl Try.underlying38 info5 rfl (by decide) (by omega) v591 y590 t593 _ _ _ (fun k_ => some k_ ≠ (.slice Ao27 t581.length co27 : Value).ownBlock ∧ some k_ ≠ (.slice Ao31 t587.length co31 : Value).ownBlock ∧ some k_ ≠ (.slice Ao35 t593.length co35 : Value).ownBlock) (fun _ => False) rfl rfl ?aO ?aR (fun _ _ h => h) (fun _ h => h.elim) ?aF ?aB ?aS ?aL ?_; (case aR => repeat (first | exact (Kd.R_reads' HO595.out).2.2 | (with_reducible refine Kd.C_alloc ?_ _) | (with_reducible refine Kd.C_drewN ?_ _) | (with_reducible refine Kd.C_drew ?_))); (case aB => exact bw); (case aF => exact (fun k_ hk => ⟨Kd.fresh' (Kd.R_lt (lf HO583)) k_ hk, Kd.fresh' (Kd.R_lt (lf HO589)) k_ hk, Kd.fresh' (Kd.R_lt (lf HO595)) k_ hk⟩)); (case aO => exact (by (with_reducible repeat (first | apply Kd.R_alloc | apply Kd.R_drewN | apply Kd.R_drew)); exact Kd.R_mono HO592.out (fun _ hk => ⟨hk.1.1, ⟨hk.1.2, hk.2⟩⟩))); (case aS => exact (below_size bw)); (case aL => have := LMc14.out; omega); intro v597 w34 ho hb hg hat; rw [← Ny596.out] at ho; have n0_ := Aside0.mk (blk_grown (g := gb579) (o := .cells #[.string ((rd_T35 l0 x5_1).f0), .string ((rd_T35 l0 x5_1).f1), .string ((rd_T35 l0 x5_1).f2), .int .u64 ((rd_T35 l0 x5_1).f3), .int .i64 ((rd_T35 l0 x5_1).f4), .string ((rd_T35 l0 x5_1).f5)] 35 (0, 0)) (lb BK579) hg (Kd.R_ne HO592.out BK579.out (by decide))); have n1_ := Aside0.mk (Kd.R_after (ok := (fun k_ => some k_ ≠ (.slice Ao31 t587.length co31 : Value).ownBlock ∧ some k_ ≠ (.slice Ao35 t593.length co35 : Value).ownBlock)) (by (with_reducible repeat (first | apply Kd.R_alloc | apply Kd.R_drewN | apply Kd.R_drew)); exact Kd.R_mono HO583.out (fun _ hk => ⟨⟨hk.1.1, hk.2⟩, hk.1.2⟩)) hg hat); have n2_ := Aside0.mk (Kd.R_after (ok := (fun k_ => some k_ ≠ (.slice Ao27 t581.length co27 : Value).ownBlock ∧ some k_ ≠ (.slice Ao35 t593.length co35 : Value).ownBlock)) (by (with_reducible repeat (first | apply Kd.R_alloc | apply Kd.R_drewN | apply Kd.R_drew)); exact Kd.R_mono HO589.out (fun _ hk => ⟨⟨hk.1.1, hk.2⟩, hk.1.2⟩)) hg hat); have n3_ := Aside0.mk (Kd.R_after (ok := (fun k_ => some k_ ≠ (.slice Ao27 t581.length co27 : Value).ownBlock ∧ some k_ ≠ (.slice Ao31 t587.length co31 : Value).ownBlock)) (by (with_reducible repeat (first | apply Kd.R_alloc | apply Kd.R_drewN | apply Kd.R_drew)); exact Kd.R_mono HO595.out (fun _ hk => ⟨⟨hk.1.1.2, hk.1.2⟩, hk.2⟩)) hg hat); have n4_ := Aside0.mk (hb); have n5_ := Aside0.mk (ho); clear BK579; clear HO583; clear HO589; clear HO595; clear HB; clear HO592; have BK579 := n0_; have HO583 := n1_; have HO589 := n2_; have HO595 := n3_; have HB := n4_; have HO598 := n5_; clear n0_ n1_ n2_ n3_ n4_ n5_; clear ho hb hg hat; have hcz36_0 : w34.cell? ⟨gb579, 0, none⟩ = some (.string ((rd_T35 l0 x5_1).f0)) := (blk_cell BK579.out 0).trans rfl; have hcz36_1 : w34.cell? ⟨gb579, 1, none⟩ = some (.string ((rd_T35 l0 x5_1).f1)) := (blk_cell BK579.out 1).trans rfl; have hcz36_2 : w34.cell? ⟨gb579, 2, none⟩ = some (.string ((rd_T35 l0 x5_1).f2)) := (blk_cell BK579.out 2).trans rfl; have hcz36_3 : w34.cell? ⟨gb579, 3, none⟩ = some (.int .u64 ((rd_T35 l0 x5_1).f3)) := (blk_cell BK579.out 3).trans rfl; have hcz36_4 : w34.cell? ⟨gb579, 4, none⟩ = some (.int .i64 ((rd_T35 l0 x5_1).f4)) := (blk_cell BK579.out 4).trans rfl; have hcz36_5 : w34.cell? ⟨gb579, 5, none⟩ = some (.string ((rd_T35 l0 x5_1).f5)) := (blk_cell BK579.out 5).trans rfl; have hfz36_0 := blk_frozen BK579.out 0; have hfz36_1 := blk_frozen BK579.out 1; have hfz36_2 := blk_frozen BK579.out 2; have hfz36_3 := blk_frozen BK579.out 3; have hfz36_4 := blk_frozen BK579.out 4; have hfz36_5 := blk_frozen BK579.out 5) | ((with_reducible refine at_fn (f := 115) rfl ?_); refine goesL_ (some 43) rfl rfl Try.func115 (by kernel_rfl) rfl #[.string ((rd_T35 l0 x5_1).f2)] rfl (by (try simp only [List.map_toArray, List.map_cons, List.map_nil]); first | done | rfl | (simp only [List.length_drop, List.length_take]; rfl)) ?_; (with_reducible refine (spec_l2Str.calls k1 ((rd_T35 l0 x5_1).f2) t599 _ A15.out).mono ?_); rintro e w37 ⟨v600, rfl, ho0, hb⟩; refine ⟨_, rfl, ?_⟩; have n0_ := Aside0.mk (Kd.R_elder' (lf HO583) (Kd.R_base ho0) hb); have n1_ := Aside0.mk (Kd.R_elder' (lf HO589) (Kd.R_base ho0) hb); have n2_ := Aside0.mk (Kd.R_elder' (lf HO595) (Kd.R_base ho0) hb); have n3_ := Aside0.mk (Kd.R_elder' (lf HO598) (Kd.R_base ho0) hb); have n4_ := Aside0.mk (Kd.R_lower (Kd.R_new' (Kd.R_new' (Kd.R_new' (Kd.R_new' ho0 (Kd.R_lt (lf HO583))) (Kd.R_lt (lf HO589))) (Kd.R_lt (lf HO595))) (Kd.R_lt (lf HO598))) (below_size bw)); have n5_ := Aside0.mk (blk_below (g := gb579) (o := .cells #[.string ((rd_T35 l0 x5_1).f0), .string ((rd_T35 l0 x5_1).f1), .string ((rd_T35 l0 x5_1).f2), .int .u64 ((rd_T35 l0 x5_1).f3), .int .i64 ((rd_T35 l0 x5_1).f4), .string ((rd_T35 l0 x5_1).f5)] 35 (0, 0)) (lb BK579) hb); have n6_ := Aside0.mk (below_step bw hb); clear HO583; clear HO589; clear HO595; clear HO598; clear BK579; clear HB; have HO583 := n0_; have HO589 := n1_; have HO595 := n2_; have HO598 := n3_; have HO601 := n4_; have BK579 := n5_; have HB := n6_; clear n0_ n1_ n2_ n3_ n4_ n5_ n6_; (try clear hb); (try clear hb2); (try clear hk); (try clear hi); (try clear ho0); obtain ⟨Ao39, co39, eo39⟩ := Kd.R_slice HO601.out; subst eo39) | ((with_reducible refine gate_builtin (b := .append) (xs := #[.tmp 40, .tmp 43]) rfl ?_); at_builtin; refine Kd.R_append_rows (Kd.int .u8) (w0 := w) w.heap.size rfl (.tmp 40) (.tmp 43) 38 5 (.int .u8 0) 1 rfl Try.underlying38 info5 rfl (by decide) (by omega) v597 y596 t599 _ _ _ (fun k_ => some k_ ≠ (.slice Ao27 t581.length co27 : Value).ownBlock ∧ some k_ ≠ (.slice Ao31 t587.length co31 : Value).ownBlock ∧ some k_ ≠ (.slice Ao35 t593.length co35 : Value).ownBlock ∧ some k_ ≠ (.slice Ao39 t599.length co39 : Value).ownBlock) (fun _ => False) rfl rfl ?aO ?aR (fun _ _ h => h) (fun _ h => h.elim) ?aF ?aB ?aS ?aL ?_; (case aR => repeat (first | exact (Kd.R_reads' HO601.out).2.2 | (with_reducible refine Kd.C_alloc ?_ _) | (with_reducible refine Kd.C_drewN ?_ _) | (with_reducible refine Kd.C_drew ?_))); (case aB => exact bw); (case aF => exact (fun k_ hk => ⟨Kd.fresh' (Kd.R_lt (lf HO583)) k_ hk, Kd.fresh' (Kd.R_lt (lf HO589)) k_ hk, Kd.fresh' (Kd.R_lt (lf HO595)) k_ hk, Kd.fresh' (Kd.R_lt (lf HO601)) k_ hk⟩)); (case aO => exact (by (with_reducible repeat (first | apply Kd.R_alloc | apply Kd.R_drewN | apply Kd.R_drew)); exact Kd.R_mono HO598.out (fun _ hk => ⟨hk.1.1, ⟨hk.1.2.1, ⟨hk.1.2.2, hk.2⟩⟩⟩))); (case aS => exact (below_size bw)); (case aL => have := LMc16.out; omega); intro v603 w38 ho hb hg hat; rw [← Ny602.out] at ho; have n0_ := Aside0.mk (blk_grown (g := gb579) (o := .cells #[.string ((rd_T35 l0 x5_1).f0), .string ((rd_T35 l0 x5_1).f1), .string ((rd_T35 l0 x5_1).f2), .int .u64 ((rd_T35 l0 x5_1).f3), .int .i64 ((rd_T35 l0 x5_1).f4), .string ((rd_T35 l0 x5_1).f5)] 35 (0, 0)) (lb BK579) hg (Kd.R_ne HO598.out BK579.out (by decide))); have n1_ := Aside0.mk (Kd.R_after (ok := (fun k_ => some k_ ≠ (.slice Ao31 t587.length co31 : Value).ownBlock ∧ some k_ ≠ (.slice Ao35 t593.length co35 : Value).ownBlock ∧ some k_ ≠ (.slice Ao39 t599.length co39 : Value).ownBlock)) (by (with_reducible repeat (first | apply Kd.R_alloc | apply Kd.R_drewN | apply Kd.R_drew)); exact Kd.R_mono HO583.out (fun _ hk => ⟨⟨hk.1.1.1, ⟨hk.1.1.2, hk.2⟩⟩, hk.1.2⟩)) hg hat); have n2_ := Aside0.mk (Kd.R_after (ok := (fun k_ => some k_ ≠ (.slice Ao27 t581.length co27 : Value).ownBlock ∧ some k_ ≠ (.slice Ao35 t593.length co35 : Value).ownBlock ∧ some k_ ≠ (.slice Ao39 t599.length co39 : Value).ownBlock)) (by (with_reducible repeat (first | apply Kd.R_alloc | apply Kd.R_drewN | apply Kd.R_drew)); exact Kd.R_mono HO589.out (fun _ hk => ⟨⟨hk.1.1.1, ⟨hk.1.1.2, hk.2⟩⟩, hk.1.2⟩)) hg hat); have n3_ := Aside0.mk (Kd.R_after (ok := (fun k_ => some k_ ≠ (.slice Ao27 t581.length co27 : Value).ownBlock ∧ some k_ ≠ (.slice Ao31 t587.length co31 : Value).ownBlock ∧ some k_ ≠ (.slice Ao39 t599.length co39 : Value).ownBlock)) (by (with_reducible repeat (first | apply Kd.R_alloc | apply Kd.R_drewN | apply Kd.R_drew)); exact Kd.R_mono HO595.out (fun _ hk => ⟨⟨hk.1.1.1, ⟨hk.1.1.2, hk.2⟩⟩, hk.1.2⟩)) hg hat); have n4_ := Aside0.mk (Kd.R_after (ok := (fun k_ => some k_ ≠ (.slice Ao27 t581.length co27 : Value).ownBlock ∧ some k_ ≠ (.slice Ao31 t587.length co31 : Value).ownBlock ∧ some k_ ≠ (.slice Ao35 t593.length co35 : Value).ownBlock)) (by (with_reducible repeat (first | apply Kd.R_alloc | apply Kd.R_drewN | apply Kd.R_drew)); exact Kd.R_mono HO601.out (fun _ hk => ⟨⟨hk.1.1.1.2, ⟨hk.1.1.2, hk.1.2⟩⟩, hk.2⟩)) hg hat); have n5_ := Aside0.mk (hb); have n6_ := Aside0.mk (ho); clear BK579; clear HO583; clear HO589; clear HO595; clear HO601; clear HB; clear HO598; have BK579 := n0_; have HO583 := n1_; have HO589 := n2_; have HO595 := n3_; have HO601 := n4_; have HB := n5_; have HO604 := n6_; clear n0_ n1_ n2_ n3_ n4_ n5_ n6_; clear ho hb hg hat; have hcz40_0 : w38.cell? ⟨gb579, 0, none⟩ = some (.string ((rd_T35 l0 x5_1).f0)) := (blk_cell BK579.out 0).trans rfl; have hcz40_1 : w38.cell? ⟨gb579, 1, none⟩ = some (.string ((rd_T35 l0 x5_1).f1)) := (blk_cell BK579.out 1).trans rfl; have hcz40_2 : w38.cell? ⟨gb579, 2, none⟩ = some (.string ((rd_T35 l0 x5_1).f2)) := (blk_cell BK579.out 2).trans rfl; have hcz40_3 : w38.cell? ⟨gb579, 3, none⟩ = some (.int .u64 ((rd_T35 l0 x5_1).f3)) := (blk_cell BK579.out 3).trans rfl; have hcz40_4 : w38.cell? ⟨gb579, 4, none⟩ = some (.int .i64 ((rd_T35 l0 x5_1).f4)) := (blk_cell BK579.out 4).trans rfl; have hcz40_5 : w38.cell? ⟨gb579, 5, none⟩ = some (.string ((rd_T35 l0 x5_1).f5)) := (blk_cell BK579.out 5).trans rfl; have hfz40_0 := blk_frozen BK579.out 0; have hfz40_1 := blk_frozen BK579.out 1; have hfz40_2 := blk_frozen BK579.out 2; have hfz40_3 := blk_frozen BK579.out 3; have hfz40_4 := blk_frozen BK579.out 4; have hfz40_5 := blk_frozen BK579.out 5) | ((with_reducible refine at_fn (f := 112) rfl ?_); refine goesL_ (some 48) rfl rfl Try.func112 (by kernel_rfl) rfl #[.int .u64 ((rd_T35 l0 x5_1).f3)] rfl (by (try simp only [List.map_toArray, List.map_cons, List.map_nil]); first | done | rfl | (simp only [List.length_drop, List.length_take]; rfl)) ?_; (with_reducible refine (spec_l2Num.calls k1 ((rd_T35 l0 x5_1).f3) t605 _ A17.out).mono ?_); rintro e w41 ⟨v606, rfl, ho0, hb⟩; refine ⟨_, rfl, ?_⟩; have n0_ := Aside0.mk (Kd.R_elder' (lf HO583) (Kd.R_base ho0) hb); have n1_ := Aside0.mk (Kd.R_elder' (lf HO589) (Kd.R_base ho0) hb); have n2_ := Aside0.mk (Kd.R_elder' (lf HO595) (Kd.R_base ho0) hb); have n3_ := Aside0.mk (Kd.R_elder' (lf HO601) (Kd.R_base ho0) hb); have n4_ := Aside0.mk (Kd.R_elder' (lf HO604) (Kd.R_base ho0) hb); have n5_ := Aside0.mk (Kd.R_lower (Kd.R_new' (Kd.R_new' (Kd.R_new' (Kd.R_new' (Kd.R_new' ho0 (Kd.R_lt (lf HO583))) (Kd.R_lt (lf HO589))) (Kd.R_lt (lf HO595))) (Kd.R_lt (lf HO601))) (Kd.R_lt (lf HO604))) (below_size bw)); have n6_ := Aside0.mk (blk_below (g := gb579) (o := .cells #[.string ((rd_T35 l0 x5_1).f0), .string ((rd_T35 l0 x5_1).f1), .string ((rd_T35 l0 x5_1).f2), .int .u64 ((rd_T35 l0 x5_1).f3), .int .i64 ((rd_T35 l0 x5_1).f4), .string ((rd_T35 l0 x5_1).f5)] 35 (0, 0)) (lb BK579) hb); have n7_ := Aside0.mk (below_step bw hb); clear HO583; clear HO589; clear HO595; clear HO601; clear HO604; clear BK579; clear HB; have HO583 := n0_; have HO589 := n1_; have HO595 := n2_; have HO601 := n3_; have HO604 := n4_; have HO607 := n5_; have BK579 := n6_; have HB := n7_; clear n0_ n1_ n2_ n3_ n4_ n5_ n6_ n7_; (try clear hb); (try clear hb2); (try clear hk); (try clear hi); (try clear ho0); obtain ⟨Ao43, co43, eo43⟩ := Kd.R_slice HO607.out; subst eo43) | ((with_reducible refine gate_builtin (b := .append) (xs := #[.tmp 45, .tmp 48]) rfl ?_); at_builtin; refine Kd.R_append_rows (Kd.int .u8) (w0 := w) w.heap.size rfl (.tmp 45) (.tmp 48) 38 5 (.int .u8 0) 1 rfl Try.underlying38 info5 rfl (by decide) (by omega) v603 y602 t605 _ _ _ (fun k_ => some k_ ≠ (.slice Ao27 t581.length co27 : Value).ownBlock ∧ some k_ ≠ (.slice Ao31 t587.length co31 : Value).ownBlock ∧ some k_ ≠ (.slice Ao35 t593.length co35 : Value).ownBlock ∧ some k_ ≠ (.slice Ao39 t599.length co39 : Value).ownBlock ∧ some k_ ≠ (.slice Ao43 t605.length co43 : Value).ownBlock) (fun _ => False) rfl rfl ?aO ?aR (fun _ _ h => h) (fun _ h => h.elim) ?aF ?aB ?aS ?aL ?_; (case aR => repeat (first | exact (Kd.R_reads' HO607.out).2.2 | (with_reducible refine Kd.C_alloc ?_ _) | (with_reducible refine Kd.C_drewN ?_ _) | (with_reducible refine Kd.C_drew ?_))); (case aB => exact bw); (case aF => exact (fun k_ hk => ⟨Kd.fresh' (Kd.R_lt (lf HO583)) k_ hk, Kd.fresh' (Kd.R_lt (lf HO589)) k_ hk, Kd.fresh' (Kd.R_lt (lf HO595)) k_ hk, Kd.fresh' (Kd.R_lt (lf HO601)) k_ hk, Kd.fresh' (Kd.R_lt (lf HO607)) k_ hk⟩)); (case aO => exact (by (with_reducible repeat (first | apply Kd.R_alloc | apply Kd.R_drewN | apply Kd.R_drew)); exact Kd.R_mono HO604.out (fun _ hk => ⟨hk.1.1, ⟨hk.1.2.1, ⟨hk.1.2.2.1, ⟨hk.1.2.2.2, hk.2⟩⟩⟩⟩))); (case aS => exact (below_size bw)); (case aL => have := LMc18.out; omega); intro v609 w42 ho hb hg hat; rw [← Ny608.out] at ho; have n0_ := Aside0.mk (blk_grown (g := gb579) (o := .cells #[.string ((rd_T35 l0 x5_1).f0), .string ((rd_T35 l0 x5_1).f1), .string ((rd_T35 l0 x5_1).f2), .int .u64 ((rd_T35 l0 x5_1).f3), .int .i64 ((rd_T35 l0 x5_1).f4), .string ((rd_T35 l0 x5_1).f5)] 35 (0, 0)) (lb BK579) hg (Kd.R_ne HO604.out BK579.out (by decide))); have n1_ := Aside0.mk (Kd.R_after (ok := (fun k_ => some k_ ≠ (.slice Ao31 t587.length co31 : Value).ownBlock ∧ some k_ ≠ (.slice Ao35 t593.length co35 : Value).ownBlock ∧ some k_ ≠ (.slice Ao39 t599.length co39 : Value).ownBlock ∧ some k_ ≠ (.slice Ao43 t605.length co43 : Value).ownBlock)) (by (with_reducible repeat (first | apply Kd.R_alloc | apply Kd.R_drewN | apply Kd.R_drew)); exact Kd.R_mono HO583.out (fun _ hk => ⟨⟨hk.1.1.1, ⟨hk.1.1.2.1, ⟨hk.1.1.2.2, hk.2⟩⟩⟩, hk.1.2⟩)) hg hat); have n2_ := Aside0.mk (Kd.R_after (ok := (fun k_ => some k_ ≠ (.slice Ao27 t581.length co27 : Value).ownBlock ∧ some k_ ≠ (.slice Ao35 t593.length co35 : Value).ownBlock ∧ some k_ ≠ (.slice Ao39 t599.length co39 : Value).ownBlock ∧ some k_ ≠ (.slice Ao43 t605.length co43 : Value).ownBlock)) (by (with_reducible repeat (first | apply Kd.R_alloc | apply Kd.R_drewN | apply Kd.R_drew)); exact Kd.R_mono HO589.out (fun _ hk => ⟨⟨hk.1.1.1, ⟨hk.1.1.2.1, ⟨hk.1.1.2.2, hk.2⟩⟩⟩, hk.1.2⟩)) hg hat); have n3_ := Aside0.mk (Kd.R_after (ok := (fun k_ => some k_ ≠ (.slice Ao27 t581.length co27 : Value).ownBlock ∧ some k_ ≠ (.slice Ao31 t587.length co31 : Value).ownBlock ∧ some k_ ≠ (.slice Ao39 t599.length co39 : Value).ownBlock ∧ some k_ ≠ (.slice Ao43 t605.length co43 : Value).ownBlock)) (by (with_reducible repeat (first | apply Kd.R_alloc | apply Kd.R_drewN | apply Kd.R_drew)); exact Kd.R_mono HO595.out (fun _ hk => ⟨⟨hk.1.1.1, ⟨hk.1.1.2.1, ⟨hk.1.1.2.2, hk.2⟩⟩⟩, hk.1.2⟩)) hg hat); have n4_ := Aside0.mk (Kd.R_after (ok := (fun k_ => some k_ ≠ (.slice Ao27 t581.length co27 : Value).ownBlock ∧ some k_ ≠ (.slice Ao31 t587.length co31 : Value).ownBlock ∧ some k_ ≠ (.slice Ao35 t593.length co35 : Value).ownBlock ∧ some k_ ≠ (.slice Ao43 t605.length co43 : Value).ownBlock)) (by (with_reducible repeat (first | apply Kd.R_alloc | apply Kd.R_drewN | apply Kd.R_drew)); exact Kd.R_mono HO601.out (fun _ hk => ⟨⟨hk.1.1.1, ⟨hk.1.1.2.1, ⟨hk.1.1.2.2, hk.2⟩⟩⟩, hk.1.2⟩)) hg hat); have n5_ := Aside0.mk (Kd.R_after (ok := (fun k_ => some k_ ≠ (.slice Ao27 t581.length co27 : Value).ownBlock ∧ some k_ ≠ (.slice Ao31 t587.length co31 : Value).ownBlock ∧ some k_ ≠ (.slice Ao35 t593.length co35 : Value).ownBlock ∧ some k_ ≠ (.slice Ao39 t599.length co39 : Value).ownBlock)) (by (with_reducible repeat (first | apply Kd.R_alloc | apply Kd.R_drewN | apply Kd.R_drew)); exact Kd.R_mono HO607.out (fun _ hk => ⟨⟨hk.1.1.1.1.2, ⟨hk.1.1.1.2, ⟨hk.1.1.2, hk.1.2⟩⟩⟩, hk.2⟩)) hg hat); have n6_ := Aside0.mk (hb); have n7_ := Aside0.mk (ho); clear BK579; clear HO583; clear HO589; clear HO595; clear HO601; clear HO607; clear HB; clear HO604; have BK579 := n0_; have HO583 := n1_; have HO589 := n2_; have HO595 := n3_; have HO601 := n4_; have HO607 := n5_; have HB := n6_; have HO610 := n7_; clear n0_ n1_ n2_ n3_ n4_ n5_ n6_ n7_; clear ho hb hg hat; have hcz44_0 : w42.cell? ⟨gb579, 0, none⟩ = some (.string ((rd_T35 l0 x5_1).f0)) := (blk_cell BK579.out 0).trans rfl; have hcz44_1 : w42.cell? ⟨gb579, 1, none⟩ = some (.string ((rd_T35 l0 x5_1).f1)) := (blk_cell BK579.out 1).trans rfl; have hcz44_2 : w42.cell? ⟨gb579, 2, none⟩ = some (.string ((rd_T35 l0 x5_1).f2)) := (blk_cell BK579.out 2).trans rfl; have hcz44_3 : w42.cell? ⟨gb579, 3, none⟩ = some (.int .u64 ((rd_T35 l0 x5_1).f3)) := (blk_cell BK579.out 3).trans rfl; have hcz44_4 : w42.cell? ⟨gb579, 4, none⟩ = some (.int .i64 ((rd_T35 l0 x5_1).f4)) := (blk_cell BK579.out 4).trans rfl; have hcz44_5 : w42.cell? ⟨gb579, 5, none⟩ = some (.string ((rd_T35 l0 x5_1).f5)) := (blk_cell BK579.out 5).trans rfl; have hfz44_0 := blk_frozen BK579.out 0; have hfz44_1 := blk_frozen BK579.out 1; have hfz44_2 := blk_frozen BK579.out 2; have hfz44_3 := blk_frozen BK579.out 3; have hfz44_4 := blk_frozen BK579.out 4; have hfz44_5 := blk_frozen BK579.out 5) | ((with_reducible refine at_fn (f := 112) rfl ?_); refine goesL_ (some 54) rfl rfl Try.func112 (by kernel_rfl) rfl #[.int .u64 (IntKind.u64.wrap ((rd_T35 l0 x5_1).f4))] rfl (by (try simp only [List.map_toArray, List.map_cons, List.map_nil]); first | done | rfl | (simp only [List.length_drop, List.length_take]; rfl)) ?_; (with_reducible refine (spec_l2Num.calls k1 (IntKind.u64.wrap ((rd_T35 l0 x5_1).f4)) t611 _ A19.out).mono ?_); rintro e w45 ⟨v612, rfl, ho0, hb⟩; refine ⟨_, rfl, ?_⟩; have n0_ := Aside0.mk (Kd.R_elder' (lf HO583) (Kd.R_base ho0) hb); have n1_ := Aside0.mk (Kd.R_elder' (lf HO589) (Kd.R_base ho0) hb); have n2_ := Aside0.mk (Kd.R_elder' (lf HO595) (Kd.R_base ho0) hb); have n3_ := Aside0.mk (Kd.R_elder' (lf HO601) (Kd.R_base ho0) hb); have n4_ := Aside0.mk (Kd.R_elder' (lf HO607) (Kd.R_base ho0) hb); have n5_ := Aside0.mk (Kd.R_elder' (lf HO610) (Kd.R_base ho0) hb); have n6_ := Aside0.mk (Kd.R_lower (Kd.R_new' (Kd.R_new' (Kd.R_new' (Kd.R_new' (Kd.R_new' (Kd.R_new' ho0 (Kd.R_lt (lf HO583))) (Kd.R_lt (lf HO589))) (Kd.R_lt (lf HO595))) (Kd.R_lt (lf HO601))) (Kd.R_lt (lf HO607))) (Kd.R_lt (lf HO610))) (below_size bw)); have n7_ := Aside0.mk (blk_below (g := gb579) (o := .cells #[.string ((rd_T35 l0 x5_1).f0), .string ((rd_T35 l0 x5_1).f1), .string ((rd_T35 l0 x5_1).f2), .int .u64 ((rd_T35 l0 x5_1).f3), .int .i64 ((rd_T35 l0 x5_1).f4), .string ((rd_T35 l0 x5_1).f5)] 35 (0, 0)) (lb BK579) hb); have n8_ := Aside0.mk (below_step bw hb); clear HO583; clear HO589; clear HO595; clear HO601; clear HO607; clear HO610; clear BK579; clear HB; have HO583 := n0_; have HO589 := n1_; have HO595 := n2_; have HO601 := n3_; have HO607 := n4_; have HO610 := n5_; have HO613 := n6_; have BK579 := n7_; have HB := n8_; clear n0_ n1_ n2_ n3_ n4_ n5_ n6_ n7_ n8_; (try clear hb); (try clear hb2); (try clear hk); (try clear hi); (try clear ho0); obtain ⟨Ao47, co47, eo47⟩ := Kd.R_slice HO613.out; subst eo47) | ((with_reducible refine gate_builtin (b := .append) (xs := #[.tmp 50, .tmp 54]) rfl ?_); at_builtin; refine Kd.R_append_rows (Kd.int .u8) (w0 := w) w.heap.size rfl (.tmp 50) (.tmp 54) 38 5 (.int .u8 0) 1 rfl Try.underlying38 info5 rfl (by decide) (by omega) v609 y608 t611 _ _ _ (fun k_ => some k_ ≠ (.slice Ao27 t581.length co27 : Value).ownBlock ∧ some k_ ≠ (.slice Ao31 t587.length co31 : Value).ownBlock ∧ some k_ ≠ (.slice Ao35 t593.length co35 : Value).ownBlock ∧ some k_ ≠ (.slice Ao39 t599.length co39 : Value).ownBlock ∧ some k_ ≠ (.slice Ao43 t605.length co43 : Value).ownBlock ∧ some k_ ≠ (.slice Ao47 t611.length co47 : Value).ownBlock) (fun _ => False) rfl rfl ?aO ?aR (fun _ _ h => h) (fun _ h => h.elim) ?aF ?aB ?aS ?aL ?_; (case aR => repeat (first | exact (Kd.R_reads' HO613.out).2.2 | (with_reducible refine Kd.C_alloc ?_ _) | (with_reducible refine Kd.C_drewN ?_ _) | (with_reducible refine Kd.C_drew ?_))); (case aB => exact bw); (case aF => exact (fun k_ hk => ⟨Kd.fresh' (Kd.R_lt (lf HO583)) k_ hk, Kd.fresh' (Kd.R_lt (lf HO589)) k_ hk, Kd.fresh' (Kd.R_lt (lf HO595)) k_ hk, Kd.fresh' (Kd.R_lt (lf HO601)) k_ hk, Kd.fresh' (Kd.R_lt (lf HO607)) k_ hk, Kd.fresh' (Kd.R_lt (lf HO613)) k_ hk⟩)); (case aO => exact (by (with_reducible repeat (first | apply Kd.R_alloc | apply Kd.R_drewN | apply Kd.R_drew)); exact Kd.R_mono HO610.out (fun _ hk => ⟨hk.1.1, ⟨hk.1.2.1, ⟨hk.1.2.2.1, ⟨hk.1.2.2.2.1, ⟨hk.1.2.2.2.2, hk.2⟩⟩⟩⟩⟩))); (case aS => exact (below_size bw)); (case aL => have := LMc20.out; omega); intro v615 w46 ho hb hg hat; rw [← Ny614.out] at ho; have n0_ := Aside0.mk (blk_grown (g := gb579) (o := .cells #[.string ((rd_T35 l0 x5_1).f0), .string ((rd_T35 l0 x5_1).f1), .string ((rd_T35 l0 x5_1).f2), .int .u64 ((rd_T35 l0 x5_1).f3), .int .i64 ((rd_T35 l0 x5_1).f4), .string ((rd_T35 l0 x5_1).f5)] 35 (0, 0)) (lb BK579) hg (Kd.R_ne HO610.out BK579.out (by decide))); have n1_ := Aside0.mk (Kd.R_after (ok := (fun k_ => some k_ ≠ (.slice Ao31 t587.length co31 : Value).ownBlock ∧ some k_ ≠ (.slice Ao35 t593.length co35 : Value).ownBlock ∧ some k_ ≠ (.slice Ao39 t599.length co39 : Value).ownBlock ∧ some k_ ≠ (.slice Ao43 t605.length co43 : Value).ownBlock ∧ some k_ ≠ (.slice Ao47 t611.length co47 : Value).ownBlock)) (by (with_reducible repeat (first | apply Kd.R_alloc | apply Kd.R_drewN | apply Kd.R_drew)); exact Kd.R_mono HO583.out (fun _ hk => ⟨⟨hk.1.1.1, ⟨hk.1.1.2.1, ⟨hk.1.1.2.2.1, ⟨hk.1.1.2.2.2, hk.2⟩⟩⟩⟩, hk.1.2⟩)) hg hat); have n2_ := Aside0.mk (Kd.R_after (ok := (fun k_ => some k_ ≠ (.slice Ao27 t581.length co27 : Value).ownBlock ∧ some k_ ≠ (.slice Ao35 t593.length co35 : Value).ownBlock ∧ some k_ ≠ (.slice Ao39 t599.length co39 : Value).ownBlock ∧ some k_ ≠ (.slice Ao43 t605.length co43 : Value).ownBlock ∧ some k_ ≠ (.slice Ao47 t611.length co47 : Value).ownBlock)) (by (with_reducible repeat (first | apply Kd.R_alloc | apply Kd.R_drewN | apply Kd.R_drew)); exact Kd.R_mono HO589.out (fun _ hk => ⟨⟨hk.1.1.1, ⟨hk.1.1.2.1, ⟨hk.1.1.2.2.1, ⟨hk.1.1.2.2.2, hk.2⟩⟩⟩⟩, hk.1.2⟩)) hg hat); have n3_ := Aside0.mk (Kd.R_after (ok := (fun k_ => some k_ ≠ (.slice Ao27 t581.length co27 : Value).ownBlock ∧ some k_ ≠ (.slice Ao31 t587.length co31 : Value).ownBlock ∧ some k_ ≠ (.slice Ao39 t599.length co39 : Value).ownBlock ∧ some k_ ≠ (.slice Ao43 t605.length co43 : Value).ownBlock ∧ some k_ ≠ (.slice Ao47 t611.length co47 : Value).ownBlock)) (by (with_reducible repeat (first | apply Kd.R_alloc | apply Kd.R_drewN | apply Kd.R_drew)); exact Kd.R_mono HO595.out (fun _ hk => ⟨⟨hk.1.1.1, ⟨hk.1.1.2.1, ⟨hk.1.1.2.2.1, ⟨hk.1.1.2.2.2, hk.2⟩⟩⟩⟩, hk.1.2⟩)) hg hat); have n4_ := Aside0.mk (Kd.R_after (ok := (fun k_ => some k_ ≠ (.slice Ao27 t581.length co27 : Value).ownBlock ∧ some k_ ≠ (.slice Ao31 t587.length co31 : Value).ownBlock ∧ some k_ ≠ (.slice Ao35 t593.length co35 : Value).ownBlock ∧ some k_ ≠ (.slice Ao43 t605.length co43 : Value).ownBlock ∧ some k_ ≠ (.slice Ao47 t611.length co47 : Value).ownBlock)) (by (with_reducible repeat (first | apply Kd.R_alloc | apply Kd.R_drewN | apply Kd.R_drew)); exact Kd.R_mono HO601.out (fun _ hk => ⟨⟨hk.1.1.1, ⟨hk.1.1.2.1, ⟨hk.1.1.2.2.1, ⟨hk.1.1.2.2.2, hk.2⟩⟩⟩⟩, hk.1.2⟩)) hg hat); have n5_ := Aside0.mk (Kd.R_after (ok := (fun k_ => some k_ ≠ (.slice Ao27 t581.length co27 : Value).ownBlock ∧ some k_ ≠ (.slice Ao31 t587.length co31 : Value).ownBlock ∧ some k_ ≠ (.slice Ao35 t593.length co35 : Value).ownBlock ∧ some k_ ≠ (.slice Ao39 t599.length co39 : Value).ownBlock ∧ some k_ ≠ (.slice Ao47 t611.length co47 : Value).ownBlock)) (by (with_reducible repeat (first | apply Kd.R_alloc | apply Kd.R_drewN | apply Kd.R_drew)); exact Kd.R_mono HO607.out (fun _ hk => ⟨⟨hk.1.1.1, ⟨hk.1.1.2.1, ⟨hk.1.1.2.2.1, ⟨hk.1.1.2.2.2, hk.2⟩⟩⟩⟩, hk.1.2⟩)) hg hat); have n6_ := Aside0.mk (Kd.R_after (ok := (fun k_ => some k_ ≠ (.slice Ao27 t581.length co27 : Value).ownBlock ∧ some k_ ≠ (.slice Ao31 t587.length co31 : Value).ownBlock ∧ some k_ ≠ (.slice Ao35 t593.length co35 : Value).ownBlock ∧ some k_ ≠ (.slice Ao39 t599.length co39 : Value).ownBlock ∧ some k_ ≠ (.slice Ao43 t605.length co43 : Value).ownBlock)) (by (with_reducible repeat (first | apply Kd.R_alloc | apply Kd.R_drewN | apply Kd.R_drew)); exact Kd.R_mono HO613.out (fun _ hk => ⟨⟨hk.1.1.1.1.1.2, ⟨hk.1.1.1.1.2, ⟨hk.1.1.1.2, ⟨hk.1.1.2, hk.1.2⟩⟩⟩⟩, hk.2⟩)) hg hat); have n7_ := Aside0.mk (hb); have n8_ := Aside0.mk (ho); clear BK579; clear HO583; clear HO589; clear HO595; clear HO601; clear HO607; clear HO613; clear HB; clear HO610; have BK579 := n0_; have HO583 := n1_; have HO589 := n2_; have HO595 := n3_; have HO601 := n4_; have HO607 := n5_; have HO613 := n6_; have HB := n7_; have HO616 := n8_; clear n0_ n1_ n2_ n3_ n4_ n5_ n6_ n7_ n8_; clear ho hb hg hat; have hcz48_0 : w46.cell? ⟨gb579, 0, none⟩ = some (.string ((rd_T35 l0 x5_1).f0)) := (blk_cell BK579.out 0).trans rfl; have hcz48_1 : w46.cell? ⟨gb579, 1, none⟩ = some (.string ((rd_T35 l0 x5_1).f1)) := (blk_cell BK579.out 1).trans rfl; have hcz48_2 : w46.cell? ⟨gb579, 2, none⟩ = some (.string ((rd_T35 l0 x5_1).f2)) := (blk_cell BK579.out 2).trans rfl; have hcz48_3 : w46.cell? ⟨gb579, 3, none⟩ = some (.int .u64 ((rd_T35 l0 x5_1).f3)) := (blk_cell BK579.out 3).trans rfl; have hcz48_4 : w46.cell? ⟨gb579, 4, none⟩ = some (.int .i64 ((rd_T35 l0 x5_1).f4)) := (blk_cell BK579.out 4).trans rfl; have hcz48_5 : w46.cell? ⟨gb579, 5, none⟩ = some (.string ((rd_T35 l0 x5_1).f5)) := (blk_cell BK579.out 5).trans rfl; have hfz48_0 := blk_frozen BK579.out 0; have hfz48_1 := blk_frozen BK579.out 1; have hfz48_2 := blk_frozen BK579.out 2; have hfz48_3 := blk_frozen BK579.out 3; have hfz48_4 := blk_frozen BK579.out 4; have hfz48_5 := blk_frozen BK579.out 5) | ((with_reducible refine at_fn (f := 115) rfl ?_); refine goesL_ (some 59) rfl rfl Try.func115 (by kernel_rfl) rfl #[.string ((rd_T35 l0 x5_1).f5)] rfl (by (try simp only [List.map_toArray, List.map_cons, List.map_nil]); first | done | rfl | (simp only [List.length_drop, List.length_take]; rfl)) ?_; (with_reducible refine (spec_l2Str.calls k1 ((rd_T35 l0 x5_1).f5) t617 _ A21.out).mono ?_); rintro e w49 ⟨v618, rfl, ho0, hb⟩; refine ⟨_, rfl, ?_⟩; have n0_ := Aside0.mk (Kd.R_elder' (lf HO583) (Kd.R_base ho0) hb); have n1_ := Aside0.mk (Kd.R_elder' (lf HO589) (Kd.R_base ho0) hb); have n2_ := Aside0.mk (Kd.R_elder' (lf HO595) (Kd.R_base ho0) hb); have n3_ := Aside0.mk (Kd.R_elder' (lf HO601) (Kd.R_base ho0) hb); have n4_ := Aside0.mk (Kd.R_elder' (lf HO607) (Kd.R_base ho0) hb); have n5_ := Aside0.mk (Kd.R_elder' (lf HO613) (Kd.R_base ho0) hb); have n6_ := Aside0.mk (Kd.R_elder' (lf HO616) (Kd.R_base ho0) hb); have n7_ := Aside0.mk (Kd.R_lower (Kd.R_new' (Kd.R_new' (Kd.R_new' (Kd.R_new' (Kd.R_new' (Kd.R_new' (Kd.R_new' ho0 (Kd.R_lt (lf HO583))) (Kd.R_lt (lf HO589))) (Kd.R_lt (lf HO595))) (Kd.R_lt (lf HO601))) (Kd.R_lt (lf HO607))) (Kd.R_lt (lf HO613))) (Kd.R_lt (lf HO616))) (below_size bw)); have n8_ := Aside0.mk (blk_below (g := gb579) (o := .cells #[.string ((rd_T35 l0 x5_1).f0), .string ((rd_T35 l0 x5_1).f1), .string ((rd_T35 l0 x5_1).f2), .int .u64 ((rd_T35 l0 x5_1).f3), .int .i64 ((rd_T35 l0 x5_1).f4), .string ((rd_T35 l0 x5_1).f5)] 35 (0, 0)) (lb BK579) hb); have n9_ := Aside0.mk (below_step bw hb); clear HO583; clear HO589; clear HO595; clear HO601; clear HO607; clear HO613; clear HO616; clear BK579; clear HB; have HO583 := n0_; have HO589 := n1_; have HO595 := n2_; have HO601 := n3_; have HO607 := n4_; have HO613 := n5_; have HO616 := n6_; have HO619 := n7_; have BK579 := n8_; have HB := n9_; clear n0_ n1_ n2_ n3_ n4_ n5_ n6_ n7_ n8_ n9_; (try clear hb); (try clear hb2); (try clear hk); (try clear hi); (try clear ho0); obtain ⟨Ao51, co51, eo51⟩ := Kd.R_slice HO619.out; subst eo51) | ((with_reducible refine gate_builtin (b := .append) (xs := #[.tmp 56, .tmp 59]) rfl ?_); at_builtin; refine Kd.R_append_rows (Kd.int .u8) (w0 := w) w.heap.size rfl (.tmp 56) (.tmp 59) 38 5 (.int .u8 0) 1 rfl Try.underlying38 info5 rfl (by decide) (by omega) v615 y614 t617 _ _ _ (fun k_ => some k_ ≠ (.slice Ao27 t581.length co27 : Value).ownBlock ∧ some k_ ≠ (.slice Ao31 t587.length co31 : Value).ownBlock ∧ some k_ ≠ (.slice Ao35 t593.length co35 : Value).ownBlock ∧ some k_ ≠ (.slice Ao39 t599.length co39 : Value).ownBlock ∧ some k_ ≠ (.slice Ao43 t605.length co43 : Value).ownBlock ∧ some k_ ≠ (.slice Ao47 t611.length co47 : Value).ownBlock ∧ some k_ ≠ (.slice Ao51 t617.length co51 : Value).ownBlock) (fun _ => False) rfl rfl ?aO ?aR (fun _ _ h => h) (fun _ h => h.elim) ?aF ?aB ?aS ?aL ?_; (case aR => repeat (first | exact (Kd.R_reads' HO619.out).2.2 | (with_reducible refine Kd.C_alloc ?_ _) | (with_reducible refine Kd.C_drewN ?_ _) | (with_reducible refine Kd.C_drew ?_))); (case aB => exact bw); (case aF => exact (fun k_ hk => ⟨Kd.fresh' (Kd.R_lt (lf HO583)) k_ hk, Kd.fresh' (Kd.R_lt (lf HO589)) k_ hk, Kd.fresh' (Kd.R_lt (lf HO595)) k_ hk, Kd.fresh' (Kd.R_lt (lf HO601)) k_ hk, Kd.fresh' (Kd.R_lt (lf HO607)) k_ hk, Kd.fresh' (Kd.R_lt (lf HO613)) k_ hk, Kd.fresh' (Kd.R_lt (lf HO619)) k_ hk⟩)); (case aO => exact (by (with_reducible repeat (first | apply Kd.R_alloc | apply Kd.R_drewN | apply Kd.R_drew)); exact Kd.R_mono HO616.out (fun _ hk => ⟨hk.1.1, ⟨hk.1.2.1, ⟨hk.1.2.2.1, ⟨hk.1.2.2.2.1, ⟨hk.1.2.2.2.2.1, ⟨hk.1.2.2.2.2.2, hk.2⟩⟩⟩⟩⟩⟩))); (case aS => exact (below_size bw)); (case aL => have := LMc22.out; omega); intro v621 w50 ho hb hg hat; rw [← Ny620.out] at ho; have n0_ := Aside0.mk (blk_grown (g := gb579) (o := .cells #[.string ((rd_T35 l0 x5_1).f0), .string ((rd_T35 l0 x5_1).f1), .string ((rd_T35 l0 x5_1).f2), .int .u64 ((rd_T35 l0 x5_1).f3), .int .i64 ((rd_T35 l0 x5_1).f4), .string ((rd_T35 l0 x5_1).f5)] 35 (0, 0)) (lb BK579) hg (Kd.R_ne HO616.out BK579.out (by decide))); have n1_ := Aside0.mk (Kd.R_after (ok := (fun k_ => some k_ ≠ (.slice Ao31 t587.length co31 : Value).ownBlock ∧ some k_ ≠ (.slice Ao35 t593.length co35 : Value).ownBlock ∧ some k_ ≠ (.slice Ao39 t599.length co39 : Value).ownBlock ∧ some k_ ≠ (.slice Ao43 t605.length co43 : Value).ownBlock ∧ some k_ ≠ (.slice Ao47 t611.length co47 : Value).ownBlock ∧ some k_ ≠ (.slice Ao51 t617.length co51 : Value).ownBlock)) (by (with_reducible repeat (first | apply Kd.R_alloc | apply Kd.R_drewN | apply Kd.R_drew)); exact Kd.R_mono HO583.out (fun _ hk => ⟨⟨hk.1.1.1, ⟨hk.1.1.2.1, ⟨hk.1.1.2.2.1, ⟨hk.1.1.2.2.2.1, ⟨hk.1.1.2.2.2.2, hk.2⟩⟩⟩⟩⟩, hk.1.2⟩)) hg hat); have n2_ := Aside0.mk (Kd.R_after (ok := (fun k_ => some k_ ≠ (.slice Ao27 t581.length co27 : Value).ownBlock ∧ some k_ ≠ (.slice Ao35 t593.length co35 : Value).ownBlock ∧ some k_ ≠ (.slice Ao39 t599.length co39 : Value).ownBlock ∧ some k_ ≠ (.slice Ao43 t605.length co43 : Value).ownBlock ∧ some k_ ≠ (.slice Ao47 t611.length co47 : Value).ownBlock ∧ some k_ ≠ (.slice Ao51 t617.length co51 : Value).ownBlock)) (by (with_reducible repeat (first | apply Kd.R_alloc | apply Kd.R_drewN | apply Kd.R_drew)); exact Kd.R_mono HO589.out (fun _ hk => ⟨⟨hk.1.1.1, ⟨hk.1.1.2.1, ⟨hk.1.1.2.2.1, ⟨hk.1.1.2.2.2.1, ⟨hk.1.1.2.2.2.2, hk.2⟩⟩⟩⟩⟩, hk.1.2⟩)) hg hat); have n3_ := Aside0.mk (Kd.R_after (ok := (fun k_ => some k_ ≠ (.slice Ao27 t581.length co27 : Value).ownBlock ∧ some k_ ≠ (.slice Ao31 t587.length co31 : Value).ownBlock ∧ some k_ ≠ (.slice Ao39 t599.length co39 : Value).ownBlock ∧ some k_ ≠ (.slice Ao43 t605.length co43 : Value).ownBlock ∧ some k_ ≠ (.slice Ao47 t611.length co47 : Value).ownBlock ∧ some k_ ≠ (.slice Ao51 t617.length co51 : Value).ownBlock)) (by (with_reducible repeat (first | apply Kd.R_alloc | apply Kd.R_drewN | apply Kd.R_drew)); exact Kd.R_mono HO595.out (fun _ hk => ⟨⟨hk.1.1.1, ⟨hk.1.1.2.1, ⟨hk.1.1.2.2.1, ⟨hk.1.1.2.2.2.1, ⟨hk.1.1.2.2.2.2, hk.2⟩⟩⟩⟩⟩, hk.1.2⟩)) hg hat); have n4_ := Aside0.mk (Kd.R_after (ok := (fun k_ => some k_ ≠ (.slice Ao27 t581.length co27 : Value).ownBlock ∧ some k_ ≠ (.slice Ao31 t587.length co31 : Value).ownBlock ∧ some k_ ≠ (.slice Ao35 t593.length co35 : Value).ownBlock ∧ some k_ ≠ (.slice Ao43 t605.length co43 : Value).ownBlock ∧ some k_ ≠ (.slice Ao47 t611.length co47 : Value).ownBlock ∧ some k_ ≠ (.slice Ao51 t617.length co51 : Value).ownBlock)) (by (with_reducible repeat (first | apply Kd.R_alloc | apply Kd.R_drewN | apply Kd.R_drew)); exact Kd.R_mono HO601.out (fun _ hk => ⟨⟨hk.1.1.1, ⟨hk.1.1.2.1, ⟨hk.1.1.2.2.1, ⟨hk.1.1.2.2.2.1, ⟨hk.1.1.2.2.2.2, hk.2⟩⟩⟩⟩⟩, hk.1.2⟩)) hg hat); have n5_ := Aside0.mk (Kd.R_after (ok := (fun k_ => some k_ ≠ (.slice Ao27 t581.length co27 : Value).ownBlock ∧ some k_ ≠ (.slice Ao31 t587.length co31 : Value).ownBlock ∧ some k_ ≠ (.slice Ao35 t593.length co35 : Value).ownBlock ∧ some k_ ≠ (.slice Ao39 t599.length co39 : Value).ownBlock ∧ some k_ ≠ (.slice Ao47 t611.length co47 : Value).ownBlock ∧ some k_ ≠ (.slice Ao51 t617.length co51 : Value).ownBlock)) (by (with_reducible repeat (first | apply Kd.R_alloc | apply Kd.R_drewN | apply Kd.R_drew)); exact Kd.R_mono HO607.out (fun _ hk => ⟨⟨hk.1.1.1, ⟨hk.1.1.2.1, ⟨hk.1.1.2.2.1, ⟨hk.1.1.2.2.2.1, ⟨hk.1.1.2.2.2.2, hk.2⟩⟩⟩⟩⟩, hk.1.2⟩)) hg hat); have n6_ := Aside0.mk (Kd.R_after (ok := (fun k_ => some k_ ≠ (.slice Ao27 t581.length co27 : Value).ownBlock ∧ some k_ ≠ (.slice Ao31 t587.length co31 : Value).ownBlock ∧ some k_ ≠ (.slice Ao35 t593.length co35 : Value).ownBlock ∧ some k_ ≠ (.slice Ao39 t599.length co39 : Value).ownBlock ∧ some k_ ≠ (.slice Ao43 t605.length co43 : Value).ownBlock ∧ some k_ ≠ (.slice Ao51 t617.length co51 : Value).ownBlock)) (by (with_reducible repeat (first | apply Kd.R_alloc | apply Kd.R_drewN | apply Kd.R_drew)); exact Kd.R_mono HO613.out (fun _ hk => ⟨⟨hk.1.1.1, ⟨hk.1.1.2.1, ⟨hk.1.1.2.2.1, ⟨hk.1.1.2.2.2.1, ⟨hk.1.1.2.2.2.2, hk.2⟩⟩⟩⟩⟩, hk.1.2⟩)) hg hat); have n7_ := Aside0.mk (Kd.R_after (ok := (fun k_ => some k_ ≠ (.slice Ao27 t581.length co27 : Value).ownBlock ∧ some k_ ≠ (.slice Ao31 t587.length co31 : Value).ownBlock ∧ some k_ ≠ (.slice Ao35 t593.length co35 : Value).ownBlock ∧ some k_ ≠ (.slice Ao39 t599.length co39 : Value).ownBlock ∧ some k_ ≠ (.slice Ao43 t605.length co43 : Value).ownBlock ∧ some k_ ≠ (.slice Ao47 t611.length co47 : Value).ownBlock)) (by (with_reducible repeat (first | apply Kd.R_alloc | apply Kd.R_drewN | apply Kd.R_drew)); exact Kd.R_mono HO619.out (fun _ hk => ⟨⟨hk.1.1.1.1.1.1.2, ⟨hk.1.1.1.1.1.2, ⟨hk.1.1.1.1.2, ⟨hk.1.1.1.2, ⟨hk.1.1.2, hk.1.2⟩⟩⟩⟩⟩, hk.2⟩)) hg hat); have n8_ := Aside0.mk (hb); have n9_ := Aside0.mk (ho); clear BK579; clear HO583; clear HO589; clear HO595; clear HO601; clear HO607; clear HO613; clear HO619; clear HB; clear HO616; have BK579 := n0_; have HO583 := n1_; have HO589 := n2_; have HO595 := n3_; have HO601 := n4_; have HO607 := n5_; have HO613 := n6_; have HO619 := n7_; have HB := n8_; have HO622 := n9_; clear n0_ n1_ n2_ n3_ n4_ n5_ n6_ n7_ n8_ n9_; clear ho hb hg hat; have hcz52_0 : w50.cell? ⟨gb579, 0, none⟩ = some (.string ((rd_T35 l0 x5_1).f0)) := (blk_cell BK579.out 0).trans rfl; have hcz52_1 : w50.cell? ⟨gb579, 1, none⟩ = some (.string ((rd_T35 l0 x5_1).f1)) := (blk_cell BK579.out 1).trans rfl; have hcz52_2 : w50.cell? ⟨gb579, 2, none⟩ = some (.string ((rd_T35 l0 x5_1).f2)) := (blk_cell BK579.out 2).trans rfl; have hcz52_3 : w50.cell? ⟨gb579, 3, none⟩ = some (.int .u64 ((rd_T35 l0 x5_1).f3)) := (blk_cell BK579.out 3).trans rfl; have hcz52_4 : w50.cell? ⟨gb579, 4, none⟩ = some (.int .i64 ((rd_T35 l0 x5_1).f4)) := (blk_cell BK579.out 4).trans rfl; have hcz52_5 : w50.cell? ⟨gb579, 5, none⟩ = some (.string ((rd_T35 l0 x5_1).f5)) := (blk_cell BK579.out 5).trans rfl; have hfz52_0 := blk_frozen BK579.out 0; have hfz52_1 := blk_frozen BK579.out 1; have hfz52_2 := blk_frozen BK579.out 2; have hfz52_3 := blk_frozen BK579.out 3; have hfz52_4 := blk_frozen BK579.out 4; have hfz52_5 := blk_frozen BK579.out 5))
              go_roundg k1
              case measure => have := HK1.out; omega
              case rel => exact ⟨(y620), ((rd_T35 l0 x5_1).f0), (wrap64 (x5_1 + 1)), (by first | rfl | (simp; done) | (simp [*]; done)), (by first | rfl | (simp; done) | (simp [*]; done)), H', ⟨by have := HK1.out; omega⟩, ⟨by (with_reducible repeat (first | apply Kd.R_alloc | apply Kd.R_drewN | apply Kd.R_drew)); exact Kd.R_mono HO622.out (fun _ hk => trivial)⟩, ⟨bw⟩⟩
             ·rw [if_neg c22] at H
              exact absurd H (by simp)
            ·rw [if_neg c20] at H
             exact absurd H (by simp)
           ·rw [if_neg c18] at H
            exact absurd H (by simp)
          ·rw [if_neg c16] at H
           exact absurd H (by simp)
         ·rw [if_neg c14] at H
          exact absurd H (by simp)
        ·rw [if_neg c12] at H
         exact absurd H (by simp)
       ·rw [if_neg c10] at H
        exact absurd H (by simp)
      ·rw [if_neg c9] at H
       exact absurd H (by simp)
     ·rw [if_neg c8] at H
      exact absurd H (by simp)
    ·rw [if_neg c5] at H
     exact absurd H (by simp)
   ·rw [if_neg c4] at H
    have c4b0 : decide (x5_1 < (l0.length : Int)) = false := decide_eq_false c4
    clear c4
    obtain rfl := Option.some.inj H
    go_wp2
    go_ret
    exact ⟨_, by first | rfl | (simp [errW_none, errW_some] <;> rfl) | (simp [*, errW_none, errW_some] <;> rfl), lf HO_3, bw⟩

end Go.Proofs.Ytdknjbadnbangaa.Q

namespace Go.Proofs.Ytdknjbadnbangaa.Q
open Go.RowKit Go.Proofs.YtdknjbadnbangaaW.PrintWords Go.Proofs.YtdknjbadnbangaaW.PrintLast Go.Proofs.YtdknjbadnbangaaW.PrintMore
set_option linter.unusedVariables false
set_option linter.unusedSimpArgs false

/-! ### spec_l2Fixed: function 114 -/
def spec_l2Fixed.f (a0 : Int) : Option (List Int) := some (([(Int.tmod a0 256) % 256, ((Int.tdiv a0 256) % 4294967296) % 256, ((Int.tdiv a0 65536) % 4294967296) % 256, ((Int.tdiv a0 16777216) % 4294967296) % 256] : List Int))
set_option maxHeartbeats 8000000 in
set_option maxRecDepth 100000 in
theorem spec_l2Fixed.calls (a0 : Int) (r : List Int) (w : World) (h : spec_l2Fixed.f a0 = some r) :
  Calls Try.prog 114 #[.int .u32 a0] w fun e w' => ∃ v0_ : Value, e = .returned (v0_) ∧ Kd.R (Kd.int .u8) 5 w' w.heap.size (fun _ => True) v0_ r ∧ Below w.heap.size w w' := by
 have HB := Aside0.mk (Below.refl w.heap.size w)
 have H : (some (([(Int.tmod a0 256) % 256, ((Int.tdiv a0 256) % 4294967296) % 256, ((Int.tdiv a0 65536) % 4294967296) % 256, ((Int.tdiv a0 16777216) % 4294967296) % 256] : List Int))) = some r := h
 clear h
 obtain ⟨y623, hy623⟩ : ∃ y_ : List Int, y_ = (([(Int.tmod a0 256) % 256, ((Int.tdiv a0 256) % 4294967296) % 256, ((Int.tdiv a0 65536) % 4294967296) % 256, ((Int.tdiv a0 16777216) % 4294967296) % 256] : List Int)) := ⟨_, rfl⟩
 replace H : (some y623) = some r := by first | (rw [hy623]; with_reducible exact H) | (have H2_ := (Option.bind_some _ _).symm.trans H; rw [hy623]; with_reducible exact H2_) | (have H2_ := (Option.bind_some _ _).symm.trans H; with_reducible exact H2_) | with_reducible exact H | (rw [hy623]; exact H) | exact H
 have Ny623 := Aside0.mk hy623
 clear hy623
 obtain rfl := Option.some.inj H
 go_enter Try.func114, Try.ntmps114
 go_wp2_with (first | ((with_reducible refine gate_dst (N := 17) rfl ?_); refine Kd.R_lit (Kd.int .u8) _ 5 ?hg (N := 17) ?hd (xs := ([(Int.tmod a0 256) % 256, ((Int.tdiv a0 256) % 4294967296) % 256, ((Int.tdiv a0 65536) % 4294967296) % 256, ((Int.tdiv a0 16777216) % 4294967296) % 256] : List Int)) (inner := [.int .u8 ((Int.tmod a0 256) % 256), .int .u8 (((Int.tdiv a0 256) % 4294967296) % 256), .int .u8 (((Int.tdiv a0 65536) % 4294967296) % 256), .int .u8 (((Int.tdiv a0 16777216) % 4294967296) % 256)]) (ok := fun _ => True) (okp := fun _ => True) ?hr ?hp (fun _ hk => hk) trivial (Below.refl _ _) (Nat.le_refl _) (by simp) ?_; (case hd => rfl); (case hg => rfl); (case hr => first | (go_simp; done) | (go_simp; rfl)); (case hp => exact (Reps.one (show Kd.M (Kd.int .u8) _ _ _ ((Int.tmod a0 256) % 256) [.int .u8 ((Int.tmod a0 256) % 256)] from rfl) (Reps.one (show Kd.M (Kd.int .u8) _ _ _ (((Int.tdiv a0 256) % 4294967296) % 256) [.int .u8 (((Int.tdiv a0 256) % 4294967296) % 256)] from rfl) (Reps.one (show Kd.M (Kd.int .u8) _ _ _ (((Int.tdiv a0 65536) % 4294967296) % 256) [.int .u8 (((Int.tdiv a0 65536) % 4294967296) % 256)] from rfl) (Reps.one (show Kd.M (Kd.int .u8) _ _ _ (((Int.tdiv a0 16777216) % 4294967296) % 256) [.int .u8 (((Int.tdiv a0 16777216) % 4294967296) % 256)] from rfl) (Reps.none _ _)))))); intro v624 w2 ho3 hb hg_ hnew_; clear hg_ hnew_; (first | rw [← Ny623.out] at ho3 | (simp only [Int.reduceToNat] at ho3; rw [← Ny623.out] at ho3)); have n0_ := Aside0.mk (Kd.R_lower ho3 (below_size bw)); have n1_ := Aside0.mk (below_step bw hb); clear HB; have HO625 := n0_; have HB := n1_; clear n0_ n1_; clear hb ho3))
 go_ret
 exact ⟨_, by first | rfl | (simp [errW_none, errW_some] <;> rfl) | (simp [*, errW_none, errW_some] <;> rfl), lf HO625, bw⟩

end Go.Proofs.Ytdknjbadnbangaa.Q

namespace Go.Proofs.Ytdknjbadnbangaa.Q
open Go.RowKit Go.Proofs.YtdknjbadnbangaaW.PrintWords Go.Proofs.YtdknjbadnbangaaW.PrintLast
set_option linter.unusedVariables false
set_option linter.unusedSimpArgs false
/-- A full row of bytes, somewhere behind base. -/
def Full (w : World) (base : Nat) (ok : Nat → Prop) (v : Value) (xs : List Int) : Prop :=
  ∃ g : Nat, v = .slice (some ⟨g, 0, none⟩) xs.length xs.length ∧ (0 < xs.length ∧ xs.length ≤ 9223372036854775807) ∧ base ≤ g ∧ g < w.heap.size ∧ ok g ∧ (∃ cur fz, w.heap[g]? = some (.cells cur 5 fz)) ∧ ∀ j x, xs[j]? = some x → w.cell? ((⟨g, 0, none⟩ : Addr).add j) = some (.int .u8 x)
def RF (w : World) (base : Nat) (ok : Nat → Prop) (v : Value) (xs : List Int) : Prop := Kd.R (Kd.int .u8) 5 w base ok v xs ∨ Full w base ok v xs
section
variable {w w1 : World} {base : Nat} {ok ok' : Nat → Prop} {v : Value} {xs : List Int}
theorem Full.old (h : Full w base ok v xs) (hs : w.heap.size ≤ w1.heap.size) (hb : ∀ g, v.ownBlock = some g → w1.heap[g]? = w.heap[g]?) : Full w1 base ok v xs := by
  obtain ⟨g, rfl, h0, h1, h2, h3, ⟨cur, fz, h5⟩, h4⟩ := h
  refine ⟨g, rfl, h0, h1, by omega, h3, ⟨cur, fz, (hb g rfl).trans h5⟩, fun j x hj => ?_⟩
  have e : w1.cell? ((⟨g, 0, none⟩ : Addr).add j) = w.cell? ((⟨g, 0, none⟩ : Addr).add j) := by
    unfold World.cell?
    have hbk : ((⟨g, 0, none⟩ : Addr).add j).block = g := by simp [Addr.add]; split <;> rfl
    rw [hbk, hb g rfl]
  rw [e]; exact h4 j x hj
theorem RF.of_R (h : Kd.R (Kd.int .u8) 5 w base ok v xs) : RF w base ok v xs := .inl h
theorem RF.own (h : RF w base ok v xs) : ∀ k, v.ownBlock = some k → ok k := by
  rcases h with h | ⟨g, rfl, _, _, _, h, _, _⟩
  · exact h.1
  · intro k hk; simp [Value.ownBlock] at hk; subst hk; exact h
theorem RF_mono (h : RF w base ok v xs) (hok : ∀ k, ok k → ok' k) : RF w base ok' v xs := by
  rcases h with h | ⟨g, h1, h2, h3, h4, h5, h6⟩
  · exact .inl (Kd.R_mono h hok)
  · exact .inr ⟨g, h1, h2, h3, h4, hok g h5, h6⟩
theorem Full.below (h : Full w base ok v xs) (hb : Below w.heap.size w w1) : Full w1 base ok v xs := by
  obtain ⟨g, rfl, h0, h1, h2, h3, h4⟩ := h
  exact Full.old ⟨g, rfl, h0, h1, h2, h3, h4⟩ hb.size fun k hk => hb.block k (by simp [Value.ownBlock] at hk; omega)
theorem RF_alloc (h : RF w base ok v xs) (o : Obj) : RF (w.alloc o) base ok v xs := h.elim (fun h => .inl (Kd.R_alloc h o)) (fun h => .inr (h.below (below_alloc (Below.refl _ _) o)))
theorem RF_drewN (h : RF w base ok v xs) (n : Nat) : RF (w.drewN n) base ok v xs := h.elim (fun h => .inl (Kd.R_drewN h n)) (fun h => .inr (h.below (pw_below_drewN (Below.refl _ _) n)))
theorem RF_drew (h : RF w base ok v xs) : RF w.drew base ok v xs := h.elim (fun h => .inl (Kd.R_drew h)) (fun h => .inr (h.below (below_drew1 (Below.refl _ _))))
theorem RF_below (h : RF w base ok v xs) (hb : Below w.heap.size w w1) : RF w1 base ok v xs := h.elim (fun h => .inl (Kd.R_below h hb)) (fun h => .inr (h.below hb))
theorem RF_far (h : RF w base ok v xs) {p : Addr} (hok : ∀ k, ok k → k ≠ p.block) (u : Value) : RF (w.setCell p u) base ok v xs := by
  rcases h with h | ⟨g, rfl, h0, h1, h2, h3, h5, h4⟩
  · exact .inl (Kd.R_far h hok u)
  · exact .inr (Full.old ⟨g, rfl, h0, h1, h2, h3, h5, h4⟩ (by simp) fun k hk => Below.heap_setCell w p u k (by simp [Value.ownBlock] at hk; subst hk; exact hok _ h3))
theorem RF_types (h : RF w base ok v xs) {g t : Nat} {cells : Array Value} (hb : w.heap[g]? = some (.cells cells t (0, 0))) (ht : ∀ q, q ∈ 5 :: (Kd.int .u8).E → q ≠ t) : RF w base (fun k => ok k ∧ k ≠ g) v xs := by
  rcases h with h | ⟨g', rfl, h0, h1, h2, h3, ⟨cur, fz, h5⟩, h4⟩
  · exact .inl (Kd.R_types h hb ht)
  · refine .inr ⟨g', rfl, h0, h1, h2, ⟨h3, fun e => ?_⟩, ⟨cur, fz, h5⟩, h4⟩
    subst e
    rw [h5] at hb
    injection hb with hb
    injection hb with _ hb
    exact ht 5 List.mem_cons_self hb
theorem RF_tight (hE : (Kd.int .u8).E = []) (h : RF w base ok v xs) : RF w base (fun k => some k = v.ownBlock) v xs := by
  rcases h with h | ⟨g, rfl, h0, h1, h2, h3, h5, h4⟩
  · exact .inl (Kd.R_tight hE h)
  · exact .inr ⟨g, rfl, h0, h1, h2, rfl, h5, h4⟩
theorem RF_ne (h : RF w base ok v xs) {g t : Nat} {cells : Array Value} (hb : w.heap[g]? = some (.cells cells t (0, 0))) (ht : 5 ≠ t) : some g ≠ v.ownBlock := by
  rcases h with h | ⟨g', rfl, h0, h1, h2, h3, ⟨cur, fz, h5⟩, h4⟩
  · exact Kd.R_ne h hb ht
  · intro e
    simp [Value.ownBlock] at e
    subst e
    rw [h5] at hb
    injection hb with hb
    injection hb with _ hb
    exact ht hb
theorem RF_lt (h : RF w base ok v xs) : ∀ k, v.ownBlock = some k → k < w.heap.size := by
  rcases h with h | ⟨g, rfl, h0, h1, h2, h3, h5, h4⟩
  · exact Kd.R_lt h
  · intro k hk; simp [Value.ownBlock] at hk; omega
theorem RF_base (h : RF w base ok v xs) : ∀ k, v.ownBlock = some k → base ≤ k := by
  rcases h with h | ⟨g, rfl, h0, h1, h2, h3, h5, h4⟩
  · exact Kd.R_base h
  · intro k hk; simp [Value.ownBlock] at hk; omega
theorem RF_elder' {u : Value} (hu : RF w base ok v xs) (hbase : ∀ k, u.ownBlock = some k → w.heap.size ≤ k) (hb : Below w.heap.size w w1) : RF w1 base (fun k => ok k ∧ some k ≠ u.ownBlock) v xs := by
  rcases hu with h | ⟨g, rfl, h0, h1, h2, h3, h5, h4⟩
  · exact .inl (Kd.R_elder' h hbase hb)
  · refine .inr (Full.below ⟨g, rfl, h0, h1, h2, ⟨h3, fun e => ?_⟩, h5, h4⟩ hb)
    have := hbase g e.symm
    omega
theorem RF_lower {base' : Nat} (h : RF w base ok v xs) (hb : base' ≤ base) : RF w base' ok v xs := by
  rcases h with h | ⟨g, rfl, h0, h1, h2, h3, h5, h4⟩
  · exact .inl (Kd.R_lower h hb)
  · exact .inr ⟨g, rfl, h0, by omega, h2, h3, h5, h4⟩
theorem RF_kept {S : Nat → Prop} (h : RF w base ok v xs) (hk : Kept w w1 S) (hne : ∀ k, ok k → ¬ S k) : RF w1 base ok v xs := by
  rcases h with h | ⟨g, rfl, h0, h1, h2, h3, h5, h4⟩
  · exact .inl (Kd.R_kept h hk hne)
  · exact .inr (Full.old ⟨g, rfl, h0, h1, h2, h3, h5, h4⟩ hk.1 fun k hk' => by simp [Value.ownBlock] at hk'; subst hk'; exact hk.2 _ h2 (hne _ h3))
theorem RF_keptB {S : Nat → Prop} (h : RF w base ok v xs) (hk : Kept w w1 S) (hne : ∀ k, ok k → ¬ S k) : RF w1 base (fun k => ok k ∧ (¬ S k ∧ k < w.heap.size)) v xs := by
  rcases h with h | ⟨g, rfl, h0, h1, h2, h3, h5, h4⟩
  · exact .inl (Kd.R_keptB h hk hne)
  · exact RF_kept (.inr ⟨g, rfl, h0, h1, h2, ⟨h3, hne g h3, h2⟩, h5, h4⟩) hk (fun _ hk => hk.2.1)
theorem RF_reads' {A : Option Addr} {n c : Nat} (h : RF w base ok (.slice A n c) xs) : n = xs.length ∧ n ≤ c ∧ Kd.C (Kd.int .u8) w A xs.length xs := by
  rcases h with h | ⟨g, e, h0, h1, h2, h3, h5, h4⟩
  · exact Kd.R_reads' h
  · injection e with e1 e2 e3
    subst e1 e2 e3
    refine ⟨rfl, Nat.le_refl _, Kd.C_of_reads (d := (0 : Int)) ⟨rfl, ?_, fun _ => ⟨_, rfl, fun j hj => ?_⟩⟩⟩
    · exact h0.2
    · rw [List.getD_eq_getElem?_getD, List.getElem?_eq_getElem hj]
      exact h4 j _ (List.getElem?_eq_getElem hj)
theorem RF_slice (h : RF w base ok v xs) : ∃ A c, v = .slice A xs.length c := h.elim Kd.R_slice fun ⟨g, e, _⟩ => ⟨_, _, e⟩
end
section
variable {P : Program} {ops : Array Oper} {rest : List Oper} {o : Oper} {a : Act} {Q : Exit → Act → World → Prop}
/-- What an append to a full row leaves. -/
theorem full_grown (w : World) (base e : Nat) (n m : Nat) (xs : List Value) (hx : xs.length = n + m) (cap : Nat) (hc : n + m ≤ cap) (hcm : cap ≤ maxLen) (hbase : base ≤ w.heap.size) (zs : Array Value) (hz : zs.size = cap - (n + m)) :
    (w.drew.alloc (.cells (xs.toArray ++ zs) e)).ownsRow base e 1 (.slice (some ⟨w.heap.size, 0, none⟩) (n + m) cap) (n + m) xs := by
  refine ⟨by omega, .inr ⟨w.heap.size, cap, _, rfl, hbase, heap_alloc_new w.drew _, hc, hcm, ?_, ?_⟩⟩
  · simp only [Array.size_append, List.size_toArray, hz, hx]; omega
  · rw [Nat.mul_one, ← hx]; simp
/-- append to a full row, of a row that is read. -/
theorem full_append_rows {w0 W : World} (base : Nat) (hgd : o.guard = none) (s x : Operand) (t e : TypeId)
    (ho : o.op = .call { callee := .builtin .append, args := #[s, x], argTypes := #[t, t] })
    (ht : P.underlying t = some (.slice e)) (hinfo : (P.info? e).map (fun i => (i.zero, i.size, i.bytes)) = some (some (.int .u8 0), 1, 1))
    (b1 b2 : Addr) (n m c : Nat) (xs ys : List Value) (hxl : xs.length = n) (hyl : ys.length = m) (hs : a.eval s = .slice (some b1) n n) (hx : a.eval x = .slice (some b2) m c)
    (hcx : ∀ j u, xs[j]? = some u → W.cell? (b1.add j) = some u) (hcy : ∀ j u, ys[j]? = some u → W.cell? (b2.add j) = some u)
    (HB : Below base w0 W) (hbase : base ≤ W.heap.size) (hm : 0 < m) (hl : n + m ≤ 140737488355328)
    (h : ∀ v1 w1, w1.ownsRow base e 1 v1 (n + m) (xs ++ ys) → Below base w0 w1 → (∀ row, W.grownBy w1 row) → v1.ownBlock = some W.heap.size → wpList P ops Q rest (a.put o.dst v1) w1) :
    wpList P ops Q (o :: rest) a W := by
  obtain ⟨i0, hi, hzz⟩ := Option.map_eq_some_iff.1 hinfo
  simp only [Prod.mk.injEq] at hzz
  obtain ⟨hz0, hz1, hz2⟩ := hzz
  refine wpList_plain hgd fun K hK => ?_
  have hr := run_append_grow (P := P) W t o.type e i0 (.int .u8 0) ht hi hz0 b1 n n xs (by rw [hz1]; omega) hcx b2 m c ys (by rw [hz1]; omega) hcy (by omega) (by omega) (by rw [hz2]; exact growslice_fits (by omega) (by omega))
  have hge := grownCap_ge W (n + m) n e
  have hcm : grownCap W (n + m) n e ≤ maxLen := grownCap_le_maxLen W (n + m) n e (by simp only [maxLen]; omega)
  have hgr : ∀ row, W.grownBy (W.drew.alloc (.cells (xs.toArray ++ ys.toArray ++ Builtin.zeroCells (Value.int .u8 0).cells (grownCap W (n + m) n e - (n + m))) e)) row := fun row => ⟨rfl, rfl, rfl, by simp, fun k hk _ => heap_alloc_old W.drew _ hk⟩
  have hz1' : (Value.int IntKind.u8 0).cells.size = 1 := rfl
  unfold Oper.wp execOp
  simp only [ho, resolve, invoke, builtin, Sem.run_bind, Sem.run_pure, Result.andThen_ok, List.map_toArray, List.map_cons, List.map_nil, hs, hx, hr]
  refine hK _ _ (h _ _ ?_ (HB.grown (hgr none) hbase (fun k hk => by cases hk)) hgr rfl)
  have h1 := full_grown W base e n m (xs ++ ys) (by simp [hxl, hyl]) (grownCap W (n + m) n e) hge hcm hbase (Builtin.zeroCells (Value.int .u8 0).cells (grownCap W (n + m) n e - (n + m))) (by rw [size_zeroCells, hz1']; omega)
  have e1 : (xs ++ ys).toArray = xs.toArray ++ ys.toArray := by simp
  rw [e1] at h1
  exact h1
/-- The same event as 'Kd.R_append', from what may be full. -/
theorem RF_append {w0 W : World} (base : Nat) (hgd : o.guard = none) (s x : Operand) (t e : TypeId) (z : Value) (bytes : Nat)
    (ho : o.op = .call { callee := .builtin .append, args := #[s, x], argTypes := #[t, t] })
    (ht : P.underlying t = some (.slice e)) (hinfo : (P.info? e).map (fun i => (i.zero, i.size, i.bytes)) = some (some z, 1, bytes)) (hz : z.cells.size = 1) (hs0 : 0 < 1) (hb0 : 0 < bytes)
    (v : Value) (xs : List Int) (p : Int) (cs : List Value) (ok okp : Nat → Prop) (hs : a.eval s = v) (hx : a.eval x = .slice (some ⟨W.heap.size, 0, none⟩) 1 1) (hp : (Kd.int .u8).M W base okp p cs) (hokp : ∀ k, okp k → ok k ∧ some k ≠ v.ownBlock) (hfresh : ∀ k, W.heap.size ≤ k → ok k)
    (HO : RF W base ok v xs) (HB : Below base w0 W) (hbase : base ≤ W.heap.size) (hl : (xs.length + 1) * bytes ≤ 140737488355328) (he : e = 5) (hzv : z = .int .u8 0) (hby : bytes = 1)
    (h : ∀ v1 w1, Kd.R (Kd.int .u8) 5 w1 base ok v1 (xs ++ [p]) → Below base w0 w1 → W.grownBy w1 v.ownBlock → (v1.ownBlock = v.ownBlock ∨ ∃ b, v1.ownBlock = some b ∧ W.heap.size ≤ b) → wpList P ops Q rest (a.put o.dst v1) w1) :
    wpList P ops Q (o :: rest) a (W.alloc (.cells cs.toArray e)) := by
  subst he hzv hby
  rcases HO with HO | ⟨g, rfl, h0, h1, h2, h3, h5, h4⟩
  · exact Kd.R_append (Kd.int .u8) base hgd s x t 5 _ 1 ho ht hinfo hz hs0 hb0 v xs p cs ok okp hs hx hp hokp hfresh HO HB hbase hl h
  · have hcs : cs = [.int .u8 p] := hp
    subst hcs
    have hw1 : Below W.heap.size W (W.alloc (.cells [Value.int .u8 p].toArray 5)) := below_alloc (Below.refl _ _) _
    have hF : Full (W.alloc (.cells [Value.int .u8 p].toArray 5)) base ok (.slice (some ⟨g, 0, none⟩) xs.length xs.length) xs := Full.below ⟨g, rfl, h0, h1, h2, h3, h5, h4⟩ hw1
    obtain ⟨g', e', _, _, _, _, _, h4'⟩ := hF
    simp only [Value.slice.injEq, Option.some.injEq, Addr.mk.injEq, and_true] at e'
    subst e'
    refine full_append_rows (w0 := w0) base hgd s x t 5 ho ht hinfo ⟨g, 0, none⟩ ⟨W.heap.size, 0, none⟩ xs.length 1 1 (nums .u8 xs) [.int .u8 p] (by simp [nums]) rfl hs hx ?_ ?_ (HB.alloc hbase _) (by have := hw1.size; omega) (by omega) (by omega) ?_
    · intro j u hu
      unfold nums at hu
      rw [List.getElem?_map] at hu
      obtain ⟨y, hy, rfl⟩ := Option.map_eq_some_iff.mp hu
      exact h4' j y hy
    · intro j u hu
      have := World.news_of_block (cs := [Value.int .u8 p].toArray) (t := 5) (fr := (0, 0)) (heap_alloc_new W (.cells [Value.int .u8 p].toArray 5))
      exact this j u (by simpa using hu)
    · intro v1 w1 hown hb hg hat
      have hsz := hw1.size
      refine h v1 w1 (Kd.R_of_own (h1 := fun _ => rfl) (by simpa [nums, encs] using hown) (fun k hk => ?_)) hb (World.grownBy.trans (World.grownBy_alloc W _ _) (hg _)) (.inr ⟨_, hat, hsz⟩)
      rw [hat] at hk
      exact hfresh k (by simp at hk; omega)
/-- The same event as 'Kd.R_append_rows', from what may be full: nothing appended leaves it so. -/
theorem RF_append_both {w0 W : World} (base : Nat) (hgd : o.guard = none) (s x : Operand) (t e : TypeId) (z : Value) (bytes : Nat)
    (ho : o.op = .call { callee := .builtin .append, args := #[s, x], argTypes := #[t, t] })
    (ht : P.underlying t = some (.slice e)) (hinfo : (P.info? e).map (fun i => (i.zero, i.size, i.bytes)) = some (some z, 1, bytes)) (hz : z.cells.size = 1) (hs0 : 0 < 1) (hb0 : 0 < bytes)
    (v : Value) (xs ys : List Int) (A : Option Addr) (m c : Nat) (ok okp : Nat → Prop) (hs : a.eval s = v) (hx : a.eval x = .slice A m c)
    (HO : RF W base ok v xs) (HR : Kd.C (Kd.int .u8) W A m ys) (hokp : ∀ k, okp k → ok k ∧ some k ≠ v.ownBlock) (hfresh : ∀ k, W.heap.size ≤ k → ok k)
    (HB : Below base w0 W) (hbase : base ≤ W.heap.size) (hl : (xs.length + m) * bytes ≤ 140737488355328) (he : e = 5) (hzv : z = .int .u8 0) (hby : bytes = 1)
    (h : ∀ v1 w1, RF w1 base ok v1 (xs ++ ys) → (0 < m → Kd.R (Kd.int .u8) 5 w1 base ok v1 (xs ++ ys)) → Below base w0 w1 → W.grownBy w1 v.ownBlock → (v1.ownBlock = v.ownBlock ∨ ∃ b, v1.ownBlock = some b ∧ W.heap.size ≤ b) → wpList P ops Q rest (a.put o.dst v1) w1) :
    wpList P ops Q (o :: rest) a W := by
  subst he hzv hby
  rcases HO with HO | ⟨g, rfl, h0, h1, h2, h3, h5, h4⟩
  · exact Kd.R_append_rows (Kd.int .u8) base hgd s x t 5 _ 1 ho ht hinfo hz hs0 hb0 v xs ys A m c ok okp hs hx HO HR (fun _ _ h => h) hokp hfresh HB hbase hl (fun v1 w1 hR hb hg hat => h v1 w1 (.inl hR) (fun _ => hR) hb hg hat)
  · have hrd := Kd.reads_of_C (d := (0 : Int)) HR
    have hyl : ys.length = m := hrd.1
    by_cases hm : m = 0
    · subst hm
      obtain rfl : ys = [] := List.eq_nil_of_length_eq_zero hyl
      obtain ⟨i0, hi, hzz⟩ := Option.map_eq_some_iff.1 hinfo
      simp only [Prod.mk.injEq] at hzz
      obtain ⟨hz0, hz1, hz2⟩ := hzz
      refine wpList_plain hgd fun K hK => ?_
      have hr : (Builtin.append_ #[t, t] o.type #[.slice (some ⟨g, 0, none⟩) xs.length xs.length, .slice A 0 c]).run P W = .ok (.slice (some ⟨g, 0, none⟩) xs.length xs.length) W := by
        cases A <;> simp [Builtin.append_, run_underlying ht, sizeOf, typeInfo, hi, Builtin.lenOf, Builtin.firstCells, loadCells, loadCellsFrom, storeCells, hz1]
      unfold Oper.wp execOp
      simp only [ho, resolve, invoke, builtin, Sem.run_bind, Sem.run_pure, Result.andThen_ok, List.map_toArray, List.map_cons, List.map_nil, hs, hx, hr]
      refine hK _ _ (h _ _ (.inr ⟨g, by simp, by simpa using h0, h1, h2, h3, h5, by simpa using h4⟩) (fun q => absurd q (by omega)) HB (World.grownBy.refl W _) (.inl rfl))
    · obtain ⟨ad, rfl, hc⟩ := hrd.2.2 (by omega)
      refine full_append_rows (w0 := w0) base hgd s x t 5 ho ht hinfo ⟨g, 0, none⟩ ad xs.length m c (nums .u8 xs) (nums .u8 ys) (by simp [nums]) (by simp [nums, hyl]) hs hx ?_ ?_ HB hbase (by omega) (by omega) ?_
      · intro j u hu
        unfold nums at hu
        rw [List.getElem?_map] at hu
        obtain ⟨y, hy, rfl⟩ := Option.map_eq_some_iff.mp hu
        exact h4 j y hy
      · intro j u hu
        unfold nums at hu
        rw [List.getElem?_map] at hu
        obtain ⟨y, hy, rfl⟩ := Option.map_eq_some_iff.mp hu
        obtain ⟨hjl, hjy⟩ := List.getElem?_eq_some_iff.1 hy
        have := hc j (by omega)
        rw [List.getD_eq_getElem?_getD, hy] at this
        simpa using this
      · intro v1 w1 hown hb hg hat
        have hR : Kd.R (Kd.int .u8) 5 w1 base ok v1 (xs ++ ys) := by
          refine Kd.R_of_own (h1 := fun _ => rfl) ?_ (fun k hk => ?_)
          · have e1 : (xs ++ ys).length = xs.length + m := by rw [List.length_append, hyl]
            rw [e1]
            simpa [nums, encs] using hown
          · rw [hat] at hk
            exact hfresh k (by simp at hk; omega)
        exact h v1 w1 (.inl hR) (fun _ => hR) hb (hg _) (.inr ⟨_, hat, Nat.le_refl _⟩)
theorem RF_append_rows (d : Kd Int) (hd : d = Kd.int .u8) {w0 W : World} (base : Nat) (hgd : o.guard = none) (s x : Operand) (t e : TypeId) (z : Value) (bytes : Nat)
    (ho : o.op = .call { callee := .builtin .append, args := #[s, x], argTypes := #[t, t] })
    (ht : P.underlying t = some (.slice e)) (hinfo : (P.info? e).map (fun i => (i.zero, i.size, i.bytes)) = some (some z, 1, bytes)) (hz : z.cells.size = 1) (hs0 : 0 < 1) (hb0 : 0 < bytes)
    (v : Value) (xs ys : List Int) (A : Option Addr) (m c : Nat) (ok okp : Nat → Prop) (hs : a.eval s = v) (hx : a.eval x = .slice A m c)
    (HO : RF W base ok v xs) (HR : Kd.C (Kd.int .u8) W A m ys) (hokp : ∀ k, okp k → ok k ∧ some k ≠ v.ownBlock) (hfresh : ∀ k, W.heap.size ≤ k → ok k)
    (HB : Below base w0 W) (hbase : base ≤ W.heap.size) (hl : (xs.length + m) * bytes ≤ 140737488355328) (he : e = 5) (hzv : z = .int .u8 0) (hby : bytes = 1)
    (h : ∀ v1 w1, RF w1 base ok v1 (xs ++ ys) → Below base w0 w1 → W.grownBy w1 v.ownBlock → (v1.ownBlock = v.ownBlock ∨ ∃ b, v1.ownBlock = some b ∧ W.heap.size ≤ b) → wpList P ops Q rest (a.put o.dst v1) w1) :
    wpList P ops Q (o :: rest) a W := RF_append_both base hgd s x t e z bytes ho ht hinfo hz hs0 hb0 v xs ys A m c ok okp hs hx HO HR hokp hfresh HB hbase hl he hzv hby (fun v1 w1 h1 _ => h v1 w1 h1)
theorem RF_append_rows1 (d : Kd Int) (hd : d = Kd.int .u8) {w0 W : World} (base : Nat) (hgd : o.guard = none) (s x : Operand) (t e : TypeId) (z : Value) (bytes : Nat)
    (ho : o.op = .call { callee := .builtin .append, args := #[s, x], argTypes := #[t, t] })
    (ht : P.underlying t = some (.slice e)) (hinfo : (P.info? e).map (fun i => (i.zero, i.size, i.bytes)) = some (some z, 1, bytes)) (hz : z.cells.size = 1) (hs0 : 0 < 1) (hb0 : 0 < bytes)
    (v : Value) (xs ys : List Int) (A : Option Addr) (m c : Nat) (ok okp : Nat → Prop) (hs : a.eval s = v) (hx : a.eval x = .slice A m c)
    (HO : RF W base ok v xs) (HR : Kd.C (Kd.int .u8) W A m ys) (hokp : ∀ k, okp k → ok k ∧ some k ≠ v.ownBlock) (hfresh : ∀ k, W.heap.size ≤ k → ok k)
    (HB : Below base w0 W) (hbase : base ≤ W.heap.size) (hl : (xs.length + m) * bytes ≤ 140737488355328) (he : e = 5) (hzv : z = .int .u8 0) (hby : bytes = 1) (hm : 0 < m)
    (h : ∀ v1 w1, Kd.R (Kd.int .u8) 5 w1 base ok v1 (xs ++ ys) → Below base w0 w1 → W.grownBy w1 v.ownBlock → (v1.ownBlock = v.ownBlock ∨ ∃ b, v1.ownBlock = some b ∧ W.heap.size ≤ b) → wpList P ops Q rest (a.put o.dst v1) w1) :
    wpList P ops Q (o :: rest) a W := RF_append_both base hgd s x t e z bytes ho ht hinfo hz hs0 hb0 v xs ys A m c ok okp hs hx HO HR hokp hfresh HB hbase hl he hzv hby (fun v1 w1 _ h1 => h v1 w1 (h1 hm))
end
/-! a constant's bytes: a row that is made, and marked -/
def marked (w : World) (e : TypeId) (xs : List Int) : World := (w.alloc (.cells (nums .u8 xs).toArray e)).freeze ⟨w.heap.size, xs.length, none⟩ 1
theorem mark_lit {P : Program} (w : World) (e t : TypeId) {xs : List Int} (hx : 0 < xs.length) (hx2 : xs.length ≤ 9223372036854775807) (ht : P.underlying t = some (.slice e)) (he : P.underlying e = some (.int .u8)) :
    (convert t t (.slice (some ⟨w.heap.size, 0, none⟩) xs.length xs.length)).run P (w.alloc (.cells (nums .u8 xs).toArray e)) = .ok (.slice (some ⟨w.heap.size, 0, none⟩) xs.length xs.length) (marked w e xs) ∧
      (e = 5 → RF (marked w e xs) w.heap.size (fun _ => True) (.slice (some ⟨w.heap.size, 0, none⟩) xs.length xs.length) xs) ∧ Below w.heap.size w (marked w e xs) := by
  have hsh : (w.alloc (.cells (nums .u8 xs).toArray e)).shape? w.heap.size = some (e, xs.length) := by
    simp [World.shape?, World.alloc, -World.alloc_eq, nums]
  have hnew : (marked w e xs).heap[w.heap.size]? = some (.cells (nums .u8 xs).toArray e (xs.length, xs.length + 1)) := by
    simp [marked, World.freeze, World.alloc, -World.alloc_eq]
    rw [Array.getElem_modify_self]
    simp
  have hold : ∀ k, k < w.heap.size → (marked w e xs).heap[k]? = w.heap[k]? := by
    intro k hk
    have h1 : w.heap.size ≠ k := by omega
    simp [marked, World.freeze, World.alloc, -World.alloc_eq, Array.getElem?_modify, Array.getElem?_push, h1, Ne.symm h1]
  have hsz : (marked w e xs).heap.size = w.heap.size + 1 := by simp [marked, World.freeze, World.alloc, -World.alloc_eq]
  refine ⟨?_, fun e5 => ?_, ⟨rfl, rfl, rfl, by omega, hold⟩⟩
  · simp [convert, run_underlying ht, run_underlying he, markStringish, hsh, marked, Result.andThen]
  · subst e5
    refine .inr ⟨w.heap.size, rfl, ⟨hx, hx2⟩, Nat.le_refl _, by omega, trivial, ⟨_, _, hnew⟩, fun j x hj => ?_⟩
    have hb : ((⟨w.heap.size, 0, none⟩ : Addr).add j) = ⟨w.heap.size, j, none⟩ := by simp [Addr.add]; omega
    rw [hb]
    simp [World.cell?, hnew, nums, hj]
theorem lit_facts {P : Program} {w W : World} {g : Nat} {o : Obj} {t : TypeId} (xs : List Int) (hx : 0 < xs.length) (hx2 : xs.length ≤ 9223372036854775807) (ht : P.underlying t = some (.slice 5)) (he : P.underlying 5 = some (.int .u8)) (hB : Below w.heap.size w W) (hK : W.heap[g]? = some o) :
    (convert t t (.slice (some ⟨W.heap.size, 0, none⟩) xs.length xs.length)).run P (W.alloc (.cells (nums .u8 xs).toArray 5)) = .ok (.slice (some ⟨W.heap.size, 0, none⟩) xs.length xs.length) (marked W 5 xs) ∧
      RF (marked W 5 xs) w.heap.size (fun _ => True) (.slice (some ⟨W.heap.size, 0, none⟩) xs.length xs.length) xs ∧ Below w.heap.size w (marked W 5 xs) ∧ (marked W 5 xs).heap[g]? = some o := by
  obtain ⟨h1, h2, h3⟩ := mark_lit W 5 t hx hx2 ht he
  exact ⟨h1, RF_lower (h2 rfl) hB.size, below_step hB h3, (h3.block g (Array.getElem?_eq_some_iff.mp hK).1).trans hK⟩
end Go.Proofs.Ytdknjbadnbangaa.Q

namespace Go.Proofs.Ytdknjbadnbangaa.Q
open Go.RowKit Go.Proofs.YtdknjbadnbangaaW.PrintWords Go.Proofs.YtdknjbadnbangaaW.PrintLast Go.Proofs.YtdknjbadnbangaaW.PrintMore
set_option linter.unusedVariables false
set_option linter.unusedSimpArgs false

/-! ### spec_l2File: function 88 -/
def spec_l2File.l0 : Nat → List (List (S35)) → List Int → List Int → Int → Option (List Int)
 | 0, _, _, _, _ => none
 | k + 1, x0, x3, x4, x5 => if x5 < (x0.length : Int) then (if 0 ≤ x5 then ((spec_l2Body.f k (rd_L7 x0 x5)).bind fun t633 => (if x3.length + t633.length < 140737488355328 then ((some (x3 ++ t633 : List Int)).bind fun y636 => ((spec_Crc32.f k t633).bind fun t639 => ((spec_l2Fixed.f t639).bind fun t640 => (if y636.length + t640.length < 140737488355328 then ((spec_l2Num.f k (IntKind.u64.wrap ((t633.length : Int)))).bind fun t646 => (if x4.length + t646.length < 140737488355328 then ((some (x4 ++ t646 : List Int)).bind fun y649 => ((spec_l2Num.f k (IntKind.u64.wrap (((rd_L7 x0 x5).length : Int)))).bind fun t653 => (if y649.length + t653.length < 140737488355328 then ((some (y649 ++ t653 : List Int)).bind fun y656 => (if 0 < ((rd_L7 x0 x5).length : Int) then ((spec_l2Str.f k ((rd_T35 (rd_L7 x0 x5) 0).f0)).bind fun t661 => (if y656.length + t661.length < 140737488355328 then (spec_l2File.l0 k x0 (y636 ++ t640) (y656 ++ t661) (wrap64 (x5 + 1))) else (none))) else (none))) else (none)))) else (none))) else (none))))) else (none))) else (none)) else (if x3.length + x4.length < 140737488355328 then ((some (x3 ++ x4 : List Int)).bind fun y667 => ((spec_Crc32.f k x4).bind fun t670 => ((spec_l2Fixed.f t670).bind fun t671 => (if y667.length + t671.length < 140737488355328 then ((some (y667 ++ t671 : List Int)).bind fun y674 => ((spec_l2Fixed.f (((x4.length : Int)) % 4294967296)).bind fun t677 => (if y674.length + t677.length < 140737488355328 then (some (y674 ++ t677)) else (none)))) else (none))))) else (none))
def spec_l2File.f (k : Nat) (l0 : List (List (S35))) : Option (List Int) := (spec_l2Num.f k (IntKind.u64.wrap ((l0.length : Int)))).bind fun t629 => (spec_l2File.l0 k l0 (([82, 85, 78, 49] : List Int)) t629 0)
set_option maxHeartbeats 8000000 in
set_option maxRecDepth 100000 in
theorem spec_l2File.calls (k : Nat) (A0 : Option Addr) (c0 : Nat) (l0 : List (List (S35))) (r : List Int) (w : World) (hr0 : Kd.C (Kd.slice 35 k35) w A0 l0.length l0) (hc0 : l0.length ≤ c0) (h : spec_l2File.f k l0 = some r) :
  Calls Try.prog 88 #[.slice A0 l0.length c0] w fun e w' => ∃ v0_ : Value, e = .returned (v0_) ∧ Kd.R (Kd.int .u8) 5 w' w.heap.size (fun _ => True) v0_ r ∧ Below w.heap.size w w' := by
 have HR0 := Aside0.mk hr0
 have HC0 := Aside0.mk hc0
 clear hr0 hc0
 have HB := Aside0.mk (Below.refl w.heap.size w)
 have H : ((spec_l2Num.f k (IntKind.u64.wrap ((l0.length : Int)))).bind fun t629 => (spec_l2File.l0 k l0 (([82, 85, 78, 49] : List Int)) t629 0)) = some r := h
 clear h
 obtain ⟨y626, hy626⟩ : ∃ y_ : List Int, y_ = (([82, 85, 78, 49] : List Int)) := ⟨_, rfl⟩
 replace H : ((spec_l2Num.f k (IntKind.u64.wrap ((l0.length : Int)))).bind fun t629 => (spec_l2File.l0 k l0 y626 t629 0)) = some r := by first | (rw [hy626]; with_reducible exact H) | (have H2_ := (Option.bind_some _ _).symm.trans H; rw [hy626]; with_reducible exact H2_) | (have H2_ := (Option.bind_some _ _).symm.trans H; with_reducible exact H2_) | with_reducible exact H | (rw [hy626]; exact H) | exact H
 have Ny626 := Aside0.mk hy626
 clear hy626
 replace H := Option.bind_eq_some_iff.mp H
 obtain ⟨t629, A20, H⟩ := H
 replace H : (spec_l2File.l0 k l0 y626 t629 0) = some r := H
 have A2 := Aside0.mk A20
 clear A20
 have H' := Aside0.mk H
 clear H
 go_enter Try.func88, Try.ntmps88
 have hmark := mark_lit w 5 38 (xs := ([82, 85, 78, 49] : List Int)) (by decide) (by decide) Try.underlying38 Try.underlying5
 have hm1 : (convert 38 38 (.slice (some ⟨w.heap.size, 0, none⟩) 4 4)).run Try.prog (w.alloc (.cells #[.int .u8 82, .int .u8 85, .int .u8 78, .int .u8 49] 5)) = .ok (.slice (some ⟨w.heap.size, 0, none⟩) 4 4) (marked w 5 [82, 85, 78, 49]) := hmark.1
 have HO628 : Aside0 (RF (marked w 5 [82, 85, 78, 49]) w.heap.size (fun _ => True) (.slice (some ⟨w.heap.size, 0, none⟩) 4 4) y626) := ⟨by rw [Ny626.out]; exact hmark.2.1 rfl⟩
 have HB := Aside0.mk hmark.2.2
 clear hmark
 go_wp2_with (((with_reducible refine at_fn (f := 112) rfl ?_); refine goesL_ (some 12) rfl rfl Try.func112 (by kernel_rfl) rfl #[.int .u64 (IntKind.u64.wrap ((l0.length : Int)))] rfl (by (try simp only [List.map_toArray, List.map_cons, List.map_nil]); first | done | rfl | (simp only [List.length_drop, List.length_take]; rfl)) ?_; (with_reducible refine (spec_l2Num.calls k (IntKind.u64.wrap ((l0.length : Int))) t629 _ A2.out).mono ?_); rintro e w5 ⟨v630, rfl, ho0, hb⟩; refine ⟨_, rfl, ?_⟩; have n0_ := Aside0.mk (RF_elder' (by (with_reducible repeat (first | apply RF_alloc | apply RF_drewN | apply RF_drew)); exact HO628.out) (Kd.R_base ho0) hb); have n1_ := Aside0.mk (Kd.R_lower (Kd.R_new' ho0 (RF_lt (by (with_reducible repeat (first | apply RF_alloc | apply RF_drewN | apply RF_drew)); exact HO628.out))) (below_size bw)); have n2_ := Aside0.mk (below_step bw hb); clear HO628; clear HB; have HO628 := n0_; have HO631 := n1_; have HB := n2_; clear n0_ n1_ n2_; (try clear hb); (try clear hb2); (try clear hk); (try clear hi); (try clear ho0)))
 go_loopg [3, 4, 5] k (fun kq v3 v4 v5 w' => ∃ (x3_1 : List Int) (x4_1 : List Int) (x5_1 : Int), v5 = .int .i64 x5_1 ∧ Aside0 (spec_l2File.l0 kq l0 x3_1 x4_1 x5_1 = some r) ∧ Aside0 (kq ≤ k) ∧ Aside0 (RF w' w.heap.size (fun k_ => some k_ ≠ (v4 : Value).ownBlock) v3 x3_1) ∧ Aside0 (Kd.R (Kd.int .u8) 5 w' w.heap.size (fun k_ => some k_ ≠ (v3 : Value).ownBlock) v4 x4_1) ∧ Aside0 (Below w.heap.size w w'))
 case atStart => exact ⟨(y626), (t629), (0), (by first | rfl | (simp; done) | (simp [*]; done)), H', ⟨Nat.le_refl _⟩, ⟨by (with_reducible repeat (first | apply Kd.R_alloc | apply Kd.R_drewN | apply Kd.R_drew)); exact RF_mono HO628.out (fun _ hk => hk.2)⟩, ⟨by (with_reducible repeat (first | apply Kd.R_alloc | apply Kd.R_drewN | apply Kd.R_drew)); exact Kd.R_mono HO631.out (fun _ hk => hk.2)⟩, ⟨bw⟩⟩
 case round =>
  clear H'
  try clear c1
  try clear p2
  obtain ⟨x3_1, x4_1, x5_1, rfl, HA, HK1, HO_3, HO_4, HB⟩ := hrel
  cases gk with
  | zero => exact absurd HA.out (by simp [spec_l2File.l0])
  | succ k1 =>
   have H := HA.out
   clear HA
   simp only [spec_l2File.l0] at H
   by_cases c6 : x5_1 < (l0.length : Int)
   ·rw [if_pos c6] at H
    have c6b0 : decide (x5_1 < (l0.length : Int)) = true := decide_eq_true c6
    clear c6
    by_cases c7 : 0 ≤ x5_1
    ·rw [if_pos c7] at H
     have c7b0 : decide (0 ≤ x5_1) = true := decide_eq_true c7
     clear c7
     replace H := Option.bind_eq_some_iff.mp H
     obtain ⟨t633, A80, H⟩ := H
     replace H : (if x3_1.length + t633.length < 140737488355328 then ((some (x3_1 ++ t633 : List Int)).bind fun y636 => ((spec_Crc32.f k1 t633).bind fun t639 => ((spec_l2Fixed.f t639).bind fun t640 => (if y636.length + t640.length < 140737488355328 then ((spec_l2Num.f k1 (IntKind.u64.wrap ((t633.length : Int)))).bind fun t646 => (if x4_1.length + t646.length < 140737488355328 then ((some (x4_1 ++ t646 : List Int)).bind fun y649 => ((spec_l2Num.f k1 (IntKind.u64.wrap (((rd_L7 l0 x5_1).length : Int)))).bind fun t653 => (if y649.length + t653.length < 140737488355328 then ((some (y649 ++ t653 : List Int)).bind fun y656 => (if 0 < ((rd_L7 l0 x5_1).length : Int) then ((spec_l2Str.f k1 ((rd_T35 (rd_L7 l0 x5_1) 0).f0)).bind fun t661 => (if y656.length + t661.length < 140737488355328 then (spec_l2File.l0 k1 l0 (y636 ++ t640) (y656 ++ t661) (wrap64 (x5_1 + 1))) else (none))) else (none))) else (none)))) else (none))) else (none))))) else (none)) = some r := H
     have A8 := Aside0.mk A80
     clear A80
     by_cases c9 : x3_1.length + t633.length < 140737488355328
     ·rw [if_pos c9] at H
      have LMc9 := Aside0.mk c9
      clear c9
      obtain ⟨y636, hy636⟩ : ∃ y_ : List Int, y_ = (x3_1 ++ t633) := ⟨_, rfl⟩
      replace H : ((spec_Crc32.f k1 t633).bind fun t639 => ((spec_l2Fixed.f t639).bind fun t640 => (if y636.length + t640.length < 140737488355328 then ((spec_l2Num.f k1 (IntKind.u64.wrap ((t633.length : Int)))).bind fun t646 => (if x4_1.length + t646.length < 140737488355328 then ((some (x4_1 ++ t646 : List Int)).bind fun y649 => ((spec_l2Num.f k1 (IntKind.u64.wrap (((rd_L7 l0 x5_1).length : Int)))).bind fun t653 => (if y649.length + t653.length < 140737488355328 then ((some (y649 ++ t653 : List Int)).bind fun y656 => (if 0 < ((rd_L7 l0 x5_1).length : Int) then ((spec_l2Str.f k1 ((rd_T35 (rd_L7 l0 x5_1) 0).f0)).bind fun t661 => (if y656.length + t661.length < 140737488355328 then (spec_l2File.l0 k1 l0 (y636 ++ t640) (y656 ++ t661) (wrap64 (x5_1 + 1))) else (none))) else (none))) else (none)))) else (none))) else (none)))) = some r := by first | (rw [hy636]; with_reducible exact H) | (have H2_ := (Option.bind_some _ _).symm.trans H; rw [hy636]; with_reducible exact H2_) | (have H2_ := (Option.bind_some _ _).symm.trans H; with_reducible exact H2_) | with_reducible exact H | (rw [hy636]; exact H) | exact H
      have Ny636 := Aside0.mk hy636
      clear hy636
      replace H := Option.bind_eq_some_iff.mp H
      obtain ⟨t639, A100, H⟩ := H
      replace H : ((spec_l2Fixed.f t639).bind fun t640 => (if y636.length + t640.length < 140737488355328 then ((spec_l2Num.f k1 (IntKind.u64.wrap ((t633.length : Int)))).bind fun t646 => (if x4_1.length + t646.length < 140737488355328 then ((some (x4_1 ++ t646 : List Int)).bind fun y649 => ((spec_l2Num.f k1 (IntKind.u64.wrap (((rd_L7 l0 x5_1).length : Int)))).bind fun t653 => (if y649.length + t653.length < 140737488355328 then ((some (y649 ++ t653 : List Int)).bind fun y656 => (if 0 < ((rd_L7 l0 x5_1).length : Int) then ((spec_l2Str.f k1 ((rd_T35 (rd_L7 l0 x5_1) 0).f0)).bind fun t661 => (if y656.length + t661.length < 140737488355328 then (spec_l2File.l0 k1 l0 (y636 ++ t640) (y656 ++ t661) (wrap64 (x5_1 + 1))) else (none))) else (none))) else (none)))) else (none))) else (none))) = some r := H
      have A10 := Aside0.mk A100
      clear A100
      replace H := Option.bind_eq_some_iff.mp H
      obtain ⟨t640, A110, H⟩ := H
      replace H : (if y636.length + t640.length < 140737488355328 then ((spec_l2Num.f k1 (IntKind.u64.wrap ((t633.length : Int)))).bind fun t646 => (if x4_1.length + t646.length < 140737488355328 then ((some (x4_1 ++ t646 : List Int)).bind fun y649 => ((spec_l2Num.f k1 (IntKind.u64.wrap (((rd_L7 l0 x5_1).length : Int)))).bind fun t653 => (if y649.length + t653.length < 140737488355328 then ((some (y649 ++ t653 : List Int)).bind fun y656 => (if 0 < ((rd_L7 l0 x5_1).length : Int) then ((spec_l2Str.f k1 ((rd_T35 (rd_L7 l0 x5_1) 0).f0)).bind fun t661 => (if y656.length + t661.length < 140737488355328 then (spec_l2File.l0 k1 l0 (y636 ++ t640) (y656 ++ t661) (wrap64 (x5_1 + 1))) else (none))) else (none))) else (none)))) else (none))) else (none)) = some r := H
      have A11 := Aside0.mk A110
      clear A110
      by_cases c12 : y636.length + t640.length < 140737488355328
      ·rw [if_pos c12] at H
       have LMc12 := Aside0.mk c12
       clear c12
       obtain ⟨y643, hy643⟩ : ∃ y_ : List Int, y_ = (y636 ++ t640) := ⟨_, rfl⟩
       replace H : ((spec_l2Num.f k1 (IntKind.u64.wrap ((t633.length : Int)))).bind fun t646 => (if x4_1.length + t646.length < 140737488355328 then ((some (x4_1 ++ t646 : List Int)).bind fun y649 => ((spec_l2Num.f k1 (IntKind.u64.wrap (((rd_L7 l0 x5_1).length : Int)))).bind fun t653 => (if y649.length + t653.length < 140737488355328 then ((some (y649 ++ t653 : List Int)).bind fun y656 => (if 0 < ((rd_L7 l0 x5_1).length : Int) then ((spec_l2Str.f k1 ((rd_T35 (rd_L7 l0 x5_1) 0).f0)).bind fun t661 => (if y656.length + t661.length < 140737488355328 then (spec_l2File.l0 k1 l0 y643 (y656 ++ t661) (wrap64 (x5_1 + 1))) else (none))) else (none))) else (none)))) else (none))) = some r := by first | (rw [hy643]; with_reducible exact H) | (have H2_ := (Option.bind_some _ _).symm.trans H; rw [hy643]; with_reducible exact H2_) | (have H2_ := (Option.bind_some _ _).symm.trans H; with_reducible exact H2_) | with_reducible exact H | (rw [hy643]; exact H) | exact H
       have Ny643 := Aside0.mk hy643
       clear hy643
       replace H := Option.bind_eq_some_iff.mp H
       obtain ⟨t646, A130, H⟩ := H
       replace H : (if x4_1.length + t646.length < 140737488355328 then ((some (x4_1 ++ t646 : List Int)).bind fun y649 => ((spec_l2Num.f k1 (IntKind.u64.wrap (((rd_L7 l0 x5_1).length : Int)))).bind fun t653 => (if y649.length + t653.length < 140737488355328 then ((some (y649 ++ t653 : List Int)).bind fun y656 => (if 0 < ((rd_L7 l0 x5_1).length : Int) then ((spec_l2Str.f k1 ((rd_T35 (rd_L7 l0 x5_1) 0).f0)).bind fun t661 => (if y656.length + t661.length < 140737488355328 then (spec_l2File.l0 k1 l0 y643 (y656 ++ t661) (wrap64 (x5_1 + 1))) else (none))) else (none))) else (none)))) else (none)) = some r := H
       have A13 := Aside0.mk A130
       clear A130
       by_cases c14 : x4_1.length + t646.length < 140737488355328
       ·rw [if_pos c14] at H
        have LMc14 := Aside0.mk c14
        clear c14
        obtain ⟨y649, hy649⟩ : ∃ y_ : List Int, y_ = (x4_1 ++ t646) := ⟨_, rfl⟩
        replace H : ((spec_l2Num.f k1 (IntKind.u64.wrap (((rd_L7 l0 x5_1).length : Int)))).bind fun t653 => (if y649.length + t653.length < 140737488355328 then ((some (y649 ++ t653 : List Int)).bind fun y656 => (if 0 < ((rd_L7 l0 x5_1).length : Int) then ((spec_l2Str.f k1 ((rd_T35 (rd_L7 l0 x5_1) 0).f0)).bind fun t661 => (if y656.length + t661.length < 140737488355328 then (spec_l2File.l0 k1 l0 y643 (y656 ++ t661) (wrap64 (x5_1 + 1))) else (none))) else (none))) else (none))) = some r := by first | (rw [hy649]; with_reducible exact H) | (have H2_ := (Option.bind_some _ _).symm.trans H; rw [hy649]; with_reducible exact H2_) | (have H2_ := (Option.bind_some _ _).symm.trans H; with_reducible exact H2_) | with_reducible exact H | (rw [hy649]; exact H) | exact H
        have Ny649 := Aside0.mk hy649
        clear hy649
        replace H := Option.bind_eq_some_iff.mp H
        obtain ⟨t653, A150, H⟩ := H
        replace H : (if y649.length + t653.length < 140737488355328 then ((some (y649 ++ t653 : List Int)).bind fun y656 => (if 0 < ((rd_L7 l0 x5_1).length : Int) then ((spec_l2Str.f k1 ((rd_T35 (rd_L7 l0 x5_1) 0).f0)).bind fun t661 => (if y656.length + t661.length < 140737488355328 then (spec_l2File.l0 k1 l0 y643 (y656 ++ t661) (wrap64 (x5_1 + 1))) else (none))) else (none))) else (none)) = some r := H
        have A15 := Aside0.mk A150
        clear A150
        by_cases c16 : y649.length + t653.length < 140737488355328
        ·rw [if_pos c16] at H
         have LMc16 := Aside0.mk c16
         clear c16
         obtain ⟨y656, hy656⟩ : ∃ y_ : List Int, y_ = (y649 ++ t653) := ⟨_, rfl⟩
         replace H : (if 0 < ((rd_L7 l0 x5_1).length : Int) then ((spec_l2Str.f k1 ((rd_T35 (rd_L7 l0 x5_1) 0).f0)).bind fun t661 => (if y656.length + t661.length < 140737488355328 then (spec_l2File.l0 k1 l0 y643 (y656 ++ t661) (wrap64 (x5_1 + 1))) else (none))) else (none)) = some r := by first | (rw [hy656]; with_reducible exact H) | (have H2_ := (Option.bind_some _ _).symm.trans H; rw [hy656]; with_reducible exact H2_) | (have H2_ := (Option.bind_some _ _).symm.trans H; with_reducible exact H2_) | with_reducible exact H | (rw [hy656]; exact H) | exact H
         have Ny656 := Aside0.mk hy656
         clear hy656
         by_cases c17 : 0 < ((rd_L7 l0 x5_1).length : Int)
         ·rw [if_pos c17] at H
          have c17b0 : decide (0 < ((rd_L7 l0 x5_1).length : Int)) = true := decide_eq_true c17
          have c17b1 : decide (0 < (rd_L7 l0 x5_1).length) = true := decide_eq_true (by omega)
          clear c17
          replace H := Option.bind_eq_some_iff.mp H
          obtain ⟨t661, A180, H⟩ := H
          replace H : (if y656.length + t661.length < 140737488355328 then (spec_l2File.l0 k1 l0 y643 (y656 ++ t661) (wrap64 (x5_1 + 1))) else (none)) = some r := H
          have A18 := Aside0.mk A180
          clear A180
          by_cases c19 : y656.length + t661.length < 140737488355328
          ·rw [if_pos c19] at H
           have LMc19 := Aside0.mk c19
           clear c19
           obtain ⟨y664, hy664⟩ : ∃ y_ : List Int, y_ = (y656 ++ t661) := ⟨_, rfl⟩
           replace H : (spec_l2File.l0 k1 l0 y643 y664 (wrap64 (x5_1 + 1))) = some r := by first | (rw [hy664]; with_reducible exact H) | (have H2_ := (Option.bind_some _ _).symm.trans H; rw [hy664]; with_reducible exact H2_) | (have H2_ := (Option.bind_some _ _).symm.trans H; with_reducible exact H2_) | with_reducible exact H | (rw [hy664]; exact H) | exact H
           have Ny664 := Aside0.mk hy664
           clear hy664
           have H' := Aside0.mk H
           clear H
           have p632 : 0 ≤ (x5_1 : Int) := of_decide_eq_true (by first | (with_reducible assumption) | assumption)
           have q632 : x5_1 < (l0.length : Int) := of_decide_eq_true (by first | (with_reducible assumption) | assumption)
           obtain ⟨ad632, A632_0, c632_0, e632, hx632_0, hl632_0, hi632_0⟩ := at_L7 HR0.out x5_1 p632 q632
           cases e632
           replace hx632_0 := (HB.out.cell (World.block_lt_of_cell? w _ hx632_0)).trans hx632_0
           have HR632_0 := Aside0.mk hi632_0
           have HC632_0 := Aside0.mk hl632_0
           clear hi632_0 hl632_0
           replace p632 := eq_true p632
           replace q632 := eq_true q632
           go_wp2_with (first | ((with_reducible refine at_fn (f := 113) rfl ?_); refine goesL_ (some 23) rfl rfl Try.func113 (by kernel_rfl) rfl #[.slice A632_0 (rd_L7 l0 x5_1).length c632_0] rfl (by (try simp only [List.map_toArray, List.map_cons, List.map_nil]); first | done | rfl | (simp only [List.length_drop, List.length_take]; rfl)) ?_; (with_reducible refine (spec_l2Body.calls k1 _ _ (rd_L7 l0 x5_1) t633 _ ?side1 ?side2 A8.out).mono ?_); (case side1 => repeat (first | exact (Kd.C_below HR632_0.out HB.out) | (with_reducible refine Kd.C_alloc ?_ _) | (with_reducible refine Kd.C_drewN ?_ _) | (with_reducible refine Kd.C_drew ?_))); (case side2 => exact HC632_0.out); rintro e w20 ⟨v634, rfl, ho0, hb⟩; refine ⟨_, rfl, ?_⟩; have n0_ := Aside0.mk (RF_elder' (by (with_reducible repeat (first | apply RF_alloc | apply RF_drewN | apply RF_drew)); exact HO_3.out) (Kd.R_base ho0) hb); have n1_ := Aside0.mk (Kd.R_elder' (lf HO_4) (Kd.R_base ho0) hb); have n2_ := Aside0.mk (Kd.R_lower (Kd.R_new' (Kd.R_new' ho0 (RF_lt (by (with_reducible repeat (first | apply RF_alloc | apply RF_drewN | apply RF_drew)); exact HO_3.out))) (Kd.R_lt (lf HO_4))) (below_size bw)); have n3_ := Aside0.mk (below_step bw hb); clear HO_3; clear HO_4; clear HB; have HO_3 := n0_; have HO_4 := n1_; have HO635 := n2_; have HB := n3_; clear n0_ n1_ n2_ n3_; (try clear hb); (try clear hb2); (try clear hk); (try clear hi); (try clear ho0); obtain ⟨Ao22, co22, eo22⟩ := Kd.R_slice HO635.out; subst eo22) | ((with_reducible refine gate_builtin (b := .append) (xs := #[.tmp 24, .tmp 25]) rfl ?_); at_builtin; refine RF_append_rows (Kd.int .u8) rfl (w0 := w) w.heap.size rfl (.tmp 24) (.tmp 25) 38 5 (.int .u8 0) 1 rfl Try.underlying38 info5 rfl (by decide) (by omega) u3 x3_1 t633 _ _ _ (fun k_ => some k_ ≠ (u4 : Value).ownBlock ∧ some k_ ≠ (.slice Ao22 t633.length co22 : Value).ownBlock) (fun _ => False) rfl rfl ?aO ?aR (fun _ h => h.elim) ?aF ?aB ?aS ?aL rfl rfl rfl ?_; (case aR => repeat (first | exact (Kd.R_reads' HO635.out).2.2 | (with_reducible refine Kd.C_alloc ?_ _) | (with_reducible refine Kd.C_drewN ?_ _) | (with_reducible refine Kd.C_drew ?_))); (case aB => exact bw); (case aF => exact (fun k_ hk => ⟨Kd.fresh' (Kd.R_lt (lf HO_4)) k_ hk, Kd.fresh' (Kd.R_lt (lf HO635)) k_ hk⟩)); (case aO => exact (by (with_reducible repeat (first | apply RF_alloc | apply RF_drewN | apply RF_drew)); exact HO_3.out)); (case aS => exact (below_size bw)); (case aL => have := LMc9.out; omega); intro v637 w21 ho hb hg hat; rw [← Ny636.out] at ho; have n0_ := Aside0.mk (Kd.R_after (ok := (fun k_ => some k_ ≠ (.slice Ao22 t633.length co22 : Value).ownBlock)) (by (with_reducible repeat (first | apply Kd.R_alloc | apply Kd.R_drewN | apply Kd.R_drew)); exact Kd.R_mono HO_4.out (fun _ hk => ⟨hk.2, hk.1⟩)) hg hat); have n1_ := Aside0.mk (Kd.R_after (ok := (fun k_ => some k_ ≠ (u4 : Value).ownBlock)) (by (with_reducible repeat (first | apply Kd.R_alloc | apply Kd.R_drewN | apply Kd.R_drew)); exact Kd.R_mono HO635.out (fun _ hk => ⟨hk.2, hk.1.2⟩)) hg hat); have n2_ := Aside0.mk (hb); have n3_ := Aside0.mk (ho); clear HO_4; clear HO635; clear HB; clear HO_3; have HO_4 := n0_; have HO635 := n1_; have HB := n2_; have HO638 := n3_; clear n0_ n1_ n2_ n3_; clear ho hb hg hat) | ((with_reducible refine at_fn (f := 23) rfl ?_); refine goesL_ (some 28) rfl rfl Try.func23 (by kernel_rfl) rfl #[.slice Ao22 t633.length co22] rfl (by (try simp only [List.map_toArray, List.map_cons, List.map_nil]); first | done | rfl | (simp only [List.length_drop, List.length_take]; rfl)) ?_; (with_reducible refine (spec_Crc32.calls k1 _ _ t633 t639 _ ?side1 ?side2 A10.out).mono ?_); (case side1 => repeat (first | exact (Kd.R_reads' HO635.out).2.2 | (with_reducible refine Kd.C_alloc ?_ _) | (with_reducible refine Kd.C_drewN ?_ _) | (with_reducible refine Kd.C_drew ?_))); (case side2 => exact (Kd.R_reads' HO635.out).2.1); rintro e w' ⟨rfl, ⟨nd, rfl⟩⟩; refine ⟨_, rfl, ?_⟩) | ((with_reducible refine at_fn (f := 114) rfl ?_); refine goesL_ (some 29) rfl rfl Try.func114 (by kernel_rfl) rfl #[.int .u32 t639] rfl (by (try simp only [List.map_toArray, List.map_cons, List.map_nil]); first | done | rfl | (simp only [List.length_drop, List.length_take]; rfl)) ?_; (with_reducible refine (spec_l2Fixed.calls t639 t640 _ A11.out).mono ?_); rintro e w23 ⟨v641, rfl, ho0, hb⟩; refine ⟨_, rfl, ?_⟩; have n0_ := Aside0.mk (Kd.R_elder' (lf HO_4) (Kd.R_base ho0) hb); have n1_ := Aside0.mk (Kd.R_elder' (lf HO635) (Kd.R_base ho0) hb); have n2_ := Aside0.mk (RF_elder' (by (with_reducible repeat (first | apply RF_alloc | apply RF_drewN | apply RF_drew)); exact HO638.out) (Kd.R_base ho0) hb); have n3_ := Aside0.mk (Kd.R_lower (Kd.R_new' (Kd.R_new' (Kd.R_new' ho0 (Kd.R_lt (lf HO_4))) (Kd.R_lt (lf HO635))) (RF_lt (by (with_reducible repeat (first | apply RF_alloc | apply RF_drewN | apply RF_drew)); exact HO638.out))) (below_size bw)); have n4_ := Aside0.mk (below_step bw hb); clear HO_4; clear HO635; clear HO638; clear HB; have HO_4 := n0_; have HO635 := n1_; have HO638 := n2_; have HO642 := n3_; have HB := n4_; clear n0_ n1_ n2_ n3_ n4_; (try clear hb); (try clear hb2); (try clear hk); (try clear hi); (try clear ho0); obtain ⟨Ao25, co25, eo25⟩ := Kd.R_slice HO642.out; subst eo25) | ((with_reducible refine gate_builtin (b := .append) (xs := #[.tmp 26, .tmp 29]) rfl ?_); at_builtin; refine RF_append_rows1 (Kd.int .u8) rfl (w0 := w) w.heap.size rfl (.tmp 26) (.tmp 29) 38 5 (.int .u8 0) 1 rfl Try.underlying38 info5 rfl (by decide) (by omega) v637 y636 t640 _ _ _ (fun k_ => some k_ ≠ (u4 : Value).ownBlock ∧ some k_ ≠ (.slice Ao22 t633.length co22 : Value).ownBlock ∧ some k_ ≠ (.slice Ao25 t640.length co25 : Value).ownBlock) (fun _ => False) rfl rfl ?aO ?aR (fun _ h => h.elim) ?aF ?aB ?aS ?aL rfl rfl rfl ?aM ?_; (case aM => have h_ := A11.out; unfold spec_l2Fixed.f at h_; rw [← Option.some.inj h_]; exact Nat.succ_pos _); (case aR => repeat (first | exact (Kd.R_reads' HO642.out).2.2 | (with_reducible refine Kd.C_alloc ?_ _) | (with_reducible refine Kd.C_drewN ?_ _) | (with_reducible refine Kd.C_drew ?_))); (case aB => exact bw); (case aF => exact (fun k_ hk => ⟨Kd.fresh' (Kd.R_lt (lf HO_4)) k_ hk, Kd.fresh' (Kd.R_lt (lf HO635)) k_ hk, Kd.fresh' (Kd.R_lt (lf HO642)) k_ hk⟩)); (case aO => exact (by (with_reducible repeat (first | apply Kd.R_alloc | apply Kd.R_drewN | apply Kd.R_drew)); exact RF_mono HO638.out (fun _ hk => ⟨hk.1.1, ⟨hk.1.2, hk.2⟩⟩))); (case aS => exact (below_size bw)); (case aL => have := LMc12.out; omega); intro v644 w24 ho hb hg hat; rw [← Ny643.out] at ho; have n0_ := Aside0.mk (Kd.R_after (ok := (fun k_ => some k_ ≠ (.slice Ao22 t633.length co22 : Value).ownBlock ∧ some k_ ≠ (.slice Ao25 t640.length co25 : Value).ownBlock)) (by (with_reducible repeat (first | apply Kd.R_alloc | apply Kd.R_drewN | apply Kd.R_drew)); exact Kd.R_mono HO_4.out (fun _ hk => ⟨⟨hk.1.1, hk.2⟩, hk.1.2⟩)) hg hat); have n1_ := Aside0.mk (Kd.R_after (ok := (fun k_ => some k_ ≠ (u4 : Value).ownBlock ∧ some k_ ≠ (.slice Ao25 t640.length co25 : Value).ownBlock)) (by (with_reducible repeat (first | apply Kd.R_alloc | apply Kd.R_drewN | apply Kd.R_drew)); exact Kd.R_mono HO635.out (fun _ hk => ⟨⟨hk.1.1, hk.2⟩, hk.1.2⟩)) hg hat); have n2_ := Aside0.mk (Kd.R_after (ok := (fun k_ => some k_ ≠ (u4 : Value).ownBlock ∧ some k_ ≠ (.slice Ao22 t633.length co22 : Value).ownBlock)) (by (with_reducible repeat (first | apply Kd.R_alloc | apply Kd.R_drewN | apply Kd.R_drew)); exact Kd.R_mono HO642.out (fun _ hk => ⟨⟨hk.1.1.2, hk.1.2⟩, hk.2⟩)) hg hat); have n3_ := Aside0.mk (hb); have n4_ := Aside0.mk (ho); clear HO_4; clear HO635; clear HO642; clear HB; clear HO638; have HO_4 := n0_; have HO635 := n1_; have HO642 := n2_; have HB := n3_; have HO645 := n4_; clear n0_ n1_ n2_ n3_ n4_; clear ho hb hg hat) | ((with_reducible refine at_fn (f := 112) rfl ?_); refine goesL_ (some 35) rfl rfl Try.func112 (by kernel_rfl) rfl #[.int .u64 (IntKind.u64.wrap ((t633.length : Int)))] rfl (by (try simp only [List.map_toArray, List.map_cons, List.map_nil]); first | done | rfl | (simp only [List.length_drop, List.length_take]; rfl)) ?_; (with_reducible refine (spec_l2Num.calls k1 (IntKind.u64.wrap ((t633.length : Int))) t646 _ A13.out).mono ?_); rintro e w26 ⟨v647, rfl, ho0, hb⟩; refine ⟨_, rfl, ?_⟩; have n0_ := Aside0.mk (Kd.R_elder' (lf HO_4) (Kd.R_base ho0) hb); have n1_ := Aside0.mk (Kd.R_elder' (lf HO635) (Kd.R_base ho0) hb); have n2_ := Aside0.mk (Kd.R_elder' (lf HO642) (Kd.R_base ho0) hb); have n3_ := Aside0.mk (Kd.R_elder' (lf HO645) (Kd.R_base ho0) hb); have n4_ := Aside0.mk (Kd.R_lower (Kd.R_new' (Kd.R_new' (Kd.R_new' (Kd.R_new' ho0 (Kd.R_lt (lf HO_4))) (Kd.R_lt (lf HO635))) (Kd.R_lt (lf HO642))) (Kd.R_lt (lf HO645))) (below_size bw)); have n5_ := Aside0.mk (below_step bw hb); clear HO_4; clear HO635; clear HO642; clear HO645; clear HB; have HO_4 := n0_; have HO635 := n1_; have HO642 := n2_; have HO645 := n3_; have HO648 := n4_; have HB := n5_; clear n0_ n1_ n2_ n3_ n4_ n5_; (try clear hb); (try clear hb2); (try clear hk); (try clear hi); (try clear ho0); obtain ⟨Ao28, co28, eo28⟩ := Kd.R_slice HO648.out; subst eo28) | ((with_reducible refine gate_builtin (b := .append) (xs := #[.tmp 31, .tmp 35]) rfl ?_); at_builtin; refine Kd.R_append_rows (Kd.int .u8) (w0 := w) w.heap.size rfl (.tmp 31) (.tmp 35) 38 5 (.int .u8 0) 1 rfl Try.underlying38 info5 rfl (by decide) (by omega) u4 x4_1 t646 _ _ _ (fun k_ => some k_ ≠ (.slice Ao22 t633.length co22 : Value).ownBlock ∧ some k_ ≠ (.slice Ao25 t640.length co25 : Value).ownBlock ∧ some k_ ≠ (v644 : Value).ownBlock ∧ some k_ ≠ (.slice Ao28 t646.length co28 : Value).ownBlock) (fun _ => False) rfl rfl ?aO ?aR (fun _ _ h => h) (fun _ h => h.elim) ?aF ?aB ?aS ?aL ?_; (case aR => repeat (first | exact (Kd.R_reads' HO648.out).2.2 | (with_reducible refine Kd.C_alloc ?_ _) | (with_reducible refine Kd.C_drewN ?_ _) | (with_reducible refine Kd.C_drew ?_))); (case aB => exact bw); (case aF => exact (fun k_ hk => ⟨Kd.fresh' (Kd.R_lt (lf HO635)) k_ hk, Kd.fresh' (Kd.R_lt (lf HO642)) k_ hk, Kd.fresh' (Kd.R_lt (lf HO645)) k_ hk, Kd.fresh' (Kd.R_lt (lf HO648)) k_ hk⟩)); (case aO => exact (by (with_reducible repeat (first | apply Kd.R_alloc | apply Kd.R_drewN | apply Kd.R_drew)); exact Kd.R_mono HO_4.out (fun _ hk => ⟨hk.1.1.1, ⟨hk.1.1.2, ⟨hk.1.2, hk.2⟩⟩⟩))); (case aS => exact (below_size bw)); (case aL => have := LMc14.out; omega); intro v650 w27 ho hb hg hat; rw [← Ny649.out] at ho; have n0_ := Aside0.mk (Kd.R_after (ok := (fun k_ => some k_ ≠ (.slice Ao25 t640.length co25 : Value).ownBlock ∧ some k_ ≠ (v644 : Value).ownBlock ∧ some k_ ≠ (.slice Ao28 t646.length co28 : Value).ownBlock)) (by (with_reducible repeat (first | apply Kd.R_alloc | apply Kd.R_drewN | apply Kd.R_drew)); exact Kd.R_mono HO635.out (fun _ hk => ⟨⟨hk.1.1.2, ⟨hk.1.2, hk.2⟩⟩, hk.1.1.1⟩)) hg hat); have n1_ := Aside0.mk (Kd.R_after (ok := (fun k_ => some k_ ≠ (.slice Ao22 t633.length co22 : Value).ownBlock ∧ some k_ ≠ (v644 : Value).ownBlock ∧ some k_ ≠ (.slice Ao28 t646.length co28 : Value).ownBlock)) (by (with_reducible repeat (first | apply Kd.R_alloc | apply Kd.R_drewN | apply Kd.R_drew)); exact Kd.R_mono HO642.out (fun _ hk => ⟨⟨hk.1.1.2, ⟨hk.1.2, hk.2⟩⟩, hk.1.1.1⟩)) hg hat); have n2_ := Aside0.mk (Kd.R_after (ok := (fun k_ => some k_ ≠ (.slice Ao22 t633.length co22 : Value).ownBlock ∧ some k_ ≠ (.slice Ao25 t640.length co25 : Value).ownBlock ∧ some k_ ≠ (.slice Ao28 t646.length co28 : Value).ownBlock)) (by (with_reducible repeat (first | apply Kd.R_alloc | apply Kd.R_drewN | apply Kd.R_drew)); exact Kd.R_mono HO645.out (fun _ hk => ⟨⟨hk.1.2.1, ⟨hk.1.2.2, hk.2⟩⟩, hk.1.1⟩)) hg hat); have n3_ := Aside0.mk (Kd.R_after (ok := (fun k_ => some k_ ≠ (.slice Ao22 t633.length co22 : Value).ownBlock ∧ some k_ ≠ (.slice Ao25 t640.length co25 : Value).ownBlock ∧ some k_ ≠ (v644 : Value).ownBlock)) (by (with_reducible repeat (first | apply Kd.R_alloc | apply Kd.R_drewN | apply Kd.R_drew)); exact Kd.R_mono HO648.out (fun _ hk => ⟨⟨hk.1.1.2, ⟨hk.1.2, hk.2⟩⟩, hk.1.1.1.2⟩)) hg hat); have n4_ := Aside0.mk (hb); have n5_ := Aside0.mk (ho); clear HO635; clear HO642; clear HO645; clear HO648; clear HB; clear HO_4; have HO635 := n0_; have HO642 := n1_; have HO645 := n2_; have HO648 := n3_; have HB := n4_; have HO651 := n5_; clear n0_ n1_ n2_ n3_ n4_ n5_; clear ho hb hg hat; have p652 : 0 ≤ (x5_1 : Int) := of_decide_eq_true (by first | (with_reducible assumption) | assumption); have q652 : x5_1 < (l0.length : Int) := of_decide_eq_true (by first | (with_reducible assumption) | assumption); obtain ⟨ad652, A652_0, c652_0, e652, hx652_0, hl652_0, hi652_0⟩ := at_L7 HR0.out x5_1 p652 q652; obtain rfl : ad632 = ad652 := (by injection e652); replace hx652_0 := (HB.out.cell (World.block_lt_of_cell? w _ hx652_0)).trans hx652_0; have HR652_0 := Aside0.mk hi652_0; have HC652_0 := Aside0.mk hl652_0; clear hi652_0 hl652_0; replace p652 := eq_true p652; replace q652 := eq_true q652) | ((with_reducible refine at_fn (f := 112) rfl ?_); refine goesL_ (some 44) rfl rfl Try.func112 (by kernel_rfl) rfl #[.int .u64 (IntKind.u64.wrap (((rd_L7 l0 x5_1).length : Int)))] rfl (by (try simp only [List.map_toArray, List.map_cons, List.map_nil]); first | done | rfl | (simp only [List.length_drop, List.length_take]; rfl)) ?_; (with_reducible refine (spec_l2Num.calls k1 (IntKind.u64.wrap (((rd_L7 l0 x5_1).length : Int))) t653 _ A15.out).mono ?_); rintro e w29 ⟨v654, rfl, ho0, hb⟩; refine ⟨_, rfl, ?_⟩; have n0_ := Aside0.mk (Kd.R_elder' (lf HO635) (Kd.R_base ho0) hb); have n1_ := Aside0.mk (Kd.R_elder' (lf HO642) (Kd.R_base ho0) hb); have n2_ := Aside0.mk (Kd.R_elder' (lf HO645) (Kd.R_base ho0) hb); have n3_ := Aside0.mk (Kd.R_elder' (lf HO648) (Kd.R_base ho0) hb); have n4_ := Aside0.mk (Kd.R_elder' (lf HO651) (Kd.R_base ho0) hb); have n5_ := Aside0.mk (Kd.R_lower (Kd.R_new' (Kd.R_new' (Kd.R_new' (Kd.R_new' (Kd.R_new' ho0 (Kd.R_lt (lf HO635))) (Kd.R_lt (lf HO642))) (Kd.R_lt (lf HO645))) (Kd.R_lt (lf HO648))) (Kd.R_lt (lf HO651))) (below_size bw)); have n6_ := Aside0.mk (below_step bw hb); clear HO635; clear HO642; clear HO645; clear HO648; clear HO651; clear HB; have HO635 := n0_; have HO642 := n1_; have HO645 := n2_; have HO648 := n3_; have HO651 := n4_; have HO655 := n5_; have HB := n6_; clear n0_ n1_ n2_ n3_ n4_ n5_ n6_; (try clear hb); (try clear hb2); (try clear hk); (try clear hi); (try clear ho0); obtain ⟨Ao31, co31, eo31⟩ := Kd.R_slice HO655.out; subst eo31) | ((with_reducible refine gate_builtin (b := .append) (xs := #[.tmp 37, .tmp 44]) rfl ?_); at_builtin; refine Kd.R_append_rows (Kd.int .u8) (w0 := w) w.heap.size rfl (.tmp 37) (.tmp 44) 38 5 (.int .u8 0) 1 rfl Try.underlying38 info5 rfl (by decide) (by omega) v650 y649 t653 _ _ _ (fun k_ => some k_ ≠ (.slice Ao22 t633.length co22 : Value).ownBlock ∧ some k_ ≠ (.slice Ao25 t640.length co25 : Value).ownBlock ∧ some k_ ≠ (v644 : Value).ownBlock ∧ some k_ ≠ (.slice Ao28 t646.length co28 : Value).ownBlock ∧ some k_ ≠ (.slice Ao31 t653.length co31 : Value).ownBlock) (fun _ => False) rfl rfl ?aO ?aR (fun _ _ h => h) (fun _ h => h.elim) ?aF ?aB ?aS ?aL ?_; (case aR => repeat (first | exact (Kd.R_reads' HO655.out).2.2 | (with_reducible refine Kd.C_alloc ?_ _) | (with_reducible refine Kd.C_drewN ?_ _) | (with_reducible refine Kd.C_drew ?_))); (case aB => exact bw); (case aF => exact (fun k_ hk => ⟨Kd.fresh' (Kd.R_lt (lf HO635)) k_ hk, Kd.fresh' (Kd.R_lt (lf HO642)) k_ hk, Kd.fresh' (Kd.R_lt (lf HO645)) k_ hk, Kd.fresh' (Kd.R_lt (lf HO648)) k_ hk, Kd.fresh' (Kd.R_lt (lf HO655)) k_ hk⟩)); (case aO => exact (by (with_reducible repeat (first | apply Kd.R_alloc | apply Kd.R_drewN | apply Kd.R_drew)); exact Kd.R_mono HO651.out (fun _ hk => ⟨hk.1.1, ⟨hk.1.2.1, ⟨hk.1.2.2.1, ⟨hk.1.2.2.2, hk.2⟩⟩⟩⟩))); (case aS => exact (below_size bw)); (case aL => have := LMc16.out; omega); intro v657 w30 ho hb hg hat; rw [← Ny656.out] at ho; have n0_ := Aside0.mk (Kd.R_after (ok := (fun k_ => some k_ ≠ (.slice Ao25 t640.length co25 : Value).ownBlock ∧ some k_ ≠ (v644 : Value).ownBlock ∧ some k_ ≠ (.slice Ao28 t646.length co28 : Value).ownBlock ∧ some k_ ≠ (.slice Ao31 t653.length co31 : Value).ownBlock)) (by (with_reducible repeat (first | apply Kd.R_alloc | apply Kd.R_drewN | apply Kd.R_drew)); exact Kd.R_mono HO635.out (fun _ hk => ⟨⟨hk.1.1.1, ⟨hk.1.1.2.1, ⟨hk.1.1.2.2, hk.2⟩⟩⟩, hk.1.2⟩)) hg hat); have n1_ := Aside0.mk (Kd.R_after (ok := (fun k_ => some k_ ≠ (.slice Ao22 t633.length co22 : Value).ownBlock ∧ some k_ ≠ (v644 : Value).ownBlock ∧ some k_ ≠ (.slice Ao28 t646.length co28 : Value).ownBlock ∧ some k_ ≠ (.slice Ao31 t653.length co31 : Value).ownBlock)) (by (with_reducible repeat (first | apply Kd.R_alloc | apply Kd.R_drewN | apply Kd.R_drew)); exact Kd.R_mono HO642.out (fun _ hk => ⟨⟨hk.1.1.1, ⟨hk.1.1.2.1, ⟨hk.1.1.2.2, hk.2⟩⟩⟩, hk.1.2⟩)) hg hat); have n2_ := Aside0.mk (Kd.R_after (ok := (fun k_ => some k_ ≠ (.slice Ao22 t633.length co22 : Value).ownBlock ∧ some k_ ≠ (.slice Ao25 t640.length co25 : Value).ownBlock ∧ some k_ ≠ (.slice Ao28 t646.length co28 : Value).ownBlock ∧ some k_ ≠ (.slice Ao31 t653.length co31 : Value).ownBlock)) (by (with_reducible repeat (first | apply Kd.R_alloc | apply Kd.R_drewN | apply Kd.R_drew)); exact Kd.R_mono HO645.out (fun _ hk => ⟨⟨hk.1.1.1, ⟨hk.1.1.2.1, ⟨hk.1.1.2.2, hk.2⟩⟩⟩, hk.1.2⟩)) hg hat); have n3_ := Aside0.mk (Kd.R_after (ok := (fun k_ => some k_ ≠ (.slice Ao22 t633.length co22 : Value).ownBlock ∧ some k_ ≠ (.slice Ao25 t640.length co25 : Value).ownBlock ∧ some k_ ≠ (v644 : Value).ownBlock ∧ some k_ ≠ (.slice Ao31 t653.length co31 : Value).ownBlock)) (by (with_reducible repeat (first | apply Kd.R_alloc | apply Kd.R_drewN | apply Kd.R_drew)); exact Kd.R_mono HO648.out (fun _ hk => ⟨⟨hk.1.1.1, ⟨hk.1.1.2.1, ⟨hk.1.1.2.2, hk.2⟩⟩⟩, hk.1.2⟩)) hg hat); have n4_ := Aside0.mk (Kd.R_after (ok := (fun k_ => some k_ ≠ (.slice Ao22 t633.length co22 : Value).ownBlock ∧ some k_ ≠ (.slice Ao25 t640.length co25 : Value).ownBlock ∧ some k_ ≠ (v644 : Value).ownBlock ∧ some k_ ≠ (.slice Ao28 t646.length co28 : Value).ownBlock)) (by (with_reducible repeat (first | apply Kd.R_alloc | apply Kd.R_drewN | apply Kd.R_drew)); exact Kd.R_mono HO655.out (fun _ hk => ⟨⟨hk.1.1.1.1.2, ⟨hk.1.1.1.2, ⟨hk.1.1.2, hk.1.2⟩⟩⟩, hk.2⟩)) hg hat); have n5_ := Aside0.mk (hb); have n6_ := Aside0.mk (ho); clear HO635; clear HO642; clear HO645; clear HO648; clear HO655; clear HB; clear HO651; have HO635 := n0_; have HO642 := n1_; have HO645 := n2_; have HO648 := n3_; have HO655 := n4_; have HB := n5_; have HO658 := n6_; clear n0_ n1_ n2_ n3_ n4_ n5_ n6_; clear ho hb hg hat; have p659 : 0 ≤ (x5_1 : Int) := of_decide_eq_true (by first | (with_reducible assumption) | assumption); have q659 : x5_1 < (l0.length : Int) := of_decide_eq_true (by first | (with_reducible assumption) | assumption); obtain ⟨ad659, A659_0, c659_0, e659, hx659_0, hl659_0, hi659_0⟩ := at_L7 HR0.out x5_1 p659 q659; obtain rfl : ad632 = ad659 := (by injection e659); replace hx659_0 := (HB.out.cell (World.block_lt_of_cell? w _ hx659_0)).trans hx659_0; have HR659_0 := Aside0.mk hi659_0; have HC659_0 := Aside0.mk hl659_0; clear hi659_0 hl659_0; replace p659 := eq_true p659; replace q659 := eq_true q659; have p660 : 0 ≤ (0 : Int) := (by omega); have q660 : 0 < ((rd_L7 l0 x5_1).length : Int) := of_decide_eq_true (by first | (with_reducible assumption) | assumption); obtain ⟨ad660, e660, hx660_0, hx660_1, hx660_2, hx660_3, hx660_4, hx660_5⟩ := at_T35 HR659_0.out 0 p660 q660; cases e660; have qi660 : (0 < (rd_L7 l0 x5_1).length) = True := eq_true (by omega); (try rw [show ((0 : Int)).toNat = 0 from rfl] at hx660_0); (try rw [show 0 * 6 = 0 from rfl] at hx660_0); (try rw [Addr.add_zero'] at hx660_0); (try rw [show ((0 : Int)).toNat = 0 from rfl] at hx660_1); (try rw [show 0 * 6 = 0 from rfl] at hx660_1); (try rw [Addr.add_zero'] at hx660_1); (try rw [show ((0 : Int)).toNat = 0 from rfl] at hx660_2); (try rw [show 0 * 6 = 0 from rfl] at hx660_2); (try rw [Addr.add_zero'] at hx660_2); (try rw [show ((0 : Int)).toNat = 0 from rfl] at hx660_3); (try rw [show 0 * 6 = 0 from rfl] at hx660_3); (try rw [Addr.add_zero'] at hx660_3); (try rw [show ((0 : Int)).toNat = 0 from rfl] at hx660_4); (try rw [show 0 * 6 = 0 from rfl] at hx660_4); (try rw [Addr.add_zero'] at hx660_4); (try rw [show ((0 : Int)).toNat = 0 from rfl] at hx660_5); (try rw [show 0 * 6 = 0 from rfl] at hx660_5); (try rw [Addr.add_zero'] at hx660_5); replace hx660_0 := (HB.out.cell (World.block_lt_of_cell? w _ hx660_0)).trans hx660_0; replace hx660_1 := (HB.out.cell (World.block_lt_of_cell? w _ hx660_1)).trans hx660_1; replace hx660_2 := (HB.out.cell (World.block_lt_of_cell? w _ hx660_2)).trans hx660_2; replace hx660_3 := (HB.out.cell (World.block_lt_of_cell? w _ hx660_3)).trans hx660_3; replace hx660_4 := (HB.out.cell (World.block_lt_of_cell? w _ hx660_4)).trans hx660_4; replace hx660_5 := (HB.out.cell (World.block_lt_of_cell? w _ hx660_5)).trans hx660_5; replace p660 := eq_true p660; replace q660 := eq_true q660) | ((with_reducible refine at_fn (f := 115) rfl ?_); refine goesL_ (some 54) rfl rfl Try.func115 (by kernel_rfl) rfl #[.string ((rd_T35 (rd_L7 l0 x5_1) 0).f0)] rfl (by (try simp only [List.map_toArray, List.map_cons, List.map_nil]); first | done | rfl | (simp only [List.length_drop, List.length_take]; rfl)) ?_; (with_reducible refine (spec_l2Str.calls k1 ((rd_T35 (rd_L7 l0 x5_1) 0).f0) t661 _ A18.out).mono ?_); rintro e w32 ⟨v662, rfl, ho0, hb⟩; refine ⟨_, rfl, ?_⟩; have n0_ := Aside0.mk (Kd.R_elder' (lf HO635) (Kd.R_base ho0) hb); have n1_ := Aside0.mk (Kd.R_elder' (lf HO642) (Kd.R_base ho0) hb); have n2_ := Aside0.mk (Kd.R_elder' (lf HO645) (Kd.R_base ho0) hb); have n3_ := Aside0.mk (Kd.R_elder' (lf HO648) (Kd.R_base ho0) hb); have n4_ := Aside0.mk (Kd.R_elder' (lf HO655) (Kd.R_base ho0) hb); have n5_ := Aside0.mk (Kd.R_elder' (lf HO658) (Kd.R_base ho0) hb); have n6_ := Aside0.mk (Kd.R_lower (Kd.R_new' (Kd.R_new' (Kd.R_new' (Kd.R_new' (Kd.R_new' (Kd.R_new' ho0 (Kd.R_lt (lf HO635))) (Kd.R_lt (lf HO642))) (Kd.R_lt (lf HO645))) (Kd.R_lt (lf HO648))) (Kd.R_lt (lf HO655))) (Kd.R_lt (lf HO658))) (below_size bw)); have n7_ := Aside0.mk (below_step bw hb); clear HO635; clear HO642; clear HO645; clear HO648; clear HO655; clear HO658; clear HB; have HO635 := n0_; have HO642 := n1_; have HO645 := n2_; have HO648 := n3_; have HO655 := n4_; have HO658 := n5_; have HO663 := n6_; have HB := n7_; clear n0_ n1_ n2_ n3_ n4_ n5_ n6_ n7_; (try clear hb); (try clear hb2); (try clear hk); (try clear hi); (try clear ho0); obtain ⟨Ao34, co34, eo34⟩ := Kd.R_slice HO663.out; subst eo34) | ((with_reducible refine gate_builtin (b := .append) (xs := #[.tmp 46, .tmp 54]) rfl ?_); at_builtin; refine Kd.R_append_rows (Kd.int .u8) (w0 := w) w.heap.size rfl (.tmp 46) (.tmp 54) 38 5 (.int .u8 0) 1 rfl Try.underlying38 info5 rfl (by decide) (by omega) v657 y656 t661 _ _ _ (fun k_ => some k_ ≠ (.slice Ao22 t633.length co22 : Value).ownBlock ∧ some k_ ≠ (.slice Ao25 t640.length co25 : Value).ownBlock ∧ some k_ ≠ (v644 : Value).ownBlock ∧ some k_ ≠ (.slice Ao28 t646.length co28 : Value).ownBlock ∧ some k_ ≠ (.slice Ao31 t653.length co31 : Value).ownBlock ∧ some k_ ≠ (.slice Ao34 t661.length co34 : Value).ownBlock) (fun _ => False) rfl rfl ?aO ?aR (fun _ _ h => h) (fun _ h => h.elim) ?aF ?aB ?aS ?aL ?_; (case aR => repeat (first | exact (Kd.R_reads' HO663.out).2.2 | (with_reducible refine Kd.C_alloc ?_ _) | (with_reducible refine Kd.C_drewN ?_ _) | (with_reducible refine Kd.C_drew ?_))); (case aB => exact bw); (case aF => exact (fun k_ hk => ⟨Kd.fresh' (Kd.R_lt (lf HO635)) k_ hk, Kd.fresh' (Kd.R_lt (lf HO642)) k_ hk, Kd.fresh' (Kd.R_lt (lf HO645)) k_ hk, Kd.fresh' (Kd.R_lt (lf HO648)) k_ hk, Kd.fresh' (Kd.R_lt (lf HO655)) k_ hk, Kd.fresh' (Kd.R_lt (lf HO663)) k_ hk⟩)); (case aO => exact (by (with_reducible repeat (first | apply Kd.R_alloc | apply Kd.R_drewN | apply Kd.R_drew)); exact Kd.R_mono HO658.out (fun _ hk => ⟨hk.1.1, ⟨hk.1.2.1, ⟨hk.1.2.2.1, ⟨hk.1.2.2.2.1, ⟨hk.1.2.2.2.2, hk.2⟩⟩⟩⟩⟩))); (case aS => exact (below_size bw)); (case aL => have := LMc19.out; omega); intro v665 w33 ho hb hg hat; rw [← Ny664.out] at ho; have n0_ := Aside0.mk (Kd.R_after (ok := (fun k_ => some k_ ≠ (.slice Ao25 t640.length co25 : Value).ownBlock ∧ some k_ ≠ (v644 : Value).ownBlock ∧ some k_ ≠ (.slice Ao28 t646.length co28 : Value).ownBlock ∧ some k_ ≠ (.slice Ao31 t653.length co31 : Value).ownBlock ∧ some k_ ≠ (.slice Ao34 t661.length co34 : Value).ownBlock)) (by (with_reducible repeat (first | apply Kd.R_alloc | apply Kd.R_drewN | apply Kd.R_drew)); exact Kd.R_mono HO635.out (fun _ hk => ⟨⟨hk.1.1.1, ⟨hk.1.1.2.1, ⟨hk.1.1.2.2.1, ⟨hk.1.1.2.2.2, hk.2⟩⟩⟩⟩, hk.1.2⟩)) hg hat); have n1_ := Aside0.mk (Kd.R_after (ok := (fun k_ => some k_ ≠ (.slice Ao22 t633.length co22 : Value).ownBlock ∧ some k_ ≠ (v644 : Value).ownBlock ∧ some k_ ≠ (.slice Ao28 t646.length co28 : Value).ownBlock ∧ some k_ ≠ (.slice Ao31 t653.length co31 : Value).ownBlock ∧ some k_ ≠ (.slice Ao34 t661.length co34 : Value).ownBlock)) (by (with_reducible repeat (first | apply Kd.R_alloc | apply Kd.R_drewN | apply Kd.R_drew)); exact Kd.R_mono HO642.out (fun _ hk => ⟨⟨hk.1.1.1, ⟨hk.1.1.2.1, ⟨hk.1.1.2.2.1, ⟨hk.1.1.2.2.2, hk.2⟩⟩⟩⟩, hk.1.2⟩)) hg hat); have n2_ := Aside0.mk (Kd.R_after (ok := (fun k_ => some k_ ≠ (.slice Ao22 t633.length co22 : Value).ownBlock ∧ some k_ ≠ (.slice Ao25 t640.length co25 : Value).ownBlock ∧ some k_ ≠ (.slice Ao28 t646.length co28 : Value).ownBlock ∧ some k_ ≠ (.slice Ao31 t653.length co31 : Value).ownBlock ∧ some k_ ≠ (.slice Ao34 t661.length co34 : Value).ownBlock)) (by (with_reducible repeat (first | apply Kd.R_alloc | apply Kd.R_drewN | apply Kd.R_drew)); exact Kd.R_mono HO645.out (fun _ hk => ⟨⟨hk.1.1.1, ⟨hk.1.1.2.1, ⟨hk.1.1.2.2.1, ⟨hk.1.1.2.2.2, hk.2⟩⟩⟩⟩, hk.1.2⟩)) hg hat); have n3_ := Aside0.mk (Kd.R_after (ok := (fun k_ => some k_ ≠ (.slice Ao22 t633.length co22 : Value).ownBlock ∧ some k_ ≠ (.slice Ao25 t640.length co25 : Value).ownBlock ∧ some k_ ≠ (v644 : Value).ownBlock ∧ some k_ ≠ (.slice Ao31 t653.length co31 : Value).ownBlock ∧ some k_ ≠ (.slice Ao34 t661.length co34 : Value).ownBlock)) (by (with_reducible repeat (first | apply Kd.R_alloc | apply Kd.R_drewN | apply Kd.R_drew)); exact Kd.R_mono HO648.out (fun _ hk => ⟨⟨hk.1.1.1, ⟨hk.1.1.2.1, ⟨hk.1.1.2.2.1, ⟨hk.1.1.2.2.2, hk.2⟩⟩⟩⟩, hk.1.2⟩)) hg hat); have n4_ := Aside0.mk (Kd.R_after (ok := (fun k_ => some k_ ≠ (.slice Ao22 t633.length co22 : Value).ownBlock ∧ some k_ ≠ (.slice Ao25 t640.length co25 : Value).ownBlock ∧ some k_ ≠ (v644 : Value).ownBlock ∧ some k_ ≠ (.slice Ao28 t646.length co28 : Value).ownBlock ∧ some k_ ≠ (.slice Ao34 t661.length co34 : Value).ownBlock)) (by (with_reducible repeat (first | apply Kd.R_alloc | apply Kd.R_drewN | apply Kd.R_drew)); exact Kd.R_mono HO655.out (fun _ hk => ⟨⟨hk.1.1.1, ⟨hk.1.1.2.1, ⟨hk.1.1.2.2.1, ⟨hk.1.1.2.2.2, hk.2⟩⟩⟩⟩, hk.1.2⟩)) hg hat); have n5_ := Aside0.mk (Kd.R_after (ok := (fun k_ => some k_ ≠ (.slice Ao22 t633.length co22 : Value).ownBlock ∧ some k_ ≠ (.slice Ao25 t640.length co25 : Value).ownBlock ∧ some k_ ≠ (v644 : Value).ownBlock ∧ some k_ ≠ (.slice Ao28 t646.length co28 : Value).ownBlock ∧ some k_ ≠ (.slice Ao31 t653.length co31 : Value).ownBlock)) (by (with_reducible repeat (first | apply Kd.R_alloc | apply Kd.R_drewN | apply Kd.R_drew)); exact Kd.R_mono HO663.out (fun _ hk => ⟨⟨hk.1.1.1.1.1.2, ⟨hk.1.1.1.1.2, ⟨hk.1.1.1.2, ⟨hk.1.1.2, hk.1.2⟩⟩⟩⟩, hk.2⟩)) hg hat); have n6_ := Aside0.mk (hb); have n7_ := Aside0.mk (ho); clear HO635; clear HO642; clear HO645; clear HO648; clear HO655; clear HO663; clear HB; clear HO658; have HO635 := n0_; have HO642 := n1_; have HO645 := n2_; have HO648 := n3_; have HO655 := n4_; have HO663 := n5_; have HB := n6_; have HO666 := n7_; clear n0_ n1_ n2_ n3_ n4_ n5_ n6_ n7_; clear ho hb hg hat))
           go_roundg k1
           case measure => have := HK1.out; omega
           case rel => exact ⟨(y643), (y664), (wrap64 (x5_1 + 1)), (by first | rfl | (simp; done) | (simp [*]; done)), H', ⟨by have := HK1.out; omega⟩, ⟨RF.of_R (by (with_reducible repeat (first | apply Kd.R_alloc | apply Kd.R_drewN | apply Kd.R_drew)); exact Kd.R_mono HO645.out (fun _ hk => hk.2))⟩, ⟨by (with_reducible repeat (first | apply Kd.R_alloc | apply Kd.R_drewN | apply Kd.R_drew)); exact Kd.R_mono HO666.out (fun _ hk => hk.2.2.1)⟩, ⟨bw⟩⟩
          ·rw [if_neg c19] at H
           exact absurd H (by simp)
         ·rw [if_neg c17] at H
          exact absurd H (by simp)
        ·rw [if_neg c16] at H
         exact absurd H (by simp)
       ·rw [if_neg c14] at H
        exact absurd H (by simp)
      ·rw [if_neg c12] at H
       exact absurd H (by simp)
     ·rw [if_neg c9] at H
      exact absurd H (by simp)
    ·rw [if_neg c7] at H
     exact absurd H (by simp)
   ·rw [if_neg c6] at H
    have c6b0 : decide (x5_1 < (l0.length : Int)) = false := decide_eq_false c6
    clear c6
    by_cases c35 : x3_1.length + x4_1.length < 140737488355328
    ·rw [if_pos c35] at H
     have LMc35 := Aside0.mk c35
     clear c35
     obtain ⟨y667, hy667⟩ : ∃ y_ : List Int, y_ = (x3_1 ++ x4_1) := ⟨_, rfl⟩
     replace H : ((spec_Crc32.f k1 x4_1).bind fun t670 => ((spec_l2Fixed.f t670).bind fun t671 => (if y667.length + t671.length < 140737488355328 then ((some (y667 ++ t671 : List Int)).bind fun y674 => ((spec_l2Fixed.f (((x4_1.length : Int)) % 4294967296)).bind fun t677 => (if y674.length + t677.length < 140737488355328 then (some (y674 ++ t677)) else (none)))) else (none)))) = some r := by first | (rw [hy667]; with_reducible exact H) | (have H2_ := (Option.bind_some _ _).symm.trans H; rw [hy667]; with_reducible exact H2_) | (have H2_ := (Option.bind_some _ _).symm.trans H; with_reducible exact H2_) | with_reducible exact H | (rw [hy667]; exact H) | exact H
     have Ny667 := Aside0.mk hy667
     clear hy667
     replace H := Option.bind_eq_some_iff.mp H
     obtain ⟨t670, A360, H⟩ := H
     replace H : ((spec_l2Fixed.f t670).bind fun t671 => (if y667.length + t671.length < 140737488355328 then ((some (y667 ++ t671 : List Int)).bind fun y674 => ((spec_l2Fixed.f (((x4_1.length : Int)) % 4294967296)).bind fun t677 => (if y674.length + t677.length < 140737488355328 then (some (y674 ++ t677)) else (none)))) else (none))) = some r := H
     have A36 := Aside0.mk A360
     clear A360
     replace H := Option.bind_eq_some_iff.mp H
     obtain ⟨t671, A370, H⟩ := H
     replace H : (if y667.length + t671.length < 140737488355328 then ((some (y667 ++ t671 : List Int)).bind fun y674 => ((spec_l2Fixed.f (((x4_1.length : Int)) % 4294967296)).bind fun t677 => (if y674.length + t677.length < 140737488355328 then (some (y674 ++ t677)) else (none)))) else (none)) = some r := H
     have A37 := Aside0.mk A370
     clear A370
     by_cases c38 : y667.length + t671.length < 140737488355328
     ·rw [if_pos c38] at H
      have LMc38 := Aside0.mk c38
      clear c38
      obtain ⟨y674, hy674⟩ : ∃ y_ : List Int, y_ = (y667 ++ t671) := ⟨_, rfl⟩
      replace H : ((spec_l2Fixed.f (((x4_1.length : Int)) % 4294967296)).bind fun t677 => (if y674.length + t677.length < 140737488355328 then (some (y674 ++ t677)) else (none))) = some r := by first | (rw [hy674]; with_reducible exact H) | (have H2_ := (Option.bind_some _ _).symm.trans H; rw [hy674]; with_reducible exact H2_) | (have H2_ := (Option.bind_some _ _).symm.trans H; with_reducible exact H2_) | with_reducible exact H | (rw [hy674]; exact H) | exact H
      have Ny674 := Aside0.mk hy674
      clear hy674
      replace H := Option.bind_eq_some_iff.mp H
      obtain ⟨t677, A390, H⟩ := H
      replace H : (if y674.length + t677.length < 140737488355328 then (some (y674 ++ t677)) else (none)) = some r := H
      have A39 := Aside0.mk A390
      clear A390
      by_cases c40 : y674.length + t677.length < 140737488355328
      ·rw [if_pos c40] at H
       have LMc40 := Aside0.mk c40
       clear c40
       obtain ⟨y680, hy680⟩ : ∃ y_ : List Int, y_ = (y674 ++ t677) := ⟨_, rfl⟩
       replace H : (some y680) = some r := by first | (rw [hy680]; with_reducible exact H) | (have H2_ := (Option.bind_some _ _).symm.trans H; rw [hy680]; with_reducible exact H2_) | (have H2_ := (Option.bind_some _ _).symm.trans H; with_reducible exact H2_) | with_reducible exact H | (rw [hy680]; exact H) | exact H
       have Ny680 := Aside0.mk hy680
       clear hy680
       obtain rfl := Option.some.inj H
       obtain ⟨Ao42, co42, eo42⟩ := Kd.R_slice HO_4.out
       subst eo42
       go_wp2_with (first | ((with_reducible refine gate_builtin (b := .append) (xs := #[.tmp 56, .tmp 57]) rfl ?_); at_builtin; refine RF_append_rows (Kd.int .u8) rfl (w0 := w) w.heap.size rfl (.tmp 56) (.tmp 57) 38 5 (.int .u8 0) 1 rfl Try.underlying38 info5 rfl (by decide) (by omega) u3 x3_1 x4_1 _ _ _ (fun k_ => some k_ ≠ (.slice Ao42 x4_1.length co42 : Value).ownBlock) (fun _ => False) rfl rfl ?aO ?aR (fun _ h => h.elim) ?aF ?aB ?aS ?aL rfl rfl rfl ?_; (case aR => repeat (first | exact (Kd.R_reads' HO_4.out).2.2 | (with_reducible refine Kd.C_alloc ?_ _) | (with_reducible refine Kd.C_drewN ?_ _) | (with_reducible refine Kd.C_drew ?_))); (case aB => exact bw); (case aF => exact (fun k_ hk => Kd.fresh' (Kd.R_lt (lf HO_4)) k_ hk)); (case aO => exact (by (with_reducible repeat (first | apply RF_alloc | apply RF_drewN | apply RF_drew)); exact HO_3.out)); (case aS => exact (below_size bw)); (case aL => have := LMc35.out; omega); intro v668 w41 ho hb hg hat; rw [← Ny667.out] at ho; have n0_ := Aside0.mk (Kd.R_after (ok := (fun _ => True)) (by (with_reducible repeat (first | apply Kd.R_alloc | apply Kd.R_drewN | apply Kd.R_drew)); exact Kd.R_mono HO_4.out (fun _ hk => ⟨trivial, hk⟩)) hg hat); have n1_ := Aside0.mk (hb); have n2_ := Aside0.mk (ho); clear HO_4; clear HB; clear HO_3; have HO_4 := n0_; have HB := n1_; have HO669 := n2_; clear n0_ n1_ n2_; clear ho hb hg hat) | ((with_reducible refine at_fn (f := 23) rfl ?_); refine goesL_ (some 60) rfl rfl Try.func23 (by kernel_rfl) rfl #[.slice Ao42 x4_1.length co42] rfl (by (try simp only [List.map_toArray, List.map_cons, List.map_nil]); first | done | rfl | (simp only [List.length_drop, List.length_take]; rfl)) ?_; (with_reducible refine (spec_Crc32.calls k1 _ _ x4_1 t670 _ ?side1 ?side2 A36.out).mono ?_); (case side1 => repeat (first | exact (Kd.R_reads' HO_4.out).2.2 | (with_reducible refine Kd.C_alloc ?_ _) | (with_reducible refine Kd.C_drewN ?_ _) | (with_reducible refine Kd.C_drew ?_))); (case side2 => exact (Kd.R_reads' HO_4.out).2.1); rintro e w' ⟨rfl, ⟨nd, rfl⟩⟩; refine ⟨_, rfl, ?_⟩) | ((with_reducible refine at_fn (f := 114) rfl ?_); refine goesL_ (some 61) rfl rfl Try.func114 (by kernel_rfl) rfl #[.int .u32 t670] rfl (by (try simp only [List.map_toArray, List.map_cons, List.map_nil]); first | done | rfl | (simp only [List.length_drop, List.length_take]; rfl)) ?_; (with_reducible refine (spec_l2Fixed.calls t670 t671 _ A37.out).mono ?_); rintro e w43 ⟨v672, rfl, ho0, hb⟩; refine ⟨_, rfl, ?_⟩; have n0_ := Aside0.mk (Kd.R_elder' (lf HO_4) (Kd.R_base ho0) hb); have n1_ := Aside0.mk (RF_elder' (by (with_reducible repeat (first | apply RF_alloc | apply RF_drewN | apply RF_drew)); exact HO669.out) (Kd.R_base ho0) hb); have n2_ := Aside0.mk (Kd.R_lower (Kd.R_new' (Kd.R_new' ho0 (Kd.R_lt (lf HO_4))) (RF_lt (by (with_reducible repeat (first | apply RF_alloc | apply RF_drewN | apply RF_drew)); exact HO669.out))) (below_size bw)); have n3_ := Aside0.mk (below_step bw hb); clear HO_4; clear HO669; clear HB; have HO_4 := n0_; have HO669 := n1_; have HO673 := n2_; have HB := n3_; clear n0_ n1_ n2_ n3_; (try clear hb); (try clear hb2); (try clear hk); (try clear hi); (try clear ho0); obtain ⟨Ao45, co45, eo45⟩ := Kd.R_slice HO673.out; subst eo45) | ((with_reducible refine gate_builtin (b := .append) (xs := #[.tmp 58, .tmp 61]) rfl ?_); at_builtin; refine RF_append_rows1 (Kd.int .u8) rfl (w0 := w) w.heap.size rfl (.tmp 58) (.tmp 61) 38 5 (.int .u8 0) 1 rfl Try.underlying38 info5 rfl (by decide) (by omega) v668 y667 t671 _ _ _ (fun k_ => some k_ ≠ (.slice Ao42 x4_1.length co42 : Value).ownBlock ∧ some k_ ≠ (.slice Ao45 t671.length co45 : Value).ownBlock) (fun _ => False) rfl rfl ?aO ?aR (fun _ h => h.elim) ?aF ?aB ?aS ?aL rfl rfl rfl ?aM ?_; (case aM => have h_ := A37.out; unfold spec_l2Fixed.f at h_; rw [← Option.some.inj h_]; exact Nat.succ_pos _); (case aR => repeat (first | exact (Kd.R_reads' HO673.out).2.2 | (with_reducible refine Kd.C_alloc ?_ _) | (with_reducible refine Kd.C_drewN ?_ _) | (with_reducible refine Kd.C_drew ?_))); (case aB => exact bw); (case aF => exact (fun k_ hk => ⟨Kd.fresh' (Kd.R_lt (lf HO_4)) k_ hk, Kd.fresh' (Kd.R_lt (lf HO673)) k_ hk⟩)); (case aO => exact (by (with_reducible repeat (first | apply RF_alloc | apply RF_drewN | apply RF_drew)); exact HO669.out)); (case aS => exact (below_size bw)); (case aL => have := LMc38.out; omega); intro v675 w44 ho hb hg hat; rw [← Ny674.out] at ho; have n0_ := Aside0.mk (Kd.R_after (ok := (fun k_ => some k_ ≠ (.slice Ao45 t671.length co45 : Value).ownBlock)) (by (with_reducible repeat (first | apply Kd.R_alloc | apply Kd.R_drewN | apply Kd.R_drew)); exact Kd.R_mono HO_4.out (fun _ hk => ⟨hk.2, hk.1.2⟩)) hg hat); have n1_ := Aside0.mk (Kd.R_after (ok := (fun k_ => some k_ ≠ (.slice Ao42 x4_1.length co42 : Value).ownBlock)) (by (with_reducible repeat (first | apply Kd.R_alloc | apply Kd.R_drewN | apply Kd.R_drew)); exact Kd.R_mono HO673.out (fun _ hk => ⟨hk.1.2, hk.2⟩)) hg hat); have n2_ := Aside0.mk (hb); have n3_ := Aside0.mk (ho); clear HO_4; clear HO673; clear HB; clear HO669; have HO_4 := n0_; have HO673 := n1_; have HB := n2_; have HO676 := n3_; clear n0_ n1_ n2_ n3_; clear ho hb hg hat) | ((with_reducible refine at_fn (f := 114) rfl ?_); refine goesL_ (some 67) rfl rfl Try.func114 (by kernel_rfl) rfl #[.int .u32 (((x4_1.length : Int)) % 4294967296)] rfl (by (try simp only [List.map_toArray, List.map_cons, List.map_nil]); first | done | rfl | (simp only [List.length_drop, List.length_take]; rfl)) ?_; (with_reducible refine (spec_l2Fixed.calls (((x4_1.length : Int)) % 4294967296) t677 _ A39.out).mono ?_); rintro e w46 ⟨v678, rfl, ho0, hb⟩; refine ⟨_, rfl, ?_⟩; have n0_ := Aside0.mk (Kd.R_elder' (lf HO_4) (Kd.R_base ho0) hb); have n1_ := Aside0.mk (Kd.R_elder' (lf HO673) (Kd.R_base ho0) hb); have n2_ := Aside0.mk (Kd.R_elder' (lf HO676) (Kd.R_base ho0) hb); have n3_ := Aside0.mk (Kd.R_lower (Kd.R_new' (Kd.R_new' (Kd.R_new' ho0 (Kd.R_lt (lf HO_4))) (Kd.R_lt (lf HO673))) (Kd.R_lt (lf HO676))) (below_size bw)); have n4_ := Aside0.mk (below_step bw hb); clear HO_4; clear HO673; clear HO676; clear HB; have HO_4 := n0_; have HO673 := n1_; have HO676 := n2_; have HO679 := n3_; have HB := n4_; clear n0_ n1_ n2_ n3_ n4_; (try clear hb); (try clear hb2); (try clear hk); (try clear hi); (try clear ho0); obtain ⟨Ao48, co48, eo48⟩ := Kd.R_slice HO679.out; subst eo48) | ((with_reducible refine gate_builtin (b := .append) (xs := #[.tmp 63, .tmp 67]) rfl ?_); at_builtin; refine Kd.R_append_rows (Kd.int .u8) (w0 := w) w.heap.size rfl (.tmp 63) (.tmp 67) 38 5 (.int .u8 0) 1 rfl Try.underlying38 info5 rfl (by decide) (by omega) v675 y674 t677 _ _ _ (fun k_ => some k_ ≠ (.slice Ao42 x4_1.length co42 : Value).ownBlock ∧ some k_ ≠ (.slice Ao45 t671.length co45 : Value).ownBlock ∧ some k_ ≠ (.slice Ao48 t677.length co48 : Value).ownBlock) (fun _ => False) rfl rfl ?aO ?aR (fun _ _ h => h) (fun _ h => h.elim) ?aF ?aB ?aS ?aL ?_; (case aR => repeat (first | exact (Kd.R_reads' HO679.out).2.2 | (with_reducible refine Kd.C_alloc ?_ _) | (with_reducible refine Kd.C_drewN ?_ _) | (with_reducible refine Kd.C_drew ?_))); (case aB => exact bw); (case aF => exact (fun k_ hk => ⟨Kd.fresh' (Kd.R_lt (lf HO_4)) k_ hk, Kd.fresh' (Kd.R_lt (lf HO673)) k_ hk, Kd.fresh' (Kd.R_lt (lf HO679)) k_ hk⟩)); (case aO => exact (by (with_reducible repeat (first | apply Kd.R_alloc | apply Kd.R_drewN | apply Kd.R_drew)); exact Kd.R_mono HO676.out (fun _ hk => ⟨hk.1.1, ⟨hk.1.2, hk.2⟩⟩))); (case aS => exact (below_size bw)); (case aL => have := LMc40.out; omega); intro v681 w47 ho hb hg hat; rw [← Ny680.out] at ho; have n0_ := Aside0.mk (Kd.R_after (ok := (fun k_ => some k_ ≠ (.slice Ao45 t671.length co45 : Value).ownBlock ∧ some k_ ≠ (.slice Ao48 t677.length co48 : Value).ownBlock)) (by (with_reducible repeat (first | apply Kd.R_alloc | apply Kd.R_drewN | apply Kd.R_drew)); exact Kd.R_mono HO_4.out (fun _ hk => ⟨⟨hk.1.1, hk.2⟩, hk.1.2⟩)) hg hat); have n1_ := Aside0.mk (Kd.R_after (ok := (fun k_ => some k_ ≠ (.slice Ao42 x4_1.length co42 : Value).ownBlock ∧ some k_ ≠ (.slice Ao48 t677.length co48 : Value).ownBlock)) (by (with_reducible repeat (first | apply Kd.R_alloc | apply Kd.R_drewN | apply Kd.R_drew)); exact Kd.R_mono HO673.out (fun _ hk => ⟨⟨hk.1.1, hk.2⟩, hk.1.2⟩)) hg hat); have n2_ := Aside0.mk (Kd.R_after (ok := (fun k_ => some k_ ≠ (.slice Ao42 x4_1.length co42 : Value).ownBlock ∧ some k_ ≠ (.slice Ao45 t671.length co45 : Value).ownBlock)) (by (with_reducible repeat (first | apply Kd.R_alloc | apply Kd.R_drewN | apply Kd.R_drew)); exact Kd.R_mono HO679.out (fun _ hk => ⟨⟨hk.1.1.2, hk.1.2⟩, hk.2⟩)) hg hat); have n3_ := Aside0.mk (hb); have n4_ := Aside0.mk (ho); clear HO_4; clear HO673; clear HO679; clear HB; clear HO676; have HO_4 := n0_; have HO673 := n1_; have HO679 := n2_; have HB := n3_; have HO682 := n4_; clear n0_ n1_ n2_ n3_ n4_; clear ho hb hg hat))
       go_ret
       exact ⟨_, by first | rfl | (simp [errW_none, errW_some] <;> rfl) | (simp [*, errW_none, errW_some] <;> rfl), by (with_reducible repeat (first | apply Kd.R_alloc | apply Kd.R_drewN | apply Kd.R_drew)); exact Kd.R_mono HO682.out (fun _ hk => trivial), bw⟩
      ·rw [if_neg c40] at H
       exact absurd H (by simp)
     ·rw [if_neg c38] at H
      exact absurd H (by simp)
    ·rw [if_neg c35] at H
     exact absurd H (by simp)

end Go.Proofs.Ytdknjbadnbangaa.Q

namespace Go.Proofs.Ytdknjbadnbangaa.Q
open Go.RowKit Go.Proofs.YtdknjbadnbangaaW.PrintWords Go.Proofs.YtdknjbadnbangaaW.PrintLast Go.Proofs.YtdknjbadnbangaaW.PrintMore
set_option linter.unusedVariables false
set_option linter.unusedSimpArgs false

/-! ### spec_EncodeRun: function 54 -/
mutual
def spec_EncodeRun.j0 : Nat → Int → Bool → List (S35) → Option (List Int)
 | 0, _, _, _ => none
 | k + 1, x1, x17, x684000 => if x17 = true then (some (([] : List Int))) else (spec_EncodeRun.l0 k x1 (([] : List (List (S35)))) x684000)
def spec_EncodeRun.l0 : Nat → Int → List (List (S35)) → List (S35) → Option (List Int)
 | 0, _, _, _ => none
 | k + 1, x1, x5, x6 => if (x6.length : Int) > x1 then (if 0 ≤ x1 then (if x1 ≤ (x6.length : Int) then (if x5.length < 5864062014805 then (spec_EncodeRun.l0 k x1 (x5 ++ [(x6.take (x1 : Int).toNat)]) (x6.drop (x1 : Int).toNat)) else (none)) else (none)) else (none)) else (if (x6.length : Int) > 0 then (if x5.length < 5864062014805 then (spec_EncodeRun.j2 k (x5 ++ [x6])) else (none)) else (spec_EncodeRun.j2 k x5))
def spec_EncodeRun.j2 : Nat → List (List (S35)) → Option (List Int)
 | 0, _ => none
 | k + 1, x5 => (spec_l2File.f k x5).bind fun t707 => (some t707)
end
def spec_EncodeRun.f (k : Nat) (l0_0 : List (S35)) (a1 : Int) : Option (List Int) := (spec_ValidRun.f k l0_0).bind fun t684 => (if t684 = true then (if a1 < 1 then (spec_EncodeRun.j0 k a1 true l0_0) else (spec_EncodeRun.j0 k a1 (decide (a1 > 1000)) l0_0)) else (spec_EncodeRun.j0 k a1 true l0_0))
set_option maxHeartbeats 8000000 in
set_option maxRecDepth 100000 in
theorem spec_EncodeRun.calls (k : Nat) (P0_0_ : Nat → Prop) (A0_0 : Option Addr) (c0_0 : Nat) (l0_0 : List (S35)) (a1 : Int) (r : List Int) (w : World) (hs0_0 : Kd.V k35 35 w w.heap.size (fun k_ => P0_0_ k_) (.slice A0_0 l0_0.length c0_0) l0_0) (h : spec_EncodeRun.f k l0_0 a1 = some r) :
  Calls Try.prog 54 #[.agg #[.slice A0_0 l0_0.length c0_0], .int .i64 a1] w fun e w' => ∃ v0_ : Value, e = .returned (v0_) ∧ Kd.R (Kd.int .u8) 5 w' w.heap.size (fun k_ => (w.heap.size ≤ k_)) v0_ r ∧ Below w.heap.size w w' := by
 have hu66 := Try.underlying66
 have HO0_0 := Aside0.mk (show Kd.V k35 35 w w.heap.size (fun k_ => (P0_0_ k_ ∨ w.heap.size ≤ k_)) (.slice A0_0 l0_0.length c0_0) l0_0 from Kd.V_mono hs0_0 (fun k_ hk => .inl hk))
 have HB := Aside0.mk (Below.refl w.heap.size w)
 have H : ((spec_ValidRun.f k l0_0).bind fun t684 => (if t684 = true then (if a1 < 1 then (spec_EncodeRun.j0 k a1 true l0_0) else (spec_EncodeRun.j0 k a1 (decide (a1 > 1000)) l0_0)) else (spec_EncodeRun.j0 k a1 true l0_0))) = some r := h
 clear h
 have HC3 := Aside0.mk H
 clear H
 go_enter Try.func54, Try.ntmps54
 go_upto_region 1 with (first | ((with_reducible refine gate_dst (N := 2) rfl ?_); refine box_event ?hg (N := 2) ?hd (cs := #[.slice A0_0 l0_0.length c0_0]) (t := 66) ?hr ?_; (case hd => rfl); (case hg => rfl); (case hr => first | (go_simp; done) | (go_simp; rfl)); intro gb683 hg w4 hbox hb; have n0_ := Aside0.mk (Kd.V_below (Kd.V_elderB (by (with_reducible repeat (first | apply Kd.V_alloc | apply Kd.V_drewN | apply Kd.V_drew)); exact HO0_0.out) gb683 (Nat.le_of_eq hg.symm)) hb); have n1_ := Aside0.mk (below_step bw hb); have n2_ := Aside0.mk (hbox); have n3_ := Aside0.mk ((by rw [hg]; exact (below_size bw) : w.heap.size ≤ gb683)); have n4_ := Aside0.mk ((by rw [hg]; exact (below_size bw) : w.heap.size ≤ gb683)); clear HO0_0; clear HB; have HO0_0 := n0_; have HB := n1_; have BK683 := n2_; have GW683 := n3_; have GE683 := n4_; clear n0_ n1_ n2_ n3_ n4_; clear hb hbox hg))
 (try simp only [Act.put, List.setIfInBounds_toArray, List.set_cons_zero, List.set_cons_succ])
 go_cut [17] (fun v17 wc => ∃ (kq : Nat) (x17_2 : Bool), v17 = .bool x17_2 ∧ Aside0 (spec_EncodeRun.j0 kq a1 x17_2 l0_0 = some r) ∧ Aside0 (kq ≤ k) ∧ Aside0 (Kd.V k35 35 wc w.heap.size (fun k_ => (P0_0_ k_ ∨ w.heap.size ≤ k_) ∧ k_ ≠ gb683) (.slice A0_0 l0_0.length c0_0) l0_0) ∧ Aside0 (wc.heap[gb683]? = some (.cells #[(.slice A0_0 l0_0.length c0_0)] 66 (0, 0))) ∧ Aside0 (Below w.heap.size w wc))
 case first =>
  have H := HC3.out
  clear HC3
  replace H := Option.bind_eq_some_iff.mp H
  obtain ⟨t684, A50, H⟩ := H
  replace H : (if t684 = true then (if a1 < 1 then (spec_EncodeRun.j0 k a1 true l0_0) else (spec_EncodeRun.j0 k a1 (decide (a1 > 1000)) l0_0)) else (spec_EncodeRun.j0 k a1 true l0_0)) = some r := H
  have A5 := Aside0.mk A50
  clear A50
  by_cases c6 : t684 = true
  ·subst c6
   have H1 : (if a1 < 1 then (spec_EncodeRun.j0 k a1 true l0_0) else (spec_EncodeRun.j0 k a1 (decide (a1 > 1000)) l0_0)) = some r := by rw [if_pos rfl] at H; exact H
   clear H
   have H := H1
   clear H1
   by_cases c7 : a1 < 1
   ·rw [if_pos c7] at H
    have c7b0 : decide (a1 < 1) = true := decide_eq_true c7
    clear c7
    (first | rw [c7b0] | (simp only [i64_w, i32_w]; rw [c7b0]) | skip)
    have H' := Aside0.mk H
    clear H
    have hcz8_0 : w4.cell? ⟨gb683, 0, none⟩ = some (.slice A0_0 l0_0.length c0_0) := (blk_cell BK683.out 0).trans rfl
    have hfz8_0 := blk_frozen BK683.out 0
    go_wp2_with (first | ((with_reducible refine at_fn (f := 40) rfl ?_); refine goesL_ (some 8) rfl rfl Try.func40 (by kernel_rfl) rfl #[.agg #[.slice A0_0 l0_0.length c0_0]] rfl (by (try simp only [List.map_toArray, List.map_cons, List.map_nil]); first | done | rfl | (simp only [List.length_drop, List.length_take]; rfl)) ?_; (with_reducible refine (spec_ValidRun.calls k _ _ l0_0 true _ ?side1 ?side2 A5.out).mono ?_); (case side1 => repeat (first | exact (Kd.V_reads' HO0_0.out).2.2 | (with_reducible refine Kd.C_alloc ?_ _) | (with_reducible refine Kd.C_drewN ?_ _) | (with_reducible refine Kd.C_drew ?_))); (case side2 => exact (Kd.V_reads' HO0_0.out).2.1); rintro e w9 ⟨rfl, hb⟩; refine ⟨_, rfl, ?_⟩; have n0_ := Aside0.mk (Kd.V_below (by (with_reducible repeat (first | apply Kd.V_alloc | apply Kd.V_drewN | apply Kd.V_drew)); exact HO0_0.out) hb); have n1_ := Aside0.mk (blk_below (g := gb683) (o := .cells #[.slice A0_0 l0_0.length c0_0] 66 (0, 0)) (lb BK683) hb); have n2_ := Aside0.mk (below_step bw hb); clear HO0_0; clear BK683; clear HB; have HO0_0 := n0_; have BK683 := n1_; have HB := n2_; clear n0_ n1_ n2_; (try clear hb); (try clear hb2); (try clear hk); (try clear hi)))
    go_meet
    case rel => exact ⟨_, (true), (by first | rfl | (simp; done) | (simp [*]; done)), H', ⟨by first | omega | exact Nat.le_refl _⟩, ⟨by (with_reducible repeat (first | apply Kd.V_alloc | apply Kd.V_drewN | apply Kd.V_drew)); exact HO0_0.out⟩, ⟨lb BK683⟩, ⟨bw⟩⟩
   ·rw [if_neg c7] at H
    have c7b0 : decide (a1 < 1) = false := decide_eq_false c7
    clear c7
    (first | rw [c7b0] | (simp only [i64_w, i32_w]; rw [c7b0]) | skip)
    have H' := Aside0.mk H
    clear H
    have hcz10_0 : w4.cell? ⟨gb683, 0, none⟩ = some (.slice A0_0 l0_0.length c0_0) := (blk_cell BK683.out 0).trans rfl
    have hfz10_0 := blk_frozen BK683.out 0
    go_wp2_with (first | ((with_reducible refine at_fn (f := 40) rfl ?_); refine goesL_ (some 8) rfl rfl Try.func40 (by kernel_rfl) rfl #[.agg #[.slice A0_0 l0_0.length c0_0]] rfl (by (try simp only [List.map_toArray, List.map_cons, List.map_nil]); first | done | rfl | (simp only [List.length_drop, List.length_take]; rfl)) ?_; (with_reducible refine (spec_ValidRun.calls k _ _ l0_0 true _ ?side1 ?side2 A5.out).mono ?_); (case side1 => repeat (first | exact (Kd.V_reads' HO0_0.out).2.2 | (with_reducible refine Kd.C_alloc ?_ _) | (with_reducible refine Kd.C_drewN ?_ _) | (with_reducible refine Kd.C_drew ?_))); (case side2 => exact (Kd.V_reads' HO0_0.out).2.1); rintro e w11 ⟨rfl, hb⟩; refine ⟨_, rfl, ?_⟩; have n0_ := Aside0.mk (Kd.V_below (by (with_reducible repeat (first | apply Kd.V_alloc | apply Kd.V_drewN | apply Kd.V_drew)); exact HO0_0.out) hb); have n1_ := Aside0.mk (blk_below (g := gb683) (o := .cells #[.slice A0_0 l0_0.length c0_0] 66 (0, 0)) (lb BK683) hb); have n2_ := Aside0.mk (below_step bw hb); clear HO0_0; clear BK683; clear HB; have HO0_0 := n0_; have BK683 := n1_; have HB := n2_; clear n0_ n1_ n2_; (try clear hb); (try clear hb2); (try clear hk); (try clear hi)))
    go_meet
    case rel => exact ⟨_, (decide (a1 > 1000)), (by first | rfl | (simp; done) | (simp [*]; done)), H', ⟨by first | omega | exact Nat.le_refl _⟩, ⟨by (with_reducible repeat (first | apply Kd.V_alloc | apply Kd.V_drewN | apply Kd.V_drew)); exact HO0_0.out⟩, ⟨lb BK683⟩, ⟨bw⟩⟩
  ·replace c6 := Bool.eq_false_iff.mpr c6
   subst c6
   have H1 : (spec_EncodeRun.j0 k a1 true l0_0) = some r := by rw [if_neg (show ¬ (false = true) by decide)] at H; exact H
   clear H
   have H := H1
   clear H1
   have H' := Aside0.mk H
   clear H
   have hcz12_0 : w4.cell? ⟨gb683, 0, none⟩ = some (.slice A0_0 l0_0.length c0_0) := (blk_cell BK683.out 0).trans rfl
   have hfz12_0 := blk_frozen BK683.out 0
   go_wp2_with (first | ((with_reducible refine at_fn (f := 40) rfl ?_); refine goesL_ (some 8) rfl rfl Try.func40 (by kernel_rfl) rfl #[.agg #[.slice A0_0 l0_0.length c0_0]] rfl (by (try simp only [List.map_toArray, List.map_cons, List.map_nil]); first | done | rfl | (simp only [List.length_drop, List.length_take]; rfl)) ?_; (with_reducible refine (spec_ValidRun.calls k _ _ l0_0 false _ ?side1 ?side2 A5.out).mono ?_); (case side1 => repeat (first | exact (Kd.V_reads' HO0_0.out).2.2 | (with_reducible refine Kd.C_alloc ?_ _) | (with_reducible refine Kd.C_drewN ?_ _) | (with_reducible refine Kd.C_drew ?_))); (case side2 => exact (Kd.V_reads' HO0_0.out).2.1); rintro e w13 ⟨rfl, hb⟩; refine ⟨_, rfl, ?_⟩; have n0_ := Aside0.mk (Kd.V_below (by (with_reducible repeat (first | apply Kd.V_alloc | apply Kd.V_drewN | apply Kd.V_drew)); exact HO0_0.out) hb); have n1_ := Aside0.mk (blk_below (g := gb683) (o := .cells #[.slice A0_0 l0_0.length c0_0] 66 (0, 0)) (lb BK683) hb); have n2_ := Aside0.mk (below_step bw hb); clear HO0_0; clear BK683; clear HB; have HO0_0 := n0_; have BK683 := n1_; have HB := n2_; clear n0_ n1_ n2_; (try clear hb); (try clear hb2); (try clear hk); (try clear hi)))
   go_meet
   case rel => exact ⟨_, (true), (by first | rfl | (simp; done) | (simp [*]; done)), H', ⟨by first | omega | exact Nat.le_refl _⟩, ⟨by (with_reducible repeat (first | apply Kd.V_alloc | apply Kd.V_drewN | apply Kd.V_drew)); exact HO0_0.out⟩, ⟨lb BK683⟩, ⟨bw⟩⟩
 case rest =>
  clear HC3
  try clear p2
  try clear c4
  try clear c5
  try clear c6
  try clear c7
  try clear c7b0
  try clear hcz10_0
  try clear hcz12_0
  try clear hcz8_0
  try clear hfz10_0
  try clear hfz12_0
  try clear hfz8_0
  obtain ⟨kq, x17_2, rfl, HA, HJ2, HO_684000, BK683, HB⟩ := hcut
  cases kq with
  | zero => exact absurd HA.out (by simp [spec_EncodeRun.j0])
  | succ kj2 =>
   have H := HA.out
   clear HA
   simp only [spec_EncodeRun.j0] at H
   by_cases c14 : x17_2 = true
   ·subst c14
    have H1 : (some (([] : List Int))) = some r := by rw [if_pos rfl] at H; exact H
    clear H
    have H := H1
    clear H1
    obtain ⟨y685, hy685⟩ : ∃ y_ : List Int, y_ = (([] : List Int)) := ⟨_, rfl⟩
    replace H : (some y685) = some r := by first | (rw [hy685]; with_reducible exact H) | (have H2_ := (Option.bind_some _ _).symm.trans H; rw [hy685]; with_reducible exact H2_) | (have H2_ := (Option.bind_some _ _).symm.trans H; with_reducible exact H2_) | with_reducible exact H | (rw [hy685]; exact H) | exact H
    have Ny685 := Aside0.mk hy685
    clear hy685
    obtain rfl := Option.some.inj H
    go_wp2_with (first | ((with_reducible refine gate_dst (N := 18) rfl ?_); refine Kd.R_lit (Kd.int .u8) _ 5 ?hg (N := 18) ?hd (xs := ([] : List Int)) (inner := []) (ok := fun _ => True) (okp := fun _ => True) ?hr ?hp (fun _ hk => hk) trivial (Below.refl _ _) (Nat.le_refl _) (by simp) ?_; (case hd => rfl); (case hg => rfl); (case hr => first | (go_simp; done) | (go_simp; rfl)); (case hp => exact (Reps.none _ _)); intro v686 w15 ho16 hb hg_ hnew_; clear hg_ hnew_; (first | rw [← Ny685.out] at ho16 | (simp only [Int.reduceToNat] at ho16; rw [← Ny685.out] at ho16)); have n0_ := Aside0.mk (Kd.V_elder' (by (with_reducible repeat (first | apply Kd.V_alloc | apply Kd.V_drewN | apply Kd.V_drew)); exact HO_684000.out) (Kd.R_base ho16) hb); have n1_ := Aside0.mk (Kd.R_lower (Kd.R_newM (M := fun k_ => (w.heap.size ≤ k_)) ho16 (below_size bw) (fun k_ h_ => h_)) (below_size bw)); have n2_ := Aside0.mk (blk_below (g := gb683) (o := .cells #[.slice A0_0 l0_0.length c0_0] 66 (0, 0)) (lb BK683) hb); have n3_ := Aside0.mk (below_step bw hb); clear HO_684000; clear BK683; clear HB; have HO_684000 := n0_; have HO687 := n1_; have BK683 := n2_; have HB := n3_; clear n0_ n1_ n2_ n3_; clear hb ho16))
    go_ret
    exact ⟨_, by first | rfl | (simp [errW_none, errW_some] <;> rfl) | (simp [*, errW_none, errW_some] <;> rfl), by (with_reducible repeat (first | apply Kd.R_alloc | apply Kd.R_drewN | apply Kd.R_drew)); exact Kd.R_mono HO687.out (fun _ hk => hk.1), bw⟩
   ·replace c14 := Bool.eq_false_iff.mpr c14
    subst c14
    have H1 : (spec_EncodeRun.l0 kj2 a1 (([] : List (List (S35)))) l0_0) = some r := by rw [if_neg (show ¬ (false = true) by decide)] at H; exact H
    clear H
    have H := H1
    clear H1
    obtain ⟨y688, hy688⟩ : ∃ y_ : List (List (S35)), y_ = (([] : List (List (S35)))) := ⟨_, rfl⟩
    replace H : (spec_EncodeRun.l0 kj2 a1 y688 l0_0) = some r := by first | (rw [hy688]; with_reducible exact H) | (have H2_ := (Option.bind_some _ _).symm.trans H; rw [hy688]; with_reducible exact H2_) | (have H2_ := (Option.bind_some _ _).symm.trans H; with_reducible exact H2_) | with_reducible exact H | (rw [hy688]; exact H) | exact H
    have Ny688 := Aside0.mk hy688
    clear hy688
    have H' := Aside0.mk H
    clear H
    go_wp2_with (first | ((with_reducible refine gate_dst (N := 19) rfl ?_); refine Kd.N_lit (Kd.slice 35 k35) _ 64 ?hg (N' := 19) ?hd (xs := ([] : List (List (S35)))) (inner := []) (ok := (fun k_ => (P0_0_ k_ ∨ w.heap.size ≤ k_) ∧ k_ ≠ gb683)) (okp := (fun k_ => (P0_0_ k_ ∨ w.heap.size ≤ k_) ∧ k_ ≠ gb683)) ?hr ?hp (fun _ hk => hk) ((show ∀ k_, wc.heap.size ≤ k_ → (fun k_ => (P0_0_ k_ ∨ w.heap.size ≤ k_) ∧ k_ ≠ gb683) k_ from fun k_ hk => ⟨(.inr (Nat.le_trans (below_size bw) hk)), Kd.freshB (g := gb683) (o := .cells #[.slice A0_0 l0_0.length c0_0] 66 (0, 0)) (lb BK683) k_ hk⟩) _ (Nat.le_refl _)) (Below.refl _ _) (Nat.le_refl _) (by simp) ?_; (case hd => rfl); (case hg => rfl); (case hr => first | (go_simp; done) | (go_simp; rfl)); (case hp => exact (Reps.none _ _)); intro v689 w17 ho18 hb hg_ hnew_; clear hg_ hnew_; (first | rw [← Ny688.out] at ho18 | (simp only [Int.reduceToNat] at ho18; rw [← Ny688.out] at ho18)); have n0_ := Aside0.mk (Kd.V_elder' (by (with_reducible repeat (first | apply Kd.V_alloc | apply Kd.V_drewN | apply Kd.V_drew)); exact HO_684000.out) (Kd.N_base ho18) hb); have n1_ := Aside0.mk (Kd.N_lower ho18 (below_size bw)); have n2_ := Aside0.mk (blk_below (g := gb683) (o := .cells #[.slice A0_0 l0_0.length c0_0] 66 (0, 0)) (lb BK683) hb); have n3_ := Aside0.mk (below_step bw hb); clear HO_684000; clear BK683; clear HB; have HO_684000 := n0_; have HO690 := n1_; have BK683 := n2_; have HB := n3_; clear n0_ n1_ n2_ n3_; clear hb ho18; have hcz19_0 : w17.cell? ⟨gb683, 0, none⟩ = some (.slice A0_0 l0_0.length c0_0) := (blk_cell BK683.out 0).trans rfl; have hfz19_0 := blk_frozen BK683.out 0))
    go_loopg [5, 6] kj2 (fun kq v5 v6 w' => ∃ (x5_2 : List (List (S35))) (x6_2 : List (S35)), Aside0 (spec_EncodeRun.l0 kq a1 x5_2 x6_2 = some r) ∧ Aside0 (kq ≤ kj2) ∧ Aside0 (Kd.N (Kd.slice 35 k35) 64 w' w.heap.size (fun k_ => (P0_0_ k_ ∨ w.heap.size ≤ k_) ∧ k_ ≠ gb683) v5 x5_2) ∧ Aside0 (Kd.V k35 35 w' w.heap.size (fun k_ => (P0_0_ k_ ∨ w.heap.size ≤ k_) ∧ some k_ ≠ (v5 : Value).ownBlock ∧ k_ ≠ gb683) v6 x6_2) ∧ Aside0 (Kd.V k35 35 w' w.heap.size (fun k_ => (P0_0_ k_ ∨ w.heap.size ≤ k_) ∧ some k_ ≠ (v5 : Value).ownBlock ∧ k_ ≠ gb683) (.slice A0_0 l0_0.length c0_0) l0_0) ∧ Aside0 (w'.heap[gb683]? = some (.cells #[(.slice A0_0 l0_0.length c0_0)] 66 (0, 0))) ∧ Aside0 (Below w.heap.size w w'))
    case atStart => exact ⟨(y688), (l0_0), H', ⟨Nat.le_refl _⟩, ⟨by (with_reducible repeat (first | apply Kd.N_alloc | apply Kd.N_drewN | apply Kd.N_drew)); exact HO690.out⟩, ⟨by (with_reducible repeat (first | apply Kd.V_alloc | apply Kd.V_drewN | apply Kd.V_drew)); exact Kd.V_mono HO_684000.out (fun _ hk => ⟨hk.1.1, ⟨hk.2, hk.1.2⟩⟩)⟩, ⟨by (with_reducible repeat (first | apply Kd.V_alloc | apply Kd.V_drewN | apply Kd.V_drew)); exact Kd.V_mono HO_684000.out (fun _ hk => ⟨hk.1.1, ⟨hk.2, hk.1.2⟩⟩)⟩, ⟨lb BK683⟩, ⟨bw⟩⟩
    case round =>
     clear H'
     try clear c1
     try clear p2
     try clear c4
     try clear c5
     try clear c6
     try clear c7
     try clear c7b0
     try clear c14
     try clear hcz10_0
     try clear hcz12_0
     try clear hcz19_0
     try clear hcz8_0
     try clear hfz10_0
     try clear hfz12_0
     try clear hfz19_0
     try clear hfz8_0
     try clear p2
     obtain ⟨x5_2, x6_2, HA, HK2, HO_5, HO_6, HO_684000, BK683, HB⟩ := hrel
     cases gk with
     | zero => exact absurd HA.out (by simp [spec_EncodeRun.l0])
     | succ k2 =>
      have H := HA.out
      clear HA
      simp only [spec_EncodeRun.l0] at H
      by_cases c20 : (x6_2.length : Int) > a1
      ·rw [if_pos c20] at H
       have c20b0 : decide (a1 < (x6_2.length : Int)) = true := decide_eq_true c20
       clear c20
       by_cases c21 : 0 ≤ a1
       ·rw [if_pos c21] at H
        have c21b0 := eq_true c21
        have c21b1 : decide (0 ≤ a1) = true := decide_eq_true c21
        clear c21
        by_cases c22 : a1 ≤ (x6_2.length : Int)
        ·rw [if_pos c22] at H
         have c22b0 := eq_true c22
         have c22b1 : decide (a1 ≤ (x6_2.length : Int)) = true := decide_eq_true c22
         clear c22
         obtain ⟨y691, hy691⟩ : ∃ y_ : List (S35), y_ = (x6_2.take (a1 : Int).toNat) := ⟨_, rfl⟩
         replace H : (if x5_2.length < 5864062014805 then (spec_EncodeRun.l0 k2 a1 (x5_2 ++ [y691]) (x6_2.drop (a1 : Int).toNat)) else (none)) = some r := by first | (rw [hy691]; with_reducible exact H) | (have H2_ := (Option.bind_some _ _).symm.trans H; rw [hy691]; with_reducible exact H2_) | (have H2_ := (Option.bind_some _ _).symm.trans H; with_reducible exact H2_) | with_reducible exact H | (rw [hy691]; exact H) | exact H
         have Ny691 := Aside0.mk hy691
         clear hy691
         by_cases c23 : x5_2.length < 5864062014805
         ·rw [if_pos c23] at H
          have LMc23 := Aside0.mk c23
          clear c23
          obtain ⟨y696, hy696⟩ : ∃ y_ : List (List (S35)), y_ = (x5_2 ++ [y691]) := ⟨_, rfl⟩
          replace H : (spec_EncodeRun.l0 k2 a1 y696 (x6_2.drop (a1 : Int).toNat)) = some r := by first | (rw [hy696]; with_reducible exact H) | (have H2_ := (Option.bind_some _ _).symm.trans H; rw [hy696]; with_reducible exact H2_) | (have H2_ := (Option.bind_some _ _).symm.trans H; with_reducible exact H2_) | with_reducible exact H | (rw [hy696]; exact H) | exact H
          have Ny696 := Aside0.mk hy696
          clear hy696
          have c24b0 := eq_true (of_decide_eq_true (by first | (with_reducible assumption) | assumption) : 0 ≤ a1)
          have c25b0 := eq_true (of_decide_eq_true (by first | (with_reducible assumption) | assumption) : a1 ≤ (x6_2.length : Int))
          obtain ⟨y699, hy699⟩ : ∃ y_ : List (S35), y_ = (x6_2.drop (a1 : Int).toNat) := ⟨_, rfl⟩
          replace H : (spec_EncodeRun.l0 k2 a1 y696 y699) = some r := by first | (rw [hy699]; with_reducible exact H) | (have H2_ := (Option.bind_some _ _).symm.trans H; rw [hy699]; with_reducible exact H2_) | (have H2_ := (Option.bind_some _ _).symm.trans H; with_reducible exact H2_) | with_reducible exact H | (rw [hy699]; exact H) | exact H
          have Ny699 := Aside0.mk hy699
          clear hy699
          have H' := Aside0.mk H
          clear H
          obtain ⟨Ao26, co26, eo26⟩ := Kd.V_slice HO_6.out
          subst eo26
          have q27 : (a1 : Int) ≤ ((x6_2.length : Int) : Int) := of_decide_eq_true (by first | (with_reducible assumption) | assumption)
          obtain ⟨i027, hi027, _, hsz27, _⟩ := info_parts info35
          have hroom27 : x6_2.length ≤ co26 := (Kd.V_reads' HO_6.out).2.1
          have hC27 : Kd.F k35 _ _ Ao26 x6_2.length x6_2 := (Kd.V_at (base := w.heap.size) HO_6.out).2.2
          have hcut27 := cut_to (P := Try.prog) 64 35 .i64 Try.underlying64 hi027 Ao26 x6_2.length co26 a1 (of_decide_eq_true (by first | (with_reducible assumption) | assumption)) q27 hroom27
          have hr27 := Kd.F_take (m := (a1 : Int).toNat) hC27 (by omega)
          have hy27 : y691.length = (a1 : Int).toNat := (by rw [Ny691.out, List.length_take]; omega)
          rw [← Ny691.out] at hr27
          rw [← hy27] at hcut27
          have HO695 := Aside0.mk (show Kd.V k35 35 _ w.heap.size _ (.slice Ao26 y691.length co26) y691 from Kd.V_mk (by omega) hr27)
          have HC695 := Aside0.mk (show y691.length ≤ co26 from by omega)
          clear hr27 hC27 hroom27 hi027 hsz27
          have KY27 := Aside0.mk hy27
          clear hy27
          replace q27 := eq_true q27
          go_wp2_with (first | ((with_reducible refine gate_builtin (b := .append) (xs := #[.tmp 26, .tmp 30]) rfl ?_); at_builtin; refine Kd.N_append (Kd.slice 35 k35) (w0 := w) w.heap.size rfl (.tmp 26) (.tmp 30) 139 64 (.slice none 0 0) 24 rfl Try.underlying139 info64 rfl (by decide) (by omega) u5 x5_2 y691 [.slice Ao26 y691.length co26] (fun k_ => (P0_0_ k_ ∨ w.heap.size ≤ k_) ∧ k_ ≠ gb683) (fun k_ => ((fun k_ => (P0_0_ k_ ∨ w.heap.size ≤ k_) ∧ k_ ≠ gb683)) k_ ∧ some k_ ≠ (u5 : Value).ownBlock) rfl rfl ?aP (fun _ hk => hk) ?aF ?aO ?aB ?aS ?aL ?_; (case aP => exact (Kd.FK_slice_mk (Kd.V_reads' (Kd.V_mono (ok' := (fun k_ => ((fun k_ => (P0_0_ k_ ∨ w.heap.size ≤ k_) ∧ k_ ≠ gb683)) k_ ∧ some k_ ≠ (u5 : Value).ownBlock)) (HO695.out) (fun k_ hk => ⟨⟨hk.1, hk.2.2⟩, hk.2.1⟩))).2.1 (Kd.V_F (Kd.V_mono (ok' := (fun k_ => ((fun k_ => (P0_0_ k_ ∨ w.heap.size ≤ k_) ∧ k_ ≠ gb683)) k_ ∧ some k_ ≠ (u5 : Value).ownBlock)) (HO695.out) (fun k_ hk => ⟨⟨hk.1, hk.2.2⟩, hk.2.1⟩))))); (case aB => exact bw); (case aF => exact (fun k_ hk => ⟨(.inr (Nat.le_trans (below_size bw) hk)), Kd.freshB (g := gb683) (o := .cells #[.slice A0_0 l0_0.length c0_0] 66 (0, 0)) (lb BK683) k_ hk⟩)); (case aO => exact (by (with_reducible repeat (first | apply Kd.N_alloc | apply Kd.N_drewN | apply Kd.N_drew)); exact HO_5.out)); (case aS => exact (below_size bw)); (case aL => have := LMc23.out; omega); intro v697 w28 ho hb hg hat; rw [← Ny696.out] at ho; have n0_ := Aside0.mk (Kd.V_afterv (ok := (fun k_ => (P0_0_ k_ ∨ w.heap.size ≤ k_) ∧ k_ ≠ gb683)) (by (with_reducible repeat (first | apply Kd.V_alloc | apply Kd.V_drewN | apply Kd.V_drew)); exact Kd.V_mono HO_6.out (fun _ hk => ⟨⟨hk.1, hk.2.2⟩, hk.2.1⟩)) hg hat); have n1_ := Aside0.mk (Kd.V_afterv (ok := (fun k_ => (P0_0_ k_ ∨ w.heap.size ≤ k_) ∧ k_ ≠ gb683)) (by (with_reducible repeat (first | apply Kd.V_alloc | apply Kd.V_drewN | apply Kd.V_drew)); exact Kd.V_mono HO_684000.out (fun _ hk => ⟨⟨hk.1, hk.2.2⟩, hk.2.1⟩)) hg hat); have n2_ := Aside0.mk (blk_grown (g := gb683) (o := .cells #[.slice A0_0 l0_0.length c0_0] 66 (0, 0)) (lb BK683) hg (Kd.N_ne HO_5.out BK683.out (by decide))); have n3_ := Aside0.mk (Kd.V_afterv (ok := (fun k_ => (P0_0_ k_ ∨ w.heap.size ≤ k_) ∧ k_ ≠ gb683)) (by (with_reducible repeat (first | apply Kd.V_alloc | apply Kd.V_drewN | apply Kd.V_drew)); exact Kd.V_mono HO695.out (fun _ hk => ⟨⟨hk.1, hk.2.2⟩, hk.2.1⟩)) hg hat); have n4_ := Aside0.mk (hb); have n5_ := Aside0.mk (ho); clear HO_6; clear HO_684000; clear BK683; clear HO695; clear HB; clear HO_5; have HO_6 := n0_; have HO_684000 := n1_; have BK683 := n2_; have HO695 := n3_; have HB := n4_; have HO698 := n5_; clear n0_ n1_ n2_ n3_ n4_ n5_; clear ho hb hg hat; have q29 : (a1 : Int) ≤ ((x6_2.length : Int) : Int) := of_decide_eq_true (by first | (with_reducible assumption) | assumption); obtain ⟨i029, hi029, _, hsz29, _⟩ := info_parts info35; have hroom29 : x6_2.length ≤ co26 := (Kd.V_reads' HO_6.out).2.1; have hC29 : Kd.F k35 _ _ Ao26 x6_2.length x6_2 := (Kd.V_at (base := w.heap.size) HO_6.out).2.2; have q029 : (0 : Int) ≤ (a1 : Int) := of_decide_eq_true (by first | (with_reducible assumption) | assumption); have hcut29 := cut_from (P := Try.prog) 64 35 .i64 Try.underlying64 hi029 6 hsz29 Ao26 x6_2.length co26 a1 q029 q29; have hr29 := Kd.F_cut (m := (a1 : Int).toNat) (c := co26) hC29 (by omega) hroom29; obtain ⟨A29, hA29⟩ : ∃ A1, A1 = (if co26 = (a1 : Int).toNat then Ao26 else (Ao26 : Option Addr).map (·.add ((a1 : Int).toNat * 6))) := ⟨_, rfl⟩; obtain ⟨c29, hc29⟩ : ∃ c1, c1 = co26 - (a1 : Int).toNat := ⟨_, rfl⟩; have hy29 : y699.length = x6_2.length - (a1 : Int).toNat := (by rw [Ny699.out, List.length_drop] <;> omega); rw [show (x6_2).drop (a1 : Int).toNat = y699 from Ny699.out.symm] at hr29; replace hr29 : Kd.F k35 _ _ A29 y699.length y699 := (by rw [hA29]; exact hr29); rw [← hy29, ← hA29, ← hc29] at hcut29; have HO703 := Aside0.mk (show Kd.V k35 35 _ w.heap.size _ (.slice A29 y699.length c29) y699 from Kd.V_mk (by rw [hy29, hc29]; exact Nat.sub_le_sub_right hroom29 _) hr29); have HC703 := Aside0.mk (show y699.length ≤ c29 from by rw [hy29, hc29]; exact Nat.sub_le_sub_right hroom29 _); clear hr29 hC29 hroom29 hi029 hsz29 hc29; have KY29 := Aside0.mk hy29; have KA29 := Aside0.mk hA29; clear hy29 hA29; replace q29 := eq_true q29))
          go_roundg k2
          case measure => have := HJ2.out; have := HK2.out; omega
          case rel => exact ⟨(y696), (y699), H', ⟨by have := HJ2.out; have := HK2.out; omega⟩, ⟨by (with_reducible repeat (first | apply Kd.N_alloc | apply Kd.N_drewN | apply Kd.N_drew)); exact HO698.out⟩, ⟨by (with_reducible repeat (first | apply Kd.V_alloc | apply Kd.V_drewN | apply Kd.V_drew)); exact Kd.V_mono HO703.out (fun _ hk => ⟨hk.1.1, ⟨hk.2, hk.1.2⟩⟩)⟩, ⟨by (with_reducible repeat (first | apply Kd.V_alloc | apply Kd.V_drewN | apply Kd.V_drew)); exact Kd.V_mono HO_684000.out (fun _ hk => ⟨hk.1.1, ⟨hk.2, hk.1.2⟩⟩)⟩, ⟨lb BK683⟩, ⟨bw⟩⟩
         ·rw [if_neg c23] at H
          exact absurd H (by simp)
        ·rw [if_neg c22] at H
         exact absurd H (by simp)
       ·rw [if_neg c21] at H
        exact absurd H (by simp)
      ·rw [if_neg c20] at H
       have c20b0 : decide (a1 < (x6_2.length : Int)) = false := decide_eq_false c20
       clear c20
       have HC30 := Aside0.mk H
       clear H
       obtain ⟨Ao31, co31, eo31⟩ := Kd.V_slice HO_6.out
       subst eo31
       go_upto_if 37 with (fail)
       go_cut [5] (fun v5 wc => ∃ (kq : Nat) (x5_29 : List (List (S35))), Aside0 (spec_EncodeRun.j2 kq x5_29 = some r) ∧ Aside0 (kq ≤ k2) ∧ Aside0 (Kd.N (Kd.slice 35 k35) 64 wc w.heap.size (fun k_ => (P0_0_ k_ ∨ w.heap.size ≤ k_) ∧ k_ ≠ gb683) v5 x5_29) ∧ Aside0 (Kd.V k35 35 wc w.heap.size (fun k_ => (P0_0_ k_ ∨ w.heap.size ≤ k_) ∧ some k_ ≠ (v5 : Value).ownBlock ∧ k_ ≠ gb683) (.slice A0_0 l0_0.length c0_0) l0_0) ∧ Aside0 (wc.heap[gb683]? = some (.cells #[(.slice A0_0 l0_0.length c0_0)] 66 (0, 0))) ∧ Aside0 (Below w.heap.size w wc))
       case first =>
        have H := HC30.out
        clear HC30
        by_cases c32 : (x6_2.length : Int) > 0
        ·rw [if_pos c32] at H
         have c32b0 : decide (0 < (x6_2.length : Int)) = true := decide_eq_true c32
         have c32b1 : decide (0 < x6_2.length) = true := decide_eq_true (by omega)
         clear c32
         (first | rw [c32b0] | (simp only [i64_w, i32_w]; rw [c32b0]) | rw [c32b1] | skip)
         by_cases c33 : x5_2.length < 5864062014805
         ·rw [if_pos c33] at H
          have LMc33 := Aside0.mk c33
          clear c33
          obtain ⟨y704, hy704⟩ : ∃ y_ : List (List (S35)), y_ = (x5_2 ++ [x6_2]) := ⟨_, rfl⟩
          replace H : (spec_EncodeRun.j2 k2 y704) = some r := by first | (rw [hy704]; with_reducible exact H) | (have H2_ := (Option.bind_some _ _).symm.trans H; rw [hy704]; with_reducible exact H2_) | (have H2_ := (Option.bind_some _ _).symm.trans H; with_reducible exact H2_) | with_reducible exact H | (rw [hy704]; exact H) | exact H
          have Ny704 := Aside0.mk hy704
          clear hy704
          have H' := Aside0.mk H
          clear H
          go_wp2_with (first | ((with_reducible refine gate_builtin (b := .append) (xs := #[.tmp 38, .tmp 40]) rfl ?_); at_builtin; refine Kd.N_append (Kd.slice 35 k35) (w0 := w) w.heap.size rfl (.tmp 38) (.tmp 40) 139 64 (.slice none 0 0) 24 rfl Try.underlying139 info64 rfl (by decide) (by omega) u5 x5_2 x6_2 [.slice Ao31 x6_2.length co31] (fun k_ => (P0_0_ k_ ∨ w.heap.size ≤ k_) ∧ k_ ≠ gb683) (fun k_ => ((fun k_ => (P0_0_ k_ ∨ w.heap.size ≤ k_) ∧ k_ ≠ gb683)) k_ ∧ some k_ ≠ (u5 : Value).ownBlock) rfl rfl ?aP (fun _ hk => hk) ?aF ?aO ?aB ?aS ?aL ?_; (case aP => exact (Kd.FK_slice_mk (Kd.V_reads' (Kd.V_mono (ok' := (fun k_ => ((fun k_ => (P0_0_ k_ ∨ w.heap.size ≤ k_) ∧ k_ ≠ gb683)) k_ ∧ some k_ ≠ (u5 : Value).ownBlock)) (HO_6.out) (fun k_ hk => ⟨⟨hk.1, hk.2.2⟩, hk.2.1⟩))).2.1 (Kd.V_F (Kd.V_mono (ok' := (fun k_ => ((fun k_ => (P0_0_ k_ ∨ w.heap.size ≤ k_) ∧ k_ ≠ gb683)) k_ ∧ some k_ ≠ (u5 : Value).ownBlock)) (HO_6.out) (fun k_ hk => ⟨⟨hk.1, hk.2.2⟩, hk.2.1⟩))))); (case aB => exact bw); (case aF => exact (fun k_ hk => ⟨(.inr (Nat.le_trans (below_size bw) hk)), Kd.freshB (g := gb683) (o := .cells #[.slice A0_0 l0_0.length c0_0] 66 (0, 0)) (lb BK683) k_ hk⟩)); (case aO => exact (by (with_reducible repeat (first | apply Kd.N_alloc | apply Kd.N_drewN | apply Kd.N_drew)); exact HO_5.out)); (case aS => exact (below_size bw)); (case aL => have := LMc33.out; omega); intro v705 w34 ho hb hg hat; rw [← Ny704.out] at ho; have n0_ := Aside0.mk (Kd.V_afterv (ok := (fun k_ => (P0_0_ k_ ∨ w.heap.size ≤ k_) ∧ k_ ≠ gb683)) (by (with_reducible repeat (first | apply Kd.V_alloc | apply Kd.V_drewN | apply Kd.V_drew)); exact Kd.V_mono HO_6.out (fun _ hk => ⟨⟨hk.1, hk.2.2⟩, hk.2.1⟩)) hg hat); have n1_ := Aside0.mk (Kd.V_afterv (ok := (fun k_ => (P0_0_ k_ ∨ w.heap.size ≤ k_) ∧ k_ ≠ gb683)) (by (with_reducible repeat (first | apply Kd.V_alloc | apply Kd.V_drewN | apply Kd.V_drew)); exact Kd.V_mono HO_684000.out (fun _ hk => ⟨⟨hk.1, hk.2.2⟩, hk.2.1⟩)) hg hat); have n2_ := Aside0.mk (blk_grown (g := gb683) (o := .cells #[.slice A0_0 l0_0.length c0_0] 66 (0, 0)) (lb BK683) hg (Kd.N_ne HO_5.out BK683.out (by decide))); have n3_ := Aside0.mk (hb); have n4_ := Aside0.mk (ho); clear HO_6; clear HO_684000; clear BK683; clear HB; clear HO_5; have HO_6 := n0_; have HO_684000 := n1_; have BK683 := n2_; have HB := n3_; have HO706 := n4_; clear n0_ n1_ n2_ n3_ n4_; clear ho hb hg hat))
          go_meet
          case rel => exact ⟨_, (y704), H', ⟨by have := HJ2.out; have := HK2.out; first | omega | exact Nat.le_refl _⟩, ⟨by (with_reducible repeat (first | apply Kd.N_alloc | apply Kd.N_drewN | apply Kd.N_drew)); exact HO706.out⟩, ⟨by (with_reducible repeat (first | apply Kd.V_alloc | apply Kd.V_drewN | apply Kd.V_drew)); exact Kd.V_mono HO_684000.out (fun _ hk => ⟨hk.1.1, ⟨hk.2, hk.1.2⟩⟩)⟩, ⟨lb BK683⟩, ⟨bw⟩⟩
         ·rw [if_neg c33] at H
          exact absurd H (by simp)
        ·rw [if_neg c32] at H
         have c32b0 : decide (0 < (x6_2.length : Int)) = false := decide_eq_false c32
         have c32b1 : decide (0 < x6_2.length) = false := decide_eq_false (by omega)
         clear c32
         (first | rw [c32b0] | (simp only [i64_w, i32_w]; rw [c32b0]) | rw [c32b1] | skip)
         have H' := Aside0.mk H
         clear H
         go_wp2
         go_meet
         case rel => exact ⟨_, (x5_2), H', ⟨by have := HJ2.out; have := HK2.out; first | omega | exact Nat.le_refl _⟩, ⟨by (with_reducible repeat (first | apply Kd.N_alloc | apply Kd.N_drewN | apply Kd.N_drew)); exact HO_5.out⟩, ⟨by (with_reducible repeat (first | apply Kd.V_alloc | apply Kd.V_drewN | apply Kd.V_drew)); exact HO_684000.out⟩, ⟨lb BK683⟩, ⟨bw⟩⟩
       case rest =>
        clear HC30
        try clear c1
        try clear c2
        try clear p2
        try clear q2
        try clear c3
        try clear c4
        try clear c5
        try clear c6
        try clear c7
        try clear c7b0
        try clear c14
        try clear c20
        try clear c20b0
        try clear c21
        try clear c21b0
        try clear c21b1
        try clear c22
        try clear c22b0
        try clear c22b1
        try clear c23
        try clear c24
        try clear c24b0
        try clear c25
        try clear c25b0
        try clear q27
        try clear c29
        try clear q29
        try clear c32
        try clear c32b0
        try clear c32b1
        try clear c33
        try clear hcz10_0
        try clear hcz12_0
        try clear hcz19_0
        try clear hcz8_0
        try clear hfz10_0
        try clear hfz12_0
        try clear hfz19_0
        try clear hfz8_0
        try clear p2
        try clear q029
        try clear q27
        try clear q29
        obtain ⟨kq, x5_29, HA, HJ29, HO_5, HO_684000, BK683, HB⟩ := hcut
        cases kq with
        | zero => exact absurd HA.out (by simp [spec_EncodeRun.j2])
        | succ kj29 =>
         have H := HA.out
         clear HA
         simp only [spec_EncodeRun.j2] at H
         replace H := Option.bind_eq_some_iff.mp H
         obtain ⟨t707, A350, H⟩ := H
         replace H : (some t707) = some r := H
         have A35 := Aside0.mk A350
         clear A350
         obtain rfl := Option.some.inj H
         obtain ⟨Ao36, co36, eo36⟩ := Kd.N_slice HO_5.out
         subst eo36
         go_wp2_with (first | ((with_reducible refine at_fn (f := 88) rfl ?_); refine goesL_ (some 43) rfl rfl Try.func88 (by kernel_rfl) rfl #[.slice Ao36 x5_29.length co36] rfl (by (try simp only [List.map_toArray, List.map_cons, List.map_nil]); first | done | rfl | (simp only [List.length_drop, List.length_take]; rfl)) ?_; (with_reducible refine (spec_l2File.calls kj29 _ _ x5_29 t707 _ ?side1 ?side2 A35.out).mono ?_); (case side1 => repeat (first | exact (Kd.N_reads' HO_5.out).2.2 | (with_reducible refine Kd.C_alloc ?_ _) | (with_reducible refine Kd.C_drewN ?_ _) | (with_reducible refine Kd.C_drew ?_))); (case side2 => exact (Kd.N_reads' HO_5.out).2.1); rintro e w37 ⟨v708, rfl, ho0, hb⟩; refine ⟨_, rfl, ?_⟩; have n0_ := Aside0.mk (Kd.N_elder' (by (with_reducible repeat (first | apply Kd.N_alloc | apply Kd.N_drewN | apply Kd.N_drew)); exact HO_5.out) (Kd.R_base ho0) hb); have n1_ := Aside0.mk (Kd.V_elder' (by (with_reducible repeat (first | apply Kd.V_alloc | apply Kd.V_drewN | apply Kd.V_drew)); exact HO_684000.out) (Kd.R_base ho0) hb); have n2_ := Aside0.mk (Kd.R_lower (Kd.R_newM (M := fun k_ => (w.heap.size ≤ k_)) ho0 (below_size bw) (fun k_ h_ => h_)) (below_size bw)); have n3_ := Aside0.mk (blk_below (g := gb683) (o := .cells #[.slice A0_0 l0_0.length c0_0] 66 (0, 0)) (lb BK683) hb); have n4_ := Aside0.mk (below_step bw hb); clear HO_5; clear HO_684000; clear BK683; clear HB; have HO_5 := n0_; have HO_684000 := n1_; have HO709 := n2_; have BK683 := n3_; have HB := n4_; clear n0_ n1_ n2_ n3_ n4_; (try clear hb); (try clear hb2); (try clear hk); (try clear hi); (try clear ho0)))
         go_ret
         exact ⟨_, by first | rfl | (simp [errW_none, errW_some] <;> rfl) | (simp [*, errW_none, errW_some] <;> rfl), by (with_reducible repeat (first | apply Kd.R_alloc | apply Kd.R_drewN | apply Kd.R_drew)); exact Kd.R_mono HO709.out (fun _ hk => hk.1), bw⟩

end Go.Proofs.Ytdknjbadnbangaa.Q

namespace Go.Proofs.Ytdknjbadnbangaa.Q
open Go.RowKit Go.Proofs.YtdknjbadnbangaaW.PrintWords Go.Proofs.YtdknjbadnbangaaW.PrintLast Go.Proofs.YtdknjbadnbangaaW.PrintMore
set_option linter.unusedVariables false
set_option linter.unusedSimpArgs false

theorem eqA113 (d : Nat) (w : World) (x0 y0 : ByteArray) (x1 y1 : ByteArray) (x2 y2 : ByteArray) :
    (Op.equalIn (d + 2) 113 (.agg #[.string x0, .string x1, .string x2]) (.agg #[.string y0, .string y1, .string y2])).run Try.prog w = .ok (x0.toList == y0.toList && (x1.toList == y1.toList && (x2.toList == y2.toList))) w := by
  refine eqA_of Try.underlying113 (by kernel_rfl) ?_
  refine eqf_cons (by rfl) (by go_simp; rfl) (by go_simp; rfl) (by go_simp) ?_
  refine eqf_cons (by rfl) (by go_simp; rfl) (by go_simp; rfl) (by go_simp) ?_
  exact eqf_last (by rfl) (by go_simp; rfl) (by go_simp; rfl) (by go_simp)
end Go.Proofs.Ytdknjbadnbangaa.Q

namespace Go.Proofs.Ytdknjbadnbangaa.Q
open Go.RowKit Go.Proofs.YtdknjbadnbangaaW.PrintWords Go.Proofs.YtdknjbadnbangaaW.PrintLast Go.Proofs.YtdknjbadnbangaaW.PrintMore
set_option linter.unusedVariables false
set_option linter.unusedSimpArgs false

/-! ### impl_ValidEntry: function 22 -/
def impl_ValidEntry.f (a0_0 : ByteArray) (a0_1 : ByteArray) (a0_2 : ByteArray) (a0_3 : Int) (a0_4 : Int) (a0_5 : ByteArray) : Option (Bool) := if (a0_0.size : Int) ≥ 1 then (if (a0_0.size : Int) ≤ 64 then (if (a0_1.size : Int) ≥ 1 then (if (a0_1.size : Int) ≤ 16 then (if (a0_2.size : Int) ≤ 64 then (if (a0_5.size : Int) ≤ 200 then (if a0_4 ≥ 0 then (if a0_4 ≤ 2 then (if a0_4 = 0 then (some true) else (some (a0_5.toList == ([] : List UInt8)))) else (some false)) else (some false)) else (some false)) else (some false)) else (some false)) else (some false)) else (some false)) else (some false)
set_option maxHeartbeats 8000000 in
set_option maxRecDepth 100000 in
theorem impl_ValidEntry.calls (a0_0 : ByteArray) (a0_1 : ByteArray) (a0_2 : ByteArray) (a0_3 : Int) (a0_4 : Int) (a0_5 : ByteArray) (r : Bool) (w : World) (h : impl_ValidEntry.f a0_0 a0_1 a0_2 a0_3 a0_4 a0_5 = some r) :
  Calls Try.prog 22 #[.agg #[.string a0_0, .string a0_1, .string a0_2, .int .u64 a0_3, .int .i64 a0_4, .string a0_5]] w fun e w' => e = .returned (.bool r) ∧ Below w.heap.size w w' := by
 have hu35 := Try.underlying35
 have HB := Aside0.mk (Below.refl w.heap.size w)
 have H : (if (a0_0.size : Int) ≥ 1 then (if (a0_0.size : Int) ≤ 64 then (if (a0_1.size : Int) ≥ 1 then (if (a0_1.size : Int) ≤ 16 then (if (a0_2.size : Int) ≤ 64 then (if (a0_5.size : Int) ≤ 200 then (if a0_4 ≥ 0 then (if a0_4 ≤ 2 then (if a0_4 = 0 then (some true) else (some (a0_5.toList == ([] : List UInt8)))) else (some false)) else (some false)) else (some false)) else (some false)) else (some false)) else (some false)) else (some false)) else (some false)) = some r := h
 clear h
 by_cases c2 : (a0_0.size : Int) ≥ 1
 ·rw [if_pos c2] at H
  have c2b0 : decide (1 ≤ (a0_0.size : Int)) = true := decide_eq_true c2
  have c2b1 : decide (1 ≤ a0_0.size) = true := decide_eq_true (by omega)
  clear c2
  by_cases c3 : (a0_0.size : Int) ≤ 64
  ·rw [if_pos c3] at H
   have c3b0 : decide ((a0_0.size : Int) ≤ 64) = true := decide_eq_true c3
   have c3b1 : decide (a0_0.size ≤ 64) = true := decide_eq_true (by omega)
   clear c3
   by_cases c4 : (a0_1.size : Int) ≥ 1
   ·rw [if_pos c4] at H
    have c4b0 : decide (1 ≤ (a0_1.size : Int)) = true := decide_eq_true c4
    have c4b1 : decide (1 ≤ a0_1.size) = true := decide_eq_true (by omega)
    clear c4
    by_cases c5 : (a0_1.size : Int) ≤ 16
    ·rw [if_pos c5] at H
     have c5b0 : decide ((a0_1.size : Int) ≤ 16) = true := decide_eq_true c5
     have c5b1 : decide (a0_1.size ≤ 16) = true := decide_eq_true (by omega)
     clear c5
     by_cases c6 : (a0_2.size : Int) ≤ 64
     ·rw [if_pos c6] at H
      have c6b0 : decide ((a0_2.size : Int) ≤ 64) = true := decide_eq_true c6
      have c6b1 : decide (a0_2.size ≤ 64) = true := decide_eq_true (by omega)
      clear c6
      by_cases c7 : (a0_5.size : Int) ≤ 200
      ·rw [if_pos c7] at H
       have c7b0 : decide ((a0_5.size : Int) ≤ 200) = true := decide_eq_true c7
       have c7b1 : decide (a0_5.size ≤ 200) = true := decide_eq_true (by omega)
       clear c7
       by_cases c8 : a0_4 ≥ 0
       ·rw [if_pos c8] at H
        have c8b0 : decide (0 ≤ a0_4) = true := decide_eq_true c8
        clear c8
        by_cases c9 : a0_4 ≤ 2
        ·rw [if_pos c9] at H
         have c9b0 : decide (a0_4 ≤ 2) = true := decide_eq_true c9
         clear c9
         by_cases c10 : a0_4 = 0
         ·rw [if_pos c10] at H
          have c10b0 : (a0_4 == 0) = true := beq_iff_eq.mpr c10
          have c10b1 : (a0_4 != 0) = false := bne_eq_false_iff_eq.mpr c10
          clear c10
          obtain rfl := Option.some.inj H
          go_enter Try.func22, Try.ntmps22
          go_wp2_with (first | ((with_reducible refine gate_dst (N := 1) rfl ?_); (try (refine gate_guard (by rfl) ?_; dsimp only)); refine box_event ?hg (N := 1) ?hd (cs := #[.string a0_0, .string a0_1, .string a0_2, .int .u64 a0_3, .int .i64 a0_4, .string a0_5]) (t := 35) ?hr ?_; (case hd => rfl); (case hg => rfl); (case hr => first | (go_simp; done) | (go_simp; rfl)); intro gb122 hg w11 hbox hb; have n0_ := Aside0.mk (below_step bw hb); have n1_ := Aside0.mk (hbox); have n2_ := Aside0.mk ((by rw [hg]; exact (below_size bw) : w.heap.size ≤ gb122)); have n3_ := Aside0.mk ((by rw [hg]; exact (below_size bw) : w.heap.size ≤ gb122)); clear HB; have HB := n0_; have BK122 := n1_; have GW122 := n2_; have GE122 := n3_; clear n0_ n1_ n2_ n3_; clear hb hbox hg; have hcz12_0 : w11.cell? ⟨gb122, 0, none⟩ = some (.string a0_0) := (blk_cell BK122.out 0).trans rfl; have hcz12_1 : w11.cell? ⟨gb122, 1, none⟩ = some (.string a0_1) := (blk_cell BK122.out 1).trans rfl; have hcz12_2 : w11.cell? ⟨gb122, 2, none⟩ = some (.string a0_2) := (blk_cell BK122.out 2).trans rfl; have hcz12_3 : w11.cell? ⟨gb122, 3, none⟩ = some (.int .u64 a0_3) := (blk_cell BK122.out 3).trans rfl; have hcz12_4 : w11.cell? ⟨gb122, 4, none⟩ = some (.int .i64 a0_4) := (blk_cell BK122.out 4).trans rfl; have hcz12_5 : w11.cell? ⟨gb122, 5, none⟩ = some (.string a0_5) := (blk_cell BK122.out 5).trans rfl; have hfz12_0 := blk_frozen BK122.out 0; have hfz12_1 := blk_frozen BK122.out 1; have hfz12_2 := blk_frozen BK122.out 2; have hfz12_3 := blk_frozen BK122.out 3; have hfz12_4 := blk_frozen BK122.out 4; have hfz12_5 := blk_frozen BK122.out 5))
          go_ret
          exact ⟨by first | rfl | (simp [errW_none, errW_some] <;> rfl) | (simp [*, errW_none, errW_some] <;> rfl), bw⟩
         ·rw [if_neg c10] at H
          have c10b0 : (a0_4 == 0) = false := beq_eq_false_iff_ne.mpr c10
          have c10b1 : (a0_4 != 0) = true := bne_iff_ne.mpr c10
          obtain rfl := Option.some.inj H
          go_enter Try.func22, Try.ntmps22
          go_wp2_with (first | ((with_reducible refine gate_dst (N := 1) rfl ?_); (try (refine gate_guard (by rfl) ?_; dsimp only)); refine box_event ?hg (N := 1) ?hd (cs := #[.string a0_0, .string a0_1, .string a0_2, .int .u64 a0_3, .int .i64 a0_4, .string a0_5]) (t := 35) ?hr ?_; (case hd => rfl); (case hg => rfl); (case hr => first | (go_simp; done) | (go_simp; rfl)); intro gb122 hg w13 hbox hb; have n0_ := Aside0.mk (below_step bw hb); have n1_ := Aside0.mk (hbox); have n2_ := Aside0.mk ((by rw [hg]; exact (below_size bw) : w.heap.size ≤ gb122)); have n3_ := Aside0.mk ((by rw [hg]; exact (below_size bw) : w.heap.size ≤ gb122)); clear HB; have HB := n0_; have BK122 := n1_; have GW122 := n2_; have GE122 := n3_; clear n0_ n1_ n2_ n3_; clear hb hbox hg; have hcz14_0 : w13.cell? ⟨gb122, 0, none⟩ = some (.string a0_0) := (blk_cell BK122.out 0).trans rfl; have hcz14_1 : w13.cell? ⟨gb122, 1, none⟩ = some (.string a0_1) := (blk_cell BK122.out 1).trans rfl; have hcz14_2 : w13.cell? ⟨gb122, 2, none⟩ = some (.string a0_2) := (blk_cell BK122.out 2).trans rfl; have hcz14_3 : w13.cell? ⟨gb122, 3, none⟩ = some (.int .u64 a0_3) := (blk_cell BK122.out 3).trans rfl; have hcz14_4 : w13.cell? ⟨gb122, 4, none⟩ = some (.int .i64 a0_4) := (blk_cell BK122.out 4).trans rfl; have hcz14_5 : w13.cell? ⟨gb122, 5, none⟩ = some (.string a0_5) := (blk_cell BK122.out 5).trans rfl; have hfz14_0 := blk_frozen BK122.out 0; have hfz14_1 := blk_frozen BK122.out 1; have hfz14_2 := blk_frozen BK122.out 2; have hfz14_3 := blk_frozen BK122.out 3; have hfz14_4 := blk_frozen BK122.out 4; have hfz14_5 := blk_frozen BK122.out 5))
          go_ret
          exact ⟨by first | rfl | (simp [errW_none, errW_some] <;> rfl) | (simp [*, errW_none, errW_some] <;> rfl), bw⟩
        ·rw [if_neg c9] at H
         have c9b0 : decide (a0_4 ≤ 2) = false := decide_eq_false c9
         clear c9
         obtain rfl := Option.some.inj H
         go_enter Try.func22, Try.ntmps22
         go_wp2_with (first | ((with_reducible refine gate_dst (N := 1) rfl ?_); (try (refine gate_guard (by rfl) ?_; dsimp only)); refine box_event ?hg (N := 1) ?hd (cs := #[.string a0_0, .string a0_1, .string a0_2, .int .u64 a0_3, .int .i64 a0_4, .string a0_5]) (t := 35) ?hr ?_; (case hd => rfl); (case hg => rfl); (case hr => first | (go_simp; done) | (go_simp; rfl)); intro gb122 hg w15 hbox hb; have n0_ := Aside0.mk (below_step bw hb); have n1_ := Aside0.mk (hbox); have n2_ := Aside0.mk ((by rw [hg]; exact (below_size bw) : w.heap.size ≤ gb122)); have n3_ := Aside0.mk ((by rw [hg]; exact (below_size bw) : w.heap.size ≤ gb122)); clear HB; have HB := n0_; have BK122 := n1_; have GW122 := n2_; have GE122 := n3_; clear n0_ n1_ n2_ n3_; clear hb hbox hg; have hcz16_0 : w15.cell? ⟨gb122, 0, none⟩ = some (.string a0_0) := (blk_cell BK122.out 0).trans rfl; have hcz16_1 : w15.cell? ⟨gb122, 1, none⟩ = some (.string a0_1) := (blk_cell BK122.out 1).trans rfl; have hcz16_2 : w15.cell? ⟨gb122, 2, none⟩ = some (.string a0_2) := (blk_cell BK122.out 2).trans rfl; have hcz16_3 : w15.cell? ⟨gb122, 3, none⟩ = some (.int .u64 a0_3) := (blk_cell BK122.out 3).trans rfl; have hcz16_4 : w15.cell? ⟨gb122, 4, none⟩ = some (.int .i64 a0_4) := (blk_cell BK122.out 4).trans rfl; have hcz16_5 : w15.cell? ⟨gb122, 5, none⟩ = some (.string a0_5) := (blk_cell BK122.out 5).trans rfl; have hfz16_0 := blk_frozen BK122.out 0; have hfz16_1 := blk_frozen BK122.out 1; have hfz16_2 := blk_frozen BK122.out 2; have hfz16_3 := blk_frozen BK122.out 3; have hfz16_4 := blk_frozen BK122.out 4; have hfz16_5 := blk_frozen BK122.out 5))
         go_ret
         exact ⟨by first | rfl | (simp [errW_none, errW_some] <;> rfl) | (simp [*, errW_none, errW_some] <;> rfl), bw⟩
       ·rw [if_neg c8] at H
        have c8b0 : decide (0 ≤ a0_4) = false := decide_eq_false c8
        clear c8
        obtain rfl := Option.some.inj H
        go_enter Try.func22, Try.ntmps22
        go_wp2_with (first | ((with_reducible refine gate_dst (N := 1) rfl ?_); (try (refine gate_guard (by rfl) ?_; dsimp only)); refine box_event ?hg (N := 1) ?hd (cs := #[.string a0_0, .string a0_1, .string a0_2, .int .u64 a0_3, .int .i64 a0_4, .string a0_5]) (t := 35) ?hr ?_; (case hd => rfl); (case hg => rfl); (case hr => first | (go_simp; done) | (go_simp; rfl)); intro gb122 hg w17 hbox hb; have n0_ := Aside0.mk (below_step bw hb); have n1_ := Aside0.mk (hbox); have n2_ := Aside0.mk ((by rw [hg]; exact (below_size bw) : w.heap.size ≤ gb122)); have n3_ := Aside0.mk ((by rw [hg]; exact (below_size bw) : w.heap.size ≤ gb122)); clear HB; have HB := n0_; have BK122 := n1_; have GW122 := n2_; have GE122 := n3_; clear n0_ n1_ n2_ n3_; clear hb hbox hg; have hcz18_0 : w17.cell? ⟨gb122, 0, none⟩ = some (.string a0_0) := (blk_cell BK122.out 0).trans rfl; have hcz18_1 : w17.cell? ⟨gb122, 1, none⟩ = some (.string a0_1) := (blk_cell BK122.out 1).trans rfl; have hcz18_2 : w17.cell? ⟨gb122, 2, none⟩ = some (.string a0_2) := (blk_cell BK122.out 2).trans rfl; have hcz18_3 : w17.cell? ⟨gb122, 3, none⟩ = some (.int .u64 a0_3) := (blk_cell BK122.out 3).trans rfl; have hcz18_4 : w17.cell? ⟨gb122, 4, none⟩ = some (.int .i64 a0_4) := (blk_cell BK122.out 4).trans rfl; have hcz18_5 : w17.cell? ⟨gb122, 5, none⟩ = some (.string a0_5) := (blk_cell BK122.out 5).trans rfl; have hfz18_0 := blk_frozen BK122.out 0; have hfz18_1 := blk_frozen BK122.out 1; have hfz18_2 := blk_frozen BK122.out 2; have hfz18_3 := blk_frozen BK122.out 3; have hfz18_4 := blk_frozen BK122.out 4; have hfz18_5 := blk_frozen BK122.out 5))
        go_ret
        exact ⟨by first | rfl | (simp [errW_none, errW_some] <;> rfl) | (simp [*, errW_none, errW_some] <;> rfl), bw⟩
      ·rw [if_neg c7] at H
       have c7b0 : decide ((a0_5.size : Int) ≤ 200) = false := decide_eq_false c7
       have c7b1 : decide (a0_5.size ≤ 200) = false := decide_eq_false (by omega)
       clear c7
       obtain rfl := Option.some.inj H
       go_enter Try.func22, Try.ntmps22
       go_wp2_with (first | ((with_reducible refine gate_dst (N := 1) rfl ?_); (try (refine gate_guard (by rfl) ?_; dsimp only)); refine box_event ?hg (N := 1) ?hd (cs := #[.string a0_0, .string a0_1, .string a0_2, .int .u64 a0_3, .int .i64 a0_4, .string a0_5]) (t := 35) ?hr ?_; (case hd => rfl); (case hg => rfl); (case hr => first | (go_simp; done) | (go_simp; rfl)); intro gb122 hg w19 hbox hb; have n0_ := Aside0.mk (below_step bw hb); have n1_ := Aside0.mk (hbox); have n2_ := Aside0.mk ((by rw [hg]; exact (below_size bw) : w.heap.size ≤ gb122)); have n3_ := Aside0.mk ((by rw [hg]; exact (below_size bw) : w.heap.size ≤ gb122)); clear HB; have HB := n0_; have BK122 := n1_; have GW122 := n2_; have GE122 := n3_; clear n0_ n1_ n2_ n3_; clear hb hbox hg; have hcz20_0 : w19.cell? ⟨gb122, 0, none⟩ = some (.string a0_0) := (blk_cell BK122.out 0).trans rfl; have hcz20_1 : w19.cell? ⟨gb122, 1, none⟩ = some (.string a0_1) := (blk_cell BK122.out 1).trans rfl; have hcz20_2 : w19.cell? ⟨gb122, 2, none⟩ = some (.string a0_2) := (blk_cell BK122.out 2).trans rfl; have hcz20_3 : w19.cell? ⟨gb122, 3, none⟩ = some (.int .u64 a0_3) := (blk_cell BK122.out 3).trans rfl; have hcz20_4 : w19.cell? ⟨gb122, 4, none⟩ = some (.int .i64 a0_4) := (blk_cell BK122.out 4).trans rfl; have hcz20_5 : w19.cell? ⟨gb122, 5, none⟩ = some (.string a0_5) := (blk_cell BK122.out 5).trans rfl; have hfz20_0 := blk_frozen BK122.out 0; have hfz20_1 := blk_frozen BK122.out 1; have hfz20_2 := blk_frozen BK122.out 2; have hfz20_3 := blk_frozen BK122.out 3; have hfz20_4 := blk_frozen BK122.out 4; have hfz20_5 := blk_frozen BK122.out 5))
       go_ret
       exact ⟨by first | rfl | (simp [errW_none, errW_some] <;> rfl) | (simp [*, errW_none, errW_some] <;> rfl), bw⟩
     ·rw [if_neg c6] at H
      have c6b0 : decide ((a0_2.size : Int) ≤ 64) = false := decide_eq_false c6
      have c6b1 : decide (a0_2.size ≤ 64) = false := decide_eq_false (by omega)
      clear c6
      obtain rfl := Option.some.inj H
      go_enter Try.func22, Try.ntmps22
      go_wp2_with (first | ((with_reducible refine gate_dst (N := 1) rfl ?_); (try (refine gate_guard (by rfl) ?_; dsimp only)); refine box_event ?hg (N := 1) ?hd (cs := #[.string a0_0, .string a0_1, .string a0_2, .int .u64 a0_3, .int .i64 a0_4, .string a0_5]) (t := 35) ?hr ?_; (case hd => rfl); (case hg => rfl); (case hr => first | (go_simp; done) | (go_simp; rfl)); intro gb122 hg w21 hbox hb; have n0_ := Aside0.mk (below_step bw hb); have n1_ := Aside0.mk (hbox); have n2_ := Aside0.mk ((by rw [hg]; exact (below_size bw) : w.heap.size ≤ gb122)); have n3_ := Aside0.mk ((by rw [hg]; exact (below_size bw) : w.heap.size ≤ gb122)); clear HB; have HB := n0_; have BK122 := n1_; have GW122 := n2_; have GE122 := n3_; clear n0_ n1_ n2_ n3_; clear hb hbox hg; have hcz22_0 : w21.cell? ⟨gb122, 0, none⟩ = some (.string a0_0) := (blk_cell BK122.out 0).trans rfl; have hcz22_1 : w21.cell? ⟨gb122, 1, none⟩ = some (.string a0_1) := (blk_cell BK122.out 1).trans rfl; have hcz22_2 : w21.cell? ⟨gb122, 2, none⟩ = some (.string a0_2) := (blk_cell BK122.out 2).trans rfl; have hcz22_3 : w21.cell? ⟨gb122, 3, none⟩ = some (.int .u64 a0_3) := (blk_cell BK122.out 3).trans rfl; have hcz22_4 : w21.cell? ⟨gb122, 4, none⟩ = some (.int .i64 a0_4) := (blk_cell BK122.out 4).trans rfl; have hcz22_5 : w21.cell? ⟨gb122, 5, none⟩ = some (.string a0_5) := (blk_cell BK122.out 5).trans rfl; have hfz22_0 := blk_frozen BK122.out 0; have hfz22_1 := blk_frozen BK122.out 1; have hfz22_2 := blk_frozen BK122.out 2; have hfz22_3 := blk_frozen BK122.out 3; have hfz22_4 := blk_frozen BK122.out 4; have hfz22_5 := blk_frozen BK122.out 5))
      go_ret
      exact ⟨by first | rfl | (simp [errW_none, errW_some] <;> rfl) | (simp [*, errW_none, errW_some] <;> rfl), bw⟩
    ·rw [if_neg c5] at H
     have c5b0 : decide ((a0_1.size : Int) ≤ 16) = false := decide_eq_false c5
     have c5b1 : decide (a0_1.size ≤ 16) = false := decide_eq_false (by omega)
     clear c5
     obtain rfl := Option.some.inj H
     go_enter Try.func22, Try.ntmps22
     go_wp2_with (first | ((with_reducible refine gate_dst (N := 1) rfl ?_); (try (refine gate_guard (by rfl) ?_; dsimp only)); refine box_event ?hg (N := 1) ?hd (cs := #[.string a0_0, .string a0_1, .string a0_2, .int .u64 a0_3, .int .i64 a0_4, .string a0_5]) (t := 35) ?hr ?_; (case hd => rfl); (case hg => rfl); (case hr => first | (go_simp; done) | (go_simp; rfl)); intro gb122 hg w23 hbox hb; have n0_ := Aside0.mk (below_step bw hb); have n1_ := Aside0.mk (hbox); have n2_ := Aside0.mk ((by rw [hg]; exact (below_size bw) : w.heap.size ≤ gb122)); have n3_ := Aside0.mk ((by rw [hg]; exact (below_size bw) : w.heap.size ≤ gb122)); clear HB; have HB := n0_; have BK122 := n1_; have GW122 := n2_; have GE122 := n3_; clear n0_ n1_ n2_ n3_; clear hb hbox hg; have hcz24_0 : w23.cell? ⟨gb122, 0, none⟩ = some (.string a0_0) := (blk_cell BK122.out 0).trans rfl; have hcz24_1 : w23.cell? ⟨gb122, 1, none⟩ = some (.string a0_1) := (blk_cell BK122.out 1).trans rfl; have hcz24_2 : w23.cell? ⟨gb122, 2, none⟩ = some (.string a0_2) := (blk_cell BK122.out 2).trans rfl; have hcz24_3 : w23.cell? ⟨gb122, 3, none⟩ = some (.int .u64 a0_3) := (blk_cell BK122.out 3).trans rfl; have hcz24_4 : w23.cell? ⟨gb122, 4, none⟩ = some (.int .i64 a0_4) := (blk_cell BK122.out 4).trans rfl; have hcz24_5 : w23.cell? ⟨gb122, 5, none⟩ = some (.string a0_5) := (blk_cell BK122.out 5).trans rfl; have hfz24_0 := blk_frozen BK122.out 0; have hfz24_1 := blk_frozen BK122.out 1; have hfz24_2 := blk_frozen BK122.out 2; have hfz24_3 := blk_frozen BK122.out 3; have hfz24_4 := blk_frozen BK122.out 4; have hfz24_5 := blk_frozen BK122.out 5))
     go_ret
     exact ⟨by first | rfl | (simp [errW_none, errW_some] <;> rfl) | (simp [*, errW_none, errW_some] <;> rfl), bw⟩
   ·rw [if_neg c4] at H
    have c4b0 : decide (1 ≤ (a0_1.size : Int)) = false := decide_eq_false c4
    have c4b1 : decide (1 ≤ a0_1.size) = false := decide_eq_false (by omega)
    clear c4
    obtain rfl := Option.some.inj H
    go_enter Try.func22, Try.ntmps22
    go_wp2_with (first | ((with_reducible refine gate_dst (N := 1) rfl ?_); (try (refine gate_guard (by rfl) ?_; dsimp only)); refine box_event ?hg (N := 1) ?hd (cs := #[.string a0_0, .string a0_1, .string a0_2, .int .u64 a0_3, .int .i64 a0_4, .string a0_5]) (t := 35) ?hr ?_; (case hd => rfl); (case hg => rfl); (case hr => first | (go_simp; done) | (go_simp; rfl)); intro gb122 hg w25 hbox hb; have n0_ := Aside0.mk (below_step bw hb); have n1_ := Aside0.mk (hbox); have n2_ := Aside0.mk ((by rw [hg]; exact (below_size bw) : w.heap.size ≤ gb122)); have n3_ := Aside0.mk ((by rw [hg]; exact (below_size bw) : w.heap.size ≤ gb122)); clear HB; have HB := n0_; have BK122 := n1_; have GW122 := n2_; have GE122 := n3_; clear n0_ n1_ n2_ n3_; clear hb hbox hg; have hcz26_0 : w25.cell? ⟨gb122, 0, none⟩ = some (.string a0_0) := (blk_cell BK122.out 0).trans rfl; have hcz26_1 : w25.cell? ⟨gb122, 1, none⟩ = some (.string a0_1) := (blk_cell BK122.out 1).trans rfl; have hcz26_2 : w25.cell? ⟨gb122, 2, none⟩ = some (.string a0_2) := (blk_cell BK122.out 2).trans rfl; have hcz26_3 : w25.cell? ⟨gb122, 3, none⟩ = some (.int .u64 a0_3) := (blk_cell BK122.out 3).trans rfl; have hcz26_4 : w25.cell? ⟨gb122, 4, none⟩ = some (.int .i64 a0_4) := (blk_cell BK122.out 4).trans rfl; have hcz26_5 : w25.cell? ⟨gb122, 5, none⟩ = some (.string a0_5) := (blk_cell BK122.out 5).trans rfl; have hfz26_0 := blk_frozen BK122.out 0; have hfz26_1 := blk_frozen BK122.out 1; have hfz26_2 := blk_frozen BK122.out 2; have hfz26_3 := blk_frozen BK122.out 3; have hfz26_4 := blk_frozen BK122.out 4; have hfz26_5 := blk_frozen BK122.out 5))
    go_ret
    exact ⟨by first | rfl | (simp [errW_none, errW_some] <;> rfl) | (simp [*, errW_none, errW_some] <;> rfl), bw⟩
  ·rw [if_neg c3] at H
   have c3b0 : decide ((a0_0.size : Int) ≤ 64) = false := decide_eq_false c3
   have c3b1 : decide (a0_0.size ≤ 64) = false := decide_eq_false (by omega)
   clear c3
   obtain rfl := Option.some.inj H
   go_enter Try.func22, Try.ntmps22
   go_wp2_with (first | ((with_reducible refine gate_dst (N := 1) rfl ?_); (try (refine gate_guard (by rfl) ?_; dsimp only)); refine box_event ?hg (N := 1) ?hd (cs := #[.string a0_0, .string a0_1, .string a0_2, .int .u64 a0_3, .int .i64 a0_4, .string a0_5]) (t := 35) ?hr ?_; (case hd => rfl); (case hg => rfl); (case hr => first | (go_simp; done) | (go_simp; rfl)); intro gb122 hg w27 hbox hb; have n0_ := Aside0.mk (below_step bw hb); have n1_ := Aside0.mk (hbox); have n2_ := Aside0.mk ((by rw [hg]; exact (below_size bw) : w.heap.size ≤ gb122)); have n3_ := Aside0.mk ((by rw [hg]; exact (below_size bw) : w.heap.size ≤ gb122)); clear HB; have HB := n0_; have BK122 := n1_; have GW122 := n2_; have GE122 := n3_; clear n0_ n1_ n2_ n3_; clear hb hbox hg; have hcz28_0 : w27.cell? ⟨gb122, 0, none⟩ = some (.string a0_0) := (blk_cell BK122.out 0).trans rfl; have hcz28_1 : w27.cell? ⟨gb122, 1, none⟩ = some (.string a0_1) := (blk_cell BK122.out 1).trans rfl; have hcz28_2 : w27.cell? ⟨gb122, 2, none⟩ = some (.string a0_2) := (blk_cell BK122.out 2).trans rfl; have hcz28_3 : w27.cell? ⟨gb122, 3, none⟩ = some (.int .u64 a0_3) := (blk_cell BK122.out 3).trans rfl; have hcz28_4 : w27.cell? ⟨gb122, 4, none⟩ = some (.int .i64 a0_4) := (blk_cell BK122.out 4).trans rfl; have hcz28_5 : w27.cell? ⟨gb122, 5, none⟩ = some (.string a0_5) := (blk_cell BK122.out 5).trans rfl; have hfz28_0 := blk_frozen BK122.out 0; have hfz28_1 := blk_frozen BK122.out 1; have hfz28_2 := blk_frozen BK122.out 2; have hfz28_3 := blk_frozen BK122.out 3; have hfz28_4 := blk_frozen BK122.out 4; have hfz28_5 := blk_frozen BK122.out 5))
   go_ret
   exact ⟨by first | rfl | (simp [errW_none, errW_some] <;> rfl) | (simp [*, errW_none, errW_some] <;> rfl), bw⟩
 ·rw [if_neg c2] at H
  have c2b0 : decide (1 ≤ (a0_0.size : Int)) = false := decide_eq_false c2
  have c2b1 : decide (1 ≤ a0_0.size) = false := decide_eq_false (by omega)
  clear c2
  obtain rfl := Option.some.inj H
  go_enter Try.func22, Try.ntmps22
  go_wp2_with (first | ((with_reducible refine gate_dst (N := 1) rfl ?_); (try (refine gate_guard (by rfl) ?_; dsimp only)); refine box_event ?hg (N := 1) ?hd (cs := #[.string a0_0, .string a0_1, .string a0_2, .int .u64 a0_3, .int .i64 a0_4, .string a0_5]) (t := 35) ?hr ?_; (case hd => rfl); (case hg => rfl); (case hr => first | (go_simp; done) | (go_simp; rfl)); intro gb122 hg w29 hbox hb; have n0_ := Aside0.mk (below_step bw hb); have n1_ := Aside0.mk (hbox); have n2_ := Aside0.mk ((by rw [hg]; exact (below_size bw) : w.heap.size ≤ gb122)); have n3_ := Aside0.mk ((by rw [hg]; exact (below_size bw) : w.heap.size ≤ gb122)); clear HB; have HB := n0_; have BK122 := n1_; have GW122 := n2_; have GE122 := n3_; clear n0_ n1_ n2_ n3_; clear hb hbox hg; have hcz30_0 : w29.cell? ⟨gb122, 0, none⟩ = some (.string a0_0) := (blk_cell BK122.out 0).trans rfl; have hcz30_1 : w29.cell? ⟨gb122, 1, none⟩ = some (.string a0_1) := (blk_cell BK122.out 1).trans rfl; have hcz30_2 : w29.cell? ⟨gb122, 2, none⟩ = some (.string a0_2) := (blk_cell BK122.out 2).trans rfl; have hcz30_3 : w29.cell? ⟨gb122, 3, none⟩ = some (.int .u64 a0_3) := (blk_cell BK122.out 3).trans rfl; have hcz30_4 : w29.cell? ⟨gb122, 4, none⟩ = some (.int .i64 a0_4) := (blk_cell BK122.out 4).trans rfl; have hcz30_5 : w29.cell? ⟨gb122, 5, none⟩ = some (.string a0_5) := (blk_cell BK122.out 5).trans rfl; have hfz30_0 := blk_frozen BK122.out 0; have hfz30_1 := blk_frozen BK122.out 1; have hfz30_2 := blk_frozen BK122.out 2; have hfz30_3 := blk_frozen BK122.out 3; have hfz30_4 := blk_frozen BK122.out 4; have hfz30_5 := blk_frozen BK122.out 5))
  go_ret
  exact ⟨by first | rfl | (simp [errW_none, errW_some] <;> rfl) | (simp [*, errW_none, errW_some] <;> rfl), bw⟩

end Go.Proofs.Ytdknjbadnbangaa.Q

namespace Go.Proofs.Ytdknjbadnbangaa.Q
open Go.RowKit Go.Proofs.YtdknjbadnbangaaW.PrintWords Go.Proofs.YtdknjbadnbangaaW.PrintLast Go.Proofs.YtdknjbadnbangaaW.PrintMore
set_option linter.unusedVariables false
set_option linter.unusedSimpArgs false

/-! ### cmp_Or_int: function 94 -/
def cmp_Or_int.l0 : Nat → Int → List Int → Int → Int → Option (Int)
 | 0, _, _, _, _ => none
 | k + 1, x3, x6, x7, x8 => if x8 < x7 then (if 0 ≤ x8 then (if x8 < (x6.length : Int) then (if (rd x6 x8) = x3 then (cmp_Or_int.l0 k x3 x6 x7 (wrap64 (x8 + 1))) else (some (rd x6 x8))) else (none)) else (none)) else (some x3)
def cmp_Or_int.f (k : Nat) (l0 : List Int) : Option (Int) := cmp_Or_int.l0 k 0 l0 (l0.length : Int) 0
set_option maxHeartbeats 8000000 in
set_option maxRecDepth 100000 in
theorem cmp_Or_int.calls (k : Nat) (A0 : Option Addr) (c0 : Nat) (l0 : List Int) (r : Int) (w : World) (hr0 : Kd.C (Kd.int .i64) w A0 l0.length l0) (hc0 : l0.length ≤ c0) (h : cmp_Or_int.f k l0 = some r) :
  Calls Try.prog 94 #[.slice A0 l0.length c0] w fun e w' => e = .returned (.int .i64 r) ∧ Drawn0 w w' := by
 have HR0 := Aside0.mk hr0
 have HC0 := Aside0.mk hc0
 clear hr0 hc0
 have H : (cmp_Or_int.l0 k 0 l0 (l0.length : Int) 0) = some r := h
 clear h
 have H' := Aside0.mk H
 clear H
 go_enter Try.func94, Try.ntmps94
 go_wp2
 go_loopg [8] k (fun kq v8 w' => ∃ (x8_1 : Int), v8 = .int .i64 x8_1 ∧ Aside0 (cmp_Or_int.l0 kq 0 l0 (l0.length : Int) x8_1 = some r) ∧ Aside0 (kq ≤ k) ∧ Drawn0 w w')
 case atStart => exact ⟨(0), (by first | rfl | (simp; done) | (simp [*]; done)), H', ⟨Nat.le_refl _⟩, by repeat (first | exact Drawn0.refl _ | apply Drawn0.step)⟩
 case round =>
  clear H'
  obtain ⟨x8_1, rfl, HA, HK1, ⟨m1, rfl⟩⟩ := hrel
  cases gk with
  | zero => exact absurd HA.out (by simp [cmp_Or_int.l0])
  | succ k1 =>
   have H := HA.out
   clear HA
   simp only [cmp_Or_int.l0] at H
   by_cases c2 : x8_1 < (l0.length : Int)
   ·rw [if_pos c2] at H
    have c2b0 : decide (x8_1 < (l0.length : Int)) = true := decide_eq_true c2
    clear c2
    by_cases c3 : 0 ≤ x8_1
    ·rw [if_pos c3] at H
     have c3b0 : decide (0 ≤ x8_1) = true := decide_eq_true c3
     clear c3
     by_cases c4 : x8_1 < (l0.length : Int)
     ·rw [if_pos c4] at H
      have c4b0 : decide (x8_1 < (l0.length : Int)) = true := decide_eq_true c4
      clear c4
      by_cases c5 : (rd l0 x8_1) = 0
      ·rw [if_pos c5] at H
       have c5b0 : ((rd l0 x8_1) == 0) = true := beq_iff_eq.mpr c5
       have c5b1 : ((rd l0 x8_1) != 0) = false := bne_eq_false_iff_eq.mpr c5
       clear c5
       have H' := Aside0.mk H
       clear H
       have p168 : 0 ≤ (x8_1 : Int) := of_decide_eq_true (by first | (with_reducible assumption) | assumption)
       have q168 : x8_1 < (l0.length : Int) := of_decide_eq_true (by first | (with_reducible assumption) | assumption)
       obtain ⟨ad168, e168, hx168_0⟩ := Kd.at_int HR0.out x8_1 p168 q168
       cases e168
       replace p168 := eq_true p168
       replace q168 := eq_true q168
       go_wp2
       go_roundg k1
       case measure => have := HK1.out; omega
       case rel => exact ⟨(wrap64 (x8_1 + 1)), (by first | rfl | (simp; done) | (simp [*]; done)), H', ⟨by have := HK1.out; omega⟩, by repeat (first | exact Drawn0.refl _ | apply Drawn0.step)⟩
      ·rw [if_neg c5] at H
       have c5b0 : ((rd l0 x8_1) == 0) = false := beq_eq_false_iff_ne.mpr c5
       have c5b1 : ((rd l0 x8_1) != 0) = true := bne_iff_ne.mpr c5
       obtain rfl := Option.some.inj H
       have p168 : 0 ≤ (x8_1 : Int) := of_decide_eq_true (by first | (with_reducible assumption) | assumption)
       have q168 : x8_1 < (l0.length : Int) := of_decide_eq_true (by first | (with_reducible assumption) | assumption)
       obtain ⟨ad168, e168, hx168_0⟩ := Kd.at_int HR0.out x8_1 p168 q168
       cases e168
       replace p168 := eq_true p168
       replace q168 := eq_true q168
       go_wp2
       go_ret
       exact ⟨by first | rfl | (simp; done) | (simp [*]; done), by repeat (first | exact Drawn0.refl _ | apply Drawn0.step)⟩
     ·rw [if_neg c4] at H
      exact absurd H (by simp)
    ·rw [if_neg c3] at H
     exact absurd H (by simp)
   ·rw [if_neg c2] at H
    have c2b0 : decide (x8_1 < (l0.length : Int)) = false := decide_eq_false c2
    clear c2
    obtain rfl := Option.some.inj H
    go_wp2
    go_ret
    exact ⟨by first | rfl | (simp; done) | (simp [*]; done), by repeat (first | exact Drawn0.refl _ | apply Drawn0.step)⟩

end Go.Proofs.Ytdknjbadnbangaa.Q

namespace Go.Proofs
open Go.Shelf
def Try.lays106_ren : Go.Shelf.Ren := ⟨fun | 106 => 95 | 213 => 117 | 265 => 128 | n => n, fun | 9 => 9 | 3 => 3 | n => n, fun | n => n⟩
theorem Try.lays106 : Go.Proofs.Lays.n106 Try.prog Try.lays106_ren := {
  mixed := by kernel_rfl
  f106 := Try.func95.trans (congrArg some (by kernel_rfl))
  f213 := Try.func117.trans (congrArg some (by kernel_rfl))
  f265 := Try.func128.trans (congrArg some (by kernel_rfl))
  t3 := Try.underlying3
  a3 := Try.isAgg3
  z3 := Try.sizeOf3
  v3 := Try.zeroValue3
  t9 := Try.underlying9
  a9 := Try.isAgg9
  z9 := Try.sizeOf9
  v9 := Try.zeroValue9 }
open Go.RowKit in
/-- strings.Compare: "Compare returns an integer comparing two strings lexicographically. The result will be 0 if a == b, -1 if a < b, and +1 if a > b.": IT RETURNS 'Lib.compareBytes a b'; the world is as it was. (LAID: no walk: one application.) -/
theorem Try.strings_Compare (a b : ByteArray) (w : World) :
    Calls Try.prog 95 #[.string a, .string b] w fun e w' => e = .returned (.int .i64 (Lib.compareBytes a.data.toList b.data.toList)) ∧ w' = w := Any.strings_Compare Try.lays106 a b w
def Try.lays215_ren : Go.Shelf.Ren := ⟨fun | 215 => 118 | n => n, fun | 3 => 3 | 4 => 4 | n => n, fun | n => n⟩
theorem Try.lays215 : Go.Proofs.Lays.n215 Try.prog Try.lays215_ren := {
  mixed := by kernel_rfl
  f215 := Try.func118.trans (congrArg some (by kernel_rfl))
  t3 := Try.underlying3
  a3 := Try.isAgg3
  z3 := Try.sizeOf3
  v3 := Try.zeroValue3
  t4 := Try.underlying4
  a4 := Try.isAgg4
  z4 := Try.sizeOf4
  v4 := Try.zeroValue4 }
open Go.RowKit in
/-- cmp.isNaN at int: 'x != x': false. (LAID: no walk: one application.) -/
theorem Try.cmp_isNaN_int (x : Int) (w : World) :
    Calls Try.prog 118 #[.int .i64 x] w fun e w' => e = .returned (.bool false) ∧ w' = w := Any.cmp_isNaN_int Try.lays215 x w
def Try.lays122_ren : Go.Shelf.Ren := ⟨fun | 122 => 96 | 215 => 118 | n => n, fun | 3 => 3 | 4 => 4 | n => n, fun | n => n⟩
theorem Try.lays122 : Go.Proofs.Lays.n122 Try.prog Try.lays122_ren := {
  mixed := by kernel_rfl
  f122 := Try.func96.trans (congrArg some (by kernel_rfl))
  f215 := Try.func118.trans (congrArg some (by kernel_rfl))
  t3 := Try.underlying3
  a3 := Try.isAgg3
  z3 := Try.sizeOf3
  v3 := Try.zeroValue3
  t4 := Try.underlying4
  a4 := Try.isAgg4
  z4 := Try.sizeOf4
  v4 := Try.zeroValue4 }
open Go.RowKit in
/-- cmp.Compare at int: "Compare returns -1 if x is less than y, 0 if x equals y, +1 if x is greater than y.": IT RETURNS 'Lib.compareInt x y'; the world is as it was. (LAID: no walk: one application.) -/
theorem Try.cmp_Compare_int (x y : Int) (w : World) :
    Calls Try.prog 96 #[.int .i64 x, .int .i64 y] w fun e w' => e = .returned (.int .i64 (Lib.compareInt x y)) ∧ w' = w := Any.cmp_Compare_int Try.lays122 x y w
end Go.Proofs

namespace Go.Proofs.Ytdknjbadnbangaa.Q
open Go.RowKit Go.Proofs.YtdknjbadnbangaaW.PrintWords Go.Proofs.YtdknjbadnbangaaW.PrintLast Go.Proofs.YtdknjbadnbangaaW.PrintMore
set_option linter.unusedVariables false
set_option linter.unusedSimpArgs false

/-! ### strings_Compare: function 95 -/
def strings_Compare.f (a0 : ByteArray) (a1 : ByteArray) : Option (Int) := some (if Op.bytesLess a0.toList a1.toList = true then -1 else if Op.bytesLess a1.toList a0.toList = true then 1 else 0)
theorem compareBytes_less : ∀ a b : List UInt8, Lib.compareBytes a b = if Op.bytesLess a b = true then -1 else if Op.bytesLess b a = true then 1 else 0
 | [], [] => by simp [Lib.compareBytes, Op.bytesLess]
 | [], _ :: _ => by simp [Lib.compareBytes, Op.bytesLess]
 | _ :: _, [] => by simp [Lib.compareBytes, Op.bytesLess]
 | a :: xs, b :: ys => by
  have ih := compareBytes_less xs ys
  simp only [Lib.compareBytes, Op.bytesLess]
  by_cases h1 : a < b
  ·simp [h1]
  ·by_cases h2 : b < a
   ·have h3 : ¬ a = b := fun e => by subst e; exact h1 h2
    simp [h1, h2, h3]
   ·have h3 : a = b := UInt8.le_antisymm (UInt8.not_lt.1 h2) (UInt8.not_lt.1 h1)
    subst h3
    simp [h1, ih]
theorem strings_Compare.calls (a0 : ByteArray) (a1 : ByteArray) (r : Int) (w : World) (h : strings_Compare.f a0 a1 = some r) :
  Calls Try.prog 95 #[.string a0, .string a1] w fun e w' => e = .returned (.int .i64 r) ∧ Drawn0 w w' := by
 refine (Try.strings_Compare a0 a1 w).mono ?_
 rintro e w' ⟨rfl, rfl⟩
 have e1 : Lib.compareBytes a0.data.toList a1.data.toList = r := by
  rw [compareBytes_less]
  have h' := Option.some.inj h
  have t : ∀ s : ByteArray, s.data.toList = s.toList := fun s => (Lib.toList_data s).symm
  rw [t, t]; exact h'
 rw [e1]; exact ⟨rfl, Drawn0.refl _⟩

end Go.Proofs.Ytdknjbadnbangaa.Q

namespace Go.Proofs.Ytdknjbadnbangaa.Q
open Go.RowKit Go.Proofs.YtdknjbadnbangaaW.PrintWords Go.Proofs.YtdknjbadnbangaaW.PrintLast Go.Proofs.YtdknjbadnbangaaW.PrintMore
set_option linter.unusedVariables false
set_option linter.unusedSimpArgs false

/-! ### cmp_isNaN_int: function 118 -/
def cmp_isNaN_int.f (a0 : Int) : Option (Bool) := some (a0 != a0)
set_option maxHeartbeats 8000000 in
set_option maxRecDepth 100000 in
theorem cmp_isNaN_int.calls (a0 : Int) (r : Bool) (w : World) (h : cmp_isNaN_int.f a0 = some r) :
  Calls Try.prog 118 #[.int .i64 a0] w fun e w' => e = .returned (.bool r) ∧ Drawn0 w w' := by
 have H : (some (a0 != a0)) = some r := h
 clear h
 obtain rfl := Option.some.inj H
 go_enter Try.func118, Try.ntmps118
 go_wp2
 go_ret
 exact ⟨by first | rfl | (simp; done) | (simp [*]; done), by repeat (first | exact Drawn0.refl _ | apply Drawn0.step)⟩

end Go.Proofs.Ytdknjbadnbangaa.Q

namespace Go.Proofs.Ytdknjbadnbangaa.Q
open Go.RowKit Go.Proofs.YtdknjbadnbangaaW.PrintWords Go.Proofs.YtdknjbadnbangaaW.PrintLast Go.Proofs.YtdknjbadnbangaaW.PrintMore
set_option linter.unusedVariables false
set_option linter.unusedSimpArgs false

/-! ### cmp_Compare_int: function 96 -/
def cmp_Compare_int.f (a0 : Int) (a1 : Int) : Option (Int) := (cmp_isNaN_int.f a0).bind fun t169 => ((cmp_isNaN_int.f a1).bind fun t170 => (if t169 = true then (if t170 = true then (some 0) else (some (-1))) else (if t170 = true then (some 1) else (if a0 < a1 then (some (-1)) else (if a0 > a1 then (some 1) else (some 0))))))
set_option maxHeartbeats 8000000 in
set_option maxRecDepth 100000 in
theorem cmp_Compare_int.calls (a0 : Int) (a1 : Int) (r : Int) (w : World) (h : cmp_Compare_int.f a0 a1 = some r) :
  Calls Try.prog 96 #[.int .i64 a0, .int .i64 a1] w fun e w' => e = .returned (.int .i64 r) ∧ Drawn0 w w' := by
 have H : ((cmp_isNaN_int.f a0).bind fun t169 => ((cmp_isNaN_int.f a1).bind fun t170 => (if t169 = true then (if t170 = true then (some 0) else (some (-1))) else (if t170 = true then (some 1) else (if a0 < a1 then (some (-1)) else (if a0 > a1 then (some 1) else (some 0))))))) = some r := h
 clear h
 replace H := Option.bind_eq_some_iff.mp H
 obtain ⟨t169, A30, H⟩ := H
 replace H : ((cmp_isNaN_int.f a1).bind fun t170 => (if t169 = true then (if t170 = true then (some 0) else (some (-1))) else (if t170 = true then (some 1) else (if a0 < a1 then (some (-1)) else (if a0 > a1 then (some 1) else (some 0)))))) = some r := H
 have A3 := Aside0.mk A30
 clear A30
 replace H := Option.bind_eq_some_iff.mp H
 obtain ⟨t170, A40, H⟩ := H
 replace H : (if t169 = true then (if t170 = true then (some 0) else (some (-1))) else (if t170 = true then (some 1) else (if a0 < a1 then (some (-1)) else (if a0 > a1 then (some 1) else (some 0))))) = some r := H
 have A4 := Aside0.mk A40
 clear A40
 by_cases c5 : t169 = true
 ·subst c5
  have H1 : (if t170 = true then (some 0) else (some (-1))) = some r := by rw [if_pos rfl] at H; exact H
  clear H
  have H := H1
  clear H1
  by_cases c6 : t170 = true
  ·subst c6
   have H1 : (some 0) = some r := by rw [if_pos rfl] at H; exact H
   clear H
   have H := H1
   clear H1
   obtain rfl := Option.some.inj H
   go_enter Try.func96, Try.ntmps96
   go_wp2_with (first | ((with_reducible refine at_fn (f := 118) rfl ?_); refine goesL_ (some 8) rfl rfl Try.func118 (by kernel_rfl) rfl #[.int .i64 a0] rfl (by (try simp only [List.map_toArray, List.map_cons, List.map_nil]); first | done | rfl | (simp only [List.length_drop, List.length_take]; rfl)) ?_; (with_reducible refine (cmp_isNaN_int.calls a0 true _ A3.out).mono ?_); rintro e w' ⟨rfl, ⟨nd, rfl⟩⟩; refine ⟨_, rfl, ?_⟩) | ((with_reducible refine at_fn (f := 118) rfl ?_); refine goesL_ (some 10) rfl rfl Try.func118 (by kernel_rfl) rfl #[.int .i64 a1] rfl (by (try simp only [List.map_toArray, List.map_cons, List.map_nil]); first | done | rfl | (simp only [List.length_drop, List.length_take]; rfl)) ?_; (with_reducible refine (cmp_isNaN_int.calls a1 true _ A4.out).mono ?_); rintro e w' ⟨rfl, ⟨nd, rfl⟩⟩; refine ⟨_, rfl, ?_⟩))
   go_ret
   exact ⟨by first | rfl | (simp; done) | (simp [*]; done), by repeat (first | exact Drawn0.refl _ | apply Drawn0.step)⟩
  ·replace c6 := Bool.eq_false_iff.mpr c6
   subst c6
   have H1 : (some (-1)) = some r := by rw [if_neg (show ¬ (false = true) by decide)] at H; exact H
   clear H
   have H := H1
   clear H1
   obtain rfl := Option.some.inj H
   go_enter Try.func96, Try.ntmps96
   go_wp2_with (first | ((with_reducible refine at_fn (f := 118) rfl ?_); refine goesL_ (some 8) rfl rfl Try.func118 (by kernel_rfl) rfl #[.int .i64 a0] rfl (by (try simp only [List.map_toArray, List.map_cons, List.map_nil]); first | done | rfl | (simp only [List.length_drop, List.length_take]; rfl)) ?_; (with_reducible refine (cmp_isNaN_int.calls a0 true _ A3.out).mono ?_); rintro e w' ⟨rfl, ⟨nd, rfl⟩⟩; refine ⟨_, rfl, ?_⟩) | ((with_reducible refine at_fn (f := 118) rfl ?_); refine goesL_ (some 10) rfl rfl Try.func118 (by kernel_rfl) rfl #[.int .i64 a1] rfl (by (try simp only [List.map_toArray, List.map_cons, List.map_nil]); first | done | rfl | (simp only [List.length_drop, List.length_take]; rfl)) ?_; (with_reducible refine (cmp_isNaN_int.calls a1 false _ A4.out).mono ?_); rintro e w' ⟨rfl, ⟨nd, rfl⟩⟩; refine ⟨_, rfl, ?_⟩))
   go_ret
   exact ⟨by first | rfl | (simp; done) | (simp [*]; done), by repeat (first | exact Drawn0.refl _ | apply Drawn0.step)⟩
 ·replace c5 := Bool.eq_false_iff.mpr c5
  subst c5
  have H1 : (if t170 = true then (some 1) else (if a0 < a1 then (some (-1)) else (if a0 > a1 then (some 1) else (some 0)))) = some r := by rw [if_neg (show ¬ (false = true) by decide)] at H; exact H
  clear H
  have H := H1
  clear H1
  by_cases c7 : t170 = true
  ·subst c7
   have H1 : (some 1) = some r := by rw [if_pos rfl] at H; exact H
   clear H
   have H := H1
   clear H1
   obtain rfl := Option.some.inj H
   go_enter Try.func96, Try.ntmps96
   go_wp2_with (first | ((with_reducible refine at_fn (f := 118) rfl ?_); refine goesL_ (some 8) rfl rfl Try.func118 (by kernel_rfl) rfl #[.int .i64 a0] rfl (by (try simp only [List.map_toArray, List.map_cons, List.map_nil]); first | done | rfl | (simp only [List.length_drop, List.length_take]; rfl)) ?_; (with_reducible refine (cmp_isNaN_int.calls a0 false _ A3.out).mono ?_); rintro e w' ⟨rfl, ⟨nd, rfl⟩⟩; refine ⟨_, rfl, ?_⟩) | ((with_reducible refine at_fn (f := 118) rfl ?_); refine goesL_ (some 10) rfl rfl Try.func118 (by kernel_rfl) rfl #[.int .i64 a1] rfl (by (try simp only [List.map_toArray, List.map_cons, List.map_nil]); first | done | rfl | (simp only [List.length_drop, List.length_take]; rfl)) ?_; (with_reducible refine (cmp_isNaN_int.calls a1 true _ A4.out).mono ?_); rintro e w' ⟨rfl, ⟨nd, rfl⟩⟩; refine ⟨_, rfl, ?_⟩))
   go_ret
   exact ⟨by first | rfl | (simp; done) | (simp [*]; done), by repeat (first | exact Drawn0.refl _ | apply Drawn0.step)⟩
  ·replace c7 := Bool.eq_false_iff.mpr c7
   subst c7
   have H1 : (if a0 < a1 then (some (-1)) else (if a0 > a1 then (some 1) else (some 0))) = some r := by rw [if_neg (show ¬ (false = true) by decide)] at H; exact H
   clear H
   have H := H1
   clear H1
   by_cases c8 : a0 < a1
   ·rw [if_pos c8] at H
    have c8b0 : decide (a0 < a1) = true := decide_eq_true c8
    clear c8
    obtain rfl := Option.some.inj H
    go_enter Try.func96, Try.ntmps96
    go_wp2_with (first | ((with_reducible refine at_fn (f := 118) rfl ?_); refine goesL_ (some 8) rfl rfl Try.func118 (by kernel_rfl) rfl #[.int .i64 a0] rfl (by (try simp only [List.map_toArray, List.map_cons, List.map_nil]); first | done | rfl | (simp only [List.length_drop, List.length_take]; rfl)) ?_; (with_reducible refine (cmp_isNaN_int.calls a0 false _ A3.out).mono ?_); rintro e w' ⟨rfl, ⟨nd, rfl⟩⟩; refine ⟨_, rfl, ?_⟩) | ((with_reducible refine at_fn (f := 118) rfl ?_); refine goesL_ (some 10) rfl rfl Try.func118 (by kernel_rfl) rfl #[.int .i64 a1] rfl (by (try simp only [List.map_toArray, List.map_cons, List.map_nil]); first | done | rfl | (simp only [List.length_drop, List.length_take]; rfl)) ?_; (with_reducible refine (cmp_isNaN_int.calls a1 false _ A4.out).mono ?_); rintro e w' ⟨rfl, ⟨nd, rfl⟩⟩; refine ⟨_, rfl, ?_⟩))
    go_ret
    exact ⟨by first | rfl | (simp; done) | (simp [*]; done), by repeat (first | exact Drawn0.refl _ | apply Drawn0.step)⟩
   ·rw [if_neg c8] at H
    have c8b0 : decide (a0 < a1) = false := decide_eq_false c8
    clear c8
    by_cases c9 : a0 > a1
    ·rw [if_pos c9] at H
     have c9b0 : decide (a1 < a0) = true := decide_eq_true c9
     clear c9
     obtain rfl := Option.some.inj H
     go_enter Try.func96, Try.ntmps96
     go_wp2_with (first | ((with_reducible refine at_fn (f := 118) rfl ?_); refine goesL_ (some 8) rfl rfl Try.func118 (by kernel_rfl) rfl #[.int .i64 a0] rfl (by (try simp only [List.map_toArray, List.map_cons, List.map_nil]); first | done | rfl | (simp only [List.length_drop, List.length_take]; rfl)) ?_; (with_reducible refine (cmp_isNaN_int.calls a0 false _ A3.out).mono ?_); rintro e w' ⟨rfl, ⟨nd, rfl⟩⟩; refine ⟨_, rfl, ?_⟩) | ((with_reducible refine at_fn (f := 118) rfl ?_); refine goesL_ (some 10) rfl rfl Try.func118 (by kernel_rfl) rfl #[.int .i64 a1] rfl (by (try simp only [List.map_toArray, List.map_cons, List.map_nil]); first | done | rfl | (simp only [List.length_drop, List.length_take]; rfl)) ?_; (with_reducible refine (cmp_isNaN_int.calls a1 false _ A4.out).mono ?_); rintro e w' ⟨rfl, ⟨nd, rfl⟩⟩; refine ⟨_, rfl, ?_⟩))
     go_ret
     exact ⟨by first | rfl | (simp; done) | (simp [*]; done), by repeat (first | exact Drawn0.refl _ | apply Drawn0.step)⟩
    ·rw [if_neg c9] at H
     have c9b0 : decide (a1 < a0) = false := decide_eq_false c9
     clear c9
     obtain rfl := Option.some.inj H
     go_enter Try.func96, Try.ntmps96
     go_wp2_with (first | ((with_reducible refine at_fn (f := 118) rfl ?_); refine goesL_ (some 8) rfl rfl Try.func118 (by kernel_rfl) rfl #[.int .i64 a0] rfl (by (try simp only [List.map_toArray, List.map_cons, List.map_nil]); first | done | rfl | (simp only [List.length_drop, List.length_take]; rfl)) ?_; (with_reducible refine (cmp_isNaN_int.calls a0 false _ A3.out).mono ?_); rintro e w' ⟨rfl, ⟨nd, rfl⟩⟩; refine ⟨_, rfl, ?_⟩) | ((with_reducible refine at_fn (f := 118) rfl ?_); refine goesL_ (some 10) rfl rfl Try.func118 (by kernel_rfl) rfl #[.int .i64 a1] rfl (by (try simp only [List.map_toArray, List.map_cons, List.map_nil]); first | done | rfl | (simp only [List.length_drop, List.length_take]; rfl)) ?_; (with_reducible refine (cmp_isNaN_int.calls a1 false _ A4.out).mono ?_); rintro e w' ⟨rfl, ⟨nd, rfl⟩⟩; refine ⟨_, rfl, ?_⟩))
     go_ret
     exact ⟨by first | rfl | (simp; done) | (simp [*]; done), by repeat (first | exact Drawn0.refl _ | apply Drawn0.step)⟩

end Go.Proofs.Ytdknjbadnbangaa.Q

namespace Go.Proofs.Ytdknjbadnbangaa.Q
open Go.RowKit Go.Proofs.YtdknjbadnbangaaW.PrintWords Go.Proofs.YtdknjbadnbangaaW.PrintLast Go.Proofs.YtdknjbadnbangaaW.PrintMore
set_option linter.unusedVariables false
set_option linter.unusedSimpArgs false

/-! ### impl_Entry_marks: function 97 -/
def impl_Entry_marks.f (a0_0 : ByteArray) (a0_1 : ByteArray) (a0_2 : ByteArray) (a0_3 : Int) (a0_4 : Int) (a0_5 : ByteArray) : Option (Int) := if a0_4 = 2 then (some 0) else (some 1)
set_option maxHeartbeats 8000000 in
set_option maxRecDepth 100000 in
theorem impl_Entry_marks.calls (a0_0 : ByteArray) (a0_1 : ByteArray) (a0_2 : ByteArray) (a0_3 : Int) (a0_4 : Int) (a0_5 : ByteArray) (r : Int) (w : World) (h : impl_Entry_marks.f a0_0 a0_1 a0_2 a0_3 a0_4 a0_5 = some r) :
  Calls Try.prog 97 #[.agg #[.string a0_0, .string a0_1, .string a0_2, .int .u64 a0_3, .int .i64 a0_4, .string a0_5]] w fun e w' => e = .returned (.int .i64 r) ∧ Below w.heap.size w w' := by
 have hu35 := Try.underlying35
 have HB := Aside0.mk (Below.refl w.heap.size w)
 have H : (if a0_4 = 2 then (some 0) else (some 1)) = some r := h
 clear h
 by_cases c2 : a0_4 = 2
 ·rw [if_pos c2] at H
  have c2b0 : (a0_4 == 2) = true := beq_iff_eq.mpr c2
  have c2b1 : (a0_4 != 2) = false := bne_eq_false_iff_eq.mpr c2
  clear c2
  obtain rfl := Option.some.inj H
  go_enter Try.func97, Try.ntmps97
  go_wp2_with (first | ((with_reducible refine gate_dst (N := 1) rfl ?_); refine box_event ?hg (N := 1) ?hd (cs := #[.string a0_0, .string a0_1, .string a0_2, .int .u64 a0_3, .int .i64 a0_4, .string a0_5]) (t := 35) ?hr ?_; (case hd => rfl); (case hg => rfl); (case hr => first | (go_simp; done) | (go_simp; rfl)); intro gb171 hg w3 hbox hb; have n0_ := Aside0.mk (below_step bw hb); have n1_ := Aside0.mk (hbox); have n2_ := Aside0.mk ((by rw [hg]; exact (below_size bw) : w.heap.size ≤ gb171)); have n3_ := Aside0.mk ((by rw [hg]; exact (below_size bw) : w.heap.size ≤ gb171)); clear HB; have HB := n0_; have BK171 := n1_; have GW171 := n2_; have GE171 := n3_; clear n0_ n1_ n2_ n3_; clear hb hbox hg; have hcz4_0 : w3.cell? ⟨gb171, 0, none⟩ = some (.string a0_0) := (blk_cell BK171.out 0).trans rfl; have hcz4_1 : w3.cell? ⟨gb171, 1, none⟩ = some (.string a0_1) := (blk_cell BK171.out 1).trans rfl; have hcz4_2 : w3.cell? ⟨gb171, 2, none⟩ = some (.string a0_2) := (blk_cell BK171.out 2).trans rfl; have hcz4_3 : w3.cell? ⟨gb171, 3, none⟩ = some (.int .u64 a0_3) := (blk_cell BK171.out 3).trans rfl; have hcz4_4 : w3.cell? ⟨gb171, 4, none⟩ = some (.int .i64 a0_4) := (blk_cell BK171.out 4).trans rfl; have hcz4_5 : w3.cell? ⟨gb171, 5, none⟩ = some (.string a0_5) := (blk_cell BK171.out 5).trans rfl; have hfz4_0 := blk_frozen BK171.out 0; have hfz4_1 := blk_frozen BK171.out 1; have hfz4_2 := blk_frozen BK171.out 2; have hfz4_3 := blk_frozen BK171.out 3; have hfz4_4 := blk_frozen BK171.out 4; have hfz4_5 := blk_frozen BK171.out 5))
  go_ret
  exact ⟨by first | rfl | (simp [errW_none, errW_some] <;> rfl) | (simp [*, errW_none, errW_some] <;> rfl), bw⟩
 ·rw [if_neg c2] at H
  have c2b0 : (a0_4 == 2) = false := beq_eq_false_iff_ne.mpr c2
  have c2b1 : (a0_4 != 2) = true := bne_iff_ne.mpr c2
  obtain rfl := Option.some.inj H
  go_enter Try.func97, Try.ntmps97
  go_wp2_with (first | ((with_reducible refine gate_dst (N := 1) rfl ?_); refine box_event ?hg (N := 1) ?hd (cs := #[.string a0_0, .string a0_1, .string a0_2, .int .u64 a0_3, .int .i64 a0_4, .string a0_5]) (t := 35) ?hr ?_; (case hd => rfl); (case hg => rfl); (case hr => first | (go_simp; done) | (go_simp; rfl)); intro gb171 hg w5 hbox hb; have n0_ := Aside0.mk (below_step bw hb); have n1_ := Aside0.mk (hbox); have n2_ := Aside0.mk ((by rw [hg]; exact (below_size bw) : w.heap.size ≤ gb171)); have n3_ := Aside0.mk ((by rw [hg]; exact (below_size bw) : w.heap.size ≤ gb171)); clear HB; have HB := n0_; have BK171 := n1_; have GW171 := n2_; have GE171 := n3_; clear n0_ n1_ n2_ n3_; clear hb hbox hg; have hcz6_0 : w5.cell? ⟨gb171, 0, none⟩ = some (.string a0_0) := (blk_cell BK171.out 0).trans rfl; have hcz6_1 : w5.cell? ⟨gb171, 1, none⟩ = some (.string a0_1) := (blk_cell BK171.out 1).trans rfl; have hcz6_2 : w5.cell? ⟨gb171, 2, none⟩ = some (.string a0_2) := (blk_cell BK171.out 2).trans rfl; have hcz6_3 : w5.cell? ⟨gb171, 3, none⟩ = some (.int .u64 a0_3) := (blk_cell BK171.out 3).trans rfl; have hcz6_4 : w5.cell? ⟨gb171, 4, none⟩ = some (.int .i64 a0_4) := (blk_cell BK171.out 4).trans rfl; have hcz6_5 : w5.cell? ⟨gb171, 5, none⟩ = some (.string a0_5) := (blk_cell BK171.out 5).trans rfl; have hfz6_0 := blk_frozen BK171.out 0; have hfz6_1 := blk_frozen BK171.out 1; have hfz6_2 := blk_frozen BK171.out 2; have hfz6_3 := blk_frozen BK171.out 3; have hfz6_4 := blk_frozen BK171.out 4; have hfz6_5 := blk_frozen BK171.out 5))
  go_ret
  exact ⟨by first | rfl | (simp [errW_none, errW_some] <;> rfl) | (simp [*, errW_none, errW_some] <;> rfl), bw⟩

end Go.Proofs.Ytdknjbadnbangaa.Q

namespace Go.Proofs.Ytdknjbadnbangaa.Q
open Go.RowKit Go.Proofs.YtdknjbadnbangaaW.PrintWords Go.Proofs.YtdknjbadnbangaaW.PrintLast Go.Proofs.YtdknjbadnbangaaW.PrintMore
set_option linter.unusedVariables false
set_option linter.unusedSimpArgs false

/-! ### cmp_isNaN_uint64: function 119 -/
def cmp_isNaN_uint64.f (a0 : Int) : Option (Bool) := some (a0 != a0)
set_option maxHeartbeats 8000000 in
set_option maxRecDepth 100000 in
theorem cmp_isNaN_uint64.calls (a0 : Int) (r : Bool) (w : World) (h : cmp_isNaN_uint64.f a0 = some r) :
  Calls Try.prog 119 #[.int .u64 a0] w fun e w' => e = .returned (.bool r) ∧ Drawn0 w w' := by
 have H : (some (a0 != a0)) = some r := h
 clear h
 obtain rfl := Option.some.inj H
 go_enter Try.func119, Try.ntmps119
 go_wp2
 go_ret
 exact ⟨by first | rfl | (simp; done) | (simp [*]; done), by repeat (first | exact Drawn0.refl _ | apply Drawn0.step)⟩

end Go.Proofs.Ytdknjbadnbangaa.Q

namespace Go.Proofs.Ytdknjbadnbangaa.Q
open Go.RowKit Go.Proofs.YtdknjbadnbangaaW.PrintWords Go.Proofs.YtdknjbadnbangaaW.PrintLast Go.Proofs.YtdknjbadnbangaaW.PrintMore
set_option linter.unusedVariables false
set_option linter.unusedSimpArgs false

/-! ### cmp_Compare_uint64: function 98 -/
def cmp_Compare_uint64.f (a0 : Int) (a1 : Int) : Option (Int) := (cmp_isNaN_uint64.f a0).bind fun t172 => ((cmp_isNaN_uint64.f a1).bind fun t173 => (if t172 = true then (if t173 = true then (some 0) else (some (-1))) else (if t173 = true then (some 1) else (if a0 < a1 then (some (-1)) else (if a0 > a1 then (some 1) else (some 0))))))
set_option maxHeartbeats 8000000 in
set_option maxRecDepth 100000 in
theorem cmp_Compare_uint64.calls (a0 : Int) (a1 : Int) (r : Int) (w : World) (h : cmp_Compare_uint64.f a0 a1 = some r) :
  Calls Try.prog 98 #[.int .u64 a0, .int .u64 a1] w fun e w' => e = .returned (.int .i64 r) ∧ Drawn0 w w' := by
 have H : ((cmp_isNaN_uint64.f a0).bind fun t172 => ((cmp_isNaN_uint64.f a1).bind fun t173 => (if t172 = true then (if t173 = true then (some 0) else (some (-1))) else (if t173 = true then (some 1) else (if a0 < a1 then (some (-1)) else (if a0 > a1 then (some 1) else (some 0))))))) = some r := h
 clear h
 replace H := Option.bind_eq_some_iff.mp H
 obtain ⟨t172, A30, H⟩ := H
 replace H : ((cmp_isNaN_uint64.f a1).bind fun t173 => (if t172 = true then (if t173 = true then (some 0) else (some (-1))) else (if t173 = true then (some 1) else (if a0 < a1 then (some (-1)) else (if a0 > a1 then (some 1) else (some 0)))))) = some r := H
 have A3 := Aside0.mk A30
 clear A30
 replace H := Option.bind_eq_some_iff.mp H
 obtain ⟨t173, A40, H⟩ := H
 replace H : (if t172 = true then (if t173 = true then (some 0) else (some (-1))) else (if t173 = true then (some 1) else (if a0 < a1 then (some (-1)) else (if a0 > a1 then (some 1) else (some 0))))) = some r := H
 have A4 := Aside0.mk A40
 clear A40
 by_cases c5 : t172 = true
 ·subst c5
  have H1 : (if t173 = true then (some 0) else (some (-1))) = some r := by rw [if_pos rfl] at H; exact H
  clear H
  have H := H1
  clear H1
  by_cases c6 : t173 = true
  ·subst c6
   have H1 : (some 0) = some r := by rw [if_pos rfl] at H; exact H
   clear H
   have H := H1
   clear H1
   obtain rfl := Option.some.inj H
   go_enter Try.func98, Try.ntmps98
   go_wp2_with (first | ((with_reducible refine at_fn (f := 119) rfl ?_); refine goesL_ (some 8) rfl rfl Try.func119 (by kernel_rfl) rfl #[.int .u64 a0] rfl (by (try simp only [List.map_toArray, List.map_cons, List.map_nil]); first | done | rfl | (simp only [List.length_drop, List.length_take]; rfl)) ?_; (with_reducible refine (cmp_isNaN_uint64.calls a0 true _ A3.out).mono ?_); rintro e w' ⟨rfl, ⟨nd, rfl⟩⟩; refine ⟨_, rfl, ?_⟩) | ((with_reducible refine at_fn (f := 119) rfl ?_); refine goesL_ (some 10) rfl rfl Try.func119 (by kernel_rfl) rfl #[.int .u64 a1] rfl (by (try simp only [List.map_toArray, List.map_cons, List.map_nil]); first | done | rfl | (simp only [List.length_drop, List.length_take]; rfl)) ?_; (with_reducible refine (cmp_isNaN_uint64.calls a1 true _ A4.out).mono ?_); rintro e w' ⟨rfl, ⟨nd, rfl⟩⟩; refine ⟨_, rfl, ?_⟩))
   go_ret
   exact ⟨by first | rfl | (simp; done) | (simp [*]; done), by repeat (first | exact Drawn0.refl _ | apply Drawn0.step)⟩
  ·replace c6 := Bool.eq_false_iff.mpr c6
   subst c6
   have H1 : (some (-1)) = some r := by rw [if_neg (show ¬ (false = true) by decide)] at H; exact H
   clear H
   have H := H1
   clear H1
   obtain rfl := Option.some.inj H
   go_enter Try.func98, Try.ntmps98
   go_wp2_with (first | ((with_reducible refine at_fn (f := 119) rfl ?_); refine goesL_ (some 8) rfl rfl Try.func119 (by kernel_rfl) rfl #[.int .u64 a0] rfl (by (try simp only [List.map_toArray, List.map_cons, List.map_nil]); first | done | rfl | (simp only [List.length_drop, List.length_take]; rfl)) ?_; (with_reducible refine (cmp_isNaN_uint64.calls a0 true _ A3.out).mono ?_); rintro e w' ⟨rfl, ⟨nd, rfl⟩⟩; refine ⟨_, rfl, ?_⟩) | ((with_reducible refine at_fn (f := 119) rfl ?_); refine goesL_ (some 10) rfl rfl Try.func119 (by kernel_rfl) rfl #[.int .u64 a1] rfl (by (try simp only [List.map_toArray, List.map_cons, List.map_nil]); first | done | rfl | (simp only [List.length_drop, List.length_take]; rfl)) ?_; (with_reducible refine (cmp_isNaN_uint64.calls a1 false _ A4.out).mono ?_); rintro e w' ⟨rfl, ⟨nd, rfl⟩⟩; refine ⟨_, rfl, ?_⟩))
   go_ret
   exact ⟨by first | rfl | (simp; done) | (simp [*]; done), by repeat (first | exact Drawn0.refl _ | apply Drawn0.step)⟩
 ·replace c5 := Bool.eq_false_iff.mpr c5
  subst c5
  have H1 : (if t173 = true then (some 1) else (if a0 < a1 then (some (-1)) else (if a0 > a1 then (some 1) else (some 0)))) = some r := by rw [if_neg (show ¬ (false = true) by decide)] at H; exact H
  clear H
  have H := H1
  clear H1
  by_cases c7 : t173 = true
  ·subst c7
   have H1 : (some 1) = some r := by rw [if_pos rfl] at H; exact H
   clear H
   have H := H1
   clear H1
   obtain rfl := Option.some.inj H
   go_enter Try.func98, Try.ntmps98
   go_wp2_with (first | ((with_reducible refine at_fn (f := 119) rfl ?_); refine goesL_ (some 8) rfl rfl Try.func119 (by kernel_rfl) rfl #[.int .u64 a0] rfl (by (try simp only [List.map_toArray, List.map_cons, List.map_nil]); first | done | rfl | (simp only [List.length_drop, List.length_take]; rfl)) ?_; (with_reducible refine (cmp_isNaN_uint64.calls a0 false _ A3.out).mono ?_); rintro e w' ⟨rfl, ⟨nd, rfl⟩⟩; refine ⟨_, rfl, ?_⟩) | ((with_reducible refine at_fn (f := 119) rfl ?_); refine goesL_ (some 10) rfl rfl Try.func119 (by kernel_rfl) rfl #[.int .u64 a1] rfl (by (try simp only [List.map_toArray, List.map_cons, List.map_nil]); first | done | rfl | (simp only [List.length_drop, List.length_take]; rfl)) ?_; (with_reducible refine (cmp_isNaN_uint64.calls a1 true _ A4.out).mono ?_); rintro e w' ⟨rfl, ⟨nd, rfl⟩⟩; refine ⟨_, rfl, ?_⟩))
   go_ret
   exact ⟨by first | rfl | (simp; done) | (simp [*]; done), by repeat (first | exact Drawn0.refl _ | apply Drawn0.step)⟩
  ·replace c7 := Bool.eq_false_iff.mpr c7
   subst c7
   have H1 : (if a0 < a1 then (some (-1)) else (if a0 > a1 then (some 1) else (some 0))) = some r := by rw [if_neg (show ¬ (false = true) by decide)] at H; exact H
   clear H
   have H := H1
   clear H1
   by_cases c8 : a0 < a1
   ·rw [if_pos c8] at H
    have c8b0 : decide (a0 < a1) = true := decide_eq_true c8
    clear c8
    obtain rfl := Option.some.inj H
    go_enter Try.func98, Try.ntmps98
    go_wp2_with (first | ((with_reducible refine at_fn (f := 119) rfl ?_); refine goesL_ (some 8) rfl rfl Try.func119 (by kernel_rfl) rfl #[.int .u64 a0] rfl (by (try simp only [List.map_toArray, List.map_cons, List.map_nil]); first | done | rfl | (simp only [List.length_drop, List.length_take]; rfl)) ?_; (with_reducible refine (cmp_isNaN_uint64.calls a0 false _ A3.out).mono ?_); rintro e w' ⟨rfl, ⟨nd, rfl⟩⟩; refine ⟨_, rfl, ?_⟩) | ((with_reducible refine at_fn (f := 119) rfl ?_); refine goesL_ (some 10) rfl rfl Try.func119 (by kernel_rfl) rfl #[.int .u64 a1] rfl (by (try simp only [List.map_toArray, List.map_cons, List.map_nil]); first | done | rfl | (simp only [List.length_drop, List.length_take]; rfl)) ?_; (with_reducible refine (cmp_isNaN_uint64.calls a1 false _ A4.out).mono ?_); rintro e w' ⟨rfl, ⟨nd, rfl⟩⟩; refine ⟨_, rfl, ?_⟩))
    go_ret
    exact ⟨by first | rfl | (simp; done) | (simp [*]; done), by repeat (first | exact Drawn0.refl _ | apply Drawn0.step)⟩
   ·rw [if_neg c8] at H
    have c8b0 : decide (a0 < a1) = false := decide_eq_false c8
    clear c8
    by_cases c9 : a0 > a1
    ·rw [if_pos c9] at H
     have c9b0 : decide (a1 < a0) = true := decide_eq_true c9
     clear c9
     obtain rfl := Option.some.inj H
     go_enter Try.func98, Try.ntmps98
     go_wp2_with (first | ((with_reducible refine at_fn (f := 119) rfl ?_); refine goesL_ (some 8) rfl rfl Try.func119 (by kernel_rfl) rfl #[.int .u64 a0] rfl (by (try simp only [List.map_toArray, List.map_cons, List.map_nil]); first | done | rfl | (simp only [List.length_drop, List.length_take]; rfl)) ?_; (with_reducible refine (cmp_isNaN_uint64.calls a0 false _ A3.out).mono ?_); rintro e w' ⟨rfl, ⟨nd, rfl⟩⟩; refine ⟨_, rfl, ?_⟩) | ((with_reducible refine at_fn (f := 119) rfl ?_); refine goesL_ (some 10) rfl rfl Try.func119 (by kernel_rfl) rfl #[.int .u64 a1] rfl (by (try simp only [List.map_toArray, List.map_cons, List.map_nil]); first | done | rfl | (simp only [List.length_drop, List.length_take]; rfl)) ?_; (with_reducible refine (cmp_isNaN_uint64.calls a1 false _ A4.out).mono ?_); rintro e w' ⟨rfl, ⟨nd, rfl⟩⟩; refine ⟨_, rfl, ?_⟩))
     go_ret
     exact ⟨by first | rfl | (simp; done) | (simp [*]; done), by repeat (first | exact Drawn0.refl _ | apply Drawn0.step)⟩
    ·rw [if_neg c9] at H
     have c9b0 : decide (a1 < a0) = false := decide_eq_false c9
     clear c9
     obtain rfl := Option.some.inj H
     go_enter Try.func98, Try.ntmps98
     go_wp2_with (first | ((with_reducible refine at_fn (f := 119) rfl ?_); refine goesL_ (some 8) rfl rfl Try.func119 (by kernel_rfl) rfl #[.int .u64 a0] rfl (by (try simp only [List.map_toArray, List.map_cons, List.map_nil]); first | done | rfl | (simp only [List.length_drop, List.length_take]; rfl)) ?_; (with_reducible refine (cmp_isNaN_uint64.calls a0 false _ A3.out).mono ?_); rintro e w' ⟨rfl, ⟨nd, rfl⟩⟩; refine ⟨_, rfl, ?_⟩) | ((with_reducible refine at_fn (f := 119) rfl ?_); refine goesL_ (some 10) rfl rfl Try.func119 (by kernel_rfl) rfl #[.int .u64 a1] rfl (by (try simp only [List.map_toArray, List.map_cons, List.map_nil]); first | done | rfl | (simp only [List.length_drop, List.length_take]; rfl)) ?_; (with_reducible refine (cmp_isNaN_uint64.calls a1 false _ A4.out).mono ?_); rintro e w' ⟨rfl, ⟨nd, rfl⟩⟩; refine ⟨_, rfl, ?_⟩))
     go_ret
     exact ⟨by first | rfl | (simp; done) | (simp [*]; done), by repeat (first | exact Drawn0.refl _ | apply Drawn0.step)⟩

end Go.Proofs.Ytdknjbadnbangaa.Q
