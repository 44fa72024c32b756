/- FnExactSplitStore: the row of the law: its arguments opened, its walk, its statement over lists (PrFnExactSplitStore). No condition. -/
import Derived.Test.YtjlggfdmfchncaaCFnExactSplitStore3
import Derived.Laws.Cover1
import Derived.Shelf.Spec.SlicesInsertGrow
import Derived.Deep.RegionHeld3

namespace Go.Proofs.Ytjlggfdmfchncaa.Q
open Go.RowKit Go.Proofs.YtjlggfdmfchncaaW.PrintWords Go.Proofs.YtjlggfdmfchncaaW.PrintLast Go.Proofs.YtjlggfdmfchncaaW.PrintMore
set_option linter.unusedVariables false
set_option linter.unusedSimpArgs false

/-! ### spec_l7Range: function 34 -/
def spec_l7Range.f (l0_0 : List (S40)) (a1 : Int) : Option (ByteArray × Bool × ByteArray) := if 0 ≤ a1 then (if a1 < (l0_0.length : Int) then (if (wrap64 (a1 + 1)) < (l0_0.length : Int) then (if 0 ≤ (wrap64 (a1 + 1)) then (some ((rd_T40 l0_0 a1).f0, true, (rd_T40 l0_0 (wrap64 (a1 + 1))).f0)) else (none)) else (some ((rd_T40 l0_0 a1).f0, false, (⟨#[]⟩ : ByteArray)))) else (none)) else (none)
set_option maxHeartbeats 8000000 in
set_option maxRecDepth 100000 in
theorem spec_l7Range.calls (A0_0 : Option Addr) (c0_0 : Nat) (l0_0 : List (S40)) (a1 : Int) (r1 : ByteArray) (r2 : Bool) (r3 : ByteArray) (w : World) (hr0_0 : Kd.C k40 w A0_0 l0_0.length l0_0) (hc0_0 : l0_0.length ≤ c0_0) (h : spec_l7Range.f l0_0 a1 = some (r1, r2, r3)) :
    Calls Try.prog 34 #[.agg #[.slice A0_0 l0_0.length c0_0], .int .i64 a1] w fun e w' => e = .returned (.agg #[.string r1, .bool r2, .string r3]) ∧ Below w.heap.size w w' := by
  unfold spec_l7Range.f at h
  have hmax := hr0_0.2.1
  by_cases h0 : 0 ≤ a1
  · by_cases h1 : a1 < (l0_0.length : Int)
    · rw [if_pos h0, if_pos h1, wrap_id _ (by omega) (by omega)] at h
      obtain ⟨ad, A1, c1, rfl, hx0, hx1, -⟩ := at_T40 hr0_0 a1 h0 h1
      have kr : K0 (Below w.heap.size w w) := ⟨Below.refl _ _⟩
      have kg : K0 (w.heap.size ≤ w.heap.size + 1) := ⟨by omega⟩
      replace hx0 := clk hx0
      have hu_S := Try.underlying28
      have hu_R := Try.underlying51
      by_cases h2 : a1 + 1 < (l0_0.length : Int)
      · rw [if_pos h2, if_pos (by omega)] at h
        obtain ⟨rfl, rfl, rfl⟩ : _ ∧ _ ∧ _ := by simpa using h
        obtain ⟨ad', A2, c2, e2, hy0, -⟩ := at_T40 hr0_0 (a1 + 1) (by omega) h2
        cases e2
        replace hy0 := clk hy0
        go_enter Try.func34, Try.ntmps34
        go_wp2
        refine bodyPost_ret (results_cell_row rfl _ _ (w.heap.size + 1) 51 _ (0, 0) _ rfl (old1 _ _ _ _) hu_R rfl (by kernel_rfl)) rfl ⟨rfl, kk⟩
      · rw [if_neg h2] at h
        obtain ⟨rfl, rfl, rfl⟩ : _ ∧ _ ∧ _ := by simpa using h
        go_enter Try.func34, Try.ntmps34
        go_wp2
        refine bodyPost_ret (results_cell_row rfl _ _ (w.heap.size + 1) 51 _ (0, 0) _ rfl (old1 _ _ _ _) hu_R rfl (by kernel_rfl)) rfl ⟨rfl, kk⟩
    · rw [if_pos h0, if_neg h1] at h; cases h
  · rw [if_neg h0] at h; cases h

end Go.Proofs.Ytjlggfdmfchncaa.Q

namespace Go.Proofs.Ytjlggfdmfchncaa.Q
open Go.RowKit Go.Proofs.YtjlggfdmfchncaaW.PrintWords Go.Proofs.YtjlggfdmfchncaaW.PrintLast Go.Proofs.YtjlggfdmfchncaaW.PrintMore
attribute [local go_sem high] str_gtr str_leq str_geq
set_option linter.unusedVariables false
set_option linter.unusedSimpArgs false

/-! ### spec_ValidStore: function 15 -/
mutual
def spec_ValidStore.j0 : Nat → Int → Bool → List (S40) → Option (Bool)
 | 0, _, _, _ => none
 | k + 1, x3, x25, x143000 => if x25 = true then (some false) else (spec_ValidStore.l0 k x3 0 x143000)
def spec_ValidStore.l0 : Nat → Int → Int → List (S40) → Option (Bool)
 | 0, _, _, _ => none
 | k + 1, x3, x4, x143000 => if x4 < x3 then (if 0 ≤ x4 then (if x4 < (x143000.length : Int) then (if (((rd_T40 x143000 x4).f0).size : Int) > 64 then (spec_ValidStore.j2 k x3 x4 true x143000 ((rd_T40 x143000 x4).f0) ((rd_T40 x143000 x4).f1)) else (if x4 > 0 then (if 0 ≤ (wrap64 (x4 - 1)) then (if (wrap64 (x4 - 1)) < (x143000.length : Int) then (if ((Op.bytesLess (((rd_T40 x143000 (wrap64 (x4 - 1))).f0).toList) (((rd_T40 x143000 x4).f0).toList)) = true) then ((spec_l3GoodRuns.f k ((rd_T40 x143000 x4).f1)).bind fun t147 => (spec_ValidStore.j2 k x3 x4 (!t147) x143000 ((rd_T40 x143000 x4).f0) ((rd_T40 x143000 x4).f1))) else (spec_ValidStore.j2 k x3 x4 true x143000 ((rd_T40 x143000 x4).f0) ((rd_T40 x143000 x4).f1))) else (none)) else (none)) else ((spec_l3GoodRuns.f k ((rd_T40 x143000 x4).f1)).bind fun t148 => (spec_ValidStore.j2 k x3 x4 (!t148) x143000 ((rd_T40 x143000 x4).f0) ((rd_T40 x143000 x4).f1))))) else (none)) else (none)) else (some true)
def spec_ValidStore.j2 : Nat → Int → Int → Bool → List (S40) → ByteArray → List (S60) → Option (Bool)
 | 0, _, _, _, _, _, _ => none
 | k + 1, x3, x4, x61, x143000, x146000, x146001 => if x61 = true then (some false) else (spec_ValidStore.l1 k x3 x4 0 x143000 x146000 x146001)
def spec_ValidStore.l1 : Nat → Int → Int → Int → List (S40) → ByteArray → List (S60) → Option (Bool)
 | 0, _, _, _, _, _, _ => none
 | k + 1, x3, x4, x6, x143000, x146000, x146001 => if x6 < (x146001.length : Int) then (if 0 ≤ x6 then (if (((rd_T60 x146001 x6).f0).length : Int) = 0 then (some false) else (spec_ValidStore.l2 k x3 x4 x6 ((rd_T60 x146001 x6).f0) 0 x143000 x146000 x146001)) else (none)) else (spec_ValidStore.l0 k x3 (wrap64 (x4 + 1)) x143000)
def spec_ValidStore.l2 : Nat → Int → Int → Int → List (S65) → Int → List (S40) → ByteArray → List (S60) → Option (Bool)
 | 0, _, _, _, _, _, _, _, _ => none
 | k + 1, x3, x4, x6, x7, x8, x143000, x146000, x146001 => if x8 < (x7.length : Int) then ((spec_l7Range.f x143000 x4).bind fun bt150 => (if 0 ≤ x8 then ((spec_InRange.f bt150.1 bt150.2.1 bt150.2.2 ((rd_T65 x7 x8).f0)).bind fun t154 => (if t154 = true then (spec_ValidStore.l2 k x3 x4 x6 x7 (wrap64 (x8 + 1)) x143000 x146000 x146001) else (some false))) else (none))) else (spec_ValidStore.l1 k x3 x4 (wrap64 (x6 + 1)) x143000 x146000 x146001)
end
def spec_ValidStore.f (k : Nat) (l0_0 : List (S40)) : Option (Bool) := if (l0_0.length : Int) < 1 then (spec_ValidStore.j0 k (l0_0.length : Int) true l0_0) else (if (l0_0.length : Int) > 100 then (spec_ValidStore.j0 k (l0_0.length : Int) true l0_0) else (if 0 < (l0_0.length : Int) then (spec_ValidStore.j0 k (l0_0.length : Int) (((rd_T40 l0_0 0).f0).toList != ([] : List UInt8)) l0_0) else (none)))
def spec_ValidStore.T8 : Bool × List (List Nat × List Nat) := (true, [([], []), ([0], [0]), ([1], [1]), ([2], [2]), ([3], [3]), ([4], [4]), ([5, 4], [4, 5]), ([6, 4, 4], [4, 6]), ([7], [7]), ([8, 7], [7, 8]), ([7], [7]), ([10, 7], [7, 10]), ([9, 11, 7], [7, 9, 11]), ([12, 7], [7, 12]), ([13, 7], [7, 13]), ([7], [7]), ([15, 7], [7, 15]), ([14, 16, 7], [7, 14, 16]), ([7, 17, 4], [4, 7, 17]), ([4, 18], [4, 18]), ([19, 7], [19]), ([20], [20]), ([21, 20], [20, 21]), ([22, 20, 20], [20, 22]), ([23, 20], [20, 23]), ([20, 24], [20, 24])])
def spec_ValidStore.B8 : List Nat := [0, 1, 3, 7, 15, 31, 63, 127, 255, 511, 255, 1279, 4095, 8191, 16383, 255, 33023, 131071, 262143, 524287, 1048575, 2097151, 4194303, 8388607, 16777215, 33554431]
theorem spec_ValidStore.tab8 : rtab .any (opsOf Try.f15 8) = spec_ValidStore.T8 := by kernel_rfl
theorem spec_ValidStore.bits8 : waitsOk spec_ValidStore.T8.2 spec_ValidStore.B8 = true := by kernel_rfl
def spec_ValidStore.T19 : Bool × List (List Nat × List Nat) := (true, [([], []), ([], []), ([0, 1], [0, 1]), ([], []), ([], []), ([3, 4], [3, 4]), ([5], [5]), ([6], [6]), ([2, 7, 2], [2, 7]), ([8], [8])])
def spec_ValidStore.B19 : List Nat := [0, 0, 3, 0, 0, 24, 56, 120, 255, 511]
theorem spec_ValidStore.tab19 : rtab .any (opsOf Try.f15 19) = spec_ValidStore.T19 := by kernel_rfl
theorem spec_ValidStore.bits19 : waitsOk spec_ValidStore.T19.2 spec_ValidStore.B19 = true := by kernel_rfl
set_option maxHeartbeats 8000000 in
set_option maxRecDepth 100000 in
theorem spec_ValidStore.calls (k : Nat) (A0_0 : Option Addr) (c0_0 : Nat) (l0_0 : List (S40)) (r : Bool) (w : World) (hr0_0 : Kd.C k40 w A0_0 l0_0.length l0_0) (hc0_0 : l0_0.length ≤ c0_0) (h : spec_ValidStore.f k l0_0 = some r) :
  Calls Try.prog 15 #[.agg #[.slice A0_0 l0_0.length c0_0]] w fun e w' => e = .returned (.bool r) ∧ Below w.heap.size w w' := by
 have hu28 := Try.underlying28
 have hu40 := Try.underlying40
 have HR0_0 := Aside0.mk hr0_0
 have HC0_0 := Aside0.mk hc0_0
 clear hr0_0 hc0_0
 have HB := Aside0.mk (Below.refl w.heap.size w)
 have H : (if (l0_0.length : Int) < 1 then (spec_ValidStore.j0 k (l0_0.length : Int) true l0_0) else (if (l0_0.length : Int) > 100 then (spec_ValidStore.j0 k (l0_0.length : Int) true l0_0) else (if 0 < (l0_0.length : Int) then (spec_ValidStore.j0 k (l0_0.length : Int) (((rd_T40 l0_0 0).f0).toList != ([] : List UInt8)) l0_0) else (none)))) = some r := h
 clear h
 have HC2 := Aside0.mk H
 clear H
 go_enter Try.func15, Try.ntmps15
 go_upto_region 2 with (first | ((with_reducible refine gate_dst (N := 1) rfl ?_); refine box_event ?hg (N := 1) ?hd (cs := #[.slice A0_0 l0_0.length c0_0]) (t := 28) ?hr ?_; (case hd => rfl); (case hg => rfl); (case hr => first | (go_simp; done) | (go_simp; rfl)); intro gb142 hg w3 hbox hb; have n0_ := Aside0.mk (below_step bw hb); have n1_ := Aside0.mk (hbox); have n2_ := Aside0.mk ((by rw [hg]; exact (below_size bw) : w.heap.size ≤ gb142)); have n3_ := Aside0.mk ((by rw [hg]; exact (below_size bw) : w.heap.size ≤ gb142)); clear HB; have HB := n0_; have BK142 := n1_; have GW142 := n2_; have GE142 := n3_; clear n0_ n1_ n2_ n3_; clear hb hbox hg; have hcz4_0 : w3.cell? ⟨gb142, 0, none⟩ = some (.slice A0_0 l0_0.length c0_0) := (blk_cell BK142.out 0).trans rfl; have hfz4_0 := blk_frozen BK142.out 0))
 (try simp only [Act.put, List.setIfInBounds_toArray, List.set_cons_zero, List.set_cons_succ])
 go_cut [25] (fun v25 wc => ∃ (kq : Nat) (x25_1 : Bool), v25 = .bool x25_1 ∧ Aside0 (spec_ValidStore.j0 kq (l0_0.length : Int) x25_1 l0_0 = some r) ∧ Aside0 (kq ≤ k) ∧ Aside0 (wc.heap[gb142]? = some (.cells #[(.slice A0_0 l0_0.length c0_0)] 28 (0, 0))) ∧ Aside0 (Below w.heap.size w wc))
 case first =>
  have H := HC2.out
  clear HC2
  by_cases c5 : (l0_0.length : Int) < 1
  ·rw [if_pos c5] at H
   have c5b0 : decide ((l0_0.length : Int) < 1) = true := decide_eq_true c5
   have c5b1 : decide (l0_0.length < 1) = true := decide_eq_true (by omega)
   clear c5
   (first | rw [c5b0] | (simp only [i64_w, i32_w]; rw [c5b0]) | skip)
   have H' := Aside0.mk H
   clear H
   go_wp2
   go_meet
   case rel => exact ⟨_, (true), (by first | rfl | (simp; done) | (simp [*]; done) | (simp [isE]; done)), H', ⟨by first | omega | exact Nat.le_refl _⟩, ⟨lb BK142⟩, ⟨bw⟩⟩
  ·rw [if_neg c5] at H
   have c5b0 : decide ((l0_0.length : Int) < 1) = false := decide_eq_false c5
   have c5b1 : decide (l0_0.length < 1) = false := decide_eq_false (by omega)
   clear c5
   (first | rw [c5b0] | (simp only [i64_w, i32_w]; rw [c5b0]) | skip)
   by_cases c6 : (l0_0.length : Int) > 100
   ·rw [if_pos c6] at H
    have c6b0 : decide (100 < (l0_0.length : Int)) = true := decide_eq_true c6
    have c6b1 : decide (100 < l0_0.length) = true := decide_eq_true (by omega)
    clear c6
    have H' := Aside0.mk H
    clear H
    go_wp2
    go_meet
    case rel => exact ⟨_, (true), (by first | rfl | (simp; done) | (simp [*]; done) | (simp [isE]; done)), H', ⟨by first | omega | exact Nat.le_refl _⟩, ⟨lb BK142⟩, ⟨bw⟩⟩
   ·rw [if_neg c6] at H
    have c6b0 : decide (100 < (l0_0.length : Int)) = false := decide_eq_false c6
    have c6b1 : decide (100 < l0_0.length) = false := decide_eq_false (by omega)
    clear c6
    by_cases c7 : 0 < (l0_0.length : Int)
    ·rw [if_pos c7] at H
     have c7b0 : decide (0 < (l0_0.length : Int)) = true := decide_eq_true c7
     have c7b1 : decide (0 < l0_0.length) = true := decide_eq_true (by omega)
     clear c7
     have H' := Aside0.mk H
     clear H
     have hcz8_0 : w3.cell? ⟨gb142, 0, none⟩ = some (.slice A0_0 l0_0.length c0_0) := (blk_cell BK142.out 0).trans rfl
     have hfz8_0 := blk_frozen BK142.out 0
     have p143 : 0 ≤ (0 : Int) := (by omega)
     have q143 : 0 < (l0_0.length : Int) := of_decide_eq_true (by first | (with_reducible assumption) | assumption)
     obtain ⟨ad143, A143_1, c143_1, e143, hx143_0, hx143_1, hl143_1, hi143_1⟩ := at_T40 HR0_0.out 0 p143 q143
     cases e143
     have qi143 : (0 < l0_0.length) = True := eq_true (by omega)
     (try rw [show ((0 : Int)).toNat = 0 from rfl] at hx143_0)
     (try rw [show 0 * 2 = 0 from rfl] at hx143_0)
     (try rw [Addr.add_zero'] at hx143_0)
     (try rw [show ((0 : Int)).toNat = 0 from rfl] at hx143_1)
     (try rw [show 0 * 2 = 0 from rfl] at hx143_1)
     (try rw [Addr.add_zero'] at hx143_1)
     replace hx143_0 := (HB.out.cell (World.block_lt_of_cell? w _ hx143_0)).trans hx143_0
     replace hx143_1 := (HB.out.cell (World.block_lt_of_cell? w _ hx143_1)).trans hx143_1
     have HR143_1 := Aside0.mk hi143_1
     have HC143_1 := Aside0.mk hl143_1
     clear hi143_1 hl143_1
     replace p143 := eq_true p143
     replace q143 := eq_true q143
     go_wp2
     go_meet
     case rel => exact ⟨_, ((((rd_T40 l0_0 0).f0).toList != ([] : List UInt8))), (by first | rfl | (simp; done) | (simp [*]; done) | (simp [isE]; done)), H', ⟨by first | omega | exact Nat.le_refl _⟩, ⟨lb BK142⟩, ⟨bw⟩⟩
    ·rw [if_neg c7] at H
     exact absurd H (by simp)
 case rest =>
  clear HC2
  try clear c1
  try clear p1
  try clear q1
  try clear hx1
  try clear qi1
  try clear p2
  try clear c5
  try clear c5b0
  try clear c5b1
  try clear c6
  try clear c6b0
  try clear c6b1
  try clear c7
  try clear c7b0
  try clear c7b1
  try clear hcz4_0
  try clear hcz8_0
  try clear hfz4_0
  try clear hfz8_0
  try clear hx143_0
  try clear hx143_1
  try clear p143
  try clear q143
  obtain ⟨kq, x25_1, rfl, HA, HJ1, BK142, HB⟩ := hcut
  cases kq with
  | zero => exact absurd HA.out (by simp [spec_ValidStore.j0])
  | succ kj1 =>
   have H := HA.out
   clear HA
   simp only [spec_ValidStore.j0] at H
   by_cases c9 : x25_1 = true
   ·subst c9
    have H1 : (some false) = some r := by rw [if_pos rfl] at H; exact H
    clear H
    have H := H1
    clear H1
    obtain rfl := Option.some.inj H
    go_wp2
    go_ret
    exact ⟨by first | rfl | (simp [errW_none, errW_some] <;> rfl) | (simp [*, errW_none, errW_some] <;> rfl), bw⟩
   ·replace c9 := Bool.eq_false_iff.mpr c9
    subst c9
    have H1 : (spec_ValidStore.l0 kj1 (l0_0.length : Int) 0 l0_0) = some r := by rw [if_neg (show ¬ (false = true) by decide)] at H; exact H
    clear H
    have H := H1
    clear H1
    have H' := Aside0.mk H
    clear H
    go_wp2
    go_loopg [4] kj1 (fun kq v4 w' => ∃ (x4_2 : Int), v4 = .int .i64 x4_2 ∧ Aside0 (spec_ValidStore.l0 kq (l0_0.length : Int) x4_2 l0_0 = some r) ∧ Aside0 (kq ≤ kj1) ∧ Aside0 (w'.heap[gb142]? = some (.cells #[(.slice A0_0 l0_0.length c0_0)] 28 (0, 0))) ∧ Aside0 (Below w.heap.size w w'))
    case atStart => exact ⟨(0), (by first | rfl | (simp; done) | (simp [*]; done) | (simp [isE]; done)), H', ⟨Nat.le_refl _⟩, ⟨lb BK142⟩, ⟨bw⟩⟩
    case round =>
     clear H'
     try clear c1
     try clear p1
     try clear q1
     try clear hx1
     try clear qi1
     try clear p2
     try clear c5
     try clear c5b0
     try clear c5b1
     try clear c6
     try clear c6b0
     try clear c6b1
     try clear c7
     try clear c7b0
     try clear c7b1
     try clear c9
     try clear hcz4_0
     try clear hcz8_0
     try clear hfz4_0
     try clear hfz8_0
     try clear hx143_0
     try clear hx143_1
     try clear p1
     try clear p143
     try clear p2
     try clear q1
     try clear q143
     obtain ⟨x4_2, rfl, HA, HK2, BK142, HB⟩ := hrel
     cases gk with
     | zero => exact absurd HA.out (by simp [spec_ValidStore.l0])
     | succ k2 =>
      have H := HA.out
      clear HA
      simp only [spec_ValidStore.l0] at H
      by_cases c10 : x4_2 < (l0_0.length : Int)
      ·rw [if_pos c10] at H
       have c10b0 : decide (x4_2 < (l0_0.length : Int)) = true := decide_eq_true c10
       clear c10
       by_cases c11 : 0 ≤ x4_2
       ·rw [if_pos c11] at H
        have c11b0 : decide (0 ≤ x4_2) = true := decide_eq_true c11
        clear c11
        by_cases c12 : x4_2 < (l0_0.length : Int)
        ·rw [if_pos c12] at H
         have c12b0 : decide (x4_2 < (l0_0.length : Int)) = true := decide_eq_true c12
         clear c12
         have HC13 := Aside0.mk H
         clear H
         have hcz14_0 : wr.cell? ⟨gb142, 0, none⟩ = some (.slice A0_0 l0_0.length c0_0) := (blk_cell BK142.out 0).trans rfl
         have hfz14_0 := blk_frozen BK142.out 0
         have p144 : 0 ≤ (x4_2 : Int) := of_decide_eq_true (by first | (with_reducible assumption) | assumption)
         have q144 : x4_2 < (l0_0.length : Int) := of_decide_eq_true (by first | (with_reducible assumption) | assumption)
         obtain ⟨ad144, A144_1, c144_1, e144, hx144_0, hx144_1, hl144_1, hi144_1⟩ := at_T40 HR0_0.out x4_2 p144 q144
         cases e144
         replace hx144_0 := (HB.out.cell (World.block_lt_of_cell? w _ hx144_0)).trans hx144_0
         replace hx144_1 := (HB.out.cell (World.block_lt_of_cell? w _ hx144_1)).trans hx144_1
         have HR144_1 := Aside0.mk hi144_1
         have HC144_1 := Aside0.mk hl144_1
         clear hi144_1 hl144_1
         replace p144 := eq_true p144
         replace q144 := eq_true q144
         go_upto_region 8 with (first | ((with_reducible refine gate_dst (N := 5) rfl ?_); refine box_event ?hg (N := 5) ?hd (cs := #[.string (⟨#[]⟩ : ByteArray), .slice none 0 0]) (t := 40) ?hr ?_; (case hd => rfl); (case hg => rfl); (case hr => first | (go_simp; done) | (go_simp; rfl)); intro gb145 hg w15 hbox hb; have n0_ := Aside0.mk (blk_below (g := gb142) (o := .cells #[.slice (some ad144) l0_0.length c0_0] 28 (0, 0)) (lb BK142) hb); have n1_ := Aside0.mk (below_step bw hb); have n2_ := Aside0.mk (hbox); have n3_ := Aside0.mk ((by rw [hg]; exact (below_size bw) : w.heap.size ≤ gb145)); have n4_ := Aside0.mk ((by rw [hg]; exact (below_size bw) : w.heap.size ≤ gb145)); have n5_ := Aside0.mk ((by rw [hg]; exact Nat.ne_of_lt (blk_lt (g := gb142) (o := .cells #[.slice (some ad144) l0_0.length c0_0] 28 (0, 0)) (lb BK142)) : gb142 ≠ gb145)); have n6_ := Aside0.mk ((by rw [hg]; exact Nat.ne_of_gt (blk_lt (g := gb142) (o := .cells #[.slice (some ad144) l0_0.length c0_0] 28 (0, 0)) (lb BK142)) : gb145 ≠ gb142)); clear BK142; clear HB; have BK142 := n0_; have HB := n1_; have BK145 := n2_; have GW145 := n3_; have GE145 := n4_; have NB142_145 := n5_; have NB145_142 := n6_; clear n0_ n1_ n2_ n3_ n4_ n5_ n6_; clear hb hbox hg; have hnb16 := NB145_142.out; have hnc16 := NB142_145.out; have hcz17_0 : w15.cell? ⟨gb145, 0, none⟩ = some (.string (⟨#[]⟩ : ByteArray)) := (blk_cell BK145.out 0).trans rfl; have hcz17_1 : w15.cell? ⟨gb145, 1, none⟩ = some (.slice none 0 0) := (blk_cell BK145.out 1).trans rfl; have hfz17_0 := blk_frozen BK145.out 0; have hfz17_1 := blk_frozen BK145.out 1))
         (try simp only [Act.put, List.setIfInBounds_toArray, List.set_cons_zero, List.set_cons_succ])
         go_cut [61] (fun v61 wc => ∃ (kq : Nat) (x61_12 : Bool), v61 = .bool x61_12 ∧ Aside0 (spec_ValidStore.j2 kq (l0_0.length : Int) x4_2 x61_12 l0_0 ((rd_T40 l0_0 x4_2).f0) ((rd_T40 l0_0 x4_2).f1) = some r) ∧ Aside0 (kq ≤ k2) ∧ Aside0 (wc.heap[gb142]? = some (.cells #[(.slice (some ad144) l0_0.length c0_0)] 28 (0, 0))) ∧ Aside0 (wc.heap[gb145]? = some (.cells #[.string ((rd_T40 l0_0 x4_2).f0), (.slice A144_1 ((rd_T40 l0_0 x4_2).f1).length c144_1)] 40 (0, 0))) ∧ Aside0 (Below w.heap.size w wc))
         case first =>
          have H := HC13.out
          clear HC13
          by_cases c18 : (((rd_T40 l0_0 x4_2).f0).size : Int) > 64
          ·rw [if_pos c18] at H
           have c18b0 : decide (64 < (((rd_T40 l0_0 x4_2).f0).size : Int)) = true := decide_eq_true c18
           have c18b1 : decide (64 < ((rd_T40 l0_0 x4_2).f0).size) = true := decide_eq_true (by omega)
           clear c18
           (first | rw [c18b0] | (simp only [i64_w, i32_w]; rw [c18b0]) | skip)
           have H' := Aside0.mk H
           clear H
           try go_wp2
           have n0_ : Aside0 (((w15.setCell ⟨gb145, 0, none⟩ (.string ((rd_T40 l0_0 x4_2).f0))).setCell ⟨gb145, 1, none⟩ (.slice A144_1 ((rd_T40 l0_0 x4_2).f1).length c144_1)).heap[gb142]? = some (.cells #[.slice (some ad144) l0_0.length c0_0] 28 (0, 0))) := ⟨by (with_reducible repeat (first | refine blk_drewN ?_ _ | refine blk_drew ?_ | refine blk_alloc ?_ _)); refine blk_far ?_ NB142_145.out _; (with_reducible repeat (first | refine blk_drewN ?_ _ | refine blk_drew ?_ | refine blk_alloc ?_ _)); refine blk_far ?_ NB142_145.out _; (with_reducible repeat (first | refine blk_drewN ?_ _ | refine blk_drew ?_ | refine blk_alloc ?_ _)); exact BK142.out⟩
           have n1_ : Aside0 (((w15.setCell ⟨gb145, 0, none⟩ (.string ((rd_T40 l0_0 x4_2).f0))).setCell ⟨gb145, 1, none⟩ (.slice A144_1 ((rd_T40 l0_0 x4_2).f1).length c144_1)).heap[gb145]? = some (.cells #[.string ((rd_T40 l0_0 x4_2).f0), .slice A144_1 ((rd_T40 l0_0 x4_2).f1).length c144_1] 40 (0, 0))) := ⟨by (with_reducible repeat (first | refine blk_drewN ?_ _ | refine blk_drew ?_ | refine blk_alloc ?_ _)); refine blk_put (cs := #[.string ((rd_T40 l0_0 x4_2).f0), .slice none 0 0]) ?_ 1 _ rfl; (with_reducible repeat (first | refine blk_drewN ?_ _ | refine blk_drew ?_ | refine blk_alloc ?_ _)); refine blk_put (cs := #[.string (⟨#[]⟩ : ByteArray), .slice none 0 0]) ?_ 0 _ rfl; (with_reducible repeat (first | refine blk_drewN ?_ _ | refine blk_drew ?_ | refine blk_alloc ?_ _)); exact BK145.out⟩
           have n2_ : Aside0 (Below w.heap.size w ((w15.setCell ⟨gb145, 0, none⟩ (.string ((rd_T40 l0_0 x4_2).f0))).setCell ⟨gb145, 1, none⟩ (.slice A144_1 ((rd_T40 l0_0 x4_2).f1).length c144_1))) := ⟨bw⟩
           (try clear BK142)
           (try clear BK145)
           (try clear HB)
           generalize ((w15.setCell ⟨gb145, 0, none⟩ (.string ((rd_T40 l0_0 x4_2).f0))).setCell ⟨gb145, 1, none⟩ (.slice A144_1 ((rd_T40 l0_0 x4_2).f1).length c144_1)) = w19 at n0_ n1_ n2_ ⊢
           have BK142 := n0_
           have BK145 := n1_
           have HB := n2_
           clear n0_ n1_ n2_
           have n0_ := Aside0.mk (blk_drew BK142.out)
           have n1_ := Aside0.mk (blk_drew BK145.out)
           have n2_ := Aside0.mk (below_drew1 HB.out)
           clear BK142
           clear BK145
           clear HB
           have BK142 := n0_
           have BK145 := n1_
           have HB := n2_
           clear n0_ n1_ n2_
           refine start_ (n := 26) (S := fun w' => w'.cell? ⟨gb145, 0, none⟩ = some (.string ((rd_T40 l0_0 x4_2).f0)) ∧ w'.cell? ⟨gb145, 1, none⟩ = some (.slice A144_1 ((rd_T40 l0_0 x4_2).f1).length c144_1)) (ds := []) #[false, false, false, false, false, false, false, false, false, false, false, false, false, false, false, false, false, false, false, false, false, false, false, false, false, false] (by kernel_rfl) rfl rfl ⟨(blk_cell BK145.out 0).trans rfl, (blk_cell BK145.out 1).trans rfl⟩ (fun hHeld => ?_); refine with_tabW spec_ValidStore.tab8 spec_ValidStore.bits8 (fun HT_ HW_ => ?_)
           generalize w19.drew = w20 at BK142 BK145 HB hHeld ⊢
           refine pure_ (i := 0) (N := some 36) (v := ?_) (a' := ?_) #[true, false, false, false, false, false, false, false, false, false, false, false, false, false, false, false, false, false, false, false, false, false, false, false, false, false] rfl rfl (any_of HT_.out (by kernel_rfl)) (fun _ _ _ h => h) (Or.inl ⟨by rfl, ?_⟩) ?_ ?_
           rotate_left
           ·intro w'
            go_simp
            with_reducible rfl
           rotate_left
           ·simp only [Act.put, List.setIfInBounds_toArray, List.set_cons_zero, List.set_cons_succ, i64_w, i32_w]
            rfl
           refine take_ (i := 1) (N := some 37) (v := ?_) (a' := ?_) #[true, true, false, false, false, false, false, false, false, false, false, false, false, false, false, false, false, false, false, false, false, false, false, false, false, false] rfl rfl (take_ofW HT_.out HW_.out (by kernel_rfl)) (fun _ _ _ h => h) (Or.inl ⟨by rfl, ?_⟩) hHeld ?_ ?_
           rotate_left
           ·rintro w' ⟨s0, s1⟩
            go_simp
            with_reducible rfl
           rotate_left
           ·simp only [Act.put, List.setIfInBounds_toArray, List.set_cons_zero, List.set_cons_succ, i64_w, i32_w]
            rfl
           refine pure_ (i := 2) (N := some 38) (v := ?_) (a' := ?_) #[true, true, true, false, false, false, false, false, false, false, false, false, false, false, false, false, false, false, false, false, false, false, false, false, false, false] rfl rfl (any_of HT_.out (by kernel_rfl)) (fun _ _ _ h => h) (Or.inl ⟨by rfl, ?_⟩) ?_ ?_
           rotate_left
           ·intro w'
            go_simp
            with_reducible rfl
           rotate_left
           ·simp only [Act.put, List.setIfInBounds_toArray, List.set_cons_zero, List.set_cons_succ, i64_w, i32_w]
            rfl
           refine pure_ (i := 3) (N := some 39) (v := ?_) (a' := ?_) #[true, true, true, true, false, false, false, false, false, false, false, false, false, false, false, false, false, false, false, false, false, false, false, false, false, false] rfl rfl (any_of HT_.out (by kernel_rfl)) (fun _ _ _ h => h) (Or.inl ⟨by rfl, ?_⟩) ?_ ?_
           rotate_left
           ·intro w'
            go_simp
            with_reducible rfl
           rotate_left
           ·simp only [Act.put, List.setIfInBounds_toArray, List.set_cons_zero, List.set_cons_succ, i64_w, i32_w]
            rfl
           refine pure_ (i := 4) (N := some 40) (v := ?_) (a' := ?_) #[true, true, true, true, true, false, false, false, false, false, false, false, false, false, false, false, false, false, false, false, false, false, false, false, false, false] rfl rfl (any_of HT_.out (by kernel_rfl)) (fun _ _ _ h => h) (Or.inl ⟨by rfl, ?_⟩) ?_ ?_
           rotate_left
           ·intro w'
            go_simp
            with_reducible rfl
           rotate_left
           ·simp only [Act.put, List.setIfInBounds_toArray, List.set_cons_zero, List.set_cons_succ, i64_w, i32_w]
            rfl
           refine pure_ (i := 5) (N := some 41) (v := undef) (a' := ?_) #[true, true, true, true, true, true, false, false, false, false, false, false, false, false, false, false, false, false, false, false, false, false, false, false, false, false] rfl rfl (any_of HT_.out (by kernel_rfl)) (fun _ _ _ h => h) (Or.inr ⟨by rfl, rfl⟩) ?_ ?_
           rotate_left
           ·simp only [Act.put, List.setIfInBounds_toArray, List.set_cons_zero, List.set_cons_succ, i64_w, i32_w]
            rfl
           refine pure_ (i := 6) (N := some 42) (v := undef) (a' := ?_) #[true, true, true, true, true, true, true, false, false, false, false, false, false, false, false, false, false, false, false, false, false, false, false, false, false, false] rfl rfl (any_of HT_.out (by kernel_rfl)) (fun _ _ _ h => h) (Or.inr ⟨by rfl, rfl⟩) ?_ ?_
           rotate_left
           ·simp only [Act.put, List.setIfInBounds_toArray, List.set_cons_zero, List.set_cons_succ, i64_w, i32_w]
            rfl
           refine pure_ (i := 7) (N := some 43) (v := undef) (a' := ?_) #[true, true, true, true, true, true, true, true, false, false, false, false, false, false, false, false, false, false, false, false, false, false, false, false, false, false] rfl rfl (any_of HT_.out (by kernel_rfl)) (fun _ _ _ h => h) (Or.inr ⟨by rfl, rfl⟩) ?_ ?_
           rotate_left
           ·simp only [Act.put, List.setIfInBounds_toArray, List.set_cons_zero, List.set_cons_succ, i64_w, i32_w]
            rfl
           refine pure_ (i := 8) (N := some 44) (v := undef) (a' := ?_) #[true, true, true, true, true, true, true, true, true, false, false, false, false, false, false, false, false, false, false, false, false, false, false, false, false, false] rfl rfl (any_of HT_.out (by kernel_rfl)) (fun _ _ _ h => h) (Or.inr ⟨by rfl, rfl⟩) ?_ ?_
           rotate_left
           ·simp only [Act.put, List.setIfInBounds_toArray, List.set_cons_zero, List.set_cons_succ, i64_w, i32_w]
            rfl
           refine pure_ (i := 9) (N := some 45) (v := undef) (a' := ?_) #[true, true, true, true, true, true, true, true, true, true, false, false, false, false, false, false, false, false, false, false, false, false, false, false, false, false] rfl rfl (any_of HT_.out (by kernel_rfl)) (fun _ _ _ h => h) (Or.inr ⟨by rfl, rfl⟩) ?_ ?_
           rotate_left
           ·simp only [Act.put, List.setIfInBounds_toArray, List.set_cons_zero, List.set_cons_succ, i64_w, i32_w]
            rfl
           refine pure_ (i := 10) (N := some 46) (v := undef) (a' := ?_) #[true, true, true, true, true, true, true, true, true, true, true, false, false, false, false, false, false, false, false, false, false, false, false, false, false, false] rfl rfl (any_of HT_.out (by kernel_rfl)) (fun _ _ _ h => h) (Or.inr ⟨by rfl, rfl⟩) ?_ ?_
           rotate_left
           ·simp only [Act.put, List.setIfInBounds_toArray, List.set_cons_zero, List.set_cons_succ, i64_w, i32_w]
            rfl
           refine pure_ (i := 11) (N := some 47) (v := undef) (a' := ?_) #[true, true, true, true, true, true, true, true, true, true, true, true, false, false, false, false, false, false, false, false, false, false, false, false, false, false] rfl rfl (any_of HT_.out (by kernel_rfl)) (fun _ _ _ h => h) (Or.inr ⟨by rfl, rfl⟩) ?_ ?_
           rotate_left
           ·simp only [Act.put, List.setIfInBounds_toArray, List.set_cons_zero, List.set_cons_succ, i64_w, i32_w]
            rfl
           refine pure_ (i := 12) (N := some 48) (v := undef) (a' := ?_) #[true, true, true, true, true, true, true, true, true, true, true, true, true, false, false, false, false, false, false, false, false, false, false, false, false, false] rfl rfl (any_of HT_.out (by kernel_rfl)) (fun _ _ _ h => h) (Or.inr ⟨by rfl, rfl⟩) ?_ ?_
           rotate_left
           ·simp only [Act.put, List.setIfInBounds_toArray, List.set_cons_zero, List.set_cons_succ, i64_w, i32_w]
            rfl
           refine pure_ (i := 13) (N := some 49) (v := undef) (a' := ?_) #[true, true, true, true, true, true, true, true, true, true, true, true, true, true, false, false, false, false, false, false, false, false, false, false, false, false] rfl rfl (any_of HT_.out (by kernel_rfl)) (fun _ _ _ h => h) (Or.inr ⟨by rfl, rfl⟩) ?_ ?_
           rotate_left
           ·simp only [Act.put, List.setIfInBounds_toArray, List.set_cons_zero, List.set_cons_succ, i64_w, i32_w]
            rfl
           refine pure_ (i := 14) (N := some 50) (v := undef) (a' := ?_) #[true, true, true, true, true, true, true, true, true, true, true, true, true, true, true, false, false, false, false, false, false, false, false, false, false, false] rfl rfl (any_of HT_.out (by kernel_rfl)) (fun _ _ _ h => h) (Or.inr ⟨by rfl, rfl⟩) ?_ ?_
           rotate_left
           ·simp only [Act.put, List.setIfInBounds_toArray, List.set_cons_zero, List.set_cons_succ, i64_w, i32_w]
            rfl
           refine pure_ (i := 15) (N := some 51) (v := undef) (a' := ?_) #[true, true, true, true, true, true, true, true, true, true, true, true, true, true, true, true, false, false, false, false, false, false, false, false, false, false] rfl rfl (any_of HT_.out (by kernel_rfl)) (fun _ _ _ h => h) (Or.inr ⟨by rfl, rfl⟩) ?_ ?_
           rotate_left
           ·simp only [Act.put, List.setIfInBounds_toArray, List.set_cons_zero, List.set_cons_succ, i64_w, i32_w]
            rfl
           refine pure_ (i := 16) (N := some 52) (v := undef) (a' := ?_) #[true, true, true, true, true, true, true, true, true, true, true, true, true, true, true, true, true, false, false, false, false, false, false, false, false, false] rfl rfl (any_of HT_.out (by kernel_rfl)) (fun _ _ _ h => h) (Or.inr ⟨by rfl, rfl⟩) ?_ ?_
           rotate_left
           ·simp only [Act.put, List.setIfInBounds_toArray, List.set_cons_zero, List.set_cons_succ, i64_w, i32_w]
            rfl
           refine pure_ (i := 17) (N := some 53) (v := undef) (a' := ?_) #[true, true, true, true, true, true, true, true, true, true, true, true, true, true, true, true, true, true, false, false, false, false, false, false, false, false] rfl rfl (any_of HT_.out (by kernel_rfl)) (fun _ _ _ h => h) (Or.inr ⟨by rfl, rfl⟩) ?_ ?_
           rotate_left
           ·simp only [Act.put, List.setIfInBounds_toArray, List.set_cons_zero, List.set_cons_succ, i64_w, i32_w]
            rfl
           refine pure_ (i := 18) (N := some 54) (v := undef) (a' := ?_) #[true, true, true, true, true, true, true, true, true, true, true, true, true, true, true, true, true, true, true, false, false, false, false, false, false, false] rfl rfl (any_of HT_.out (by kernel_rfl)) (fun _ _ _ h => h) (Or.inr ⟨by rfl, rfl⟩) ?_ ?_
           rotate_left
           ·simp only [Act.put, List.setIfInBounds_toArray, List.set_cons_zero, List.set_cons_succ, i64_w, i32_w]
            rfl
           refine pure_ (i := 19) (N := some 55) (v := ?_) (a' := ?_) #[true, true, true, true, true, true, true, true, true, true, true, true, true, true, true, true, true, true, true, true, false, false, false, false, false, false] rfl rfl (any_of HT_.out (by kernel_rfl)) (fun _ _ _ h => h) (Or.inl ⟨by rfl, ?_⟩) ?_ ?_
           rotate_left
           ·intro w'
            go_simp
            with_reducible rfl
           rotate_left
           ·simp only [Act.put, List.setIfInBounds_toArray, List.set_cons_zero, List.set_cons_succ, i64_w, i32_w]
            rfl
           refine pure_ (i := 20) (N := some 56) (v := ?_) (a' := ?_) #[true, true, true, true, true, true, true, true, true, true, true, true, true, true, true, true, true, true, true, true, true, false, false, false, false, false] rfl rfl (any_of HT_.out (by kernel_rfl)) (fun _ _ _ h => h) (Or.inl ⟨by rfl, ?_⟩) ?_ ?_
           rotate_left
           ·intro w'
            go_simp
            with_reducible rfl
           rotate_left
           ·simp only [Act.put, List.setIfInBounds_toArray, List.set_cons_zero, List.set_cons_succ, i64_w, i32_w]
            rfl
           refine pure_ (i := 21) (N := some 57) (v := undef) (a' := ?_) #[true, true, true, true, true, true, true, true, true, true, true, true, true, true, true, true, true, true, true, true, true, true, false, false, false, false] rfl rfl (any_of HT_.out (by kernel_rfl)) (fun _ _ _ h => h) (Or.inr ⟨by rfl, rfl⟩) ?_ ?_
           rotate_left
           ·simp only [Act.put, List.setIfInBounds_toArray, List.set_cons_zero, List.set_cons_succ, i64_w, i32_w]
            rfl
           refine pure_ (i := 22) (N := some 58) (v := undef) (a' := ?_) #[true, true, true, true, true, true, true, true, true, true, true, true, true, true, true, true, true, true, true, true, true, true, true, false, false, false] rfl rfl (any_of HT_.out (by kernel_rfl)) (fun _ _ _ h => h) (Or.inr ⟨by rfl, rfl⟩) ?_ ?_
           rotate_left
           ·simp only [Act.put, List.setIfInBounds_toArray, List.set_cons_zero, List.set_cons_succ, i64_w, i32_w]
            rfl
           refine pure_ (i := 23) (N := some 59) (v := undef) (a' := ?_) #[true, true, true, true, true, true, true, true, true, true, true, true, true, true, true, true, true, true, true, true, true, true, true, true, false, false] rfl rfl (any_of HT_.out (by kernel_rfl)) (fun _ _ _ h => h) (Or.inr ⟨by rfl, rfl⟩) ?_ ?_
           rotate_left
           ·simp only [Act.put, List.setIfInBounds_toArray, List.set_cons_zero, List.set_cons_succ, i64_w, i32_w]
            rfl
           refine pure_ (i := 24) (N := some 60) (v := undef) (a' := ?_) #[true, true, true, true, true, true, true, true, true, true, true, true, true, true, true, true, true, true, true, true, true, true, true, true, true, false] rfl rfl (any_of HT_.out (by kernel_rfl)) (fun _ _ _ h => h) (Or.inr ⟨by rfl, rfl⟩) ?_ ?_
           rotate_left
           ·simp only [Act.put, List.setIfInBounds_toArray, List.set_cons_zero, List.set_cons_succ, i64_w, i32_w]
            rfl
           refine pure_ (i := 25) (N := some 61) (v := ?_) (a' := ?_) #[true, true, true, true, true, true, true, true, true, true, true, true, true, true, true, true, true, true, true, true, true, true, true, true, true, true] rfl rfl (any_of HT_.out (by kernel_rfl)) (fun _ _ _ h => h) (Or.inl ⟨by rfl, ?_⟩) ?_ ?_
           rotate_left
           ·intro w'
            go_simp
            with_reducible rfl
           rotate_left
           ·simp only [Act.put, List.setIfInBounds_toArray, List.set_cons_zero, List.set_cons_succ, i64_w, i32_w]
            rfl
           refine done_ (done_of HT_.out (by kernel_rfl)) ?_
           try go_wp2
           go_meet
           case rel => exact ⟨_, (true), (by first | rfl | (simp; done) | (simp [*]; done) | (simp [isE]; done)), H', ⟨by have := HJ1.out; have := HK2.out; first | omega | exact Nat.le_refl _⟩, ⟨lb BK142⟩, ⟨lb BK145⟩, ⟨bw⟩⟩
          ·rw [if_neg c18] at H
           have c18b0 : decide (64 < (((rd_T40 l0_0 x4_2).f0).size : Int)) = false := decide_eq_false c18
           have c18b1 : decide (64 < ((rd_T40 l0_0 x4_2).f0).size) = false := decide_eq_false (by omega)
           clear c18
           (first | rw [c18b0] | (simp only [i64_w, i32_w]; rw [c18b0]) | skip)
           by_cases c21 : x4_2 > 0
           ·rw [if_pos c21] at H
            have c21b0 : decide (0 < x4_2) = true := decide_eq_true c21
            clear c21
            obtain ⟨ji22, hji22⟩ : ∃ j_ : Int, (wrap64 (x4_2 - 1)) = j_ := ⟨_, rfl⟩
            replace H : (if 0 ≤ (ji22) then (if (ji22) < (l0_0.length : Int) then (if ((Op.bytesLess (((rd_T40 l0_0 (ji22)).f0).toList) (((rd_T40 l0_0 x4_2).f0).toList)) = true) then ((spec_l3GoodRuns.f k2 ((rd_T40 l0_0 x4_2).f1)).bind fun t147 => (spec_ValidStore.j2 k2 (l0_0.length : Int) x4_2 (!t147) l0_0 ((rd_T40 l0_0 x4_2).f0) ((rd_T40 l0_0 x4_2).f1))) else (spec_ValidStore.j2 k2 (l0_0.length : Int) x4_2 true l0_0 ((rd_T40 l0_0 x4_2).f0) ((rd_T40 l0_0 x4_2).f1))) else (none)) else (none)) = some r := by first | (rw [hji22] at H; exact H) | (simp only [hji22] at H ⊢; exact H)
            have hji22w : (IntKind.i64.wrap (x4_2 - 1)) = ji22 := (i64_w _).trans hji22
            by_cases c23 : 0 ≤ (ji22)
            ·rw [if_pos c23] at H
             have c23b0 : decide (0 ≤ (ji22)) = true := decide_eq_true c23
             clear c23
             by_cases c24 : (ji22) < (l0_0.length : Int)
             ·rw [if_pos c24] at H
              have c24b0 : decide ((ji22) < (l0_0.length : Int)) = true := decide_eq_true c24
              clear c24
              by_cases c25 : ((Op.bytesLess (((rd_T40 l0_0 (ji22)).f0).toList) (((rd_T40 l0_0 x4_2).f0).toList)) = true)
              ·rw [if_pos c25] at H
               have c25b0 : (Op.bytesLess (((rd_T40 l0_0 (ji22)).f0).toList) (((rd_T40 l0_0 x4_2).f0).toList)) = true := c25
               clear c25
               replace H := Option.bind_eq_some_iff.mp H
               obtain ⟨t147, A260, H⟩ := H
               replace H : (spec_ValidStore.j2 k2 (l0_0.length : Int) x4_2 (!t147) l0_0 ((rd_T40 l0_0 x4_2).f0) ((rd_T40 l0_0 x4_2).f1)) = some r := H
               have A26 := Aside0.mk A260
               clear A260
               have H' := Aside0.mk H
               clear H
               try go_wp2
               have n0_ : Aside0 (((w15.setCell ⟨gb145, 0, none⟩ (.string ((rd_T40 l0_0 x4_2).f0))).setCell ⟨gb145, 1, none⟩ (.slice A144_1 ((rd_T40 l0_0 x4_2).f1).length c144_1)).heap[gb142]? = some (.cells #[.slice (some ad144) l0_0.length c0_0] 28 (0, 0))) := ⟨by (with_reducible repeat (first | refine blk_drewN ?_ _ | refine blk_drew ?_ | refine blk_alloc ?_ _)); refine blk_far ?_ NB142_145.out _; (with_reducible repeat (first | refine blk_drewN ?_ _ | refine blk_drew ?_ | refine blk_alloc ?_ _)); refine blk_far ?_ NB142_145.out _; (with_reducible repeat (first | refine blk_drewN ?_ _ | refine blk_drew ?_ | refine blk_alloc ?_ _)); exact BK142.out⟩
               have n1_ : Aside0 (((w15.setCell ⟨gb145, 0, none⟩ (.string ((rd_T40 l0_0 x4_2).f0))).setCell ⟨gb145, 1, none⟩ (.slice A144_1 ((rd_T40 l0_0 x4_2).f1).length c144_1)).heap[gb145]? = some (.cells #[.string ((rd_T40 l0_0 x4_2).f0), .slice A144_1 ((rd_T40 l0_0 x4_2).f1).length c144_1] 40 (0, 0))) := ⟨by (with_reducible repeat (first | refine blk_drewN ?_ _ | refine blk_drew ?_ | refine blk_alloc ?_ _)); refine blk_put (cs := #[.string ((rd_T40 l0_0 x4_2).f0), .slice none 0 0]) ?_ 1 _ rfl; (with_reducible repeat (first | refine blk_drewN ?_ _ | refine blk_drew ?_ | refine blk_alloc ?_ _)); refine blk_put (cs := #[.string (⟨#[]⟩ : ByteArray), .slice none 0 0]) ?_ 0 _ rfl; (with_reducible repeat (first | refine blk_drewN ?_ _ | refine blk_drew ?_ | refine blk_alloc ?_ _)); exact BK145.out⟩
               have n2_ : Aside0 (Below w.heap.size w ((w15.setCell ⟨gb145, 0, none⟩ (.string ((rd_T40 l0_0 x4_2).f0))).setCell ⟨gb145, 1, none⟩ (.slice A144_1 ((rd_T40 l0_0 x4_2).f1).length c144_1))) := ⟨bw⟩
               (try clear BK142)
               (try clear BK145)
               (try clear HB)
               generalize ((w15.setCell ⟨gb145, 0, none⟩ (.string ((rd_T40 l0_0 x4_2).f0))).setCell ⟨gb145, 1, none⟩ (.slice A144_1 ((rd_T40 l0_0 x4_2).f1).length c144_1)) = w27 at n0_ n1_ n2_ ⊢
               have BK142 := n0_
               have BK145 := n1_
               have HB := n2_
               clear n0_ n1_ n2_
               have n0_ := Aside0.mk (blk_drew BK142.out)
               have n1_ := Aside0.mk (blk_drew BK145.out)
               have n2_ := Aside0.mk (below_drew1 HB.out)
               clear BK142
               clear BK145
               clear HB
               have BK142 := n0_
               have BK145 := n1_
               have HB := n2_
               clear n0_ n1_ n2_
               have p146 : 0 ≤ ((ji22) : Int) := of_decide_eq_true (by first | (with_reducible assumption) | assumption)
               have q146 : (ji22) < (l0_0.length : Int) := of_decide_eq_true (by first | (with_reducible assumption) | assumption)
               obtain ⟨ad146, A146_1, c146_1, e146, hx146_0, hx146_1, hl146_1, hi146_1⟩ := at_T40 HR0_0.out (ji22) p146 q146
               have hw146_1 := hx146_1
               have hw146_0 := hx146_0
               obtain rfl : ad144 = ad146 := (by injection e146)
               replace hx146_0 := (HB.out.cell (World.block_lt_of_cell? w _ hx146_0)).trans hx146_0
               replace hx146_1 := (HB.out.cell (World.block_lt_of_cell? w _ hx146_1)).trans hx146_1
               have HR146_1 := Aside0.mk hi146_1
               have HC146_1 := Aside0.mk hl146_1
               clear hi146_1 hl146_1
               replace p146 := eq_true p146
               replace q146 := eq_true q146
               refine start_ (n := 26) (S := fun w' => w'.cell? ⟨gb145, 0, none⟩ = some (.string ((rd_T40 l0_0 x4_2).f0)) ∧ w'.cell? ⟨gb145, 1, none⟩ = some (.slice A144_1 ((rd_T40 l0_0 x4_2).f1).length c144_1) ∧ w'.cell? ⟨gb142, 0, none⟩ = some (.slice (some ad144) l0_0.length c0_0) ∧ w'.cell? (ad144.add (((ji22)).toNat * 2)) = some (.string ((rd_T40 l0_0 (ji22)).f0)) ∧ w'.cell? ⟨(ad144.add (((ji22)).toNat * 2)).block, (ad144.add (((ji22)).toNat * 2)).off + 1, none⟩ = some (.slice A146_1 ((rd_T40 l0_0 (ji22)).f1).length c146_1)) (ds := []) #[false, false, false, false, false, false, false, false, false, false, false, false, false, false, false, false, false, false, false, false, false, false, false, false, false, false] (by kernel_rfl) rfl rfl ⟨(blk_cell BK145.out 0).trans rfl, (blk_cell BK145.out 1).trans rfl, (blk_cell BK142.out 0).trans rfl, ((HB.out.cell (World.block_lt_of_cell? w _ hw146_0)).trans hw146_0), ((HB.out.cell (World.block_lt_of_cell? w _ hw146_1)).trans hw146_1)⟩ (fun hHeld => ?_); refine with_tabW spec_ValidStore.tab8 spec_ValidStore.bits8 (fun HT_ HW_ => ?_)
               generalize w27.drew = w28 at BK142 BK145 HB HR146_1 hx146_0 hx146_1 hHeld ⊢
               refine pure_ (i := 0) (N := some 36) (v := ?_) (a' := ?_) #[true, false, false, false, false, false, false, false, false, false, false, false, false, false, false, false, false, false, false, false, false, false, false, false, false, false] rfl rfl (any_of HT_.out (by kernel_rfl)) (fun _ _ _ h => h) (Or.inl ⟨by rfl, ?_⟩) ?_ ?_
               rotate_left
               ·intro w'
                go_simp
                with_reducible rfl
               rotate_left
               ·simp only [Act.put, List.setIfInBounds_toArray, List.set_cons_zero, List.set_cons_succ, i64_w, i32_w]
                rfl
               refine take_ (i := 1) (N := some 37) (v := ?_) (a' := ?_) #[true, true, false, false, false, false, false, false, false, false, false, false, false, false, false, false, false, false, false, false, false, false, false, false, false, false] rfl rfl (take_ofW HT_.out HW_.out (by kernel_rfl)) (fun _ _ _ h => h) (Or.inl ⟨by rfl, ?_⟩) hHeld ?_ ?_
               rotate_left
               ·rintro w' ⟨s0, s1, s2, s3, s4⟩
                go_simp
                with_reducible rfl
               rotate_left
               ·simp only [Act.put, List.setIfInBounds_toArray, List.set_cons_zero, List.set_cons_succ, i64_w, i32_w]
                rfl
               refine pure_ (i := 2) (N := some 38) (v := ?_) (a' := ?_) #[true, true, true, false, false, false, false, false, false, false, false, false, false, false, false, false, false, false, false, false, false, false, false, false, false, false] rfl rfl (any_of HT_.out (by kernel_rfl)) (fun _ _ _ h => h) (Or.inl ⟨by rfl, ?_⟩) ?_ ?_
               rotate_left
               ·intro w'
                go_simp
                with_reducible rfl
               rotate_left
               ·simp only [Act.put, List.setIfInBounds_toArray, List.set_cons_zero, List.set_cons_succ, i64_w, i32_w]
                rfl
               refine pure_ (i := 3) (N := some 39) (v := ?_) (a' := ?_) #[true, true, true, true, false, false, false, false, false, false, false, false, false, false, false, false, false, false, false, false, false, false, false, false, false, false] rfl rfl (any_of HT_.out (by kernel_rfl)) (fun _ _ _ h => h) (Or.inl ⟨by rfl, ?_⟩) ?_ ?_
               rotate_left
               ·intro w'
                go_simp
                with_reducible rfl
               rotate_left
               ·simp only [Act.put, List.setIfInBounds_toArray, List.set_cons_zero, List.set_cons_succ, i64_w, i32_w]
                rfl
               refine pure_ (i := 4) (N := some 40) (v := ?_) (a' := ?_) #[true, true, true, true, true, false, false, false, false, false, false, false, false, false, false, false, false, false, false, false, false, false, false, false, false, false] rfl rfl (any_of HT_.out (by kernel_rfl)) (fun _ _ _ h => h) (Or.inl ⟨by rfl, ?_⟩) ?_ ?_
               rotate_left
               ·intro w'
                go_simp
                with_reducible rfl
               rotate_left
               ·simp only [Act.put, List.setIfInBounds_toArray, List.set_cons_zero, List.set_cons_succ, i64_w, i32_w]
                rfl
               refine pure_ (i := 5) (N := some 41) (v := ?_) (a' := ?_) #[true, true, true, true, true, true, false, false, false, false, false, false, false, false, false, false, false, false, false, false, false, false, false, false, false, false] rfl rfl (any_of HT_.out (by kernel_rfl)) (fun _ _ _ h => h) (Or.inl ⟨by rfl, ?_⟩) ?_ ?_
               rotate_left
               ·intro w'
                go_simp
                with_reducible rfl
               rotate_left
               ·simp only [Act.put, List.setIfInBounds_toArray, List.set_cons_zero, List.set_cons_succ, i64_w, i32_w]
                rfl
               refine pure_ (i := 6) (N := some 42) (v := ?_) (a' := ?_) #[true, true, true, true, true, true, true, false, false, false, false, false, false, false, false, false, false, false, false, false, false, false, false, false, false, false] rfl rfl (any_of HT_.out (by kernel_rfl)) (fun _ _ _ h => h) (Or.inl ⟨by rfl, ?_⟩) ?_ ?_
               rotate_left
               ·intro w'
                go_simp
                with_reducible rfl
               rotate_left
               ·simp only [Act.put, List.setIfInBounds_toArray, List.set_cons_zero, List.set_cons_succ, i64_w, i32_w]
                rfl
               refine pure_ (i := 7) (N := some 43) (v := ?_) (a' := ?_) #[true, true, true, true, true, true, true, true, false, false, false, false, false, false, false, false, false, false, false, false, false, false, false, false, false, false] rfl rfl (any_of HT_.out (by kernel_rfl)) (fun _ _ _ h => h) (Or.inl ⟨by rfl, ?_⟩) ?_ ?_
               rotate_left
               ·intro w'
                go_simp
                with_reducible rfl
               rotate_left
               ·simp only [Act.put, List.setIfInBounds_toArray, List.set_cons_zero, List.set_cons_succ, i64_w, i32_w]
                rfl
               refine pure_ (i := 8) (N := some 44) (v := ?_) (a' := ?_) #[true, true, true, true, true, true, true, true, true, false, false, false, false, false, false, false, false, false, false, false, false, false, false, false, false, false] rfl rfl (any_of HT_.out (by kernel_rfl)) (fun _ _ _ h => h) (Or.inl ⟨by rfl, ?_⟩) ?_ ?_
               rotate_left
               ·intro w'
                go_simp
                with_reducible rfl
               rotate_left
               ·simp only [Act.put, List.setIfInBounds_toArray, List.set_cons_zero, List.set_cons_succ, i64_w, i32_w]
                rfl
               refine pure_ (i := 10) (N := some 46) (v := ?_) (a' := ?_) #[true, true, true, true, true, true, true, true, true, false, true, false, false, false, false, false, false, false, false, false, false, false, false, false, false, false] rfl rfl (any_of HT_.out (by kernel_rfl)) (fun _ _ _ h => h) (Or.inl ⟨by rfl, ?_⟩) ?_ ?_
               rotate_left
               ·intro w'
                go_simp
                with_reducible rfl
               rotate_left
               ·simp only [Act.put, List.setIfInBounds_toArray, List.set_cons_zero, List.set_cons_succ, i64_w, i32_w]
                rfl
               refine pure_ (i := 11) (N := some 47) (v := ?_) (a' := ?_) #[true, true, true, true, true, true, true, true, true, false, true, true, false, false, false, false, false, false, false, false, false, false, false, false, false, false] rfl rfl (any_of HT_.out (by kernel_rfl)) (fun _ _ _ h => h) (Or.inl ⟨by rfl, ?_⟩) ?_ ?_
               rotate_left
               ·intro w'
                go_simp
                with_reducible rfl
               rotate_left
               ·simp only [Act.put, List.setIfInBounds_toArray, List.set_cons_zero, List.set_cons_succ, i64_w, i32_w]
                rfl
               refine pure_ (i := 15) (N := some 51) (v := ?_) (a' := ?_) #[true, true, true, true, true, true, true, true, true, false, true, true, false, false, false, true, false, false, false, false, false, false, false, false, false, false] rfl rfl (any_of HT_.out (by kernel_rfl)) (fun _ _ _ h => h) (Or.inl ⟨by rfl, ?_⟩) ?_ ?_
               rotate_left
               ·intro w'
                go_simp
                with_reducible rfl
               rotate_left
               ·simp only [Act.put, List.setIfInBounds_toArray, List.set_cons_zero, List.set_cons_succ, i64_w, i32_w]
                rfl
               refine take_ (i := 9) (N := some 45) (v := ?_) (a' := ?_) #[true, true, true, true, true, true, true, true, true, true, true, true, false, false, false, true, false, false, false, false, false, false, false, false, false, false] rfl rfl (take_ofW HT_.out HW_.out (by kernel_rfl)) (fun _ _ _ h => h) (Or.inl ⟨by rfl, ?_⟩) hHeld ?_ ?_
               rotate_left
               ·rintro w' ⟨s0, s1, s2, s3, s4⟩
                go_simp
                with_reducible rfl
               rotate_left
               ·simp only [Act.put, List.setIfInBounds_toArray, List.set_cons_zero, List.set_cons_succ, i64_w, i32_w]
                rfl
               refine pure_ (i := 12) (N := some 48) (v := ?_) (a' := ?_) #[true, true, true, true, true, true, true, true, true, true, true, true, true, false, false, true, false, false, false, false, false, false, false, false, false, false] rfl rfl (any_of HT_.out (by kernel_rfl)) (fun _ _ _ h => h) (Or.inl ⟨by rfl, ?_⟩) ?_ ?_
               rotate_left
               ·intro w'
                go_simp
                with_reducible rfl
               rotate_left
               ·simp only [Act.put, List.setIfInBounds_toArray, List.set_cons_zero, List.set_cons_succ, i64_w, i32_w]
                rfl
               refine pure_ (i := 13) (N := some 49) (v := ?_) (a' := ?_) #[true, true, true, true, true, true, true, true, true, true, true, true, true, true, false, true, false, false, false, false, false, false, false, false, false, false] rfl rfl (any_of HT_.out (by kernel_rfl)) (fun _ _ _ h => h) (Or.inl ⟨by rfl, ?_⟩) ?_ ?_
               rotate_left
               ·intro w'
                go_simp
                with_reducible rfl
               rotate_left
               ·simp only [Act.put, List.setIfInBounds_toArray, List.set_cons_zero, List.set_cons_succ, i64_w, i32_w]
                rfl
               refine take_ (i := 14) (N := some 50) (v := ?_) (a' := ?_) #[true, true, true, true, true, true, true, true, true, true, true, true, true, true, true, true, false, false, false, false, false, false, false, false, false, false] rfl rfl (take_ofW HT_.out HW_.out (by kernel_rfl)) (fun _ _ _ h => h) (Or.inl ⟨by rfl, ?_⟩) hHeld ?_ ?_
               rotate_left
               ·rintro w' ⟨s0, s1, s2, s3, s4⟩
                go_simp
                with_reducible rfl
               rotate_left
               ·simp only [Act.put, List.setIfInBounds_toArray, List.set_cons_zero, List.set_cons_succ, i64_w, i32_w]
                rfl
               refine take_ (i := 16) (N := some 52) (v := ?_) (a' := ?_) #[true, true, true, true, true, true, true, true, true, true, true, true, true, true, true, true, true, false, false, false, false, false, false, false, false, false] rfl rfl (take_ofW HT_.out HW_.out (by kernel_rfl)) (fun _ _ _ h => h) (Or.inl ⟨by rfl, ?_⟩) hHeld ?_ ?_
               rotate_left
               ·rintro w' ⟨s0, s1, s2, s3, s4⟩
                go_simp
                with_reducible rfl
               rotate_left
               ·simp only [Act.put, List.setIfInBounds_toArray, List.set_cons_zero, List.set_cons_succ, i64_w, i32_w]
                rfl
               refine pure_ (i := 17) (N := some 53) (v := ?_) (a' := ?_) #[true, true, true, true, true, true, true, true, true, true, true, true, true, true, true, true, true, true, false, false, false, false, false, false, false, false] rfl rfl (any_of HT_.out (by kernel_rfl)) (fun _ _ _ h => h) (Or.inl ⟨by rfl, ?_⟩) ?_ ?_
               rotate_left
               ·intro w'
                go_simp
                with_reducible rfl
               rotate_left
               ·simp only [Act.put, List.setIfInBounds_toArray, List.set_cons_zero, List.set_cons_succ, i64_w, i32_w]
                rfl
               refine pure_ (i := 18) (N := some 54) (v := ?_) (a' := ?_) #[true, true, true, true, true, true, true, true, true, true, true, true, true, true, true, true, true, true, true, false, false, false, false, false, false, false] rfl rfl (any_of HT_.out (by kernel_rfl)) (fun _ _ _ h => h) (Or.inl ⟨by rfl, ?_⟩) ?_ ?_
               rotate_left
               ·intro w'
                go_simp
                with_reducible rfl
               rotate_left
               ·simp only [Act.put, List.setIfInBounds_toArray, List.set_cons_zero, List.set_cons_succ, i64_w, i32_w]
                rfl
               refine pure_ (i := 19) (N := some 55) (v := ?_) (a' := ?_) #[true, true, true, true, true, true, true, true, true, true, true, true, true, true, true, true, true, true, true, true, false, false, false, false, false, false] rfl rfl (any_of HT_.out (by kernel_rfl)) (fun _ _ _ h => h) (Or.inl ⟨by rfl, ?_⟩) ?_ ?_
               rotate_left
               ·intro w'
                go_simp
                with_reducible rfl
               rotate_left
               ·simp only [Act.put, List.setIfInBounds_toArray, List.set_cons_zero, List.set_cons_succ, i64_w, i32_w]
                rfl
               refine pure_ (i := 20) (N := some 56) (v := ?_) (a' := ?_) #[true, true, true, true, true, true, true, true, true, true, true, true, true, true, true, true, true, true, true, true, true, false, false, false, false, false] rfl rfl (any_of HT_.out (by kernel_rfl)) (fun _ _ _ h => h) (Or.inl ⟨by rfl, ?_⟩) ?_ ?_
               rotate_left
               ·intro w'
                go_simp
                with_reducible rfl
               rotate_left
               ·simp only [Act.put, List.setIfInBounds_toArray, List.set_cons_zero, List.set_cons_succ, i64_w, i32_w]
                rfl
               refine pure_ (i := 21) (N := some 57) (v := ?_) (a' := ?_) #[true, true, true, true, true, true, true, true, true, true, true, true, true, true, true, true, true, true, true, true, true, true, false, false, false, false] rfl rfl (any_of HT_.out (by kernel_rfl)) (fun _ _ _ h => h) (Or.inl ⟨by rfl, ?_⟩) ?_ ?_
               rotate_left
               ·intro w'
                go_simp
                with_reducible rfl
               rotate_left
               ·simp only [Act.put, List.setIfInBounds_toArray, List.set_cons_zero, List.set_cons_succ, i64_w, i32_w]
                rfl
               refine take_ (i := 22) (N := some 58) (v := ?_) (a' := ?_) #[true, true, true, true, true, true, true, true, true, true, true, true, true, true, true, true, true, true, true, true, true, true, true, false, false, false] rfl rfl (take_ofW HT_.out HW_.out (by kernel_rfl)) (fun _ _ _ h => h) (Or.inl ⟨by rfl, ?_⟩) hHeld ?_ ?_
               rotate_left
               ·rintro w' ⟨s0, s1, s2, s3, s4⟩
                go_simp
                with_reducible rfl
               rotate_left
               ·simp only [Act.put, List.setIfInBounds_toArray, List.set_cons_zero, List.set_cons_succ, i64_w, i32_w]
                rfl
               refine one_ (i := 23) (N := some 59) #[true, true, true, true, true, true, true, true, true, true, true, true, true, true, true, true, true, true, true, true, true, true, true, true, false, false] rfl rfl (one_of HT_.out (by kernel_rfl)) (by decide) (fun K hK => ?_)
               refine goes_ Try.func32 (by kernel_rfl) rfl #[.slice A144_1 ((rd_T40 l0_0 x4_2).f1).length c144_1] (by rfl) rfl rfl (by (try simp only [List.map_toArray, List.map_cons, List.map_nil]); first | done | rfl | (simp only [List.length_drop, List.length_take]; rfl)) ?_
               with_reducible refine (spec_l3GoodRuns.calls k2 _ _ ((rd_T40 l0_0 x4_2).f1) t147 _ ?side1 ?side2 A26.out).mono ?_
               (case side1 => repeat (first | exact (Kd.C_below HR144_1.out HB.out) | (with_reducible refine Kd.C_alloc ?_ _) | (with_reducible refine Kd.C_drewN ?_ _) | (with_reducible refine Kd.C_drew ?_)))
               (case side2 => exact HC144_1.out)
               rintro e w29 ⟨rfl, hb⟩
               refine ⟨_, rfl, ?_⟩
               have n0_ := Aside0.mk (blk_below (g := gb142) (o := .cells #[.slice (some ad144) l0_0.length c0_0] 28 (0, 0)) (lb BK142) hb)
               have n1_ := Aside0.mk (blk_below (g := gb145) (o := .cells #[.string ((rd_T40 l0_0 x4_2).f0), .slice A144_1 ((rd_T40 l0_0 x4_2).f1).length c144_1] 40 (0, 0)) (lb BK145) hb)
               have n2_ := Aside0.mk (below_step bw hb)
               clear BK142
               clear BK145
               clear HB
               have BK142 := n0_
               have BK145 := n1_
               have HB := n2_
               clear n0_ n1_ n2_
               (try clear hb)
               (try clear hb2)
               (try clear hk)
               (try clear hi)
               refine hK.out _ _ ⟨(blk_cell BK145.out 0).trans rfl, (blk_cell BK145.out 1).trans rfl, (blk_cell BK142.out 0).trans rfl, ((HB.out.cell (World.block_lt_of_cell? w _ hw146_0)).trans hw146_0), ((HB.out.cell (World.block_lt_of_cell? w _ hw146_1)).trans hw146_1)⟩ (fun hHeld => ?_)
               clear hK K
               refine norm_ (a' := ?_) ?_ ?_
               rotate_left
               ·show Act.put _ (some 59) _ = _
                simp only [Act.put, List.setIfInBounds_toArray, List.set_cons_zero, List.set_cons_succ, i64_w, i32_w]
                rfl
               refine pure_ (i := 24) (N := some 60) (v := ?_) (a' := ?_) #[true, true, true, true, true, true, true, true, true, true, true, true, true, true, true, true, true, true, true, true, true, true, true, true, true, false] rfl rfl (any_of HT_.out (by kernel_rfl)) (fun _ _ _ h => h) (Or.inl ⟨by rfl, ?_⟩) ?_ ?_
               rotate_left
               ·intro w'
                go_simp
                with_reducible rfl
               rotate_left
               ·simp only [Act.put, List.setIfInBounds_toArray, List.set_cons_zero, List.set_cons_succ, i64_w, i32_w]
                rfl
               refine pure_ (i := 25) (N := some 61) (v := ?_) (a' := ?_) #[true, true, true, true, true, true, true, true, true, true, true, true, true, true, true, true, true, true, true, true, true, true, true, true, true, true] rfl rfl (any_of HT_.out (by kernel_rfl)) (fun _ _ _ h => h) (Or.inl ⟨by rfl, ?_⟩) ?_ ?_
               rotate_left
               ·intro w'
                go_simp
                with_reducible rfl
               rotate_left
               ·simp only [Act.put, List.setIfInBounds_toArray, List.set_cons_zero, List.set_cons_succ, i64_w, i32_w]
                rfl
               refine done_ (done_of HT_.out (by kernel_rfl)) ?_
               try go_wp2
               go_meet
               case rel => exact ⟨_, (!t147), (by first | rfl | (simp; done) | (simp [*]; done) | (simp [isE]; done)), H', ⟨by have := HJ1.out; have := HK2.out; first | omega | exact Nat.le_refl _⟩, ⟨lb BK142⟩, ⟨lb BK145⟩, ⟨bw⟩⟩
              ·rw [if_neg c25] at H
               have c25b0 : (Op.bytesLess (((rd_T40 l0_0 (ji22)).f0).toList) (((rd_T40 l0_0 x4_2).f0).toList)) = false := by simpa using c25
               clear c25
               have H' := Aside0.mk H
               clear H
               try go_wp2
               have n0_ : Aside0 (((w15.setCell ⟨gb145, 0, none⟩ (.string ((rd_T40 l0_0 x4_2).f0))).setCell ⟨gb145, 1, none⟩ (.slice A144_1 ((rd_T40 l0_0 x4_2).f1).length c144_1)).heap[gb142]? = some (.cells #[.slice (some ad144) l0_0.length c0_0] 28 (0, 0))) := ⟨by (with_reducible repeat (first | refine blk_drewN ?_ _ | refine blk_drew ?_ | refine blk_alloc ?_ _)); refine blk_far ?_ NB142_145.out _; (with_reducible repeat (first | refine blk_drewN ?_ _ | refine blk_drew ?_ | refine blk_alloc ?_ _)); refine blk_far ?_ NB142_145.out _; (with_reducible repeat (first | refine blk_drewN ?_ _ | refine blk_drew ?_ | refine blk_alloc ?_ _)); exact BK142.out⟩
               have n1_ : Aside0 (((w15.setCell ⟨gb145, 0, none⟩ (.string ((rd_T40 l0_0 x4_2).f0))).setCell ⟨gb145, 1, none⟩ (.slice A144_1 ((rd_T40 l0_0 x4_2).f1).length c144_1)).heap[gb145]? = some (.cells #[.string ((rd_T40 l0_0 x4_2).f0), .slice A144_1 ((rd_T40 l0_0 x4_2).f1).length c144_1] 40 (0, 0))) := ⟨by (with_reducible repeat (first | refine blk_drewN ?_ _ | refine blk_drew ?_ | refine blk_alloc ?_ _)); refine blk_put (cs := #[.string ((rd_T40 l0_0 x4_2).f0), .slice none 0 0]) ?_ 1 _ rfl; (with_reducible repeat (first | refine blk_drewN ?_ _ | refine blk_drew ?_ | refine blk_alloc ?_ _)); refine blk_put (cs := #[.string (⟨#[]⟩ : ByteArray), .slice none 0 0]) ?_ 0 _ rfl; (with_reducible repeat (first | refine blk_drewN ?_ _ | refine blk_drew ?_ | refine blk_alloc ?_ _)); exact BK145.out⟩
               have n2_ : Aside0 (Below w.heap.size w ((w15.setCell ⟨gb145, 0, none⟩ (.string ((rd_T40 l0_0 x4_2).f0))).setCell ⟨gb145, 1, none⟩ (.slice A144_1 ((rd_T40 l0_0 x4_2).f1).length c144_1))) := ⟨bw⟩
               (try clear BK142)
               (try clear BK145)
               (try clear HB)
               generalize ((w15.setCell ⟨gb145, 0, none⟩ (.string ((rd_T40 l0_0 x4_2).f0))).setCell ⟨gb145, 1, none⟩ (.slice A144_1 ((rd_T40 l0_0 x4_2).f1).length c144_1)) = w30 at n0_ n1_ n2_ ⊢
               have BK142 := n0_
               have BK145 := n1_
               have HB := n2_
               clear n0_ n1_ n2_
               have n0_ := Aside0.mk (blk_drew BK142.out)
               have n1_ := Aside0.mk (blk_drew BK145.out)
               have n2_ := Aside0.mk (below_drew1 HB.out)
               clear BK142
               clear BK145
               clear HB
               have BK142 := n0_
               have BK145 := n1_
               have HB := n2_
               clear n0_ n1_ n2_
               have p146 : 0 ≤ ((ji22) : Int) := of_decide_eq_true (by first | (with_reducible assumption) | assumption)
               have q146 : (ji22) < (l0_0.length : Int) := of_decide_eq_true (by first | (with_reducible assumption) | assumption)
               obtain ⟨ad146, A146_1, c146_1, e146, hx146_0, hx146_1, hl146_1, hi146_1⟩ := at_T40 HR0_0.out (ji22) p146 q146
               have hw146_1 := hx146_1
               have hw146_0 := hx146_0
               obtain rfl : ad144 = ad146 := (by injection e146)
               replace hx146_0 := (HB.out.cell (World.block_lt_of_cell? w _ hx146_0)).trans hx146_0
               replace hx146_1 := (HB.out.cell (World.block_lt_of_cell? w _ hx146_1)).trans hx146_1
               have HR146_1 := Aside0.mk hi146_1
               have HC146_1 := Aside0.mk hl146_1
               clear hi146_1 hl146_1
               replace p146 := eq_true p146
               replace q146 := eq_true q146
               refine start_ (n := 26) (S := fun w' => w'.cell? ⟨gb145, 0, none⟩ = some (.string ((rd_T40 l0_0 x4_2).f0)) ∧ w'.cell? ⟨gb145, 1, none⟩ = some (.slice A144_1 ((rd_T40 l0_0 x4_2).f1).length c144_1) ∧ w'.cell? ⟨gb142, 0, none⟩ = some (.slice (some ad144) l0_0.length c0_0) ∧ w'.cell? (ad144.add (((ji22)).toNat * 2)) = some (.string ((rd_T40 l0_0 (ji22)).f0)) ∧ w'.cell? ⟨(ad144.add (((ji22)).toNat * 2)).block, (ad144.add (((ji22)).toNat * 2)).off + 1, none⟩ = some (.slice A146_1 ((rd_T40 l0_0 (ji22)).f1).length c146_1)) (ds := []) #[false, false, false, false, false, false, false, false, false, false, false, false, false, false, false, false, false, false, false, false, false, false, false, false, false, false] (by kernel_rfl) rfl rfl ⟨(blk_cell BK145.out 0).trans rfl, (blk_cell BK145.out 1).trans rfl, (blk_cell BK142.out 0).trans rfl, ((HB.out.cell (World.block_lt_of_cell? w _ hw146_0)).trans hw146_0), ((HB.out.cell (World.block_lt_of_cell? w _ hw146_1)).trans hw146_1)⟩ (fun hHeld => ?_); refine with_tabW spec_ValidStore.tab8 spec_ValidStore.bits8 (fun HT_ HW_ => ?_)
               generalize w30.drew = w31 at BK142 BK145 HB HR146_1 hx146_0 hx146_1 hHeld ⊢
               refine pure_ (i := 0) (N := some 36) (v := ?_) (a' := ?_) #[true, false, false, false, false, false, false, false, false, false, false, false, false, false, false, false, false, false, false, false, false, false, false, false, false, false] rfl rfl (any_of HT_.out (by kernel_rfl)) (fun _ _ _ h => h) (Or.inl ⟨by rfl, ?_⟩) ?_ ?_
               rotate_left
               ·intro w'
                go_simp
                with_reducible rfl
               rotate_left
               ·simp only [Act.put, List.setIfInBounds_toArray, List.set_cons_zero, List.set_cons_succ, i64_w, i32_w]
                rfl
               refine take_ (i := 1) (N := some 37) (v := ?_) (a' := ?_) #[true, true, false, false, false, false, false, false, false, false, false, false, false, false, false, false, false, false, false, false, false, false, false, false, false, false] rfl rfl (take_ofW HT_.out HW_.out (by kernel_rfl)) (fun _ _ _ h => h) (Or.inl ⟨by rfl, ?_⟩) hHeld ?_ ?_
               rotate_left
               ·rintro w' ⟨s0, s1, s2, s3, s4⟩
                go_simp
                with_reducible rfl
               rotate_left
               ·simp only [Act.put, List.setIfInBounds_toArray, List.set_cons_zero, List.set_cons_succ, i64_w, i32_w]
                rfl
               refine pure_ (i := 2) (N := some 38) (v := ?_) (a' := ?_) #[true, true, true, false, false, false, false, false, false, false, false, false, false, false, false, false, false, false, false, false, false, false, false, false, false, false] rfl rfl (any_of HT_.out (by kernel_rfl)) (fun _ _ _ h => h) (Or.inl ⟨by rfl, ?_⟩) ?_ ?_
               rotate_left
               ·intro w'
                go_simp
                with_reducible rfl
               rotate_left
               ·simp only [Act.put, List.setIfInBounds_toArray, List.set_cons_zero, List.set_cons_succ, i64_w, i32_w]
                rfl
               refine pure_ (i := 3) (N := some 39) (v := ?_) (a' := ?_) #[true, true, true, true, false, false, false, false, false, false, false, false, false, false, false, false, false, false, false, false, false, false, false, false, false, false] rfl rfl (any_of HT_.out (by kernel_rfl)) (fun _ _ _ h => h) (Or.inl ⟨by rfl, ?_⟩) ?_ ?_
               rotate_left
               ·intro w'
                go_simp
                with_reducible rfl
               rotate_left
               ·simp only [Act.put, List.setIfInBounds_toArray, List.set_cons_zero, List.set_cons_succ, i64_w, i32_w]
                rfl
               refine pure_ (i := 4) (N := some 40) (v := ?_) (a' := ?_) #[true, true, true, true, true, false, false, false, false, false, false, false, false, false, false, false, false, false, false, false, false, false, false, false, false, false] rfl rfl (any_of HT_.out (by kernel_rfl)) (fun _ _ _ h => h) (Or.inl ⟨by rfl, ?_⟩) ?_ ?_
               rotate_left
               ·intro w'
                go_simp
                with_reducible rfl
               rotate_left
               ·simp only [Act.put, List.setIfInBounds_toArray, List.set_cons_zero, List.set_cons_succ, i64_w, i32_w]
                rfl
               refine pure_ (i := 5) (N := some 41) (v := ?_) (a' := ?_) #[true, true, true, true, true, true, false, false, false, false, false, false, false, false, false, false, false, false, false, false, false, false, false, false, false, false] rfl rfl (any_of HT_.out (by kernel_rfl)) (fun _ _ _ h => h) (Or.inl ⟨by rfl, ?_⟩) ?_ ?_
               rotate_left
               ·intro w'
                go_simp
                with_reducible rfl
               rotate_left
               ·simp only [Act.put, List.setIfInBounds_toArray, List.set_cons_zero, List.set_cons_succ, i64_w, i32_w]
                rfl
               refine pure_ (i := 6) (N := some 42) (v := ?_) (a' := ?_) #[true, true, true, true, true, true, true, false, false, false, false, false, false, false, false, false, false, false, false, false, false, false, false, false, false, false] rfl rfl (any_of HT_.out (by kernel_rfl)) (fun _ _ _ h => h) (Or.inl ⟨by rfl, ?_⟩) ?_ ?_
               rotate_left
               ·intro w'
                go_simp
                with_reducible rfl
               rotate_left
               ·simp only [Act.put, List.setIfInBounds_toArray, List.set_cons_zero, List.set_cons_succ, i64_w, i32_w]
                rfl
               refine pure_ (i := 7) (N := some 43) (v := ?_) (a' := ?_) #[true, true, true, true, true, true, true, true, false, false, false, false, false, false, false, false, false, false, false, false, false, false, false, false, false, false] rfl rfl (any_of HT_.out (by kernel_rfl)) (fun _ _ _ h => h) (Or.inl ⟨by rfl, ?_⟩) ?_ ?_
               rotate_left
               ·intro w'
                go_simp
                with_reducible rfl
               rotate_left
               ·simp only [Act.put, List.setIfInBounds_toArray, List.set_cons_zero, List.set_cons_succ, i64_w, i32_w]
                rfl
               refine pure_ (i := 8) (N := some 44) (v := ?_) (a' := ?_) #[true, true, true, true, true, true, true, true, true, false, false, false, false, false, false, false, false, false, false, false, false, false, false, false, false, false] rfl rfl (any_of HT_.out (by kernel_rfl)) (fun _ _ _ h => h) (Or.inl ⟨by rfl, ?_⟩) ?_ ?_
               rotate_left
               ·intro w'
                go_simp
                with_reducible rfl
               rotate_left
               ·simp only [Act.put, List.setIfInBounds_toArray, List.set_cons_zero, List.set_cons_succ, i64_w, i32_w]
                rfl
               refine pure_ (i := 10) (N := some 46) (v := ?_) (a' := ?_) #[true, true, true, true, true, true, true, true, true, false, true, false, false, false, false, false, false, false, false, false, false, false, false, false, false, false] rfl rfl (any_of HT_.out (by kernel_rfl)) (fun _ _ _ h => h) (Or.inl ⟨by rfl, ?_⟩) ?_ ?_
               rotate_left
               ·intro w'
                go_simp
                with_reducible rfl
               rotate_left
               ·simp only [Act.put, List.setIfInBounds_toArray, List.set_cons_zero, List.set_cons_succ, i64_w, i32_w]
                rfl
               refine pure_ (i := 11) (N := some 47) (v := ?_) (a' := ?_) #[true, true, true, true, true, true, true, true, true, false, true, true, false, false, false, false, false, false, false, false, false, false, false, false, false, false] rfl rfl (any_of HT_.out (by kernel_rfl)) (fun _ _ _ h => h) (Or.inl ⟨by rfl, ?_⟩) ?_ ?_
               rotate_left
               ·intro w'
                go_simp
                with_reducible rfl
               rotate_left
               ·simp only [Act.put, List.setIfInBounds_toArray, List.set_cons_zero, List.set_cons_succ, i64_w, i32_w]
                rfl
               refine pure_ (i := 15) (N := some 51) (v := ?_) (a' := ?_) #[true, true, true, true, true, true, true, true, true, false, true, true, false, false, false, true, false, false, false, false, false, false, false, false, false, false] rfl rfl (any_of HT_.out (by kernel_rfl)) (fun _ _ _ h => h) (Or.inl ⟨by rfl, ?_⟩) ?_ ?_
               rotate_left
               ·intro w'
                go_simp
                with_reducible rfl
               rotate_left
               ·simp only [Act.put, List.setIfInBounds_toArray, List.set_cons_zero, List.set_cons_succ, i64_w, i32_w]
                rfl
               refine take_ (i := 9) (N := some 45) (v := ?_) (a' := ?_) #[true, true, true, true, true, true, true, true, true, true, true, true, false, false, false, true, false, false, false, false, false, false, false, false, false, false] rfl rfl (take_ofW HT_.out HW_.out (by kernel_rfl)) (fun _ _ _ h => h) (Or.inl ⟨by rfl, ?_⟩) hHeld ?_ ?_
               rotate_left
               ·rintro w' ⟨s0, s1, s2, s3, s4⟩
                go_simp
                with_reducible rfl
               rotate_left
               ·simp only [Act.put, List.setIfInBounds_toArray, List.set_cons_zero, List.set_cons_succ, i64_w, i32_w]
                rfl
               refine pure_ (i := 12) (N := some 48) (v := ?_) (a' := ?_) #[true, true, true, true, true, true, true, true, true, true, true, true, true, false, false, true, false, false, false, false, false, false, false, false, false, false] rfl rfl (any_of HT_.out (by kernel_rfl)) (fun _ _ _ h => h) (Or.inl ⟨by rfl, ?_⟩) ?_ ?_
               rotate_left
               ·intro w'
                go_simp
                with_reducible rfl
               rotate_left
               ·simp only [Act.put, List.setIfInBounds_toArray, List.set_cons_zero, List.set_cons_succ, i64_w, i32_w]
                rfl
               refine pure_ (i := 13) (N := some 49) (v := ?_) (a' := ?_) #[true, true, true, true, true, true, true, true, true, true, true, true, true, true, false, true, false, false, false, false, false, false, false, false, false, false] rfl rfl (any_of HT_.out (by kernel_rfl)) (fun _ _ _ h => h) (Or.inl ⟨by rfl, ?_⟩) ?_ ?_
               rotate_left
               ·intro w'
                go_simp
                with_reducible rfl
               rotate_left
               ·simp only [Act.put, List.setIfInBounds_toArray, List.set_cons_zero, List.set_cons_succ, i64_w, i32_w]
                rfl
               refine take_ (i := 14) (N := some 50) (v := ?_) (a' := ?_) #[true, true, true, true, true, true, true, true, true, true, true, true, true, true, true, true, false, false, false, false, false, false, false, false, false, false] rfl rfl (take_ofW HT_.out HW_.out (by kernel_rfl)) (fun _ _ _ h => h) (Or.inl ⟨by rfl, ?_⟩) hHeld ?_ ?_
               rotate_left
               ·rintro w' ⟨s0, s1, s2, s3, s4⟩
                go_simp
                with_reducible rfl
               rotate_left
               ·simp only [Act.put, List.setIfInBounds_toArray, List.set_cons_zero, List.set_cons_succ, i64_w, i32_w]
                rfl
               refine take_ (i := 16) (N := some 52) (v := ?_) (a' := ?_) #[true, true, true, true, true, true, true, true, true, true, true, true, true, true, true, true, true, false, false, false, false, false, false, false, false, false] rfl rfl (take_ofW HT_.out HW_.out (by kernel_rfl)) (fun _ _ _ h => h) (Or.inl ⟨by rfl, ?_⟩) hHeld ?_ ?_
               rotate_left
               ·rintro w' ⟨s0, s1, s2, s3, s4⟩
                go_simp
                with_reducible rfl
               rotate_left
               ·simp only [Act.put, List.setIfInBounds_toArray, List.set_cons_zero, List.set_cons_succ, i64_w, i32_w]
                rfl
               refine pure_ (i := 17) (N := some 53) (v := ?_) (a' := ?_) #[true, true, true, true, true, true, true, true, true, true, true, true, true, true, true, true, true, true, false, false, false, false, false, false, false, false] rfl rfl (any_of HT_.out (by kernel_rfl)) (fun _ _ _ h => h) (Or.inl ⟨by rfl, ?_⟩) ?_ ?_
               rotate_left
               ·intro w'
                go_simp
                with_reducible rfl
               rotate_left
               ·simp only [Act.put, List.setIfInBounds_toArray, List.set_cons_zero, List.set_cons_succ, i64_w, i32_w]
                rfl
               refine pure_ (i := 18) (N := some 54) (v := ?_) (a' := ?_) #[true, true, true, true, true, true, true, true, true, true, true, true, true, true, true, true, true, true, true, false, false, false, false, false, false, false] rfl rfl (any_of HT_.out (by kernel_rfl)) (fun _ _ _ h => h) (Or.inl ⟨by rfl, ?_⟩) ?_ ?_
               rotate_left
               ·intro w'
                go_simp
                with_reducible rfl
               rotate_left
               ·simp only [Act.put, List.setIfInBounds_toArray, List.set_cons_zero, List.set_cons_succ, i64_w, i32_w]
                rfl
               refine pure_ (i := 19) (N := some 55) (v := ?_) (a' := ?_) #[true, true, true, true, true, true, true, true, true, true, true, true, true, true, true, true, true, true, true, true, false, false, false, false, false, false] rfl rfl (any_of HT_.out (by kernel_rfl)) (fun _ _ _ h => h) (Or.inl ⟨by rfl, ?_⟩) ?_ ?_
               rotate_left
               ·intro w'
                go_simp
                with_reducible rfl
               rotate_left
               ·simp only [Act.put, List.setIfInBounds_toArray, List.set_cons_zero, List.set_cons_succ, i64_w, i32_w]
                rfl
               refine pure_ (i := 20) (N := some 56) (v := ?_) (a' := ?_) #[true, true, true, true, true, true, true, true, true, true, true, true, true, true, true, true, true, true, true, true, true, false, false, false, false, false] rfl rfl (any_of HT_.out (by kernel_rfl)) (fun _ _ _ h => h) (Or.inl ⟨by rfl, ?_⟩) ?_ ?_
               rotate_left
               ·intro w'
                go_simp
                with_reducible rfl
               rotate_left
               ·simp only [Act.put, List.setIfInBounds_toArray, List.set_cons_zero, List.set_cons_succ, i64_w, i32_w]
                rfl
               refine pure_ (i := 21) (N := some 57) (v := undef) (a' := ?_) #[true, true, true, true, true, true, true, true, true, true, true, true, true, true, true, true, true, true, true, true, true, true, false, false, false, false] rfl rfl (any_of HT_.out (by kernel_rfl)) (fun _ _ _ h => h) (Or.inr ⟨by rfl, rfl⟩) ?_ ?_
               rotate_left
               ·simp only [Act.put, List.setIfInBounds_toArray, List.set_cons_zero, List.set_cons_succ, i64_w, i32_w]
                rfl
               refine pure_ (i := 22) (N := some 58) (v := undef) (a' := ?_) #[true, true, true, true, true, true, true, true, true, true, true, true, true, true, true, true, true, true, true, true, true, true, true, false, false, false] rfl rfl (any_of HT_.out (by kernel_rfl)) (fun _ _ _ h => h) (Or.inr ⟨by rfl, rfl⟩) ?_ ?_
               rotate_left
               ·simp only [Act.put, List.setIfInBounds_toArray, List.set_cons_zero, List.set_cons_succ, i64_w, i32_w]
                rfl
               refine pure_ (i := 23) (N := some 59) (v := undef) (a' := ?_) #[true, true, true, true, true, true, true, true, true, true, true, true, true, true, true, true, true, true, true, true, true, true, true, true, false, false] rfl rfl (any_of HT_.out (by kernel_rfl)) (fun _ _ _ h => h) (Or.inr ⟨by rfl, rfl⟩) ?_ ?_
               rotate_left
               ·simp only [Act.put, List.setIfInBounds_toArray, List.set_cons_zero, List.set_cons_succ, i64_w, i32_w]
                rfl
               refine pure_ (i := 24) (N := some 60) (v := undef) (a' := ?_) #[true, true, true, true, true, true, true, true, true, true, true, true, true, true, true, true, true, true, true, true, true, true, true, true, true, false] rfl rfl (any_of HT_.out (by kernel_rfl)) (fun _ _ _ h => h) (Or.inr ⟨by rfl, rfl⟩) ?_ ?_
               rotate_left
               ·simp only [Act.put, List.setIfInBounds_toArray, List.set_cons_zero, List.set_cons_succ, i64_w, i32_w]
                rfl
               refine pure_ (i := 25) (N := some 61) (v := ?_) (a' := ?_) #[true, true, true, true, true, true, true, true, true, true, true, true, true, true, true, true, true, true, true, true, true, true, true, true, true, true] rfl rfl (any_of HT_.out (by kernel_rfl)) (fun _ _ _ h => h) (Or.inl ⟨by rfl, ?_⟩) ?_ ?_
               rotate_left
               ·intro w'
                go_simp
                with_reducible rfl
               rotate_left
               ·simp only [Act.put, List.setIfInBounds_toArray, List.set_cons_zero, List.set_cons_succ, i64_w, i32_w]
                rfl
               refine done_ (done_of HT_.out (by kernel_rfl)) ?_
               try go_wp2
               go_meet
               case rel => exact ⟨_, (true), (by first | rfl | (simp; done) | (simp [*]; done) | (simp [isE]; done)), H', ⟨by have := HJ1.out; have := HK2.out; first | omega | exact Nat.le_refl _⟩, ⟨lb BK142⟩, ⟨lb BK145⟩, ⟨bw⟩⟩
             ·rw [if_neg c24] at H
              exact absurd H (by simp)
            ·rw [if_neg c23] at H
             exact absurd H (by simp)
           ·rw [if_neg c21] at H
            have c21b0 : decide (0 < x4_2) = false := decide_eq_false c21
            clear c21
            replace H := Option.bind_eq_some_iff.mp H
            obtain ⟨t148, A320, H⟩ := H
            replace H : (spec_ValidStore.j2 k2 (l0_0.length : Int) x4_2 (!t148) l0_0 ((rd_T40 l0_0 x4_2).f0) ((rd_T40 l0_0 x4_2).f1)) = some r := H
            have A32 := Aside0.mk A320
            clear A320
            have H' := Aside0.mk H
            clear H
            try go_wp2
            have n0_ : Aside0 (((w15.setCell ⟨gb145, 0, none⟩ (.string ((rd_T40 l0_0 x4_2).f0))).setCell ⟨gb145, 1, none⟩ (.slice A144_1 ((rd_T40 l0_0 x4_2).f1).length c144_1)).heap[gb142]? = some (.cells #[.slice (some ad144) l0_0.length c0_0] 28 (0, 0))) := ⟨by (with_reducible repeat (first | refine blk_drewN ?_ _ | refine blk_drew ?_ | refine blk_alloc ?_ _)); refine blk_far ?_ NB142_145.out _; (with_reducible repeat (first | refine blk_drewN ?_ _ | refine blk_drew ?_ | refine blk_alloc ?_ _)); refine blk_far ?_ NB142_145.out _; (with_reducible repeat (first | refine blk_drewN ?_ _ | refine blk_drew ?_ | refine blk_alloc ?_ _)); exact BK142.out⟩
            have n1_ : Aside0 (((w15.setCell ⟨gb145, 0, none⟩ (.string ((rd_T40 l0_0 x4_2).f0))).setCell ⟨gb145, 1, none⟩ (.slice A144_1 ((rd_T40 l0_0 x4_2).f1).length c144_1)).heap[gb145]? = some (.cells #[.string ((rd_T40 l0_0 x4_2).f0), .slice A144_1 ((rd_T40 l0_0 x4_2).f1).length c144_1] 40 (0, 0))) := ⟨by (with_reducible repeat (first | refine blk_drewN ?_ _ | refine blk_drew ?_ | refine blk_alloc ?_ _)); refine blk_put (cs := #[.string ((rd_T40 l0_0 x4_2).f0), .slice none 0 0]) ?_ 1 _ rfl; (with_reducible repeat (first | refine blk_drewN ?_ _ | refine blk_drew ?_ | refine blk_alloc ?_ _)); refine blk_put (cs := #[.string (⟨#[]⟩ : ByteArray), .slice none 0 0]) ?_ 0 _ rfl; (with_reducible repeat (first | refine blk_drewN ?_ _ | refine blk_drew ?_ | refine blk_alloc ?_ _)); exact BK145.out⟩
            have n2_ : Aside0 (Below w.heap.size w ((w15.setCell ⟨gb145, 0, none⟩ (.string ((rd_T40 l0_0 x4_2).f0))).setCell ⟨gb145, 1, none⟩ (.slice A144_1 ((rd_T40 l0_0 x4_2).f1).length c144_1))) := ⟨bw⟩
            (try clear BK142)
            (try clear BK145)
            (try clear HB)
            generalize ((w15.setCell ⟨gb145, 0, none⟩ (.string ((rd_T40 l0_0 x4_2).f0))).setCell ⟨gb145, 1, none⟩ (.slice A144_1 ((rd_T40 l0_0 x4_2).f1).length c144_1)) = w33 at n0_ n1_ n2_ ⊢
            have BK142 := n0_
            have BK145 := n1_
            have HB := n2_
            clear n0_ n1_ n2_
            have n0_ := Aside0.mk (blk_drew BK142.out)
            have n1_ := Aside0.mk (blk_drew BK145.out)
            have n2_ := Aside0.mk (below_drew1 HB.out)
            clear BK142
            clear BK145
            clear HB
            have BK142 := n0_
            have BK145 := n1_
            have HB := n2_
            clear n0_ n1_ n2_
            refine start_ (n := 26) (S := fun w' => w'.cell? ⟨gb145, 0, none⟩ = some (.string ((rd_T40 l0_0 x4_2).f0)) ∧ w'.cell? ⟨gb145, 1, none⟩ = some (.slice A144_1 ((rd_T40 l0_0 x4_2).f1).length c144_1)) (ds := []) #[false, false, false, false, false, false, false, false, false, false, false, false, false, false, false, false, false, false, false, false, false, false, false, false, false, false] (by kernel_rfl) rfl rfl ⟨(blk_cell BK145.out 0).trans rfl, (blk_cell BK145.out 1).trans rfl⟩ (fun hHeld => ?_); refine with_tabW spec_ValidStore.tab8 spec_ValidStore.bits8 (fun HT_ HW_ => ?_)
            generalize w33.drew = w34 at BK142 BK145 HB hHeld ⊢
            refine pure_ (i := 0) (N := some 36) (v := ?_) (a' := ?_) #[true, false, false, false, false, false, false, false, false, false, false, false, false, false, false, false, false, false, false, false, false, false, false, false, false, false] rfl rfl (any_of HT_.out (by kernel_rfl)) (fun _ _ _ h => h) (Or.inl ⟨by rfl, ?_⟩) ?_ ?_
            rotate_left
            ·intro w'
             go_simp
             with_reducible rfl
            rotate_left
            ·simp only [Act.put, List.setIfInBounds_toArray, List.set_cons_zero, List.set_cons_succ, i64_w, i32_w]
             rfl
            refine take_ (i := 1) (N := some 37) (v := ?_) (a' := ?_) #[true, true, false, false, false, false, false, false, false, false, false, false, false, false, false, false, false, false, false, false, false, false, false, false, false, false] rfl rfl (take_ofW HT_.out HW_.out (by kernel_rfl)) (fun _ _ _ h => h) (Or.inl ⟨by rfl, ?_⟩) hHeld ?_ ?_
            rotate_left
            ·rintro w' ⟨s0, s1⟩
             go_simp
             with_reducible rfl
            rotate_left
            ·simp only [Act.put, List.setIfInBounds_toArray, List.set_cons_zero, List.set_cons_succ, i64_w, i32_w]
             rfl
            refine pure_ (i := 2) (N := some 38) (v := ?_) (a' := ?_) #[true, true, true, false, false, false, false, false, false, false, false, false, false, false, false, false, false, false, false, false, false, false, false, false, false, false] rfl rfl (any_of HT_.out (by kernel_rfl)) (fun _ _ _ h => h) (Or.inl ⟨by rfl, ?_⟩) ?_ ?_
            rotate_left
            ·intro w'
             go_simp
             with_reducible rfl
            rotate_left
            ·simp only [Act.put, List.setIfInBounds_toArray, List.set_cons_zero, List.set_cons_succ, i64_w, i32_w]
             rfl
            refine pure_ (i := 3) (N := some 39) (v := ?_) (a' := ?_) #[true, true, true, true, false, false, false, false, false, false, false, false, false, false, false, false, false, false, false, false, false, false, false, false, false, false] rfl rfl (any_of HT_.out (by kernel_rfl)) (fun _ _ _ h => h) (Or.inl ⟨by rfl, ?_⟩) ?_ ?_
            rotate_left
            ·intro w'
             go_simp
             with_reducible rfl
            rotate_left
            ·simp only [Act.put, List.setIfInBounds_toArray, List.set_cons_zero, List.set_cons_succ, i64_w, i32_w]
             rfl
            refine pure_ (i := 4) (N := some 40) (v := ?_) (a' := ?_) #[true, true, true, true, true, false, false, false, false, false, false, false, false, false, false, false, false, false, false, false, false, false, false, false, false, false] rfl rfl (any_of HT_.out (by kernel_rfl)) (fun _ _ _ h => h) (Or.inl ⟨by rfl, ?_⟩) ?_ ?_
            rotate_left
            ·intro w'
             go_simp
             with_reducible rfl
            rotate_left
            ·simp only [Act.put, List.setIfInBounds_toArray, List.set_cons_zero, List.set_cons_succ, i64_w, i32_w]
             rfl
            refine pure_ (i := 5) (N := some 41) (v := ?_) (a' := ?_) #[true, true, true, true, true, true, false, false, false, false, false, false, false, false, false, false, false, false, false, false, false, false, false, false, false, false] rfl rfl (any_of HT_.out (by kernel_rfl)) (fun _ _ _ h => h) (Or.inl ⟨by rfl, ?_⟩) ?_ ?_
            rotate_left
            ·intro w'
             go_simp
             with_reducible rfl
            rotate_left
            ·simp only [Act.put, List.setIfInBounds_toArray, List.set_cons_zero, List.set_cons_succ, i64_w, i32_w]
             rfl
            refine pure_ (i := 6) (N := some 42) (v := ?_) (a' := ?_) #[true, true, true, true, true, true, true, false, false, false, false, false, false, false, false, false, false, false, false, false, false, false, false, false, false, false] rfl rfl (any_of HT_.out (by kernel_rfl)) (fun _ _ _ h => h) (Or.inl ⟨by rfl, ?_⟩) ?_ ?_
            rotate_left
            ·intro w'
             go_simp
             with_reducible rfl
            rotate_left
            ·simp only [Act.put, List.setIfInBounds_toArray, List.set_cons_zero, List.set_cons_succ, i64_w, i32_w]
             rfl
            refine pure_ (i := 7) (N := some 43) (v := ?_) (a' := ?_) #[true, true, true, true, true, true, true, true, false, false, false, false, false, false, false, false, false, false, false, false, false, false, false, false, false, false] rfl rfl (any_of HT_.out (by kernel_rfl)) (fun _ _ _ h => h) (Or.inl ⟨by rfl, ?_⟩) ?_ ?_
            rotate_left
            ·intro w'
             go_simp
             with_reducible rfl
            rotate_left
            ·simp only [Act.put, List.setIfInBounds_toArray, List.set_cons_zero, List.set_cons_succ, i64_w, i32_w]
             rfl
            refine pure_ (i := 8) (N := some 44) (v := undef) (a' := ?_) #[true, true, true, true, true, true, true, true, true, false, false, false, false, false, false, false, false, false, false, false, false, false, false, false, false, false] rfl rfl (any_of HT_.out (by kernel_rfl)) (fun _ _ _ h => h) (Or.inr ⟨by rfl, rfl⟩) ?_ ?_
            rotate_left
            ·simp only [Act.put, List.setIfInBounds_toArray, List.set_cons_zero, List.set_cons_succ, i64_w, i32_w]
             rfl
            refine pure_ (i := 9) (N := some 45) (v := undef) (a' := ?_) #[true, true, true, true, true, true, true, true, true, true, false, false, false, false, false, false, false, false, false, false, false, false, false, false, false, false] rfl rfl (any_of HT_.out (by kernel_rfl)) (fun _ _ _ h => h) (Or.inr ⟨by rfl, rfl⟩) ?_ ?_
            rotate_left
            ·simp only [Act.put, List.setIfInBounds_toArray, List.set_cons_zero, List.set_cons_succ, i64_w, i32_w]
             rfl
            refine pure_ (i := 10) (N := some 46) (v := undef) (a' := ?_) #[true, true, true, true, true, true, true, true, true, true, true, false, false, false, false, false, false, false, false, false, false, false, false, false, false, false] rfl rfl (any_of HT_.out (by kernel_rfl)) (fun _ _ _ h => h) (Or.inr ⟨by rfl, rfl⟩) ?_ ?_
            rotate_left
            ·simp only [Act.put, List.setIfInBounds_toArray, List.set_cons_zero, List.set_cons_succ, i64_w, i32_w]
             rfl
            refine pure_ (i := 11) (N := some 47) (v := undef) (a' := ?_) #[true, true, true, true, true, true, true, true, true, true, true, true, false, false, false, false, false, false, false, false, false, false, false, false, false, false] rfl rfl (any_of HT_.out (by kernel_rfl)) (fun _ _ _ h => h) (Or.inr ⟨by rfl, rfl⟩) ?_ ?_
            rotate_left
            ·simp only [Act.put, List.setIfInBounds_toArray, List.set_cons_zero, List.set_cons_succ, i64_w, i32_w]
             rfl
            refine pure_ (i := 12) (N := some 48) (v := undef) (a' := ?_) #[true, true, true, true, true, true, true, true, true, true, true, true, true, false, false, false, false, false, false, false, false, false, false, false, false, false] rfl rfl (any_of HT_.out (by kernel_rfl)) (fun _ _ _ h => h) (Or.inr ⟨by rfl, rfl⟩) ?_ ?_
            rotate_left
            ·simp only [Act.put, List.setIfInBounds_toArray, List.set_cons_zero, List.set_cons_succ, i64_w, i32_w]
             rfl
            refine pure_ (i := 13) (N := some 49) (v := undef) (a' := ?_) #[true, true, true, true, true, true, true, true, true, true, true, true, true, true, false, false, false, false, false, false, false, false, false, false, false, false] rfl rfl (any_of HT_.out (by kernel_rfl)) (fun _ _ _ h => h) (Or.inr ⟨by rfl, rfl⟩) ?_ ?_
            rotate_left
            ·simp only [Act.put, List.setIfInBounds_toArray, List.set_cons_zero, List.set_cons_succ, i64_w, i32_w]
             rfl
            refine pure_ (i := 14) (N := some 50) (v := undef) (a' := ?_) #[true, true, true, true, true, true, true, true, true, true, true, true, true, true, true, false, false, false, false, false, false, false, false, false, false, false] rfl rfl (any_of HT_.out (by kernel_rfl)) (fun _ _ _ h => h) (Or.inr ⟨by rfl, rfl⟩) ?_ ?_
            rotate_left
            ·simp only [Act.put, List.setIfInBounds_toArray, List.set_cons_zero, List.set_cons_succ, i64_w, i32_w]
             rfl
            refine pure_ (i := 15) (N := some 51) (v := undef) (a' := ?_) #[true, true, true, true, true, true, true, true, true, true, true, true, true, true, true, true, false, false, false, false, false, false, false, false, false, false] rfl rfl (any_of HT_.out (by kernel_rfl)) (fun _ _ _ h => h) (Or.inr ⟨by rfl, rfl⟩) ?_ ?_
            rotate_left
            ·simp only [Act.put, List.setIfInBounds_toArray, List.set_cons_zero, List.set_cons_succ, i64_w, i32_w]
             rfl
            refine pure_ (i := 16) (N := some 52) (v := undef) (a' := ?_) #[true, true, true, true, true, true, true, true, true, true, true, true, true, true, true, true, true, false, false, false, false, false, false, false, false, false] rfl rfl (any_of HT_.out (by kernel_rfl)) (fun _ _ _ h => h) (Or.inr ⟨by rfl, rfl⟩) ?_ ?_
            rotate_left
            ·simp only [Act.put, List.setIfInBounds_toArray, List.set_cons_zero, List.set_cons_succ, i64_w, i32_w]
             rfl
            refine pure_ (i := 17) (N := some 53) (v := undef) (a' := ?_) #[true, true, true, true, true, true, true, true, true, true, true, true, true, true, true, true, true, true, false, false, false, false, false, false, false, false] rfl rfl (any_of HT_.out (by kernel_rfl)) (fun _ _ _ h => h) (Or.inr ⟨by rfl, rfl⟩) ?_ ?_
            rotate_left
            ·simp only [Act.put, List.setIfInBounds_toArray, List.set_cons_zero, List.set_cons_succ, i64_w, i32_w]
             rfl
            refine pure_ (i := 18) (N := some 54) (v := ?_) (a' := ?_) #[true, true, true, true, true, true, true, true, true, true, true, true, true, true, true, true, true, true, true, false, false, false, false, false, false, false] rfl rfl (any_of HT_.out (by kernel_rfl)) (fun _ _ _ h => h) (Or.inl ⟨by rfl, ?_⟩) ?_ ?_
            rotate_left
            ·intro w'
             go_simp
             with_reducible rfl
            rotate_left
            ·simp only [Act.put, List.setIfInBounds_toArray, List.set_cons_zero, List.set_cons_succ, i64_w, i32_w]
             rfl
            refine pure_ (i := 19) (N := some 55) (v := ?_) (a' := ?_) #[true, true, true, true, true, true, true, true, true, true, true, true, true, true, true, true, true, true, true, true, false, false, false, false, false, false] rfl rfl (any_of HT_.out (by kernel_rfl)) (fun _ _ _ h => h) (Or.inl ⟨by rfl, ?_⟩) ?_ ?_
            rotate_left
            ·intro w'
             go_simp
             with_reducible rfl
            rotate_left
            ·simp only [Act.put, List.setIfInBounds_toArray, List.set_cons_zero, List.set_cons_succ, i64_w, i32_w]
             rfl
            refine pure_ (i := 20) (N := some 56) (v := ?_) (a' := ?_) #[true, true, true, true, true, true, true, true, true, true, true, true, true, true, true, true, true, true, true, true, true, false, false, false, false, false] rfl rfl (any_of HT_.out (by kernel_rfl)) (fun _ _ _ h => h) (Or.inl ⟨by rfl, ?_⟩) ?_ ?_
            rotate_left
            ·intro w'
             go_simp
             with_reducible rfl
            rotate_left
            ·simp only [Act.put, List.setIfInBounds_toArray, List.set_cons_zero, List.set_cons_succ, i64_w, i32_w]
             rfl
            refine pure_ (i := 21) (N := some 57) (v := ?_) (a' := ?_) #[true, true, true, true, true, true, true, true, true, true, true, true, true, true, true, true, true, true, true, true, true, true, false, false, false, false] rfl rfl (any_of HT_.out (by kernel_rfl)) (fun _ _ _ h => h) (Or.inl ⟨by rfl, ?_⟩) ?_ ?_
            rotate_left
            ·intro w'
             go_simp
             with_reducible rfl
            rotate_left
            ·simp only [Act.put, List.setIfInBounds_toArray, List.set_cons_zero, List.set_cons_succ, i64_w, i32_w]
             rfl
            refine take_ (i := 22) (N := some 58) (v := ?_) (a' := ?_) #[true, true, true, true, true, true, true, true, true, true, true, true, true, true, true, true, true, true, true, true, true, true, true, false, false, false] rfl rfl (take_ofW HT_.out HW_.out (by kernel_rfl)) (fun _ _ _ h => h) (Or.inl ⟨by rfl, ?_⟩) hHeld ?_ ?_
            rotate_left
            ·rintro w' ⟨s0, s1⟩
             go_simp
             with_reducible rfl
            rotate_left
            ·simp only [Act.put, List.setIfInBounds_toArray, List.set_cons_zero, List.set_cons_succ, i64_w, i32_w]
             rfl
            refine one_ (i := 23) (N := some 59) #[true, true, true, true, true, true, true, true, true, true, true, true, true, true, true, true, true, true, true, true, true, true, true, true, false, false] rfl rfl (one_of HT_.out (by kernel_rfl)) (by decide) (fun K hK => ?_)
            refine goes_ Try.func32 (by kernel_rfl) rfl #[.slice A144_1 ((rd_T40 l0_0 x4_2).f1).length c144_1] (by rfl) rfl rfl (by (try simp only [List.map_toArray, List.map_cons, List.map_nil]); first | done | rfl | (simp only [List.length_drop, List.length_take]; rfl)) ?_
            with_reducible refine (spec_l3GoodRuns.calls k2 _ _ ((rd_T40 l0_0 x4_2).f1) t148 _ ?side1 ?side2 A32.out).mono ?_
            (case side1 => repeat (first | exact (Kd.C_below HR144_1.out HB.out) | (with_reducible refine Kd.C_alloc ?_ _) | (with_reducible refine Kd.C_drewN ?_ _) | (with_reducible refine Kd.C_drew ?_)))
            (case side2 => exact HC144_1.out)
            rintro e w35 ⟨rfl, hb⟩
            refine ⟨_, rfl, ?_⟩
            have n0_ := Aside0.mk (blk_below (g := gb142) (o := .cells #[.slice (some ad144) l0_0.length c0_0] 28 (0, 0)) (lb BK142) hb)
            have n1_ := Aside0.mk (blk_below (g := gb145) (o := .cells #[.string ((rd_T40 l0_0 x4_2).f0), .slice A144_1 ((rd_T40 l0_0 x4_2).f1).length c144_1] 40 (0, 0)) (lb BK145) hb)
            have n2_ := Aside0.mk (below_step bw hb)
            clear BK142
            clear BK145
            clear HB
            have BK142 := n0_
            have BK145 := n1_
            have HB := n2_
            clear n0_ n1_ n2_
            (try clear hb)
            (try clear hb2)
            (try clear hk)
            (try clear hi)
            refine hK.out _ _ ⟨(blk_cell BK145.out 0).trans rfl, (blk_cell BK145.out 1).trans rfl⟩ (fun hHeld => ?_)
            clear hK K
            refine norm_ (a' := ?_) ?_ ?_
            rotate_left
            ·show Act.put _ (some 59) _ = _
             simp only [Act.put, List.setIfInBounds_toArray, List.set_cons_zero, List.set_cons_succ, i64_w, i32_w]
             rfl
            refine pure_ (i := 24) (N := some 60) (v := ?_) (a' := ?_) #[true, true, true, true, true, true, true, true, true, true, true, true, true, true, true, true, true, true, true, true, true, true, true, true, true, false] rfl rfl (any_of HT_.out (by kernel_rfl)) (fun _ _ _ h => h) (Or.inl ⟨by rfl, ?_⟩) ?_ ?_
            rotate_left
            ·intro w'
             go_simp
             with_reducible rfl
            rotate_left
            ·simp only [Act.put, List.setIfInBounds_toArray, List.set_cons_zero, List.set_cons_succ, i64_w, i32_w]
             rfl
            refine pure_ (i := 25) (N := some 61) (v := ?_) (a' := ?_) #[true, true, true, true, true, true, true, true, true, true, true, true, true, true, true, true, true, true, true, true, true, true, true, true, true, true] rfl rfl (any_of HT_.out (by kernel_rfl)) (fun _ _ _ h => h) (Or.inl ⟨by rfl, ?_⟩) ?_ ?_
            rotate_left
            ·intro w'
             go_simp
             with_reducible rfl
            rotate_left
            ·simp only [Act.put, List.setIfInBounds_toArray, List.set_cons_zero, List.set_cons_succ, i64_w, i32_w]
             rfl
            refine done_ (done_of HT_.out (by kernel_rfl)) ?_
            try go_wp2
            go_meet
            case rel => exact ⟨_, (!t148), (by first | rfl | (simp; done) | (simp [*]; done) | (simp [isE]; done)), H', ⟨by have := HJ1.out; have := HK2.out; first | omega | exact Nat.le_refl _⟩, ⟨lb BK142⟩, ⟨lb BK145⟩, ⟨bw⟩⟩
         case rest =>
          clear HC13
          try clear c1
          try clear p1
          try clear q1
          try clear hx1
          try clear c2
          try clear p2
          try clear c3
          try clear c14
          try clear p14
          try clear q14
          try clear hx14
          try clear c21
          try clear c21b0
          try clear c23
          try clear c24
          try clear c25
          try clear c25b0
          try clear c32
          try clear hx146_0
          try clear hx146_1
          try clear p146
          try clear q146
          obtain ⟨kq, x61_12, rfl, HA, HJ12, BK142, BK145, HB⟩ := hcut
          cases kq with
          | zero => exact absurd HA.out (by simp [spec_ValidStore.j2])
          | succ kj12 =>
           have H := HA.out
           clear HA
           simp only [spec_ValidStore.j2] at H
           by_cases c36 : x61_12 = true
           ·subst c36
            have H1 : (some false) = some r := by rw [if_pos rfl] at H; exact H
            clear H
            have H := H1
            clear H1
            obtain rfl := Option.some.inj H
            go_wp2
            go_ret
            exact ⟨by first | rfl | (simp [errW_none, errW_some] <;> rfl) | (simp [*, errW_none, errW_some] <;> rfl), bw⟩
           ·replace c36 := Bool.eq_false_iff.mpr c36
            subst c36
            have H1 : (spec_ValidStore.l1 kj12 (l0_0.length : Int) x4_2 0 l0_0 ((rd_T40 l0_0 x4_2).f0) ((rd_T40 l0_0 x4_2).f1)) = some r := by rw [if_neg (show ¬ (false = true) by decide)] at H; exact H
            clear H
            have H := H1
            clear H1
            have H' := Aside0.mk H
            clear H
            go_wp2
            go_loopg [6] kj12 (fun kq v6 w' => ∃ (x6_4 : Int), v6 = .int .i64 x6_4 ∧ Aside0 (spec_ValidStore.l1 kq (l0_0.length : Int) x4_2 x6_4 l0_0 ((rd_T40 l0_0 x4_2).f0) ((rd_T40 l0_0 x4_2).f1) = some r) ∧ Aside0 (kq ≤ kj12) ∧ Aside0 (w'.heap[gb142]? = some (.cells #[(.slice (some ad144) l0_0.length c0_0)] 28 (0, 0))) ∧ Aside0 (w'.heap[gb145]? = some (.cells #[.string ((rd_T40 l0_0 x4_2).f0), (.slice A144_1 ((rd_T40 l0_0 x4_2).f1).length c144_1)] 40 (0, 0))) ∧ Aside0 (Below w.heap.size w w'))
            case atStart => exact ⟨(0), (by first | rfl | (simp; done) | (simp [*]; done) | (simp [isE]; done)), H', ⟨Nat.le_refl _⟩, ⟨lb BK142⟩, ⟨lb BK145⟩, ⟨bw⟩⟩
            case round =>
             clear H'
             try clear c1
             try clear p1
             try clear q1
             try clear hx1
             try clear c2
             try clear p2
             try clear c3
             try clear c14
             try clear p14
             try clear q14
             try clear hx14
             try clear c21
             try clear c21b0
             try clear c23
             try clear c24
             try clear c25
             try clear c25b0
             try clear c32
             try clear c36
             try clear hx146_0
             try clear hx146_1
             try clear p1
             try clear p14
             try clear p146
             try clear p2
             try clear q1
             try clear q14
             try clear q146
             obtain ⟨x6_4, rfl, HA, HK4, BK142, BK145, HB⟩ := hrel
             cases gk with
             | zero => exact absurd HA.out (by simp [spec_ValidStore.l1])
             | succ k4 =>
              have H := HA.out
              clear HA
              simp only [spec_ValidStore.l1] at H
              by_cases c37 : x6_4 < (((rd_T40 l0_0 x4_2).f1).length : Int)
              ·rw [if_pos c37] at H
               have c37b0 : decide (x6_4 < (((rd_T40 l0_0 x4_2).f1).length : Int)) = true := decide_eq_true c37
               clear c37
               by_cases c38 : 0 ≤ x6_4
               ·rw [if_pos c38] at H
                have c38b0 : decide (0 ≤ x6_4) = true := decide_eq_true c38
                clear c38
                by_cases c39 : (((rd_T60 ((rd_T40 l0_0 x4_2).f1) x6_4).f0).length : Int) = 0
                ·rw [if_pos c39] at H
                 have c39b0 : ((((rd_T60 ((rd_T40 l0_0 x4_2).f1) x6_4).f0).length : Int) == 0) = true := beq_iff_eq.mpr c39
                 have c39b1 : ((((rd_T60 ((rd_T40 l0_0 x4_2).f1) x6_4).f0).length : Int) != 0) = false := bne_eq_false_iff_eq.mpr c39
                 clear c39
                 obtain rfl := Option.some.inj H
                 have hnb40 := NB145_142.out
                 have hnc40 := NB142_145.out
                 have hcz41_0 : wr.cell? ⟨gb145, 0, none⟩ = some (.string ((rd_T40 l0_0 x4_2).f0)) := (blk_cell BK145.out 0).trans rfl
                 have hcz41_1 : wr.cell? ⟨gb145, 1, none⟩ = some (.slice A144_1 ((rd_T40 l0_0 x4_2).f1).length c144_1) := (blk_cell BK145.out 1).trans rfl
                 have hfz41_0 := blk_frozen BK145.out 0
                 have hfz41_1 := blk_frozen BK145.out 1
                 have p149 : 0 ≤ (x6_4 : Int) := of_decide_eq_true (by first | (with_reducible assumption) | assumption)
                 have q149 : x6_4 < (((rd_T40 l0_0 x4_2).f1).length : Int) := of_decide_eq_true (by first | (with_reducible assumption) | assumption)
                 obtain ⟨ad149, A149_0, c149_0, e149, hx149_0, hl149_0, hi149_0⟩ := at_T60 HR144_1.out x6_4 p149 q149
                 cases e149
                 replace hx149_0 := (HB.out.cell (World.block_lt_of_cell? w _ hx149_0)).trans hx149_0
                 have HR149_0 := Aside0.mk hi149_0
                 have HC149_0 := Aside0.mk hl149_0
                 clear hi149_0 hl149_0
                 replace p149 := eq_true p149
                 replace q149 := eq_true q149
                 go_wp2
                 go_ret
                 exact ⟨by first | rfl | (simp [errW_none, errW_some] <;> rfl) | (simp [*, errW_none, errW_some] <;> rfl), bw⟩
                ·rw [if_neg c39] at H
                 have c39b0 : ((((rd_T60 ((rd_T40 l0_0 x4_2).f1) x6_4).f0).length : Int) == 0) = false := beq_eq_false_iff_ne.mpr c39
                 have c39b1 : ((((rd_T60 ((rd_T40 l0_0 x4_2).f1) x6_4).f0).length : Int) != 0) = true := bne_iff_ne.mpr c39
                 have c39b2 : ¬ (((rd_T60 ((rd_T40 l0_0 x4_2).f1) x6_4).f0) = []) := fun h_ => c39 (by rw [h_]; rfl)
                 have H' := Aside0.mk H
                 clear H
                 have hnb42 := NB145_142.out
                 have hnc42 := NB142_145.out
                 have hcz43_0 : wr.cell? ⟨gb145, 0, none⟩ = some (.string ((rd_T40 l0_0 x4_2).f0)) := (blk_cell BK145.out 0).trans rfl
                 have hcz43_1 : wr.cell? ⟨gb145, 1, none⟩ = some (.slice A144_1 ((rd_T40 l0_0 x4_2).f1).length c144_1) := (blk_cell BK145.out 1).trans rfl
                 have hfz43_0 := blk_frozen BK145.out 0
                 have hfz43_1 := blk_frozen BK145.out 1
                 have p149 : 0 ≤ (x6_4 : Int) := of_decide_eq_true (by first | (with_reducible assumption) | assumption)
                 have q149 : x6_4 < (((rd_T40 l0_0 x4_2).f1).length : Int) := of_decide_eq_true (by first | (with_reducible assumption) | assumption)
                 obtain ⟨ad149, A149_0, c149_0, e149, hx149_0, hl149_0, hi149_0⟩ := at_T60 HR144_1.out x6_4 p149 q149
                 cases e149
                 replace hx149_0 := (HB.out.cell (World.block_lt_of_cell? w _ hx149_0)).trans hx149_0
                 have HR149_0 := Aside0.mk hi149_0
                 have HC149_0 := Aside0.mk hl149_0
                 clear hi149_0 hl149_0
                 replace p149 := eq_true p149
                 replace q149 := eq_true q149
                 go_wp2
                 go_loopg [8] k4 (fun kq v8 w' => ∃ (x8_5 : Int), v8 = .int .i64 x8_5 ∧ Aside0 (spec_ValidStore.l2 kq (l0_0.length : Int) x4_2 x6_4 ((rd_T60 ((rd_T40 l0_0 x4_2).f1) x6_4).f0) x8_5 l0_0 ((rd_T40 l0_0 x4_2).f0) ((rd_T40 l0_0 x4_2).f1) = some r) ∧ Aside0 (kq ≤ k4) ∧ Aside0 (w'.heap[gb142]? = some (.cells #[(.slice (some ad144) l0_0.length c0_0)] 28 (0, 0))) ∧ Aside0 (w'.heap[gb145]? = some (.cells #[.string ((rd_T40 l0_0 x4_2).f0), (.slice (some ad149) ((rd_T40 l0_0 x4_2).f1).length c144_1)] 40 (0, 0))) ∧ Aside0 (Below w.heap.size w w'))
                 case atStart => exact ⟨(0), (by first | rfl | (simp; done) | (simp [*]; done) | (simp [isE]; done)), H', ⟨Nat.le_refl _⟩, ⟨lb BK142⟩, ⟨lb BK145⟩, ⟨bw⟩⟩
                 case round =>
                  clear H'
                  try clear c1
                  try clear p1
                  try clear q1
                  try clear hx1
                  try clear c2
                  try clear p2
                  try clear c3
                  try clear c4
                  try clear c14
                  try clear p14
                  try clear q14
                  try clear hx14
                  try clear c21
                  try clear c21b0
                  try clear c23
                  try clear c24
                  try clear c25
                  try clear c25b0
                  try clear c32
                  try clear c36
                  try clear c37
                  try clear c37b0
                  try clear c38
                  try clear c38b0
                  try clear c39
                  try clear c39b0
                  try clear c39b1
                  try clear c39b2
                  try clear c40
                  try clear c42
                  try clear hcz41_0
                  try clear hcz41_1
                  try clear hcz43_0
                  try clear hcz43_1
                  try clear hfz41_0
                  try clear hfz41_1
                  try clear hfz43_0
                  try clear hfz43_1
                  try clear hx146_0
                  try clear hx146_1
                  try clear hx149_0
                  try clear p1
                  try clear p14
                  try clear p146
                  try clear p149
                  try clear p2
                  try clear q1
                  try clear q14
                  try clear q146
                  try clear q149
                  obtain ⟨x8_5, rfl, HA, HK5, BK142, BK145, HB⟩ := hrel
                  cases gk with
                  | zero => exact absurd HA.out (by simp [spec_ValidStore.l2])
                  | succ k5 =>
                   have H := HA.out
                   clear HA
                   simp only [spec_ValidStore.l2] at H
                   by_cases c44 : x8_5 < (((rd_T60 ((rd_T40 l0_0 x4_2).f1) x6_4).f0).length : Int)
                   ·rw [if_pos c44] at H
                    have c44b0 : decide (x8_5 < (((rd_T60 ((rd_T40 l0_0 x4_2).f1) x6_4).f0).length : Int)) = true := decide_eq_true c44
                    clear c44
                    replace H := Option.bind_eq_some_iff.mp H
                    obtain ⟨⟨t150, t151, t152⟩, A450, H⟩ := H
                    replace H : (if 0 ≤ x8_5 then ((spec_InRange.f t150 t151 t152 ((rd_T65 ((rd_T60 ((rd_T40 l0_0 x4_2).f1) x6_4).f0) x8_5).f0)).bind fun t154 => (if t154 = true then (spec_ValidStore.l2 k5 (l0_0.length : Int) x4_2 x6_4 ((rd_T60 ((rd_T40 l0_0 x4_2).f1) x6_4).f0) (wrap64 (x8_5 + 1)) l0_0 ((rd_T40 l0_0 x4_2).f0) ((rd_T40 l0_0 x4_2).f1)) else (some false))) else (none)) = some r := H
                    have A45 := Aside0.mk A450
                    clear A450
                    by_cases c46 : 0 ≤ x8_5
                    ·rw [if_pos c46] at H
                     have c46b0 : decide (0 ≤ x8_5) = true := decide_eq_true c46
                     clear c46
                     replace H := Option.bind_eq_some_iff.mp H
                     obtain ⟨t154, A470, H⟩ := H
                     replace H : (if t154 = true then (spec_ValidStore.l2 k5 (l0_0.length : Int) x4_2 x6_4 ((rd_T60 ((rd_T40 l0_0 x4_2).f1) x6_4).f0) (wrap64 (x8_5 + 1)) l0_0 ((rd_T40 l0_0 x4_2).f0) ((rd_T40 l0_0 x4_2).f1)) else (some false)) = some r := H
                     have A47 := Aside0.mk A470
                     clear A470
                     by_cases c48 : t154 = true
                     ·subst c48
                      have H1 : (spec_ValidStore.l2 k5 (l0_0.length : Int) x4_2 x6_4 ((rd_T60 ((rd_T40 l0_0 x4_2).f1) x6_4).f0) (wrap64 (x8_5 + 1)) l0_0 ((rd_T40 l0_0 x4_2).f0) ((rd_T40 l0_0 x4_2).f1)) = some r := by rw [if_pos rfl] at H; exact H
                      clear H
                      have H := H1
                      clear H1
                      have H' := Aside0.mk H
                      clear H
                      try go_wp2
                      have n0_ := Aside0.mk (blk_drew BK142.out)
                      have n1_ := Aside0.mk (blk_drew BK145.out)
                      have n2_ := Aside0.mk (below_drew1 HB.out)
                      clear BK142
                      clear BK145
                      clear HB
                      have BK142 := n0_
                      have BK145 := n1_
                      have HB := n2_
                      clear n0_ n1_ n2_
                      have p153 : 0 ≤ (x8_5 : Int) := of_decide_eq_true (by first | (with_reducible assumption) | assumption)
                      have q153 : x8_5 < (((rd_T60 ((rd_T40 l0_0 x4_2).f1) x6_4).f0).length : Int) := of_decide_eq_true (by first | (with_reducible assumption) | assumption)
                      obtain ⟨ad153, e153, hx153_0, hx153_1, hx153_2, hx153_3, hx153_4, hx153_5⟩ := at_T65 HR149_0.out x8_5 p153 q153
                      have hw153_5 := hx153_5
                      have hw153_4 := hx153_4
                      have hw153_3 := hx153_3
                      have hw153_2 := hx153_2
                      have hw153_1 := hx153_1
                      have hw153_0 := hx153_0
                      cases e153
                      replace hx153_0 := (HB.out.cell (World.block_lt_of_cell? w _ hx153_0)).trans hx153_0
                      replace hx153_1 := (HB.out.cell (World.block_lt_of_cell? w _ hx153_1)).trans hx153_1
                      replace hx153_2 := (HB.out.cell (World.block_lt_of_cell? w _ hx153_2)).trans hx153_2
                      replace hx153_3 := (HB.out.cell (World.block_lt_of_cell? w _ hx153_3)).trans hx153_3
                      replace hx153_4 := (HB.out.cell (World.block_lt_of_cell? w _ hx153_4)).trans hx153_4
                      replace hx153_5 := (HB.out.cell (World.block_lt_of_cell? w _ hx153_5)).trans hx153_5
                      replace p153 := eq_true p153
                      replace q153 := eq_true q153
                      refine start_ (n := 10) (S := fun w' => w'.cell? ⟨gb142, 0, none⟩ = some (.slice (some ad144) l0_0.length c0_0) ∧ w'.cell? (ad153.add ((x8_5).toNat * 6)) = some (.string ((rd_T65 ((rd_T60 ((rd_T40 l0_0 x4_2).f1) x6_4).f0) x8_5).f0)) ∧ w'.cell? ⟨(ad153.add ((x8_5).toNat * 6)).block, (ad153.add ((x8_5).toNat * 6)).off + 1, none⟩ = some (.string ((rd_T65 ((rd_T60 ((rd_T40 l0_0 x4_2).f1) x6_4).f0) x8_5).f1)) ∧ w'.cell? ⟨(ad153.add ((x8_5).toNat * 6)).block, (ad153.add ((x8_5).toNat * 6)).off + 2, none⟩ = some (.string ((rd_T65 ((rd_T60 ((rd_T40 l0_0 x4_2).f1) x6_4).f0) x8_5).f2)) ∧ w'.cell? ⟨(ad153.add ((x8_5).toNat * 6)).block, (ad153.add ((x8_5).toNat * 6)).off + 3, none⟩ = some (.int .u64 ((rd_T65 ((rd_T60 ((rd_T40 l0_0 x4_2).f1) x6_4).f0) x8_5).f3)) ∧ w'.cell? ⟨(ad153.add ((x8_5).toNat * 6)).block, (ad153.add ((x8_5).toNat * 6)).off + 4, none⟩ = some (.int .i64 ((rd_T65 ((rd_T60 ((rd_T40 l0_0 x4_2).f1) x6_4).f0) x8_5).f4)) ∧ w'.cell? ⟨(ad153.add ((x8_5).toNat * 6)).block, (ad153.add ((x8_5).toNat * 6)).off + 5, none⟩ = some (.string ((rd_T65 ((rd_T60 ((rd_T40 l0_0 x4_2).f1) x6_4).f0) x8_5).f5))) (ds := []) #[false, false, false, false, false, false, false, false, false, false] (by kernel_rfl) rfl rfl ⟨(blk_cell BK142.out 0).trans rfl, ((HB.out.cell (World.block_lt_of_cell? w _ hw153_0)).trans hw153_0), ((HB.out.cell (World.block_lt_of_cell? w _ hw153_1)).trans hw153_1), ((HB.out.cell (World.block_lt_of_cell? w _ hw153_2)).trans hw153_2), ((HB.out.cell (World.block_lt_of_cell? w _ hw153_3)).trans hw153_3), ((HB.out.cell (World.block_lt_of_cell? w _ hw153_4)).trans hw153_4), ((HB.out.cell (World.block_lt_of_cell? w _ hw153_5)).trans hw153_5)⟩ (fun hHeld => ?_); refine with_tabW spec_ValidStore.tab19 spec_ValidStore.bits19 (fun HT_ HW_ => ?_)
                      generalize wr.drew = w49 at BK142 BK145 HB hx153_0 hx153_1 hx153_2 hx153_3 hx153_4 hx153_5 hHeld ⊢
                      refine pure_ (i := 1) (N := some 85) (v := ?_) (a' := ?_) #[false, true, false, false, false, false, false, false, false, false] rfl rfl (any_of HT_.out (by kernel_rfl)) (fun _ _ _ h => h) (Or.inl ⟨by rfl, ?_⟩) ?_ ?_
                      rotate_left
                      ·intro w'
                       go_simp
                       with_reducible rfl
                      rotate_left
                      ·simp only [Act.put, List.setIfInBounds_toArray, List.set_cons_zero, List.set_cons_succ, i64_w, i32_w]
                       rfl
                      refine pure_ (i := 3) (N := some 87) (v := ?_) (a' := ?_) #[false, true, false, true, false, false, false, false, false, false] rfl rfl (any_of HT_.out (by kernel_rfl)) (fun _ _ _ h => h) (Or.inl ⟨by rfl, ?_⟩) ?_ ?_
                      rotate_left
                      ·intro w'
                       go_simp
                       with_reducible rfl
                      rotate_left
                      ·simp only [Act.put, List.setIfInBounds_toArray, List.set_cons_zero, List.set_cons_succ, i64_w, i32_w]
                       rfl
                      refine pure_ (i := 4) (N := some 88) (v := ?_) (a' := ?_) #[false, true, false, true, true, false, false, false, false, false] rfl rfl (any_of HT_.out (by kernel_rfl)) (fun _ _ _ h => h) (Or.inl ⟨by rfl, ?_⟩) ?_ ?_
                      rotate_left
                      ·intro w'
                       go_simp
                       with_reducible rfl
                      rotate_left
                      ·simp only [Act.put, List.setIfInBounds_toArray, List.set_cons_zero, List.set_cons_succ, i64_w, i32_w]
                       rfl
                      refine pure_ (i := 5) (N := some 89) (v := ?_) (a' := ?_) #[false, true, false, true, true, true, false, false, false, false] rfl rfl (any_of HT_.out (by kernel_rfl)) (fun _ _ _ h => h) (Or.inl ⟨by rfl, ?_⟩) ?_ ?_
                      rotate_left
                      ·intro w'
                       go_simp
                       with_reducible rfl
                      rotate_left
                      ·simp only [Act.put, List.setIfInBounds_toArray, List.set_cons_zero, List.set_cons_succ, i64_w, i32_w]
                       rfl
                      refine pure_ (i := 6) (N := some 90) (v := ?_) (a' := ?_) #[false, true, false, true, true, true, true, false, false, false] rfl rfl (any_of HT_.out (by kernel_rfl)) (fun _ _ _ h => h) (Or.inl ⟨by rfl, ?_⟩) ?_ ?_
                      rotate_left
                      ·intro w'
                       go_simp
                       with_reducible rfl
                      rotate_left
                      ·simp only [Act.put, List.setIfInBounds_toArray, List.set_cons_zero, List.set_cons_succ, i64_w, i32_w]
                       rfl
                      refine take_ (i := 0) (N := some 84) (v := ?_) (a' := ?_) #[true, true, false, true, true, true, true, false, false, false] rfl rfl (take_ofW HT_.out HW_.out (by kernel_rfl)) (fun _ _ _ h => h) (Or.inl ⟨by rfl, ?_⟩) hHeld ?_ ?_
                      rotate_left
                      ·rintro w' ⟨s0, s1, s2, s3, s4, s5, s6⟩
                       go_simp
                       with_reducible rfl
                      rotate_left
                      ·simp only [Act.put, List.setIfInBounds_toArray, List.set_cons_zero, List.set_cons_succ, i64_w, i32_w]
                       rfl
                      refine take_ (i := 7) (N := some 91) (v := ?_) (a' := ?_) #[true, true, false, true, true, true, true, true, false, false] rfl rfl (take_ofW HT_.out HW_.out (by kernel_rfl)) (fun _ _ _ h => h) (Or.inl ⟨by rfl, ?_⟩) hHeld ?_ ?_
                      rotate_left
                      ·rintro w' ⟨s0, s1, s2, s3, s4, s5, s6⟩
                       go_simp
                       with_reducible rfl
                      rotate_left
                      ·simp only [Act.put, List.setIfInBounds_toArray, List.set_cons_zero, List.set_cons_succ, i64_w, i32_w]
                       rfl
                      refine one_ (i := 2) (N := some 86) #[true, true, true, true, true, true, true, true, false, false] rfl rfl (one_of HT_.out (by kernel_rfl)) (by decide) (fun K hK => ?_)
                      refine goes_ Try.func34 (by kernel_rfl) rfl #[.agg #[.slice (some ad144) l0_0.length c0_0], .int .i64 x4_2] (by rfl) rfl rfl (by (try simp only [List.map_toArray, List.map_cons, List.map_nil]); first | done | rfl | (simp only [List.length_drop, List.length_take]; rfl)) ?_
                      with_reducible refine (spec_l7Range.calls _ _ l0_0 x4_2 t150 t151 t152 _ ?side1 ?side2 A45.out).mono ?_
                      (case side1 => repeat (first | exact (Kd.C_below HR0_0.out HB.out) | (with_reducible refine Kd.C_alloc ?_ _) | (with_reducible refine Kd.C_drewN ?_ _) | (with_reducible refine Kd.C_drew ?_)))
                      (case side2 => exact HC0_0.out)
                      rintro e w50 ⟨rfl, hb⟩
                      refine ⟨_, rfl, ?_⟩
                      have n0_ := Aside0.mk (blk_below (g := gb142) (o := .cells #[.slice (some ad144) l0_0.length c0_0] 28 (0, 0)) (lb BK142) hb)
                      have n1_ := Aside0.mk (blk_below (g := gb145) (o := .cells #[.string ((rd_T40 l0_0 x4_2).f0), .slice (some ad149) ((rd_T40 l0_0 x4_2).f1).length c144_1] 40 (0, 0)) (lb BK145) hb)
                      have n2_ := Aside0.mk (below_step bw hb)
                      clear BK142
                      clear BK145
                      clear HB
                      have BK142 := n0_
                      have BK145 := n1_
                      have HB := n2_
                      clear n0_ n1_ n2_
                      (try clear hb)
                      (try clear hb2)
                      (try clear hk)
                      (try clear hi)
                      refine hK.out _ _ ⟨(blk_cell BK142.out 0).trans rfl, ((HB.out.cell (World.block_lt_of_cell? w _ hw153_0)).trans hw153_0), ((HB.out.cell (World.block_lt_of_cell? w _ hw153_1)).trans hw153_1), ((HB.out.cell (World.block_lt_of_cell? w _ hw153_2)).trans hw153_2), ((HB.out.cell (World.block_lt_of_cell? w _ hw153_3)).trans hw153_3), ((HB.out.cell (World.block_lt_of_cell? w _ hw153_4)).trans hw153_4), ((HB.out.cell (World.block_lt_of_cell? w _ hw153_5)).trans hw153_5)⟩ (fun hHeld => ?_)
                      clear hK K
                      refine norm_ (a' := ?_) ?_ ?_
                      rotate_left
                      ·show Act.put _ (some 86) _ = _
                       simp only [Act.put, List.setIfInBounds_toArray, List.set_cons_zero, List.set_cons_succ, i64_w, i32_w]
                       rfl
                      refine one_ (i := 8) (N := some 92) #[true, true, true, true, true, true, true, true, true, false] rfl rfl (one_of HT_.out (by kernel_rfl)) (by decide) (fun K hK => ?_)
                      refine goes_ Try.func33 (by kernel_rfl) rfl #[.agg #[.string t150, .bool t151, .string t152], .string ((rd_T65 ((rd_T60 ((rd_T40 l0_0 x4_2).f1) x6_4).f0) x8_5).f0)] (by rfl) rfl rfl (by (try simp only [List.map_toArray, List.map_cons, List.map_nil]); first | done | rfl | (simp only [List.length_drop, List.length_take]; rfl)) ?_
                      with_reducible refine (spec_InRange.calls t150 t151 t152 ((rd_T65 ((rd_T60 ((rd_T40 l0_0 x4_2).f1) x6_4).f0) x8_5).f0) true _ A47.out).mono ?_
                      rintro e w51 ⟨rfl, hb⟩
                      refine ⟨_, rfl, ?_⟩
                      have n0_ := Aside0.mk (blk_below (g := gb142) (o := .cells #[.slice (some ad144) l0_0.length c0_0] 28 (0, 0)) (lb BK142) hb)
                      have n1_ := Aside0.mk (blk_below (g := gb145) (o := .cells #[.string ((rd_T40 l0_0 x4_2).f0), .slice (some ad149) ((rd_T40 l0_0 x4_2).f1).length c144_1] 40 (0, 0)) (lb BK145) hb)
                      have n2_ := Aside0.mk (below_step bw hb)
                      clear BK142
                      clear BK145
                      clear HB
                      have BK142 := n0_
                      have BK145 := n1_
                      have HB := n2_
                      clear n0_ n1_ n2_
                      (try clear hb)
                      (try clear hb2)
                      (try clear hk)
                      (try clear hi)
                      refine hK.out _ _ ⟨(blk_cell BK142.out 0).trans rfl, ((HB.out.cell (World.block_lt_of_cell? w _ hw153_0)).trans hw153_0), ((HB.out.cell (World.block_lt_of_cell? w _ hw153_1)).trans hw153_1), ((HB.out.cell (World.block_lt_of_cell? w _ hw153_2)).trans hw153_2), ((HB.out.cell (World.block_lt_of_cell? w _ hw153_3)).trans hw153_3), ((HB.out.cell (World.block_lt_of_cell? w _ hw153_4)).trans hw153_4), ((HB.out.cell (World.block_lt_of_cell? w _ hw153_5)).trans hw153_5)⟩ (fun hHeld => ?_)
                      clear hK K
                      refine norm_ (a' := ?_) ?_ ?_
                      rotate_left
                      ·show Act.put _ (some 92) _ = _
                       simp only [Act.put, List.setIfInBounds_toArray, List.set_cons_zero, List.set_cons_succ, i64_w, i32_w]
                       rfl
                      refine pure_ (i := 9) (N := some 93) (v := ?_) (a' := ?_) #[true, true, true, true, true, true, true, true, true, true] rfl rfl (any_of HT_.out (by kernel_rfl)) (fun _ _ _ h => h) (Or.inl ⟨by rfl, ?_⟩) ?_ ?_
                      rotate_left
                      ·intro w'
                       go_simp
                       with_reducible rfl
                      rotate_left
                      ·simp only [Act.put, List.setIfInBounds_toArray, List.set_cons_zero, List.set_cons_succ, i64_w, i32_w]
                       rfl
                      refine done_ (done_of HT_.out (by kernel_rfl)) ?_
                      try go_wp2
                      go_roundg k5
                      case measure => have := HJ1.out; have := HK2.out; have := HJ12.out; have := HK4.out; have := HK5.out; omega
                      case rel => exact ⟨(wrap64 (x8_5 + 1)), (by first | rfl | (simp; done) | (simp [*]; done) | (simp [isE]; done)), H', ⟨by have := HJ1.out; have := HK2.out; have := HJ12.out; have := HK4.out; have := HK5.out; omega⟩, ⟨lb BK142⟩, ⟨lb BK145⟩, ⟨bw⟩⟩
                     ·replace c48 := Bool.eq_false_iff.mpr c48
                      subst c48
                      have H1 : (some false) = some r := by rw [if_neg (show ¬ (false = true) by decide)] at H; exact H
                      clear H
                      have H := H1
                      clear H1
                      obtain rfl := Option.some.inj H
                      try go_wp2
                      have n0_ := Aside0.mk (blk_drew BK142.out)
                      have n1_ := Aside0.mk (blk_drew BK145.out)
                      have n2_ := Aside0.mk (below_drew1 HB.out)
                      clear BK142
                      clear BK145
                      clear HB
                      have BK142 := n0_
                      have BK145 := n1_
                      have HB := n2_
                      clear n0_ n1_ n2_
                      have p153 : 0 ≤ (x8_5 : Int) := of_decide_eq_true (by first | (with_reducible assumption) | assumption)
                      have q153 : x8_5 < (((rd_T60 ((rd_T40 l0_0 x4_2).f1) x6_4).f0).length : Int) := of_decide_eq_true (by first | (with_reducible assumption) | assumption)
                      obtain ⟨ad153, e153, hx153_0, hx153_1, hx153_2, hx153_3, hx153_4, hx153_5⟩ := at_T65 HR149_0.out x8_5 p153 q153
                      have hw153_5 := hx153_5
                      have hw153_4 := hx153_4
                      have hw153_3 := hx153_3
                      have hw153_2 := hx153_2
                      have hw153_1 := hx153_1
                      have hw153_0 := hx153_0
                      cases e153
                      replace hx153_0 := (HB.out.cell (World.block_lt_of_cell? w _ hx153_0)).trans hx153_0
                      replace hx153_1 := (HB.out.cell (World.block_lt_of_cell? w _ hx153_1)).trans hx153_1
                      replace hx153_2 := (HB.out.cell (World.block_lt_of_cell? w _ hx153_2)).trans hx153_2
                      replace hx153_3 := (HB.out.cell (World.block_lt_of_cell? w _ hx153_3)).trans hx153_3
                      replace hx153_4 := (HB.out.cell (World.block_lt_of_cell? w _ hx153_4)).trans hx153_4
                      replace hx153_5 := (HB.out.cell (World.block_lt_of_cell? w _ hx153_5)).trans hx153_5
                      replace p153 := eq_true p153
                      replace q153 := eq_true q153
                      refine start_ (n := 10) (S := fun w' => w'.cell? ⟨gb142, 0, none⟩ = some (.slice (some ad144) l0_0.length c0_0) ∧ w'.cell? (ad153.add ((x8_5).toNat * 6)) = some (.string ((rd_T65 ((rd_T60 ((rd_T40 l0_0 x4_2).f1) x6_4).f0) x8_5).f0)) ∧ w'.cell? ⟨(ad153.add ((x8_5).toNat * 6)).block, (ad153.add ((x8_5).toNat * 6)).off + 1, none⟩ = some (.string ((rd_T65 ((rd_T60 ((rd_T40 l0_0 x4_2).f1) x6_4).f0) x8_5).f1)) ∧ w'.cell? ⟨(ad153.add ((x8_5).toNat * 6)).block, (ad153.add ((x8_5).toNat * 6)).off + 2, none⟩ = some (.string ((rd_T65 ((rd_T60 ((rd_T40 l0_0 x4_2).f1) x6_4).f0) x8_5).f2)) ∧ w'.cell? ⟨(ad153.add ((x8_5).toNat * 6)).block, (ad153.add ((x8_5).toNat * 6)).off + 3, none⟩ = some (.int .u64 ((rd_T65 ((rd_T60 ((rd_T40 l0_0 x4_2).f1) x6_4).f0) x8_5).f3)) ∧ w'.cell? ⟨(ad153.add ((x8_5).toNat * 6)).block, (ad153.add ((x8_5).toNat * 6)).off + 4, none⟩ = some (.int .i64 ((rd_T65 ((rd_T60 ((rd_T40 l0_0 x4_2).f1) x6_4).f0) x8_5).f4)) ∧ w'.cell? ⟨(ad153.add ((x8_5).toNat * 6)).block, (ad153.add ((x8_5).toNat * 6)).off + 5, none⟩ = some (.string ((rd_T65 ((rd_T60 ((rd_T40 l0_0 x4_2).f1) x6_4).f0) x8_5).f5))) (ds := []) #[false, false, false, false, false, false, false, false, false, false] (by kernel_rfl) rfl rfl ⟨(blk_cell BK142.out 0).trans rfl, ((HB.out.cell (World.block_lt_of_cell? w _ hw153_0)).trans hw153_0), ((HB.out.cell (World.block_lt_of_cell? w _ hw153_1)).trans hw153_1), ((HB.out.cell (World.block_lt_of_cell? w _ hw153_2)).trans hw153_2), ((HB.out.cell (World.block_lt_of_cell? w _ hw153_3)).trans hw153_3), ((HB.out.cell (World.block_lt_of_cell? w _ hw153_4)).trans hw153_4), ((HB.out.cell (World.block_lt_of_cell? w _ hw153_5)).trans hw153_5)⟩ (fun hHeld => ?_); refine with_tabW spec_ValidStore.tab19 spec_ValidStore.bits19 (fun HT_ HW_ => ?_)
                      generalize wr.drew = w52 at BK142 BK145 HB hx153_0 hx153_1 hx153_2 hx153_3 hx153_4 hx153_5 hHeld ⊢
                      refine pure_ (i := 1) (N := some 85) (v := ?_) (a' := ?_) #[false, true, false, false, false, false, false, false, false, false] rfl rfl (any_of HT_.out (by kernel_rfl)) (fun _ _ _ h => h) (Or.inl ⟨by rfl, ?_⟩) ?_ ?_
                      rotate_left
                      ·intro w'
                       go_simp
                       with_reducible rfl
                      rotate_left
                      ·simp only [Act.put, List.setIfInBounds_toArray, List.set_cons_zero, List.set_cons_succ, i64_w, i32_w]
                       rfl
                      refine pure_ (i := 3) (N := some 87) (v := ?_) (a' := ?_) #[false, true, false, true, false, false, false, false, false, false] rfl rfl (any_of HT_.out (by kernel_rfl)) (fun _ _ _ h => h) (Or.inl ⟨by rfl, ?_⟩) ?_ ?_
                      rotate_left
                      ·intro w'
                       go_simp
                       with_reducible rfl
                      rotate_left
                      ·simp only [Act.put, List.setIfInBounds_toArray, List.set_cons_zero, List.set_cons_succ, i64_w, i32_w]
                       rfl
                      refine pure_ (i := 4) (N := some 88) (v := ?_) (a' := ?_) #[false, true, false, true, true, false, false, false, false, false] rfl rfl (any_of HT_.out (by kernel_rfl)) (fun _ _ _ h => h) (Or.inl ⟨by rfl, ?_⟩) ?_ ?_
                      rotate_left
                      ·intro w'
                       go_simp
                       with_reducible rfl
                      rotate_left
                      ·simp only [Act.put, List.setIfInBounds_toArray, List.set_cons_zero, List.set_cons_succ, i64_w, i32_w]
                       rfl
                      refine pure_ (i := 5) (N := some 89) (v := ?_) (a' := ?_) #[false, true, false, true, true, true, false, false, false, false] rfl rfl (any_of HT_.out (by kernel_rfl)) (fun _ _ _ h => h) (Or.inl ⟨by rfl, ?_⟩) ?_ ?_
                      rotate_left
                      ·intro w'
                       go_simp
                       with_reducible rfl
                      rotate_left
                      ·simp only [Act.put, List.setIfInBounds_toArray, List.set_cons_zero, List.set_cons_succ, i64_w, i32_w]
                       rfl
                      refine pure_ (i := 6) (N := some 90) (v := ?_) (a' := ?_) #[false, true, false, true, true, true, true, false, false, false] rfl rfl (any_of HT_.out (by kernel_rfl)) (fun _ _ _ h => h) (Or.inl ⟨by rfl, ?_⟩) ?_ ?_
                      rotate_left
                      ·intro w'
                       go_simp
                       with_reducible rfl
                      rotate_left
                      ·simp only [Act.put, List.setIfInBounds_toArray, List.set_cons_zero, List.set_cons_succ, i64_w, i32_w]
                       rfl
                      refine take_ (i := 0) (N := some 84) (v := ?_) (a' := ?_) #[true, true, false, true, true, true, true, false, false, false] rfl rfl (take_ofW HT_.out HW_.out (by kernel_rfl)) (fun _ _ _ h => h) (Or.inl ⟨by rfl, ?_⟩) hHeld ?_ ?_
                      rotate_left
                      ·rintro w' ⟨s0, s1, s2, s3, s4, s5, s6⟩
                       go_simp
                       with_reducible rfl
                      rotate_left
                      ·simp only [Act.put, List.setIfInBounds_toArray, List.set_cons_zero, List.set_cons_succ, i64_w, i32_w]
                       rfl
                      refine take_ (i := 7) (N := some 91) (v := ?_) (a' := ?_) #[true, true, false, true, true, true, true, true, false, false] rfl rfl (take_ofW HT_.out HW_.out (by kernel_rfl)) (fun _ _ _ h => h) (Or.inl ⟨by rfl, ?_⟩) hHeld ?_ ?_
                      rotate_left
                      ·rintro w' ⟨s0, s1, s2, s3, s4, s5, s6⟩
                       go_simp
                       with_reducible rfl
                      rotate_left
                      ·simp only [Act.put, List.setIfInBounds_toArray, List.set_cons_zero, List.set_cons_succ, i64_w, i32_w]
                       rfl
                      refine one_ (i := 2) (N := some 86) #[true, true, true, true, true, true, true, true, false, false] rfl rfl (one_of HT_.out (by kernel_rfl)) (by decide) (fun K hK => ?_)
                      refine goes_ Try.func34 (by kernel_rfl) rfl #[.agg #[.slice (some ad144) l0_0.length c0_0], .int .i64 x4_2] (by rfl) rfl rfl (by (try simp only [List.map_toArray, List.map_cons, List.map_nil]); first | done | rfl | (simp only [List.length_drop, List.length_take]; rfl)) ?_
                      with_reducible refine (spec_l7Range.calls _ _ l0_0 x4_2 t150 t151 t152 _ ?side1 ?side2 A45.out).mono ?_
                      (case side1 => repeat (first | exact (Kd.C_below HR0_0.out HB.out) | (with_reducible refine Kd.C_alloc ?_ _) | (with_reducible refine Kd.C_drewN ?_ _) | (with_reducible refine Kd.C_drew ?_)))
                      (case side2 => exact HC0_0.out)
                      rintro e w53 ⟨rfl, hb⟩
                      refine ⟨_, rfl, ?_⟩
                      have n0_ := Aside0.mk (blk_below (g := gb142) (o := .cells #[.slice (some ad144) l0_0.length c0_0] 28 (0, 0)) (lb BK142) hb)
                      have n1_ := Aside0.mk (blk_below (g := gb145) (o := .cells #[.string ((rd_T40 l0_0 x4_2).f0), .slice (some ad149) ((rd_T40 l0_0 x4_2).f1).length c144_1] 40 (0, 0)) (lb BK145) hb)
                      have n2_ := Aside0.mk (below_step bw hb)
                      clear BK142
                      clear BK145
                      clear HB
                      have BK142 := n0_
                      have BK145 := n1_
                      have HB := n2_
                      clear n0_ n1_ n2_
                      (try clear hb)
                      (try clear hb2)
                      (try clear hk)
                      (try clear hi)
                      refine hK.out _ _ ⟨(blk_cell BK142.out 0).trans rfl, ((HB.out.cell (World.block_lt_of_cell? w _ hw153_0)).trans hw153_0), ((HB.out.cell (World.block_lt_of_cell? w _ hw153_1)).trans hw153_1), ((HB.out.cell (World.block_lt_of_cell? w _ hw153_2)).trans hw153_2), ((HB.out.cell (World.block_lt_of_cell? w _ hw153_3)).trans hw153_3), ((HB.out.cell (World.block_lt_of_cell? w _ hw153_4)).trans hw153_4), ((HB.out.cell (World.block_lt_of_cell? w _ hw153_5)).trans hw153_5)⟩ (fun hHeld => ?_)
                      clear hK K
                      refine norm_ (a' := ?_) ?_ ?_
                      rotate_left
                      ·show Act.put _ (some 86) _ = _
                       simp only [Act.put, List.setIfInBounds_toArray, List.set_cons_zero, List.set_cons_succ, i64_w, i32_w]
                       rfl
                      refine one_ (i := 8) (N := some 92) #[true, true, true, true, true, true, true, true, true, false] rfl rfl (one_of HT_.out (by kernel_rfl)) (by decide) (fun K hK => ?_)
                      refine goes_ Try.func33 (by kernel_rfl) rfl #[.agg #[.string t150, .bool t151, .string t152], .string ((rd_T65 ((rd_T60 ((rd_T40 l0_0 x4_2).f1) x6_4).f0) x8_5).f0)] (by rfl) rfl rfl (by (try simp only [List.map_toArray, List.map_cons, List.map_nil]); first | done | rfl | (simp only [List.length_drop, List.length_take]; rfl)) ?_
                      with_reducible refine (spec_InRange.calls t150 t151 t152 ((rd_T65 ((rd_T60 ((rd_T40 l0_0 x4_2).f1) x6_4).f0) x8_5).f0) false _ A47.out).mono ?_
                      rintro e w54 ⟨rfl, hb⟩
                      refine ⟨_, rfl, ?_⟩
                      have n0_ := Aside0.mk (blk_below (g := gb142) (o := .cells #[.slice (some ad144) l0_0.length c0_0] 28 (0, 0)) (lb BK142) hb)
                      have n1_ := Aside0.mk (blk_below (g := gb145) (o := .cells #[.string ((rd_T40 l0_0 x4_2).f0), .slice (some ad149) ((rd_T40 l0_0 x4_2).f1).length c144_1] 40 (0, 0)) (lb BK145) hb)
                      have n2_ := Aside0.mk (below_step bw hb)
                      clear BK142
                      clear BK145
                      clear HB
                      have BK142 := n0_
                      have BK145 := n1_
                      have HB := n2_
                      clear n0_ n1_ n2_
                      (try clear hb)
                      (try clear hb2)
                      (try clear hk)
                      (try clear hi)
                      refine hK.out _ _ ⟨(blk_cell BK142.out 0).trans rfl, ((HB.out.cell (World.block_lt_of_cell? w _ hw153_0)).trans hw153_0), ((HB.out.cell (World.block_lt_of_cell? w _ hw153_1)).trans hw153_1), ((HB.out.cell (World.block_lt_of_cell? w _ hw153_2)).trans hw153_2), ((HB.out.cell (World.block_lt_of_cell? w _ hw153_3)).trans hw153_3), ((HB.out.cell (World.block_lt_of_cell? w _ hw153_4)).trans hw153_4), ((HB.out.cell (World.block_lt_of_cell? w _ hw153_5)).trans hw153_5)⟩ (fun hHeld => ?_)
                      clear hK K
                      refine norm_ (a' := ?_) ?_ ?_
                      rotate_left
                      ·show Act.put _ (some 92) _ = _
                       simp only [Act.put, List.setIfInBounds_toArray, List.set_cons_zero, List.set_cons_succ, i64_w, i32_w]
                       rfl
                      refine pure_ (i := 9) (N := some 93) (v := ?_) (a' := ?_) #[true, true, true, true, true, true, true, true, true, true] rfl rfl (any_of HT_.out (by kernel_rfl)) (fun _ _ _ h => h) (Or.inl ⟨by rfl, ?_⟩) ?_ ?_
                      rotate_left
                      ·intro w'
                       go_simp
                       with_reducible rfl
                      rotate_left
                      ·simp only [Act.put, List.setIfInBounds_toArray, List.set_cons_zero, List.set_cons_succ, i64_w, i32_w]
                       rfl
                      refine done_ (done_of HT_.out (by kernel_rfl)) ?_
                      try go_wp2
                      go_ret
                      exact ⟨by first | rfl | (simp [errW_none, errW_some] <;> rfl) | (simp [*, errW_none, errW_some] <;> rfl), bw⟩
                    ·rw [if_neg c46] at H
                     exact absurd H (by simp)
                   ·rw [if_neg c44] at H
                    have c44b0 : decide (x8_5 < (((rd_T60 ((rd_T40 l0_0 x4_2).f1) x6_4).f0).length : Int)) = false := decide_eq_false c44
                    clear c44
                    have H' := Aside0.mk H
                    clear H
                    go_wp2
                    go_roundg k5
                    case measure => have := HJ1.out; have := HK2.out; have := HJ12.out; have := HK4.out; have := HK5.out; omega
                    case rel => exact ⟨(wrap64 (x6_4 + 1)), (by first | rfl | (simp; done) | (simp [*]; done) | (simp [isE]; done)), H', ⟨by have := HJ1.out; have := HK2.out; have := HJ12.out; have := HK4.out; have := HK5.out; omega⟩, ⟨lb BK142⟩, ⟨lb BK145⟩, ⟨bw⟩⟩
               ·rw [if_neg c38] at H
                exact absurd H (by simp)
              ·rw [if_neg c37] at H
               have c37b0 : decide (x6_4 < (((rd_T40 l0_0 x4_2).f1).length : Int)) = false := decide_eq_false c37
               clear c37
               have H' := Aside0.mk H
               clear H
               have hnb55 := NB145_142.out
               have hnc55 := NB142_145.out
               have hcz56_0 : wr.cell? ⟨gb145, 0, none⟩ = some (.string ((rd_T40 l0_0 x4_2).f0)) := (blk_cell BK145.out 0).trans rfl
               have hcz56_1 : wr.cell? ⟨gb145, 1, none⟩ = some (.slice A144_1 ((rd_T40 l0_0 x4_2).f1).length c144_1) := (blk_cell BK145.out 1).trans rfl
               have hfz56_0 := blk_frozen BK145.out 0
               have hfz56_1 := blk_frozen BK145.out 1
               go_wp2
               go_roundg k4
               case measure => have := HJ1.out; have := HK2.out; have := HJ12.out; have := HK4.out; omega
               case rel => exact ⟨(wrap64 (x4_2 + 1)), (by first | rfl | (simp; done) | (simp [*]; done) | (simp [isE]; done)), H', ⟨by have := HJ1.out; have := HK2.out; have := HJ12.out; have := HK4.out; omega⟩, ⟨lb BK142⟩, ⟨bw⟩⟩
        ·rw [if_neg c12] at H
         exact absurd H (by simp)
       ·rw [if_neg c11] at H
        exact absurd H (by simp)
      ·rw [if_neg c10] at H
       have c10b0 : decide (x4_2 < (l0_0.length : Int)) = false := decide_eq_false c10
       clear c10
       obtain rfl := Option.some.inj H
       go_wp2
       go_ret
       exact ⟨by first | rfl | (simp [errW_none, errW_some] <;> rfl) | (simp [*, errW_none, errW_some] <;> rfl), bw⟩

end Go.Proofs.Ytjlggfdmfchncaa.Q

namespace Go.Proofs.Ytjlggfdmfchncaa.Q
open Go.RowKit Go.Proofs.YtjlggfdmfchncaaW.PrintWords Go.Proofs.YtjlggfdmfchncaaW.PrintLast
set_option linter.unusedVariables false
set_option linter.unusedSimpArgs false
/-! rows in order -/
theorem cmp_rows {a b : IE} (h : cmpE a b = -1) : Op.bytesLess b.f0.toList a.f0.toList = false := by
  cases e : Op.bytesLess b.f0.toList a.f0.toList with
  | false => rfl
  | true =>
    exfalso
    have h1 : scmp a.f0 b.f0 = 1 := by unfold scmp; rw [if_neg (by rw [less_asymm e]; simp), if_pos e]
    unfold cmpE cmpK at h
    rw [h1] at h
    simp [fst0] at h
theorem vfrom_cons {p e : IE} {es : List IE} (h : vfrom p (e :: es) = true) : Op.bytesLess e.f0.toList p.f0.toList = false ∧ vfrom e es = true := by
  simp only [vfrom, nextOk, Bool.and_eq_true, decide_eq_true_eq] at h
  exact ⟨cmp_rows h.1.2.1, h.2⟩
theorem rows_lo : ∀ (es : List IE) (p : IE), vfrom p es = true → ∀ e ∈ es, Op.bytesLess e.f0.toList p.f0.toList = false
  | [], _, _, _, h => by cases h
  | x :: es, p, h, e, he => by
    obtain ⟨h1, h2⟩ := vfrom_cons h
    rcases List.mem_cons.mp he with rfl | he
    · exact h1
    · exact le_trans' h1 (rows_lo es x h2 e he)
theorem rows_hi (z : IE) : ∀ (es : List IE) (p : IE), vfrom p es = true → ∀ e ∈ p :: es, Op.bytesLess ((p :: es).getD es.length z).f0.toList e.f0.toList = false
  | [], p, _, e, he => by
    obtain rfl : e = p := (by simpa using he)
    exact less_irrefl _
  | x :: es, p, h, e, he => by
    obtain ⟨h1, h2⟩ := vfrom_cons h
    have ih := rows_hi z es x h2
    rcases List.mem_cons.mp he with rfl | he
    · exact le_trans' h1 (ih x List.mem_cons_self)
    · exact ih e he
theorem inR_mid {lo hi x y w : ByteArray} {has : Bool} (h1 : inR lo has hi x = true) (h2 : inR lo has hi w = true) (k1 : Op.bytesLess y.toList x.toList = false) (k2 : Op.bytesLess w.toList y.toList = false) : inR lo has hi y = true := by
  unfold inR at *
  simp only [Bool.and_eq_true, Bool.not_eq_true', Bool.or_eq_true] at *
  exact ⟨le_trans' h1.1 k1, h2.2.imp id fun h => le_less k2 h⟩
theorem run_ends {lo hi : ByteArray} {has : Bool} (z e : IE) (es : List IE) (h : vfrom e es = true) :
    ((e :: es).all fun x => inR lo has hi x.f0) = (inR lo has hi e.f0 && inR lo has hi ((e :: es).getD es.length z).f0) := by
  rw [Bool.eq_iff_iff]
  simp only [List.all_eq_true, Bool.and_eq_true]
  constructor
  · intro k
    refine ⟨k e List.mem_cons_self, k _ ?_⟩
    rw [List.getD_eq_getElem?_getD, List.getElem?_eq_getElem (by simp)]
    exact List.getElem_mem _
  · rintro ⟨k1, k2⟩ x hx
    refine inR_mid k1 k2 ?_ (rows_hi z es e h x hx)
    rcases List.mem_cons.mp hx with rfl | hx
    · exact less_irrefl _
    · exact rows_lo es e h x hx
/-! the range of a tablet -/
def loT (l : List IT) (i : Nat) : ByteArray := (rd_T40 l (i : Int)).f0
def inT (l : List IT) (i : Nat) (row : ByteArray) : Bool := inR (loT l i) (decide (i + 1 < l.length)) (if i + 1 < l.length then loT l (i + 1) else ⟨#[]⟩) row
theorem implRows_is (l : List IT) (hb : l.length < 4611686018427387904) (i : Nat) (h : i < l.length) : impl_Store_rows.f l i = some (loT l i, decide (i + 1 < l.length), if i + 1 < l.length then loT l (i + 1) else ⟨#[]⟩) := by
  unfold impl_Store_rows.f
  rw [if_pos (by omega), if_pos (by omega), wrap_nat _ (by omega)]
  by_cases h1 : i + 1 < l.length
  · rw [if_pos (by omega), if_pos (by omega), if_pos h1, decide_eq_true h1]; rfl
  · rw [if_neg (by omega), if_neg h1, decide_eq_false h1]; rfl
theorem specRange_is (l : List IT) (hb : l.length < 4611686018427387904) (i : Nat) (h : i < l.length) : spec_l7Range.f l i = some (loT l i, decide (i + 1 < l.length), if i + 1 < l.length then loT l (i + 1) else ⟨#[]⟩) := implRows_is l hb i h
theorem implInRange_is (lo : ByteArray) (has : Bool) (hi row : ByteArray) : impl_InRange.f lo has hi row = some (inR lo has hi row) := by
  unfold impl_InRange.f inR
  cases Op.bytesLess row.toList lo.toList <;> cases has <;> simp
theorem specInRange_is (lo : ByteArray) (has : Bool) (hi row : ByteArray) : spec_InRange.f lo has hi row = some (inR lo has hi row) := implInRange_is lo has hi row
def runS (l : List IT) (i : Nat) (q : IR) : Bool := !q.f0.isEmpty && q.f0.all fun e => inT l i e.f0
theorem runOk_is (k : Nat) (l : List IT) (hb : l.length < 4611686018427387904) (i : Nat) (h : i < l.length) (q : IR) (hv : vrun q.f0 = true) : runOk k l i q = some (runS l i q) := by
  unfold runOk runS
  cases hq : q.f0 with
  | nil => rw [if_pos (by simp)]; rfl
  | cons e es =>
    rw [hq] at hv
    simp only [vrun, vall, Bool.and_eq_true] at hv
    rw [if_neg (by simp; omega), implRows_is l hb i h]
    simp only [Option.bind_some, implInRange_is]
    have h0 : rd_T65 (e :: es) 0 = e := rfl
    have h1 : rd_T65 (e :: es) (((e :: es).length : Int) - 1) = (e :: es).getD es.length z65 := by
      unfold rd_T65; rw [show (((e :: es).length : Int) - 1).toNat = es.length by simp]
    have hr := run_ends (lo := loT l i) (has := decide (i + 1 < l.length)) (hi := if i + 1 < l.length then loT l (i + 1) else ⟨#[]⟩) z65 e es hv.2.2
    rw [h0, h1]
    unfold inT
    rw [hr]
    cases inR (loT l i) (decide (i + 1 < l.length)) (if i + 1 < l.length then loT l (i + 1) else ⟨#[]⟩) e.f0 <;> simp
def headOk (l : List IT) (i : Nat) (t : IT) : Bool := decide (t.f0.size ≤ 64) && (decide (i = 0) || Op.bytesLess (loT l (i - 1)).toList t.f0.toList) && goodR t.f1
def tabsV (l : List IT) : Nat → List IT → Bool
  | _, [] => true
  | i, t :: ts => headOk l i t && (t.f1.all (runS l i) && tabsV l (i + 1) ts)
def vstore (l : List IT) : Bool := decide (1 ≤ l.length) && decide (l.length ≤ 100) && (loT l 0).toList.isEmpty && tabsV l 0 l
/-! the program's -/
theorem allO_is {α : Type} (f : α → Option Bool) (p : α → Bool) : ∀ xs : List α, (∀ x ∈ xs, f x = some (p x)) → allO f xs = some (xs.all p)
  | [], _ => rfl
  | x :: xs, h => by
    rw [allO, h x List.mem_cons_self, List.all_cons]
    simp only [Option.bind_some]
    rw [allO_is f p xs fun y hy => h y (List.mem_cons_of_mem _ hy)]
    cases p x <;> rfl
theorem goodR_runs {xs : List IR} (h : goodR xs = true) : ∀ q ∈ xs, vrun q.f0 = true := by
  simp only [goodR, Bool.and_eq_true, List.all_eq_true] at h
  exact h.2
theorem tabsO_is (l : List IT) (hb : l.length < 4611686018427387904) (hs : ∀ q ∈ l, sT q) : ∀ (ts pre : List IT), l = pre ++ ts → Ev (fun k => tabsO k l (pre.length : Int) ts) (tabsV l pre.length ts)
  | [], _, _ => Ev.now _
  | t :: ts, pre, e => by
    have hlt : pre.length < l.length := by rw [e]; exact len_cut _ _ _
    have ht : sT t := hs t (by rw [e]; simp)
    have ih := tabsO_is l hb hs ts (pre ++ [t]) (by simp [e])
    rw [List.length_append, List.length_singleton] at ih
    have hh : Ev (fun k => tabOk k l (pre.length : Int) t) (headOk l pre.length t) := by
      unfold tabOk headOk
      by_cases h1 : (t.f0.size : Int) > 64
      · rw [decide_eq_false (by omega : ¬ t.f0.size ≤ 64)]; exact Ev.if_pos h1 (Ev.now _)
      · rw [decide_eq_true (by omega : t.f0.size ≤ 64)]
        refine Ev.if_neg h1 ?_
        by_cases h0 : pre.length = 0
        · rw [decide_eq_true h0]
          exact Ev.if_neg (fun h => by have := h.1; omega) (implGood_is t.f1 ht.1 ht.2)
        · rw [decide_eq_false h0]
          have hm : ((pre.length : Int) - 1) = ((pre.length - 1 : Nat) : Int) := by omega
          rw [hm]
          cases hl : Op.bytesLess (loT l (pre.length - 1)).toList t.f0.toList with
          | true => exact Ev.if_neg (fun h => h.2 hl) (implGood_is t.f1 ht.1 ht.2)
          | false => exact Ev.if_pos ⟨by omega, by unfold loT at hl; rw [hl]; simp⟩ (Ev.now _)
    unfold tabsO tabsV
    refine Ev.bind hh ?_
    cases hk : headOk l pre.length t with
    | false => exact Ev.if_neg (by decide) (Ev.now _)
    | true =>
      have hg : goodR t.f1 = true := by unfold headOk at hk; simp only [Bool.and_eq_true] at hk; exact hk.2
      refine Ev.if_pos rfl (Ev.bind (Ev.of_all fun k => allO_is _ (runS l pre.length) _ fun q hq => runOk_is k l hb _ hlt q (goodR_runs hg q hq)) ?_)
      cases t.f1.all (runS l pre.length) with
      | false => exact Ev.if_neg (by decide) (Ev.now _)
      | true => exact Ev.if_pos rfl (by simpa using ih)
theorem implStore_is (l : List IT) (hb : l.length < 4611686018427387904) (hs : ∀ q ∈ l, sT q) : Ev (fun k => impl_ValidStore.f k l) (vstore l) := by
  unfold impl_ValidStore.f vstore
  by_cases h1 : (l.length : Int) < 1
  · rw [decide_eq_false (by omega : ¬ 1 ≤ l.length)]; exact Ev.if_pos h1 (Ev.now _)
  rw [decide_eq_true (by omega : 1 ≤ l.length)]
  by_cases h2 : (l.length : Int) > 100
  · rw [decide_eq_false (by omega : ¬ l.length ≤ 100)]; exact Ev.if_neg h1 (Ev.if_pos h2 (Ev.now _))
  rw [decide_eq_true (by omega : l.length ≤ 100)]
  refine Ev.if_neg h1 (Ev.if_neg h2 ?_)
  have e0 : (rd_T40 l 0).f0 = loT l 0 := rfl
  rw [e0]
  cases h3 : (loT l 0).toList.isEmpty with
  | false => exact Ev.if_pos rfl (Ev.now _)
  | true => exact Ev.if_neg (by simp) (by simpa using tabsO_is l hb hs l [] rfl)
/-! the reference's -/
theorem specL2 (l : List IT) (hb : l.length < 4611686018427387904) (i q : Nat) (hi : i < l.length) (lo : ByteArray) (rs : List IR) (es : List IE) (he : es.length < 4611686018427387904) (r : Bool) (n : Int)
    (hq : q < 4611686018427387904) (hr : Ev (fun k => spec_ValidStore.l1 k n i ((q + 1 : Nat) : Int) l lo rs) r) :
    Ev (fun k => spec_ValidStore.l2 k n i q es 0 l lo rs) ((es.all fun e => inT l i e.f0) && r) :=
  all_loop es z65 (fun e => inT l i e.f0) (fun k e => (spec_l7Range.f l i).bind fun b => spec_InRange.f b.1 b.2.1 b.2.2 e.f0) (fun k j => spec_ValidStore.l2 k n i q es j l lo rs) _ r he
    (fun k j hj => by
      simp only [spec_ValidStore.l2]; rw [if_pos (by omega), specRange_is l hb i hi]; simp only [Option.bind_some]; rw [if_pos (by omega), wrap_nat _ (by omega)]; rfl)
    (fun k => by simp only [spec_ValidStore.l2]; rw [if_neg (by omega), wrap_nat _ hq])
    (fun e he => by rw [specRange_is l hb i hi]; simp only [Option.bind_some, specInRange_is]; exact Ev.now _) hr es [] rfl
theorem specL1 (l : List IT) (hb : l.length < 4611686018427387904) (i : Nat) (hi : i < l.length) (lo : ByteArray) (xs : List IR) (hx : xs.length < 4611686018427387904) (hq : ∀ q ∈ xs, sR q) (r : Bool) (n : Int)
    (hr : Ev (fun k => spec_ValidStore.l0 k n ((i + 1 : Nat) : Int) l) r) :
    ∀ (rest pre : List IR), xs = pre ++ rest → Ev (fun k => spec_ValidStore.l1 k n i (pre.length : Int) l lo xs) (rest.all (runS l i) && r) := by
  intro rest
  induction rest with
  | nil => intro pre e; exact Ev.round (fun k => by simp only [spec_ValidStore.l1]; rw [if_neg (by rw [e]; simp), wrap_nat _ (by omega)]) (by simpa using hr)
  | cons x rest ih =>
    intro pre e
    have hlt : pre.length < xs.length := by rw [e]; exact len_cut _ _ _
    have hd : rd_T60 xs (pre.length : Int) = x := by unfold rd_T60; rw [Int.toNat_natCast, e, getD_cut]
    have h := ih (pre ++ [x]) (by simp [e])
    rw [List.length_append, List.length_singleton] at h
    have h2 := specL2 l hb i pre.length hi lo xs x.f0 (hq x (by rw [e]; simp)) _ n (by omega) h
    by_cases h0 : x.f0 = []
    · refine Ev.shift 1 fun k => ?_
      simp only [spec_ValidStore.l1]; rw [if_pos (by omega), if_pos (by omega), hd, if_pos (by rw [h0]; rfl), List.all_cons]
      unfold runS; rw [h0]; rfl
    · refine Ev.round (fun k => ?_) (f := fun k => spec_ValidStore.l2 k n i pre.length x.f0 0 l lo xs) ?_
      · simp only [spec_ValidStore.l1]; rw [if_pos (by omega), if_pos (by omega), hd, if_neg (by have := List.length_pos_iff.mpr h0; omega)]
      · rw [List.all_cons]
        have hne : x.f0.isEmpty = false := by cases hx0 : x.f0 with
          | nil => exact absurd hx0 h0
          | cons _ _ => rfl
        have h3 : (runS l i x && rest.all (runS l i) && r) = ((x.f0.all fun e => inT l i e.f0) && (rest.all (runS l i) && r)) := by unfold runS; rw [hne]; simp [Bool.and_assoc]
        rw [h3]
        exact h2
theorem specL0 (l : List IT) (hb : l.length < 4611686018427387904) (hs : ∀ q ∈ l, sT q) : ∀ (ts pre : List IT), l = pre ++ ts → Ev (fun k => spec_ValidStore.l0 k (l.length : Int) (pre.length : Int) l) (tabsV l pre.length ts)
  | [], pre, e => Ev.shift 1 fun k => by simp only [spec_ValidStore.l0]; rw [if_neg (by rw [e]; simp)]; rfl
  | t :: ts, pre, e => by
    have hlt : pre.length < l.length := by rw [e]; exact len_cut _ _ _
    have ht : sT t := hs t (by rw [e]; simp)
    have hd : rd_T40 l (pre.length : Int) = t := by unfold rd_T40; rw [Int.toNat_natCast, e, getD_cut]
    have ih := specL0 l hb hs ts (pre ++ [t]) (by simp [e])
    rw [List.length_append, List.length_singleton] at ih
    have h1 := specL1 l hb pre.length hlt t.f0 t.f1 ht.1 ht.2 _ (l.length : Int) ih t.f1 [] rfl
    have hj : ∀ b : Bool, Ev (fun k => spec_ValidStore.j2 k (l.length : Int) (pre.length : Int) b l t.f0 t.f1) (!b && (t.f1.all (runS l pre.length) && tabsV l (pre.length + 1) ts)) := by
      intro b
      cases b with
      | true => exact Ev.shift 1 fun k => by simp only [spec_ValidStore.j2]; rfl
      | false => exact Ev.round (f := fun k => spec_ValidStore.l1 k (l.length : Int) (pre.length : Int) 0 l t.f0 t.f1) (fun k => by simp only [spec_ValidStore.j2]; rfl) h1
    have hg := specGood_is t.f1 ht.1 ht.2
    unfold tabsV headOk
    by_cases h2 : (t.f0.size : Int) > 64
    · rw [decide_eq_false (by omega : ¬ t.f0.size ≤ 64)]
      exact Ev.round (f := fun k => spec_ValidStore.j2 k (l.length : Int) (pre.length : Int) true l t.f0 t.f1) (fun k => by simp only [spec_ValidStore.l0]; rw [if_pos (by omega), if_pos (by omega), if_pos (by omega), hd, if_pos h2]) (hj true)
    · rw [decide_eq_true (by omega : t.f0.size ≤ 64)]
      by_cases h0 : pre.length = 0
      · rw [decide_eq_true h0]
        refine Ev.round (f := fun k => (spec_l3GoodRuns.f k t.f1).bind fun b => spec_ValidStore.j2 k (l.length : Int) (pre.length : Int) (!b) l t.f0 t.f1) (fun k => by simp only [spec_ValidStore.l0]; rw [if_pos (by omega), if_pos (by omega), if_pos (by omega), hd, if_neg h2, if_neg (by omega)]) (Ev.bind hg ?_)
        have h3 := hj (!goodR t.f1)
        simpa using h3
      · rw [decide_eq_false h0]
        have hm : wrap64 ((pre.length : Int) - 1) = ((pre.length - 1 : Nat) : Int) := by unfold wrap64; omega
        have hl0 : (rd_T40 l ((pre.length - 1 : Nat) : Int)).f0 = loT l (pre.length - 1) := rfl
        cases hl : Op.bytesLess (loT l (pre.length - 1)).toList t.f0.toList with
        | true =>
          refine Ev.round (f := fun k => (spec_l3GoodRuns.f k t.f1).bind fun b => spec_ValidStore.j2 k (l.length : Int) (pre.length : Int) (!b) l t.f0 t.f1) (fun k => by simp only [spec_ValidStore.l0]; rw [if_pos (by omega), if_pos (by omega), if_pos (by omega), hd, if_neg h2, if_pos (by omega), hm, if_pos (by omega), if_pos (by omega), hl0, if_pos hl]) (Ev.bind hg ?_)
          have h3 := hj (!goodR t.f1)
          simpa using h3
        | false =>
          exact Ev.round (f := fun k => spec_ValidStore.j2 k (l.length : Int) (pre.length : Int) true l t.f0 t.f1) (fun k => by simp only [spec_ValidStore.l0]; rw [if_pos (by omega), if_pos (by omega), if_pos (by omega), hd, if_neg h2, if_pos (by omega), hm, if_pos (by omega), if_pos (by omega), hl0, if_neg (by rw [hl]; simp)]) (hj true)
theorem specStore_is (l : List IT) (hb : l.length < 4611686018427387904) (hs : ∀ q ∈ l, sT q) : Ev (fun k => spec_ValidStore.f k l) (vstore l) := by
  have hj : ∀ b : Bool, Ev (fun k => spec_ValidStore.j0 k (l.length : Int) b l) (!b && tabsV l 0 l) := by
    intro b
    cases b with
    | true => exact Ev.shift 1 fun k => by simp only [spec_ValidStore.j0]; rfl
    | false => exact Ev.round (f := fun k => spec_ValidStore.l0 k (l.length : Int) 0 l) (fun k => by simp only [spec_ValidStore.j0]; rfl) (specL0 l hb hs l [] rfl)
  unfold spec_ValidStore.f vstore
  by_cases h1 : (l.length : Int) < 1
  · rw [decide_eq_false (by omega : ¬ 1 ≤ l.length)]; exact Ev.if_pos h1 (hj true)
  rw [decide_eq_true (by omega : 1 ≤ l.length)]
  by_cases h2 : (l.length : Int) > 100
  · rw [decide_eq_false (by omega : ¬ l.length ≤ 100)]; exact Ev.if_neg h1 (Ev.if_pos h2 (hj true))
  rw [decide_eq_true (by omega : l.length ≤ 100)]
  have e0 : (rd_T40 l 0).f0 = loT l 0 := rfl
  refine Ev.if_neg h1 (Ev.if_neg h2 (Ev.if_pos (by omega) ?_))
  rw [e0]
  have h3 := hj ((loT l 0).toList != [])
  have h4 : (!((loT l 0).toList != [])) = (loT l 0).toList.isEmpty := (isE _).symm
  rw [h4] at h3
  simpa using h3
end Go.Proofs.Ytjlggfdmfchncaa.Q

namespace Go.Proofs.Ytjlggfdmfchncaa.Q
open Go.RowKit Go.Proofs.YtjlggfdmfchncaaW.PrintWords Go.Proofs.YtjlggfdmfchncaaW.PrintLast Go.Proofs.YtjlggfdmfchncaaW.PrintMore
set_option linter.unusedVariables false
set_option linter.unusedSimpArgs false
theorem empty_rowE {w : World} {t : TypeId} {α : Type} (d : Kd α) : Kd.R d t (w.alloc (.cells #[] t)) w.heap.size (fun _ => True) (.slice (some ⟨w.heap.size, 0, none⟩) 0 0) [] :=
  ⟨fun _ _ => trivial, [], World.ownsRow_made w #[] 0 (Nat.le_refl _) (by decide) (by simp), ⟨by simp, fun j p h => by simp at h⟩⟩
theorem eq_nil_in (d : Nat) (A : Option Addr) (n c : Nat) (w : World) : (Op.equalIn (d + 1) 58 (.slice A n c) (.slice none 0 0)).run Try.prog w = .ok A.isNone w := by
  have hu := Try.underlying58
  cases A <;> simp [Op.equalIn, run_underlying hu]
theorem eq_nil (A : Option Addr) (n c : Nat) (w : World) : (binOp .eql 58 (.slice A n c) (.slice none 0 0)).run Try.prog w = .ok (.bool A.isNone) w := by
  have h : (Op.equal 58 (.slice A n c) (.slice none 0 0)).run Try.prog w = .ok A.isNone w := eq_nil_in 9999 A n c w
  simp [binOp, h, Result.andThen]
set_option maxHeartbeats 4000000 in
set_option maxRecDepth 100000 in
theorem clone_call (A : Option Addr) (c : Nat) (l : List S65) (w : World) (hr : Kd.C k65 w A l.length l) (hl : l.length ≤ 1000000000) :
    Calls Try.prog 54 #[.slice A l.length c] w fun e w' => ∃ v, e = .returned v ∧ Kd.R k65 65 w' w.heap.size (fun _ => True) v l ∧ Below w.heap.size w w' := by
  have kr : K0 (Below w.heap.size w w) := ⟨Below.refl _ _⟩
  have heq := eq_nil A l.length c w
  cases A with
  | none =>
    have hl0 : l = [] := by
      cases l with
      | nil => rfl
      | cons x l => obtain ⟨ad, h, -⟩ := hr.2.2 (by simp); cases h
    subst hl0
    simp only [Option.isNone, List.length_nil] at heq
    go_enter Try.func54, Try.ntmps54
    go_wp2
    go_ret
    exact ⟨_, rfl, Kd.R_nil _ _ _ _ _, kk⟩
  | some ad =>
    simp only [Option.isNone] at heq
    have hB : Below w.heap.size w (w.alloc (.cells #[] 65)) := kk
    have HC := Aside0.mk (Kd.C_below hr hB)
    have HO := Aside0.mk (empty_rowE (w := w) (t := 65) k65)
    have HB := Aside0.mk hB
    have HL := Aside0.mk hl
    clear hr hB hl
    go_enter Try.func54, Try.ntmps54
    go_wp2_with (at_builtin; go_loud (refine Kd.R_append_rows k65 (w0 := w) w.heap.size rfl (.tmp 5) (.tmp 6) 58 65 (.agg #[(.string ⟨#[]⟩), (.string ⟨#[]⟩), (.string ⟨#[]⟩), (.int .u64 0), (.int .i64 0), (.string ⟨#[]⟩)]) 80 rfl Try.underlying58 info65 rfl (by decide) (by omega) (.slice (some ⟨w.heap.size, 0, none⟩) 0 0) [] l (some ad) l.length c (fun _ => True) (fun _ => False) rfl rfl HO.out HC.out (fun _ _ h => h) (fun _ h => h.elim) (fun _ _ => trivial) HB.out HB.out.size (by have := HL.out; simp only [List.length_nil]; omega) ?_; intro v5 w5 ho hb hg hat; have HG := Aside0.mk (And.intro ho hb); clear ho hb hg hat))
    go_ret
    exact ⟨_, rfl, HG.out.1, HG.out.2⟩
set_option maxHeartbeats 4000000 in
set_option maxRecDepth 100000 in
theorem cloneRuns_call (A : Option Addr) (c : Nat) (rs : List S60) (w : World) (hr : Kd.C k60 w A rs.length rs) (hl : rs.length ≤ 1000000000) (hq : ∀ x ∈ rs, x.f0.length ≤ 1000000000) :
    Calls Try.prog 36 #[.slice A rs.length c] w fun e w' => ∃ v, e = .returned v ∧ Kd.S k60 60 w' w.heap.size (fun _ => True) v rs ∧ Below w.heap.size w w' := by
  have kr : K0 (Below w.heap.size w w) := ⟨Below.refl _ _⟩
  have HR := Aside0.mk hr
  have HQ := Aside0.mk (And.intro hl hq)
  have HS0 := Aside0.mk (show Kd.S k60 60 w w.heap.size (fun _ => True) (.slice none 0 0) (rs.take 0) from Kd.S_nil _ _ _ _ _)
  have HB0 := Aside0.mk (Below.refl w.heap.size w)
  clear hr hl hq
  obtain ⟨n, hn⟩ : ∃ n, rs.length = n := ⟨_, rfl⟩
  rw [hn] at HR ⊢
  have HN := Aside0.mk hn
  clear hn
  go_enter Try.func36, Try.ntmps36
  go_wp2_with fail
  go_loopw [3, 5, 8] (fun v3 v5 v8 W => ∃ (j : Nat), j ≤ n ∧ v8 = .int .i64 j ∧ Aside0 (Kd.S k60 60 W w.heap.size (fun _ => True) v3 (rs.take j)) ∧ Aside0 (Below w.heap.size w W)) (fun _ _ v8 _ => n - (intOf v8).toNat)
  case atStart => exact ⟨0, by omega, rfl, HS0, HB0⟩
  case round =>
    clear HS0 HB0
    obtain ⟨j, hj, rfl, HS, HB⟩ := hrel
    have kW : K0 (Below w.heap.size w wr) := ⟨HB.out⟩
    by_cases hlt : j < n
    · have dl : decide ((j : Int) < (n : Int)) = true := decide_eq_true (by omega)
      have hwj : IntKind.i64.wrap ((j : Int) + 1) = ((j + 1 : Nat) : Int) := by have := HQ.out.1; have := HN.out; rw [IntKind.wrap_i64]; omega
      obtain ⟨ad, A0, c0, e0, y0, hc0, hC0⟩ := at_T60 HR.out (j : Int) (by omega) (by omega)
      subst e0
      obtain ⟨x, hX⟩ : ∃ x, rd_T60 rs (j : Int) = x := ⟨_, rfl⟩
      have hxj : rs[j]? = some x := by rw [← hX]; unfold rd_T60; rw [Int.toNat_natCast, List.getD_eq_getElem?_getD]; have := HN.out; simp [show j < rs.length by omega]
      rw [hX] at y0 hC0
      rw [Int.toNat_natCast] at y0
      have y0 := clk y0
      have htk : rs.take (j + 1) = rs.take j ++ [x] := by rw [List.take_add_one, hxj]; rfl
      have hlen : (rs.take j).length = j := by rw [List.length_take]; have := HN.out; omega
      obtain ⟨A3, c3, rfl⟩ := Kd.S_slice HS.out
      rw [hlen] at HS ⊢
      obtain ⟨Wa, hWa⟩ : ∃ W, W = wr.alloc (.cells #[.slice A0 x.f0.length c0] 60) := ⟨_, rfl⟩
      have hba : Below wr.heap.size wr Wa := hWa ▸ Below.alloc (Below.refl _ _) (Nat.le_refl _) _
      have hh : Wa.heap[wr.heap.size]? = some (.cells #[.slice A0 x.f0.length c0] 60 (0, 0)) := hWa ▸ heap_alloc_new wr _
      have z0 : Wa.cell? ⟨wr.heap.size, 0, none⟩ = some (.slice A0 x.f0.length c0) := (blk_cell hh 0).trans rfl
      have HX := Aside0.mk (And.intro hba (And.intro (HB.out.trans (hba.mono HB.out.size)) (And.intro (HQ.out.2 x (List.mem_of_getElem? hxj)) (And.intro hC0 (And.intro htk hlen)))))
      clear hba hh hc0 hC0 htk hlen hX hxj
      go_wp2_with fail
      rw [← hWa]
      clear hWa
      refine (clone_call A0 c0 x.f0 Wa (Kd.C_below HX.out.2.2.2.1 HX.out.2.1) HX.out.2.2.1).mono ?_
      rintro ex W1 ⟨v1, rfl, hR, hb⟩
      obtain ⟨A1, c1, rfl⟩ := Kd.R_slice hR
      have HY := Aside0.mk (And.intro (Kd.S_below (Kd.S_mono (ok' := fun k => True ∧ ¬ (Wa.heap.size ≤ k)) (Kd.S_bound HS.out) (fun k hk => ⟨trivial, by have := hk.2.2.1; have := HX.out.1.size; omega⟩)) (HX.out.1.trans (hb.mono HX.out.1.size))) (And.intro (HX.out.2.1.trans (hb.mono HX.out.2.1.size)) (And.intro (Kd.R_lower (Kd.R_mono (ok' := fun k => Wa.heap.size ≤ k) (Kd.R_bound hR) (fun k hk => hk.2.1)) HX.out.2.1.size) (show ∀ k, Wa.heap.size ≤ k → some k ≠ Value.ownBlock (.slice A3 j c3) from fun k hk e => by have := Kd.S_lt HS.out k e.symm; have := HX.out.1.size; omega))))
      clear hR hb
      go_wp2_with (at_builtin; go_loud (refine Kd.S_append k60 (w0 := w) w.heap.size rfl (.tmp 12) (.tmp 17) 38 60 (.agg #[(.slice none 0 0)]) 24 rfl Try.underlying38 info60 rfl (by decide) (by omega) (.slice A3 j c3) (rs.take j) x [.slice A1 x.f0.length c1] (fun _ => True) (fun k => Wa.heap.size ≤ k) rfl rfl (k60_mkM _ _ _ x HY.out.2.2.1) (fun k hk => ⟨trivial, HY.out.2.2.2 k hk⟩) (fun _ _ => trivial) HY.out.1 HY.out.2.1 HY.out.2.1.size (by have := HX.out.2.2.2.2.2; have := HQ.out.1; have := HN.out; omega) ?_; intro v5 w5 ho hb hg hat; obtain ⟨A5, m5, c5, rfl⟩ : ∃ A m c, v5 = .slice A m c := (by obtain ⟨A, c, h⟩ := Kd.S_slice ho; exact ⟨_, _, _, h⟩); have HG := Aside0.mk (And.intro ho hb); clear ho hb hg hat))
      go_roundw
      case measure => simp only [intOf]; omega
      case rel => exact ⟨j + 1, by omega, by rw [Int.natCast_add]; rfl, ⟨by rw [HX.out.2.2.2.2.1]; exact HG.out.1⟩, ⟨HG.out.2⟩⟩
    · obtain rfl : j = n := by omega
      have dl : decide ((j : Int) < (j : Int)) = false := decide_eq_false (by omega)
      go_wp2
      go_ret
      refine ⟨_, rfl, ?_, HB.out⟩
      have h := HS.out
      rw [← HN.out, List.take_length] at h
      exact h
end Go.Proofs.Ytjlggfdmfchncaa.Q

namespace Go.Proofs.Ytjlggfdmfchncaa.Q
open Go.RowKit Go.Proofs.YtjlggfdmfchncaaW.PrintWords Go.Proofs.YtjlggfdmfchncaaW.PrintLast Go.Proofs.YtjlggfdmfchncaaW.PrintMore
set_option linter.unusedVariables false
set_option linter.unusedSimpArgs false
def cmpB (a b : ByteArray) : Int := if Op.bytesLess a.toList b.toList = true then -1 else if Op.bytesLess b.toList a.toList = true then 1 else 0
set_option maxHeartbeats 4000000 in
set_option maxRecDepth 100000 in
theorem cmp_call (lo row : ByteArray) (r : Value) (w : World) : Calls Try.prog 41 #[.agg #[.string lo, r], .string row] w fun e w' => e = .returned (.int .i64 (cmpB lo row)) ∧ Below w.heap.size w w' := by
  have kr : K0 (Below w.heap.size w w) := ⟨Below.refl _ _⟩
  obtain ⟨wb, hwb⟩ : ∃ wb, wb = w.alloc (.cells #[.string lo, r] 40) := ⟨_, rfl⟩
  have hb : Below w.heap.size w wb := hwb ▸ kk
  have hh : wb.heap[w.heap.size]? = some (.cells #[.string lo, r] 40 (0, 0)) := hwb ▸ heap_alloc_new w _
  have c0 : wb.cell? ⟨w.heap.size, 0, none⟩ = some (.string lo) := (blk_cell hh 0).trans rfl
  have HB := Aside0.mk hb
  clear hb hh
  go_enter Try.func41, Try.ntmps41
  go_wp2_with fail
  rw [← hwb]
  clear hwb
  refine (strings_Compare.calls lo row (cmpB lo row) wb rfl).mono ?_
  rintro ex W1 ⟨rfl, hb⟩
  have HY := Aside0.mk (HB.out.trans (hb.below.mono HB.out.size))
  clear hb
  go_wp2
  go_ret
  exact ⟨rfl, HY.out⟩
def lessT (ts : List S40) (row : ByteArray) (i : Nat) : Bool := Op.bytesLess (rd_T40 ts (i : Int)).f0.toList row.toList
set_option maxHeartbeats 4000000 in
set_option maxRecDepth 100000 in
theorem search_call (A : Option Addr) (c n : Nat) (ts : List S40) (row : ByteArray) (w : World) (hr : Kd.C k40 w A n ts) (hn : ts.length = n) (hl : n ≤ 1000000000) (hs : ∀ i j, i ≤ j → j < n → lessT ts row j = true → lessT ts row i = true) :
    Calls Try.prog 40 #[.slice A n c, .string row, .func (.func 41) #[] #[]] w fun e w' => ∃ m : Nat, m ≤ n ∧ (∀ i, i < m → lessT ts row i = true) ∧ (∀ i, m ≤ i → i < n → lessT ts row i = false) ∧ e = .returned (.tuple #[.int .i64 m, .bool (decide (m < n) && (cmpB (rd_T40 ts (m : Int)).f0 row == 0))]) ∧ Below w.heap.size w w' := by
  have kr : K0 (Below w.heap.size w w) := ⟨Below.refl _ _⟩
  have HR := Aside0.mk hr
  have HS := Aside0.mk (And.intro hn (And.intro hl hs))
  have HB0 := Aside0.mk (Below.refl w.heap.size w)
  clear hr hn hl hs
  go_enter Try.func40, Try.ntmps40
  go_wp2_with fail
  go_loopw [9, 10, 11] (fun v9 v10 v11 W => ∃ (lo hi : Nat), v9 = .int .i64 lo ∧ v10 = .int .i64 hi ∧ lo ≤ hi ∧ hi ≤ n ∧ Aside0 ((∀ i, i < lo → lessT ts row i = true) ∧ (∀ i, hi ≤ i → i < n → lessT ts row i = false)) ∧ Aside0 (Below w.heap.size w W)) (fun v9 v10 _ _ => (intOf v10).toNat - (intOf v9).toNat)
  case atStart => exact ⟨0, n, rfl, rfl, by omega, by omega, ⟨fun i h => absurd h (Nat.not_lt_zero i), fun i h1 h2 => by omega⟩, HB0⟩
  case round =>
    clear HB0
    obtain ⟨lo, hi, rfl, rfl, h1, h2, HI, HB⟩ := hrel
    have kW : K0 (Below w.heap.size w wr) := ⟨HB.out⟩
    by_cases hlt : lo < hi
    · have dl : decide ((lo : Int) < (hi : Int)) = true := decide_eq_true (by omega)
      obtain ⟨s, hs⟩ : ∃ s, s = lo + hi := ⟨_, rfl⟩
      obtain ⟨m, hm⟩ : ∃ m, m = s / 2 := ⟨_, rfl⟩
      have hml : lo ≤ m ∧ m < hi ∧ m < n := by omega
      have hsn : s ≤ 2000000000 := by have := HS.out.2.1; omega
      have hA : wrap64 ((lo : Int) + (hi : Int)) = (s : Int) := by rw [wrap_id _ (by omega) (by omega)]; omega
      have hB : IntKind.u64.wrap (s : Int) = (s : Int) := by unfold IntKind.wrap; simp [IntKind.bits, IntKind.signed]; omega
      have hC : wrap64 ((s : Int) / 2) = (m : Int) := by rw [wrap_id _ (by omega) (by omega)]; omega
      have hD : IntKind.i64.wrap ((m : Int) + 1) = ((m + 1 : Nat) : Int) := by rw [IntKind.wrap_i64]; omega
      obtain ⟨ad, A1, c1, e0, y0, y1, hc1, hC1⟩ := at_T40 HR.out (m : Int) (by omega) (by omega)
      subst e0
      obtain ⟨x, hX⟩ : ∃ x, rd_T40 ts (m : Int) = x := ⟨_, rfl⟩
      rw [hX] at y0 y1
      rw [Int.toNat_natCast] at y0 y1
      have y0 := clk y0
      have y1 := clk y1
      have hmn := hml.2.2
      have HX := Aside0.mk (And.intro hX (And.intro hml hsn))
      clear hs hm hc1 hC1 hX hml hsn
      go_wp2_with fail
      refine (cmp_call x.f0 row _ wr).mono ?_
      rintro ex W1 ⟨rfl, hb⟩
      have hB1 := HB.out.trans (hb.mono HB.out.size)
      have HB1 := Aside0.mk hB1
      clear hb hB1
      by_cases hc : cmpB x.f0 row < 0
      · have dc : decide (cmpB x.f0 row < 0) = true := decide_eq_true hc
        have HCc := Aside0.mk hc
        clear hc
        go_wp2_with fail
        go_roundw
        case measure => have := HX.out.2.1; simp only [intOf]; omega
        case rel =>
          have hx := HX.out
          have hless : lessT ts row m = true := by
            have h := HCc.out
            unfold lessT; rw [hx.1]
            unfold cmpB at h
            split at h
            · assumption
            · split at h <;> omega
          exact ⟨m + 1, hi, by rw [Int.natCast_add]; rfl, rfl, by omega, h2, ⟨fun i h => HS.out.2.2 i m (by omega) (by omega) hless, HI.out.2⟩, HB1⟩
      · have dc : decide (cmpB x.f0 row < 0) = false := decide_eq_false hc
        have HCc := Aside0.mk hc
        clear hc
        go_wp2_with fail
        go_roundw
        case measure => have := HX.out.2.1; simp only [intOf]; omega
        case rel =>
          have hx := HX.out
          have hless : lessT ts row m = false := by
            have h := HCc.out
            unfold lessT; rw [hx.1]
            cases hb : Op.bytesLess x.f0.toList row.toList
            · rfl
            · unfold cmpB at h; rw [if_pos hb] at h; omega
          exact ⟨lo, m, rfl, rfl, by omega, by omega, ⟨HI.out.1, fun i h3 h4 => by
            cases hb : lessT ts row i
            · rfl
            · rw [HS.out.2.2 m i h3 h4 hb] at hless; cases hless⟩, HB1⟩
    · obtain rfl : lo = hi := by omega
      have dl : decide ((lo : Int) < (lo : Int)) = false := decide_eq_false (by omega)
      by_cases hlo : lo < n
      · have dn : decide ((lo : Int) < (n : Int)) = true := decide_eq_true (by omega)
        have dn2 : decide (lo < n) = true := decide_eq_true hlo
        obtain ⟨ad, A1, c1, e0, y0, y1, hc1, hC1⟩ := at_T40 HR.out (lo : Int) (by omega) (by omega)
        subst e0
        obtain ⟨x, hX⟩ : ∃ x, rd_T40 ts (lo : Int) = x := ⟨_, rfl⟩
        rw [hX] at y0 y1
        rw [Int.toNat_natCast] at y0 y1
        have y0 := clk y0
        have y1 := clk y1
        have HX := Aside0.mk hX
        have HD := Aside0.mk dn2
        clear hc1 hC1 hX dn2
        go_wp2_with fail
        refine (cmp_call x.f0 row _ wr).mono ?_
        rintro ex W1 ⟨rfl, hb⟩
        have HB1 := Aside0.mk (HB.out.trans (hb.mono HB.out.size))
        clear hb
        go_wp2
        go_ret2
        exact ⟨lo, h2, HI.out.1, HI.out.2, by rw [HX.out, HD.out]; rfl, HB1.out⟩
      · have dn : decide ((lo : Int) < (n : Int)) = false := decide_eq_false (by omega)
        have HD := Aside0.mk (show decide (lo < n) = false from decide_eq_false hlo)
        go_wp2
        go_ret2
        exact ⟨lo, h2, HI.out.1, HI.out.2, by rw [HD.out]; rfl, HB.out⟩
def loB (ts : List S40) (i : Nat) : List UInt8 := (rd_T40 ts (i : Int)).f0.toList
/-- The tablet that holds a row: the last whose first row is not above it. -/
def Holds (ts : List S40) (row : ByteArray) (i : Nat) : Prop := i < ts.length ∧ Op.bytesLess row.toList (loB ts i) = false ∧ ∀ j, i < j → j < ts.length → Op.bytesLess row.toList (loB ts j) = true
/-- The first rows of the tablets rise from the empty one on. -/
def RiseT (ts : List S40) : Prop := 0 < ts.length ∧ loB ts 0 = [] ∧ ∀ i j, i < j → j < ts.length → Op.bytesLess (loB ts i) (loB ts j) = true
theorem less_nil : ∀ (b : List UInt8), Op.bytesLess [] b = false → b = []
  | [], _ => rfl
  | x :: b, h => by simp [Op.bytesLess] at h
theorem cmpB_zero {a b : ByteArray} (h : cmpB a b = 0) : a.toList = b.toList := by
  unfold cmpB at h
  split at h
  · omega
  · split at h
    · omega
    · rename_i h1 h2
      rcases less_tri a.toList b.toList with h3 | h3 | h3
      · exact absurd h3 h1
      · exact h3
      · exact absurd h3 h2
theorem holds_of {ts : List S40} {row : ByteArray} (hR : RiseT ts) {m : Nat} (hm : m ≤ ts.length) (h1 : ∀ i, i < m → lessT ts row i = true) (h2 : ∀ i, m ≤ i → i < ts.length → lessT ts row i = false) :
    (∀ h : m < ts.length, cmpB (rd_T40 ts (m : Int)).f0 row = 0 → Holds ts row m) ∧ ((m < ts.length → cmpB (rd_T40 ts (m : Int)).f0 row ≠ 0) → 1 ≤ m ∧ Holds ts row (m - 1)) := by
  constructor
  · intro h hc
    have he : loB ts m = row.toList := cmpB_zero hc
    refine ⟨h, ?_, fun j hj hl => ?_⟩
    · rw [he]; exact less_irrefl _
    · rw [← he]; exact hR.2.2 m j hj hl
  · intro hc
    have hm1 : 1 ≤ m := by
      rcases Nat.eq_zero_or_pos m with rfl | h
      · exfalso
        have h3 := h2 0 (Nat.le_refl _) hR.1
        have h4 : Op.bytesLess (loB ts 0) row.toList = false := h3
        rw [hR.2.1] at h4
        have h5 := less_nil _ h4
        refine hc hR.1 ?_
        unfold cmpB
        rw [show (rd_T40 ts ((0 : Nat) : Int)).f0.toList = [] from hR.2.1, h5]
        simp [Op.bytesLess]
      · exact h
    have hlt : Op.bytesLess (loB ts (m - 1)) row.toList = true := h1 (m - 1) (by omega)
    refine ⟨hm1, by omega, ?_, fun j hj hl => ?_⟩
    · cases hb : Op.bytesLess row.toList (loB ts (m - 1))
      · rfl
      · have := less_trans _ _ _ hlt hb
        rw [less_irrefl] at this; cases this
    · have hml : m < ts.length := by omega
      have h3 : Op.bytesLess (loB ts m) row.toList = false := h2 m (Nat.le_refl _) hml
      have h4 := hc hml
      have h5 : Op.bytesLess row.toList (loB ts m) = true := by
        cases hb : Op.bytesLess row.toList (loB ts m)
        · exfalso
          refine h4 ?_
          unfold cmpB
          rw [if_neg (by rw [show (rd_T40 ts (m : Int)).f0.toList = loB ts m from rfl, h3]; simp), if_neg (by rw [show (rd_T40 ts (m : Int)).f0.toList = loB ts m from rfl, hb]; simp)]
        · rfl
      rcases Nat.lt_or_ge m j with h6 | h6
      · exact less_trans _ _ _ h5 (hR.2.2 m j h6 hl)
      · obtain rfl : j = m := by omega
        exact h5
theorem holds_one {ts : List S40} {row : ByteArray} {i j : Nat} (h : Holds ts row i) (h' : Holds ts row j) : i = j := by
  rcases Nat.lt_trichotomy i j with h1 | h1 | h1
  · have := h.2.2 j h1 h'.1
    rw [h'.2.1] at this; cases this
  · exact h1
  · have := h'.2.2 i h1 h.1
    rw [h.2.1] at this; cases this
set_option maxHeartbeats 4000000 in
set_option maxRecDepth 100000 in
theorem holder_call (A : Option Addr) (c : Nat) (ts : List S40) (row : ByteArray) (w : World) (hr : Kd.C k40 w A ts.length ts) (hl : ts.length ≤ 1000000000) (hR : RiseT ts) :
    Calls Try.prog 23 #[.agg #[.slice A ts.length c], .string row] w fun e w' => ∃ i : Nat, Holds ts row i ∧ e = .returned (.int .i64 i) ∧ Below w.heap.size w w' := by
  have kr : K0 (Below w.heap.size w w) := ⟨Below.refl _ _⟩
  obtain ⟨wb, hwb⟩ : ∃ wb, wb = w.alloc (.cells #[.slice A ts.length c] 28) := ⟨_, rfl⟩
  have hb : Below w.heap.size w wb := hwb ▸ kk
  have hh : wb.heap[w.heap.size]? = some (.cells #[.slice A ts.length c] 28 (0, 0)) := hwb ▸ heap_alloc_new w _
  have c0 : wb.cell? ⟨w.heap.size, 0, none⟩ = some (.slice A ts.length c) := (blk_cell hh 0).trans rfl
  have HB := Aside0.mk (And.intro hb (And.intro (Kd.C_below hr hb) (And.intro hl hR)))
  clear hb hh hr hl hR
  go_enter Try.func23, Try.ntmps23
  go_wp2_with fail
  rw [← hwb]
  clear hwb
  have hmono : ∀ i j, i ≤ j → j < ts.length → lessT ts row j = true → lessT ts row i = true := fun i j hij hj h => by
    rcases Nat.lt_or_ge i j with h1 | h1
    · exact less_trans _ _ _ (HB.out.2.2.2.2.2 i j h1 hj) h
    · obtain rfl : i = j := by omega
      exact h
  refine (search_call A c ts.length ts row wb HB.out.2.1 rfl HB.out.2.2.1 hmono).mono ?_
  clear hmono
  rintro ex W1 ⟨m, hm, h1, h2, rfl, hb⟩
  have HY := Aside0.mk (HB.out.1.trans (hb.mono HB.out.1.size))
  have hh := holds_of HB.out.2.2.2 hm h1 h2
  clear hb h1 h2
  obtain ⟨fd, hfd⟩ : ∃ b, (decide (m < ts.length) && (cmpB (rd_T40 ts (m : Int)).f0 row == 0)) = b := ⟨_, rfl⟩
  rw [hfd]
  cases fd
  · have hx := hh.2 (fun hlt hc => by simp [hlt, hc] at hfd)
    have HX := Aside0.mk hx
    have hw : IntKind.i64.wrap ((m : Int) - 1) = ((m - 1 : Nat) : Int) := by have := hx.1; have := HB.out.2.2.1; rw [IntKind.wrap_i64]; omega
    clear hfd hh hx
    go_wp2
    go_ret
    exact ⟨m - 1, HX.out.2, rfl, HY.out⟩
  · have hx : Holds ts row m := by
      simp only [Bool.and_eq_true, decide_eq_true_eq, beq_iff_eq] at hfd
      exact hh.1 hfd.1 hfd.2
    have HX := Aside0.mk hx
    clear hfd hh hx
    go_wp2
    go_ret
    exact ⟨m, HX.out, rfl, HY.out⟩
end Go.Proofs.Ytjlggfdmfchncaa.Q

namespace Go.Proofs.Ytjlggfdmfchncaa.Q
open Go.RowKit Go.Proofs.YtjlggfdmfchncaaW.PrintWords Go.Proofs.YtjlggfdmfchncaaW.PrintLast Go.Proofs.YtjlggfdmfchncaaW.PrintMore
set_option linter.unusedVariables false
set_option linter.unusedSimpArgs false
theorem leq_not (a b : List UInt8) : (Op.bytesLess a b || a == b) = !Op.bytesLess b a := by
  rcases less_tri a b with h | h | h
  · have h2 : Op.bytesLess b a = false := by
      cases hb : Op.bytesLess b a
      · rfl
      · have := less_trans _ _ _ h hb
        rw [less_irrefl] at this; cases this
    simp [h, h2]
  · subst h; simp [less_irrefl]
  · have h2 : Op.bytesLess a b = false := by
      cases hb : Op.bytesLess a b
      · rfl
      · have := less_trans _ _ _ h hb
        rw [less_irrefl] at this; cases this
    have h3 : (a == b) = false := by
      cases hb : a == b
      · rfl
      · rw [eq_of_beq hb] at h; rw [less_irrefl] at h; cases h
    simp [h, h2, h3]
set_option maxHeartbeats 4000000 in
set_option maxRecDepth 100000 in
theorem l7Holder_call (A : Option Addr) (c : Nat) (ts : List S40) (row : ByteArray) (w : World) (hr : Kd.C k40 w A ts.length ts) (hl : ts.length ≤ 1000000000) (hR : RiseT ts) :
    Calls Try.prog 17 #[.agg #[.slice A ts.length c], .string row] w fun e w' => ∃ i : Nat, Holds ts row i ∧ e = .returned (.int .i64 i) ∧ Below w.heap.size w w' := by
  have kr : K0 (Below w.heap.size w w) := ⟨Below.refl _ _⟩
  obtain ⟨n, hn⟩ : ∃ n, ts.length = n := ⟨_, rfl⟩
  rw [hn] at hr ⊢
  obtain ⟨wb, hwb⟩ : ∃ wb, wb = w.alloc (.cells #[.slice A n c] 28) := ⟨_, rfl⟩
  have hb : Below w.heap.size w wb := hwb ▸ kk
  have hh : wb.heap[w.heap.size]? = some (.cells #[.slice A n c] 28 (0, 0)) := hwb ▸ heap_alloc_new w _
  have c0 := clk ((blk_cell hh 0).trans rfl : wb.cell? ⟨w.heap.size, 0, none⟩ = some (.slice A n c))
  have HB := Aside0.mk (And.intro hb (And.intro (Kd.C_below hr hb) (And.intro hl (And.intro hR hn))))
  have HB0 := Aside0.mk (Below.refl wb.heap.size wb)
  clear hb hh hr hl hR hn
  go_enter Try.func17, Try.ntmps17
  go_wp2_with fail
  rw [← hwb]
  clear hwb
  go_loopw [5, 6] (fun v5 v6 W => ∃ (j a : Nat), j ≤ n ∧ v6 = .int .i64 j ∧ v5 = .int .i64 a ∧ Aside0 ((j = 0 → a = 0) ∧ (0 < j → a < j ∧ Op.bytesLess row.toList (loB ts a) = false ∧ ∀ k, a < k → k < j → Op.bytesLess row.toList (loB ts k) = true)) ∧ Aside0 (Below wb.heap.size wb W)) (fun _ v6 _ => n - (intOf v6).toNat)
  case atStart => exact ⟨0, 0, by omega, rfl, rfl, ⟨fun _ => rfl, fun h => by omega⟩, HB0⟩
  case round =>
    clear HB0
    obtain ⟨j, a, hj, rfl, rfl, HI, HW⟩ := hrel
    have kW : K0 (Below wb.heap.size wb wr) := ⟨HW.out⟩
    by_cases hlt : j < n
    · have dl : decide ((j : Int) < (n : Int)) = true := decide_eq_true (by omega)
      have hwj : IntKind.i64.wrap ((j : Int) + 1) = ((j + 1 : Nat) : Int) := by have := HB.out.2.2; rw [IntKind.wrap_i64]; omega
      obtain ⟨ad, A1, c1, e0, y0, y1, hc1, hC1⟩ := at_T40 HB.out.2.1 (j : Int) (by omega) (by omega)
      subst e0
      obtain ⟨x, hX⟩ : ∃ x, rd_T40 ts (j : Int) = x := ⟨_, rfl⟩
      rw [hX] at y0 y1
      rw [Int.toNat_natCast] at y0 y1
      have y0 := clk y0
      have y1 := clk y1
      have hlo : loB ts j = x.f0.toList := by unfold loB; rw [hX]
      have HX := Aside0.mk hlo
      clear hc1 hC1 hX hlo
      have hq := leq_not x.f0.toList row.toList
      cases hb : Op.bytesLess row.toList x.f0.toList
      · have HL := Aside0.mk hb
        rw [hb] at hq
        clear hb
        go_wp2_with fail
        go_roundw
        case measure => simp only [intOf]; omega
        case rel =>
          refine ⟨j + 1, j, by omega, by rw [Int.natCast_add]; rfl, rfl, ⟨fun h => by omega, fun _ => ⟨by omega, by rw [HX.out]; exact HL.out, fun k h1 h2 => by omega⟩⟩, HW⟩
      · have HL := Aside0.mk hb
        rw [hb] at hq
        clear hb
        go_wp2_with fail
        go_roundw
        case measure => simp only [intOf]; omega
        case rel =>
          refine ⟨j + 1, a, by omega, by rw [Int.natCast_add]; rfl, rfl, ⟨fun h => by omega, fun _ => ?_⟩, HW⟩
          have hj0 : 0 < j := by
            rcases Nat.eq_zero_or_pos j with h | h
            · exfalso
              have h2 := HB.out.2.2.2.1.2.1
              have h3 := HX.out
              rw [h] at h3
              rw [h2] at h3
              have h4 := HL.out
              rw [← h3] at h4
              cases hr : row.toList <;> rw [hr] at h4 <;> simp [Op.bytesLess] at h4
            · exact h
          have hi := HI.out.2 hj0
          refine ⟨by omega, hi.2.1, fun k h1 h2 => ?_⟩
          rcases Nat.lt_or_ge k j with h3 | h3
          · exact hi.2.2 k h1 h3
          · obtain rfl : k = j := by omega
            rw [HX.out]; exact HL.out
    · obtain rfl : j = n := by omega
      have dl : decide ((j : Int) < (j : Int)) = false := decide_eq_false (by omega)
      go_wp2
      go_ret
      have hi := HI.out
      have hR := HB.out.2.2.2
      refine ⟨a, ⟨?_, ?_, ?_⟩, rfl, HB.out.1.trans (HW.out.mono HB.out.1.size)⟩
      · rw [hR.2]; exact (hi.2 (by have := hR.1.1; omega)).1
      · exact (hi.2 (by have := hR.1.1; omega)).2.1
      · intro k h1 h2
        exact (hi.2 (by have := hR.1.1; omega)).2.2 k h1 (by omega)
end Go.Proofs.Ytjlggfdmfchncaa.Q

namespace Go.Proofs.Ytjlggfdmfchncaa.Q
inductive Pl where
  | done
  | n (i : Nat) (r : Pl)
  | y (i : Nat) (r : Pl)
  | two (i j : Nat) (p q : Pl)
def Pl.len : Pl → Nat
  | .done => 0
  | .n _ r => r.len + 1
  | .y _ r => r.len + 1
  | .two _ _ p _ => p.len + 1
def planP (md : Region.Mode) (ops : Array Oper) : Pl → Array Bool → Bool
  | .done, l => Region.ready md ops l == []
  | .n i r, l => Region.free md ops l i && ((Region.ready md ops l).contains i && planP md ops r (l.setIfInBounds i true))
  | .y i r, l => (Region.ready md ops l == [i]) && planP md ops r (l.setIfInBounds i true)
  | .two i j p q, l => (Region.ready md ops l == [i, j]) && ((p.len == q.len) && (planP md ops p (l.setIfInBounds i true) && planP md ops q (l.setIfInBounds j true)))
section
variable {P : Program} {ops : Array Oper} {Q : Exit → Act → World → Prop} {md : Region.Mode} {S : World → Prop}
def Sp (P : Program) (md : Region.Mode) (ops : Array Oper) (Q : Exit → Act → World → Prop) (S : World → Prop) (r : Pl) (a : Act) (w : World) : Prop :=
  S w → Region.noSelect ops = true → ∀ l, planP md ops r l = true → wpAnyH P md ops (NoPanic Q) S r.len l a w
theorem sp_region {id : Nat} {a : Act} {w : World} (r : Pl) (hm : P.follows .mixedOrders = true) (hc : (Region.noSelect ops && (planP .any ops r (Array.replicate ops.size false) && (r.len == ops.size))) = true)
    (hS : S w.drew) (h : S w.drew → Sp P .any ops Q S r a w.drew) : (Code.region id ops true).wp P Q a w := by
  simp only [Bool.and_eq_true, beq_iff_eq] at hc
  refine wp_region_noPanic (wp_region_held_drew hm hS fun h1 => ?_)
  have h2 := h h1 h1 hc.1 _ hc.2.1
  rw [hc.2.2] at h2
  exact h2
theorem sp_done {a : Act} {w : World} (h : S w → Q .normal a w) : Sp P md ops Q S .done a w := fun hS _ l hl => wpAnyH_done (by simpa [planP] using hl) (NoPanic.normal (h hS)) _
theorem sp_one {i : Nat} {r : Pl} {d : Option Tmp} {op : Op} {ty : TypeId} {pos : String} {af : Array Edge} {gu : Option (Nat × Bool)} {a : Act} {w : World} (ho : ops[i]? = some ⟨d, op, ty, pos, af, gu⟩) (hw : Region.wanted ⟨d, op, ty, pos, af, gu⟩ (yielded ops a.tmps) = true)
    (h : S w → ∀ K : Act → World → Prop, Shut (∀ a' w', S w' → (S w' → Sp P md ops Q S r a' w') → K a' w') → Oper.wp P ⟨d, op, ty, pos, af, gu⟩ a w K (NoPanic Q)) : Sp P md ops Q S (.y i r) a w := by
  intro hS hs l hl
  simp only [planP, Bool.and_eq_true, beq_iff_eq] at hl
  refine wpAnyH_ready hl.1 (by simp) (AllReadyH.cons ho (fun K hK => ?_) AllReadyH.nil)
  rw [if_pos hw]
  exact h hS K fun a' w' h1 h2 => hK.out a' w' h1 fun h3 => h2 h3 h3 hs _ hl.2
theorem sp_two {i j : Nat} {p q : Pl} {d d' : Option Tmp} {op op' : Op} {ty ty' : TypeId} {pos pos' : String} {af af' : Array Edge} {gu gu' : Option (Nat × Bool)} {a : Act} {w : World} (ho : ops[i]? = some ⟨d, op, ty, pos, af, gu⟩) (hw : Region.wanted ⟨d, op, ty, pos, af, gu⟩ (yielded ops a.tmps) = true)
    (ho' : ops[j]? = some ⟨d', op', ty', pos', af', gu'⟩) (hw' : Region.wanted ⟨d', op', ty', pos', af', gu'⟩ (yielded ops a.tmps) = true)
    (h : S w → ∀ K : Act → World → Prop, Shut (∀ a' w', S w' → (S w' → Sp P md ops Q S p a' w') → K a' w') → Oper.wp P ⟨d, op, ty, pos, af, gu⟩ a w K (NoPanic Q))
    (h' : S w → ∀ K : Act → World → Prop, Shut (∀ a' w', S w' → (S w' → Sp P md ops Q S q a' w') → K a' w') → Oper.wp P ⟨d', op', ty', pos', af', gu'⟩ a w K (NoPanic Q)) : Sp P md ops Q S (.two i j p q) a w := by
  intro hS hs l hl
  simp only [planP, Bool.and_eq_true, beq_iff_eq] at hl
  refine wpAnyH_ready hl.1 (by simp) (AllReadyH.cons ho (fun K hK => ?_) (AllReadyH.cons ho' (fun K hK => ?_) AllReadyH.nil))
  · rw [if_pos hw]
    exact h hS K fun a' w' h1 h2 => hK.out a' w' h1 fun h3 => h2 h3 h3 hs _ hl.2.2.1
  · rw [if_pos hw']
    refine h' hS K fun a' w' h1 h2 => hK.out a' w' h1 fun h3 => ?_
    have h4 := h2 h3 h3 hs _ hl.2.2.2
    rw [← hl.2.1] at h4
    exact h4
variable {i j dj : Nat} {r p q : Pl} {d : Tmp} {od od' : Option Tmp} {op op' : Op} {ty ty' : TypeId} {pos pos' : String} {af af' : Array Edge} {gu' : Option (Nat × Bool)} {g b : Bool} {T : Array Value} {D : List Deferred} {w : World}
theorem sp_n (T' : Array Value) (v : Value) (ho : ops[i]? = some ⟨some d, op, ty, pos, af, none⟩) (hv : ∀ W, S W → (execOp (Act.eval ⟨T, D⟩) ⟨some d, op, ty, pos, af, none⟩).run P W = .ok (.value v) W) (hT : T.setIfInBounds d v = T') (h : Sp P md ops Q S r ⟨T', D⟩ w) : Sp P md ops Q S (.n i r) ⟨T, D⟩ w := by
  subst hT
  intro hS hs l hl
  simp only [planP, Bool.and_eq_true] at hl
  exact wpAnyH_take ho hs hl.1 hl.2.1 (fun _ _ _ h => h.elim) (.inl ⟨yes_n, hv⟩) hS (h hS hs _ hl.2.2)
theorem sp_1n (ho : ops[i]? = some ⟨od, op, ty, pos, af, none⟩)
    (h : S w → ∀ K : Act → World → Prop, Shut (∀ a' w', S w' → (S w' → Sp P md ops Q S r a' w') → K a' w') → Oper.wp P ⟨od, op, ty, pos, af, none⟩ ⟨T, D⟩ w K (NoPanic Q)) : Sp P md ops Q S (.y i r) ⟨T, D⟩ w := sp_one ho yes_n h
theorem sp_2n (ho : ops[i]? = some ⟨od, op, ty, pos, af, none⟩) (ho' : ops[j]? = some ⟨od', op', ty', pos', af', none⟩)
    (h : S w → ∀ K : Act → World → Prop, Shut (∀ a' w', S w' → (S w' → Sp P md ops Q S p a' w') → K a' w') → Oper.wp P ⟨od, op, ty, pos, af, none⟩ ⟨T, D⟩ w K (NoPanic Q))
    (h' : S w → ∀ K : Act → World → Prop, Shut (∀ a' w', S w' → (S w' → Sp P md ops Q S q a' w') → K a' w') → Oper.wp P ⟨od', op', ty', pos', af', none⟩ ⟨T, D⟩ w K (NoPanic Q)) : Sp P md ops Q S (.two i j p q) ⟨T, D⟩ w := sp_two ho yes_n ho' yes_n h h'
end
end Go.Proofs.Ytjlggfdmfchncaa.Q

namespace Go.Proofs.Ytjlggfdmfchncaa.Q
open Go.RowKit Go.Proofs.YtjlggfdmfchncaaW.PrintWords Go.Proofs.YtjlggfdmfchncaaW.PrintLast Go.Proofs.YtjlggfdmfchncaaW.PrintMore
set_option linter.unusedVariables false
set_option linter.unusedSimpArgs false
/-- The box of the tablet at hand. -/
def BoxS (W : World) (g : Nat) (lo : ByteArray) (r : Value) : Prop := W.heap[g]? = some (.cells #[.string lo, r] 40 (0, 0))
/-- The store under way at o, the answer's block at o2. -/
def StW (w : World) (B o o2 : Nat) (ts : List S40) (v : Value) : Prop :=
  w.heap[o]? = some (.cells #[v] 28 (0, 0)) ∧ w.heap[o2]? = some (.cells #[.slice none 0 0] 28 (0, 0)) ∧ Kd.S kTb 40 w B (fun k => k ≠ o ∧ k ≠ o2) v ts
def sRuns (x : S40) : Prop := x.f1.length ≤ 1000000000 ∧ ∀ q ∈ x.f1, q.f0.length ≤ 1000000000
set_option maxHeartbeats 8000000 in
set_option maxRecDepth 100000 in
theorem sclone_call (A : Option Addr) (c : Nat) (ts : List S40) (w : World) (hr : Kd.C k40 w A ts.length ts) (hl : ts.length ≤ 1000000000) (hq : ∀ x ∈ ts, sRuns x) :
    Calls Try.prog 21 #[.agg #[.slice A ts.length c]] w fun e w' => ∃ v, e = .returned (.agg #[v]) ∧ Kd.S kTb 40 w' w.heap.size (fun _ => True) v ts ∧ Below w.heap.size w w' := by
  have kr : K0 (Below w.heap.size w w) := ⟨Below.refl _ _⟩
  obtain ⟨n, hn⟩ : ∃ n, ts.length = n := ⟨_, rfl⟩
  obtain ⟨wb, hwb⟩ : ∃ wb, wb = ((w.alloc (.cells #[.slice A n c] 28)).alloc (.cells #[.slice none 0 0] 28)).alloc (.cells #[.slice none 0 0] 28) := ⟨_, rfl⟩
  have hb0 : Below w.heap.size w wb := hwb ▸ kk
  have h1 : wb.heap[w.heap.size]? = some (.cells #[.slice A n c] 28 (0, 0)) := hwb ▸ blk_alloc (blk_alloc (heap_alloc_new w _) _) _
  have h2 : wb.heap[w.heap.size + 1]? = some (.cells #[.slice none 0 0] 28 (0, 0)) := hwb ▸ old1 w _ _ _
  have h3 : wb.heap[w.heap.size + 1 + 1]? = some (.cells #[.slice none 0 0] 28 (0, 0)) := hwb ▸ new2 w _ _ _
  have y0 : wb.cell? ⟨w.heap.size, 0, none⟩ = some (.slice A n c) := (blk_cell h1 0).trans rfl
  obtain ⟨o, ho⟩ : ∃ o, o = w.heap.size + 1 + 1 := ⟨_, rfl⟩
  obtain ⟨o2, ho2⟩ : ∃ o2, o2 = w.heap.size + 1 := ⟨_, rfl⟩
  rw [hn] at hr ⊢
  have HS0 := Aside0.mk (show StW wb w.heap.size o o2 (ts.take 0) (.slice none 0 0) from ⟨ho ▸ h3, ho2 ▸ h2, Kd.S_nil _ _ _ _ _⟩)
  have HB0 := Aside0.mk hb0
  have HC := Aside0.mk (And.intro hr (And.intro hl (And.intro hq hn)))
  clear hr hl hq hn hb0 h1 h2 h3
  go_enter Try.func21, Try.ntmps21
  go_wp2_with fail
  rw [← hwb]
  clear hwb
  rw [← ho, ← ho2]
  have HO := Aside0.mk (And.intro ho ho2)
  clear ho ho2 y0
  go_loopw [5, 9] (fun v5 v9 W => ∃ (j : Nat) (v : Value), j ≤ n ∧ v9 = .int .i64 j ∧ Aside0 (StW W w.heap.size o o2 (ts.take j) v) ∧ Aside0 (Below w.heap.size w W)) (fun _ v9 _ => n - (intOf v9).toNat)
  case atStart => exact ⟨0, _, by omega, rfl, HS0, HB0⟩
  case round =>
    clear HS0 HB0
    obtain ⟨j, v, hj, rfl, HS, HB⟩ := hrel
    have kW : K0 (Below w.heap.size w wr) := ⟨HB.out⟩
    by_cases hlt : j < n
    · have dl : decide ((j : Int) < (n : Int)) = true := decide_eq_true (by omega)
      have hwj : IntKind.i64.wrap ((j : Int) + 1) = ((j + 1 : Nat) : Int) := by have := HC.out; rw [IntKind.wrap_i64]; omega
      obtain ⟨ad, A1, c1, e0, y0, y1, hc1, hC1⟩ := at_T40 HC.out.1 (j : Int) (by omega) (by omega)
      subst e0
      obtain ⟨x, hX⟩ : ∃ x, rd_T40 ts (j : Int) = x := ⟨_, rfl⟩
      have hxj : ts[j]? = some x := by rw [← hX]; unfold rd_T40; rw [Int.toNat_natCast, List.getD_eq_getElem?_getD]; have := HC.out.2.2.2; simp [show j < ts.length by omega]
      rw [hX] at y0 y1 hC1
      rw [Int.toNat_natCast] at y0 y1
      have y0 := clk y0
      have y1 := clk y1
      have htk : ts.take (j + 1) = ts.take j ++ [x] := by rw [List.take_add_one, hxj]; rfl
      have hlen : (ts.take j).length = j := by rw [List.length_take]; have := HC.out.2.2.2; omega
      obtain ⟨A3, c3, rfl⟩ := Kd.S_slice HS.out.2.2
      rw [hlen] at HS
      obtain ⟨Wx, hWx⟩ : ∃ W, W = wr.alloc (.cells #[.string x.f0, .slice A1 x.f1.length c1] 40) := ⟨_, rfl⟩
      have hbx : Below wr.heap.size wr Wx := hWx ▸ Below.alloc (Below.refl _ _) (Nat.le_refl _) _
      have hh : Wx.heap[wr.heap.size]? = some (.cells #[.string x.f0, .slice A1 x.f1.length c1] 40 (0, 0)) := hWx ▸ heap_alloc_new wr _
      have hox := (hbx.block o (blk_lt HS.out.1)).trans HS.out.1
      have ho2x := (hbx.block o2 (blk_lt HS.out.2.1)).trans HS.out.2.1
      have hBx : Below w.heap.size w Wx := HB.out.trans (hbx.mono HB.out.size)
      have hSx := Kd.S_below (Kd.S_mono (ok' := fun k => (k ≠ o ∧ k ≠ o2) ∧ k < wr.heap.size) (Kd.S_bound HS.out.2.2) (fun k hk => ⟨hk.1, hk.2.2.1⟩)) hbx
      have HX := Aside0.mk (And.intro hox (And.intro ho2x (And.intro hBx (And.intro hSx (And.intro hC1 (And.intro htk (And.intro hlen (And.intro (HC.out.2.2.1 x (List.mem_of_getElem? hxj)) hbx.size))))))))
      have k0 : K0 (BoxS Wx.drew wr.heap.size x.f0 (.slice A1 x.f1.length c1)) := ⟨hh⟩
      have z0 : ∀ W [K0 (BoxS W wr.heap.size x.f0 (.slice A1 x.f1.length c1))], W.cell? ⟨wr.heap.size, 0, none⟩ = some (.string x.f0) := fun W k => (blk_cell k.out 0).trans rfl
      have z1 : ∀ W [K0 (BoxS W wr.heap.size x.f0 (.slice A1 x.f1.length c1))], W.cell? ⟨wr.heap.size, 1, none⟩ = some (.slice A1 x.f1.length c1) := fun W k => (blk_cell k.out 1).trans rfl
      clear hbx hh hox ho2x hBx hSx hC1 htk hlen hc1 hX hxj
      go_upto_region 5 with (fail)
      rw [← hWx]
      clear hWx y0 y1
      have co : Wx.drew.cell? ⟨o, 0, none⟩ = some (.slice A3 j c3) := (blk_cell (w := Wx) HX.out.1 0).trans rfl
      refine sp_region (S := fun (W' : World) => K0 (BoxS W' wr.heap.size x.f0 (.slice A1 x.f1.length c1))) (.n 0 (.n 2 (.n 3 (.n 4 (.n 5 (.two 1 6 (.y 6 (.n 7 (.y 8 (.y 9 (.n 10 (.y 11 .done)))))) (.n 7 (.two 1 8 (.y 8 (.y 9 (.n 10 (.y 11 .done)))) (.y 1 (.y 9 (.n 10 (.y 11 .done)))))))))))) (by kernel_rfl) (by kernel_rfl) k0 (fun hS => ?_)
      repeat (refine sp_n ?_ ?_ rfl ?_ ?_ ?_; rotate_left 2; (intro W hW; go_simp; first | done | with_reducible rfl); (simp only [List.setIfInBounds_toArray, List.set_cons_zero, List.set_cons_succ]; try rfl))
      refine sp_2n rfl rfl ?_ ?_
      all_goals (intro hS K hK)
      · go_wp2_with fail
        refine hK.out _ _ k0 (fun hS => ?_)
        refine sp_1n rfl (fun hS K hK => ?_)
        go_simp
        go_at_call 36
        refine (cloneRuns_call A1 c1 x.f1 Wx.drew (Kd.C_below HX.out.2.2.2.2.1 (below_drew1 HX.out.2.2.1)) HX.out.2.2.2.2.2.2.2.1.1 HX.out.2.2.2.2.2.2.2.1.2).mono ?_
        rintro ex W1 ⟨v1, rfl, hS1, hb⟩
        obtain ⟨A4, c4, rfl⟩ := Kd.S_slice hS1
        have hd : Below Wx.heap.size Wx W1 := (below_drew1 (Below.refl Wx.heap.size Wx)).trans hb
        have k1 : K0 (BoxS W1 wr.heap.size x.f0 (.slice A1 x.f1.length c1)) := ⟨(hd.block _ (blk_lt k0.out)).trans k0.out⟩
        have HY := Aside0.mk (And.intro hS1 (And.intro hd ((hd.block o (blk_lt HX.out.1)).trans HX.out.1)))
        have co1 : W1.cell? ⟨o, 0, none⟩ = some (.slice A3 j c3) := (blk_cell HY.out.2.2 0).trans rfl
        clear hS1 hb hd
        refine hK.out _ _ k1 (fun hS => ?_)
        repeat (refine sp_n ?_ ?_ rfl ?_ ?_ ?_; rotate_left 2; (intro W hW; go_simp; first | done | with_reducible rfl); (simp only [List.setIfInBounds_toArray, List.set_cons_zero, List.set_cons_succ]; try rfl))
        refine sp_1n rfl (fun hS K hK => ?_)
        go_wp2_with fail
        have k2 : K0 (BoxS (W1.alloc (.cells #[.string x.f0, .slice A4 x.f1.length c4] 40)) wr.heap.size x.f0 (.slice A1 x.f1.length c1)) := ⟨blk_alloc k1.out _⟩
        have co2 : (W1.alloc (.cells #[.string x.f0, .slice A4 x.f1.length c4] 40)).cell? ⟨o, 0, none⟩ = some (.slice A3 j c3) := (blk_cell (blk_alloc HY.out.2.2 _) 0).trans rfl
        refine hK.out _ _ k2 (fun hS => ?_)
        refine sp_1n rfl (fun hS K hK => ?_)
        refine Eq.mp (if_pos yes_n) (Kd.S_append_step (ops := #[]) (Kc := K) kTb (w0 := w) w.heap.size yes_n (.tmp 14) (.tmp 21) 26 40 (.agg #[(.string ⟨#[]⟩), (.slice none 0 0)]) 40 rfl Try.underlying26 info40 rfl (by decide) (by omega) (.slice A3 j c3) (ts.take j) x [.string x.f0, .slice A4 x.f1.length c4] (fun k => k ≠ o ∧ k ≠ o2) (fun k => Wx.heap.size ≤ k) rfl rfl (kTb_mkM _ _ _ x (Kd.S_lower (Kd.S_mono (ok' := fun k => Wx.heap.size ≤ k) (Kd.S_bound HY.out.1) (fun k hk => hk.2.1)) HX.out.2.2.1.size)) (fun k hk => ⟨by have h1 := blk_lt HX.out.1; have h2 := blk_lt HX.out.2.1; omega, fun e => by have := Kd.S_lt HS.out.2.2 k e.symm; have := HX.out.2.2.2.2.2.2.2.2; omega⟩) (fun k hk => by have h1 := blk_lt HX.out.1; have h2 := blk_lt HX.out.2.1; have h3 := HY.out.2.1.size; omega) (Kd.S_below (Kd.S_mono (ok' := fun k => (k ≠ o ∧ k ≠ o2) ∧ ¬ (Wx.heap.size ≤ k)) HX.out.2.2.2.1 (fun k hk => ⟨hk.1, by have := hk.2; have := HX.out.2.2.2.2.2.2.2.2; omega⟩)) HY.out.2.1) (HX.out.2.2.1.trans (HY.out.2.1.mono HX.out.2.2.1.size)) (Nat.le_trans HX.out.2.2.1.size HY.out.2.1.size) (by have := HX.out.2.2.2.2.2.2.1; have := HC.out; omega) ?_)
        intro v5 w5 ho hb hg hat
        obtain ⟨A5, m5, c5, rfl⟩ : ∃ A m c, v5 = .slice A m c := by obtain ⟨A, c, h⟩ := Kd.S_slice ho; exact ⟨_, _, _, h⟩
        have hnr : ∀ k, k = o ∨ k = o2 ∨ k = wr.heap.size → some k ≠ Value.ownBlock (.slice A3 j c3) := fun k hk e => by
          have h1 := (Kd.S_R HS.out.2.2).1 k e.symm
          have h2 := Kd.S_lt HS.out.2.2 k e.symm
          omega
        have hx1 := HY.out.2.1.size
        have hx2 := HX.out.2.2.2.2.2.2.2.2
        have ho7 := (hg.block o (by have := blk_lt HX.out.1; omega) (hnr o (.inl rfl))).trans HY.out.2.2
        have h27 := (hg.block o2 (by have := blk_lt HX.out.2.1; omega) (hnr o2 (.inr (.inl rfl)))).trans ((HY.out.2.1.block o2 (blk_lt HX.out.2.1)).trans HX.out.2.1)
        have kb7 : K0 (BoxS w5 wr.heap.size x.f0 (.slice A1 x.f1.length c1)) := ⟨(hg.block wr.heap.size (blk_lt k1.out) (hnr _ (.inr (.inr rfl)))).trans k1.out⟩
        have hoe : wr.heap.size ≠ o := by have := blk_lt HS.out.1; omega
        have ho22 : o2 ≠ o := by have := HO.out; omega
        have kb8 : K0 (BoxS (w5.setCell ⟨o, 0, none⟩ (.slice A5 m5 c5)) wr.heap.size x.f0 (.slice A1 x.f1.length c1)) := ⟨blk_far kb7.out hoe _⟩
        have q0 : w5.cell? ⟨o, 0, none⟩ = some (.slice A3 j c3) := (blk_cell ho7 0).trans rfl
        have fq := blk_frozen ho7 0
        have HG := Aside0.mk (And.intro (show StW (w5.setCell ⟨o, 0, none⟩ (.slice A5 m5 c5)) w.heap.size o o2 (ts.take j ++ [x]) (.slice A5 m5 c5) from ⟨blk_put ho7 0 _ rfl, blk_far h27 ho22 _, Kd.S_far ho (fun k hk => hk.1) _⟩) (hb.setCell (p := ⟨o, 0, none⟩) (by have := HO.out; show w.heap.size ≤ o; omega) (.slice A5 m5 c5)))
        clear ho hb hg hat hnr hx1 hx2 ho7 h27 hoe ho22
        refine hK.out _ _ kb7 (fun hS => ?_)
        repeat (refine sp_n ?_ ?_ rfl ?_ ?_ ?_; rotate_left 2; (intro W hW; go_simp; first | done | with_reducible rfl); (simp only [List.setIfInBounds_toArray, List.set_cons_zero, List.set_cons_succ]; try rfl))
        refine sp_1n rfl (fun hS K hK => ?_)
        go_wp2_with fail
        refine hK.out _ _ kb8 (fun hS => ?_)
        refine sp_done (fun hS => ?_)
        go_wp2_with fail
        go_roundw
        case measure => simp only [intOf]; omega
        case rel => exact ⟨j + 1, .slice A5 m5 c5, by omega, by rw [Int.natCast_add]; rfl, ⟨by rw [HX.out.2.2.2.2.2.1]; exact HG.out.1⟩, ⟨HG.out.2⟩⟩
      · go_simp
        go_at_call 36
        refine (cloneRuns_call A1 c1 x.f1 Wx.drew (Kd.C_below HX.out.2.2.2.2.1 (below_drew1 HX.out.2.2.1)) HX.out.2.2.2.2.2.2.2.1.1 HX.out.2.2.2.2.2.2.2.1.2).mono ?_
        rintro ex W1 ⟨v1, rfl, hS1, hb⟩
        obtain ⟨A4, c4, rfl⟩ := Kd.S_slice hS1
        have hd : Below Wx.heap.size Wx W1 := (below_drew1 (Below.refl Wx.heap.size Wx)).trans hb
        have k1 : K0 (BoxS W1 wr.heap.size x.f0 (.slice A1 x.f1.length c1)) := ⟨(hd.block _ (blk_lt k0.out)).trans k0.out⟩
        have HY := Aside0.mk (And.intro hS1 (And.intro hd ((hd.block o (blk_lt HX.out.1)).trans HX.out.1)))
        have co1 : W1.cell? ⟨o, 0, none⟩ = some (.slice A3 j c3) := (blk_cell HY.out.2.2 0).trans rfl
        clear hS1 hb hd
        refine hK.out _ _ k1 (fun hS => ?_)
        repeat (refine sp_n ?_ ?_ rfl ?_ ?_ ?_; rotate_left 2; (intro W hW; go_simp; first | done | with_reducible rfl); (simp only [List.setIfInBounds_toArray, List.set_cons_zero, List.set_cons_succ]; try rfl))
        refine sp_2n rfl rfl ?_ ?_
        all_goals (intro hS K hK)
        · go_wp2_with fail
          refine hK.out _ _ k1 (fun hS => ?_)
          refine sp_1n rfl (fun hS K hK => ?_)
          go_wp2_with fail
          have k2 : K0 (BoxS (W1.alloc (.cells #[.string x.f0, .slice A4 x.f1.length c4] 40)) wr.heap.size x.f0 (.slice A1 x.f1.length c1)) := ⟨blk_alloc k1.out _⟩
          have co2 : (W1.alloc (.cells #[.string x.f0, .slice A4 x.f1.length c4] 40)).cell? ⟨o, 0, none⟩ = some (.slice A3 j c3) := (blk_cell (blk_alloc HY.out.2.2 _) 0).trans rfl
          refine hK.out _ _ k2 (fun hS => ?_)
          refine sp_1n rfl (fun hS K hK => ?_)
          refine Eq.mp (if_pos yes_n) (Kd.S_append_step (ops := #[]) (Kc := K) kTb (w0 := w) w.heap.size yes_n (.tmp 14) (.tmp 21) 26 40 (.agg #[(.string ⟨#[]⟩), (.slice none 0 0)]) 40 rfl Try.underlying26 info40 rfl (by decide) (by omega) (.slice A3 j c3) (ts.take j) x [.string x.f0, .slice A4 x.f1.length c4] (fun k => k ≠ o ∧ k ≠ o2) (fun k => Wx.heap.size ≤ k) rfl rfl (kTb_mkM _ _ _ x (Kd.S_lower (Kd.S_mono (ok' := fun k => Wx.heap.size ≤ k) (Kd.S_bound HY.out.1) (fun k hk => hk.2.1)) HX.out.2.2.1.size)) (fun k hk => ⟨by have h1 := blk_lt HX.out.1; have h2 := blk_lt HX.out.2.1; omega, fun e => by have := Kd.S_lt HS.out.2.2 k e.symm; have := HX.out.2.2.2.2.2.2.2.2; omega⟩) (fun k hk => by have h1 := blk_lt HX.out.1; have h2 := blk_lt HX.out.2.1; have h3 := HY.out.2.1.size; omega) (Kd.S_below (Kd.S_mono (ok' := fun k => (k ≠ o ∧ k ≠ o2) ∧ ¬ (Wx.heap.size ≤ k)) HX.out.2.2.2.1 (fun k hk => ⟨hk.1, by have := hk.2; have := HX.out.2.2.2.2.2.2.2.2; omega⟩)) HY.out.2.1) (HX.out.2.2.1.trans (HY.out.2.1.mono HX.out.2.2.1.size)) (Nat.le_trans HX.out.2.2.1.size HY.out.2.1.size) (by have := HX.out.2.2.2.2.2.2.1; have := HC.out; omega) ?_)
          intro v5 w5 ho hb hg hat
          obtain ⟨A5, m5, c5, rfl⟩ : ∃ A m c, v5 = .slice A m c := by obtain ⟨A, c, h⟩ := Kd.S_slice ho; exact ⟨_, _, _, h⟩
          have hnr : ∀ k, k = o ∨ k = o2 ∨ k = wr.heap.size → some k ≠ Value.ownBlock (.slice A3 j c3) := fun k hk e => by
            have h1 := (Kd.S_R HS.out.2.2).1 k e.symm
            have h2 := Kd.S_lt HS.out.2.2 k e.symm
            omega
          have hx1 := HY.out.2.1.size
          have hx2 := HX.out.2.2.2.2.2.2.2.2
          have ho7 := (hg.block o (by have := blk_lt HX.out.1; omega) (hnr o (.inl rfl))).trans HY.out.2.2
          have h27 := (hg.block o2 (by have := blk_lt HX.out.2.1; omega) (hnr o2 (.inr (.inl rfl)))).trans ((HY.out.2.1.block o2 (blk_lt HX.out.2.1)).trans HX.out.2.1)
          have kb7 : K0 (BoxS w5 wr.heap.size x.f0 (.slice A1 x.f1.length c1)) := ⟨(hg.block wr.heap.size (blk_lt k1.out) (hnr _ (.inr (.inr rfl)))).trans k1.out⟩
          have hoe : wr.heap.size ≠ o := by have := blk_lt HS.out.1; omega
          have ho22 : o2 ≠ o := by have := HO.out; omega
          have kb8 : K0 (BoxS (w5.setCell ⟨o, 0, none⟩ (.slice A5 m5 c5)) wr.heap.size x.f0 (.slice A1 x.f1.length c1)) := ⟨blk_far kb7.out hoe _⟩
          have q0 : w5.cell? ⟨o, 0, none⟩ = some (.slice A3 j c3) := (blk_cell ho7 0).trans rfl
          have fq := blk_frozen ho7 0
          have HG := Aside0.mk (And.intro (show StW (w5.setCell ⟨o, 0, none⟩ (.slice A5 m5 c5)) w.heap.size o o2 (ts.take j ++ [x]) (.slice A5 m5 c5) from ⟨blk_put ho7 0 _ rfl, blk_far h27 ho22 _, Kd.S_far ho (fun k hk => hk.1) _⟩) (hb.setCell (p := ⟨o, 0, none⟩) (by have := HO.out; show w.heap.size ≤ o; omega) (.slice A5 m5 c5)))
          clear ho hb hg hat hnr hx1 hx2 ho7 h27 hoe ho22
          refine hK.out _ _ kb7 (fun hS => ?_)
          repeat (refine sp_n ?_ ?_ rfl ?_ ?_ ?_; rotate_left 2; (intro W hW; go_simp; first | done | with_reducible rfl); (simp only [List.setIfInBounds_toArray, List.set_cons_zero, List.set_cons_succ]; try rfl))
          refine sp_1n rfl (fun hS K hK => ?_)
          go_wp2_with fail
          refine hK.out _ _ kb8 (fun hS => ?_)
          refine sp_done (fun hS => ?_)
          go_wp2_with fail
          go_roundw
          case measure => simp only [intOf]; omega
          case rel => exact ⟨j + 1, .slice A5 m5 c5, by omega, by rw [Int.natCast_add]; rfl, ⟨by rw [HX.out.2.2.2.2.2.1]; exact HG.out.1⟩, ⟨HG.out.2⟩⟩
        · go_wp2_with fail
          have k2 : K0 (BoxS (W1.alloc (.cells #[.string x.f0, .slice A4 x.f1.length c4] 40)) wr.heap.size x.f0 (.slice A1 x.f1.length c1)) := ⟨blk_alloc k1.out _⟩
          have co2 : (W1.alloc (.cells #[.string x.f0, .slice A4 x.f1.length c4] 40)).cell? ⟨o, 0, none⟩ = some (.slice A3 j c3) := (blk_cell (blk_alloc HY.out.2.2 _) 0).trans rfl
          refine hK.out _ _ k2 (fun hS => ?_)
          refine sp_1n rfl (fun hS K hK => ?_)
          go_wp2_with fail
          refine hK.out _ _ k2 (fun hS => ?_)
          refine sp_1n rfl (fun hS K hK => ?_)
          refine Eq.mp (if_pos yes_n) (Kd.S_append_step (ops := #[]) (Kc := K) kTb (w0 := w) w.heap.size yes_n (.tmp 14) (.tmp 21) 26 40 (.agg #[(.string ⟨#[]⟩), (.slice none 0 0)]) 40 rfl Try.underlying26 info40 rfl (by decide) (by omega) (.slice A3 j c3) (ts.take j) x [.string x.f0, .slice A4 x.f1.length c4] (fun k => k ≠ o ∧ k ≠ o2) (fun k => Wx.heap.size ≤ k) rfl rfl (kTb_mkM _ _ _ x (Kd.S_lower (Kd.S_mono (ok' := fun k => Wx.heap.size ≤ k) (Kd.S_bound HY.out.1) (fun k hk => hk.2.1)) HX.out.2.2.1.size)) (fun k hk => ⟨by have h1 := blk_lt HX.out.1; have h2 := blk_lt HX.out.2.1; omega, fun e => by have := Kd.S_lt HS.out.2.2 k e.symm; have := HX.out.2.2.2.2.2.2.2.2; omega⟩) (fun k hk => by have h1 := blk_lt HX.out.1; have h2 := blk_lt HX.out.2.1; have h3 := HY.out.2.1.size; omega) (Kd.S_below (Kd.S_mono (ok' := fun k => (k ≠ o ∧ k ≠ o2) ∧ ¬ (Wx.heap.size ≤ k)) HX.out.2.2.2.1 (fun k hk => ⟨hk.1, by have := hk.2; have := HX.out.2.2.2.2.2.2.2.2; omega⟩)) HY.out.2.1) (HX.out.2.2.1.trans (HY.out.2.1.mono HX.out.2.2.1.size)) (Nat.le_trans HX.out.2.2.1.size HY.out.2.1.size) (by have := HX.out.2.2.2.2.2.2.1; have := HC.out; omega) ?_)
          intro v5 w5 ho hb hg hat
          obtain ⟨A5, m5, c5, rfl⟩ : ∃ A m c, v5 = .slice A m c := by obtain ⟨A, c, h⟩ := Kd.S_slice ho; exact ⟨_, _, _, h⟩
          have hnr : ∀ k, k = o ∨ k = o2 ∨ k = wr.heap.size → some k ≠ Value.ownBlock (.slice A3 j c3) := fun k hk e => by
            have h1 := (Kd.S_R HS.out.2.2).1 k e.symm
            have h2 := Kd.S_lt HS.out.2.2 k e.symm
            omega
          have hx1 := HY.out.2.1.size
          have hx2 := HX.out.2.2.2.2.2.2.2.2
          have ho7 := (hg.block o (by have := blk_lt HX.out.1; omega) (hnr o (.inl rfl))).trans HY.out.2.2
          have h27 := (hg.block o2 (by have := blk_lt HX.out.2.1; omega) (hnr o2 (.inr (.inl rfl)))).trans ((HY.out.2.1.block o2 (blk_lt HX.out.2.1)).trans HX.out.2.1)
          have kb7 : K0 (BoxS w5 wr.heap.size x.f0 (.slice A1 x.f1.length c1)) := ⟨(hg.block wr.heap.size (blk_lt k1.out) (hnr _ (.inr (.inr rfl)))).trans k1.out⟩
          have hoe : wr.heap.size ≠ o := by have := blk_lt HS.out.1; omega
          have ho22 : o2 ≠ o := by have := HO.out; omega
          have kb8 : K0 (BoxS (w5.setCell ⟨o, 0, none⟩ (.slice A5 m5 c5)) wr.heap.size x.f0 (.slice A1 x.f1.length c1)) := ⟨blk_far kb7.out hoe _⟩
          have q0 : w5.cell? ⟨o, 0, none⟩ = some (.slice A3 j c3) := (blk_cell ho7 0).trans rfl
          have fq := blk_frozen ho7 0
          have HG := Aside0.mk (And.intro (show StW (w5.setCell ⟨o, 0, none⟩ (.slice A5 m5 c5)) w.heap.size o o2 (ts.take j ++ [x]) (.slice A5 m5 c5) from ⟨blk_put ho7 0 _ rfl, blk_far h27 ho22 _, Kd.S_far ho (fun k hk => hk.1) _⟩) (hb.setCell (p := ⟨o, 0, none⟩) (by have := HO.out; show w.heap.size ≤ o; omega) (.slice A5 m5 c5)))
          clear ho hb hg hat hnr hx1 hx2 ho7 h27 hoe ho22
          refine hK.out _ _ kb7 (fun hS => ?_)
          repeat (refine sp_n ?_ ?_ rfl ?_ ?_ ?_; rotate_left 2; (intro W hW; go_simp; first | done | with_reducible rfl); (simp only [List.setIfInBounds_toArray, List.set_cons_zero, List.set_cons_succ]; try rfl))
          refine sp_1n rfl (fun hS K hK => ?_)
          go_wp2_with fail
          refine hK.out _ _ kb8 (fun hS => ?_)
          refine sp_done (fun hS => ?_)
          go_wp2_with fail
          go_roundw
          case measure => simp only [intOf]; omega
          case rel => exact ⟨j + 1, .slice A5 m5 c5, by omega, by rw [Int.natCast_add]; rfl, ⟨by rw [HX.out.2.2.2.2.2.1]; exact HG.out.1⟩, ⟨HG.out.2⟩⟩
    · obtain rfl : j = n := by omega
      have dl : decide ((j : Int) < (j : Int)) = false := decide_eq_false (by omega)
      have htk : ts.take j = ts := by rw [← HC.out.2.2.2]; exact List.take_length
      rw [htk] at HS
      obtain ⟨A3, c3, rfl⟩ := Kd.S_slice HS.out.2.2
      have o0 : wr.cell? ⟨o, 0, none⟩ = some (.slice A3 ts.length c3) := (blk_cell HS.out.1 0).trans rfl
      have r0 : wr.cell? ⟨o2, 0, none⟩ = some (.slice none 0 0) := (blk_cell HS.out.2.1 0).trans rfl
      have fr := blk_frozen HS.out.2.1 0
      clear htk
      go_wp2_with fail
      have b1 := blk_put HS.out.2.1 0 (.slice A3 ts.length c3) (cs' := #[.slice A3 ts.length c3]) rfl
      refine bodyPost_ret (results_cell_row rfl _ _ o2 28 _ (0, 0) _ rfl b1 Try.underlying28 rfl (by kernel_rfl)) rfl ⟨_, rfl, Kd.S_mono (Kd.S_far (p := ⟨o2, 0, none⟩) HS.out.2.2 (fun k hk => hk.2) _) (fun _ _ => trivial), HB.out.setCell (p := ⟨o2, 0, none⟩) (by have := HO.out; show w.heap.size ≤ o2; omega) _⟩
end Go.Proofs.Ytjlggfdmfchncaa.Q

namespace Go.Proofs.Ytjlggfdmfchncaa.Q
open Go.RowKit Go.Proofs.YtjlggfdmfchncaaW.PrintWords Go.Proofs.YtjlggfdmfchncaaW.PrintLast Go.Proofs.YtjlggfdmfchncaaW.PrintMore
set_option linter.unusedVariables false
set_option linter.unusedSimpArgs false
def smT (x : IT) : Prop := x.f1.length ≤ 1048576 ∧ ∀ q ∈ x.f1, q.f0.length ≤ 1048576
def SmS (ts : List IT) : Prop := ts.length ≤ 1048576 ∧ ∀ x ∈ ts, smT x
theorem SmS_T {ts : List IT} (h : SmS ts) : ∀ q ∈ ts, sT q := fun q hq => ⟨by have := (h.2 q hq).1; omega, fun r hr => by have := (h.2 q hq).2 r hr; unfold sR; omega⟩
theorem SmS_R {ts : List IT} (h : SmS ts) : ∀ q ∈ ts, sRuns q := fun q hq => ⟨by have := (h.2 q hq).1; omega, fun r hr => by have := (h.2 q hq).2 r hr; omega⟩
theorem vimpl_call (A : Option Addr) (c : Nat) (ts : List IT) (w : World) (hr : Kd.C k40 w A ts.length ts) (hc : ts.length ≤ c) (hs : SmS ts) :
    Calls Try.prog 22 #[.agg #[.slice A ts.length c]] w fun e w' => e = .returned (.bool (vstore ts)) ∧ Below w.heap.size w w' := by
  obtain ⟨K, hK⟩ := implStore_is ts (by have := hs.1; omega) (SmS_T hs)
  exact impl_ValidStore.calls K A c ts _ w hr hc (hK K (Nat.le_refl _))
theorem vspec_call (A : Option Addr) (c : Nat) (ts : List IT) (w : World) (hr : Kd.C k40 w A ts.length ts) (hc : ts.length ≤ c) (hs : SmS ts) :
    Calls Try.prog 15 #[.agg #[.slice A ts.length c]] w fun e w' => e = .returned (.bool (vstore ts)) ∧ Below w.heap.size w w' := by
  obtain ⟨K, hK⟩ := specStore_is ts (by have := hs.1; omega) (SmS_T hs)
  exact spec_ValidStore.calls K A c ts _ w hr hc (hK K (Nat.le_refl _))
theorem tabs_up (l : List IT) : ∀ (ts pre : List IT), l = pre ++ ts → tabsV l pre.length ts = true → ∀ j, 0 < j → pre.length ≤ j → j < l.length → Op.bytesLess (loB l (j - 1)) (loB l j) = true
  | [], pre, e, _, j, _, h1, h2 => by rw [e] at h2; simp at h2; omega
  | t :: ts, pre, e, h, j, h0, h1, h2 => by
    unfold tabsV at h
    simp only [Bool.and_eq_true] at h
    by_cases hj : j = pre.length
    · have h3 := h.1
      unfold headOk at h3
      simp only [Bool.and_eq_true, Bool.or_eq_true, decide_eq_true_eq] at h3
      have h4 := h3.1.2.resolve_left (by omega)
      have hd : rd_T40 l (pre.length : Int) = t := by unfold rd_T40; rw [Int.toNat_natCast, e, getD_cut]
      rw [hj]
      unfold loB
      rw [hd]
      exact h4
    · exact tabs_up l ts (pre ++ [t]) (by simp [e]) (by simpa using h.2.2) j h0 (by simp; omega) h2
theorem rise_of {ts : List IT} (h : vstore ts = true) : RiseT ts := by
  unfold vstore at h
  simp only [Bool.and_eq_true, decide_eq_true_eq, List.isEmpty_iff] at h
  refine ⟨by omega, h.1.2, ?_⟩
  have up := tabs_up ts ts [] rfl h.2
  intro i j hij hj
  obtain ⟨m, rfl⟩ : ∃ m, j = i + 1 + m := ⟨j - (i + 1), by omega⟩
  induction m with
  | zero => exact up (i + 1) (by omega) (by simp) hj
  | succ m ih => exact less_trans _ _ _ (ih (by omega) (by omega)) (up (i + 1 + (m + 1)) (by omega) (by simp) hj)
def tA (ts : List IT) (i : Nat) : IT := rd_T40 ts (i : Int)
end Go.Proofs.Ytjlggfdmfchncaa.Q

namespace Go.Proofs.Ytjlggfdmfchncaa.Q
open Go.RowKit Go.Proofs.YtjlggfdmfchncaaW.PrintWords Go.Proofs.YtjlggfdmfchncaaW.PrintLast Go.Proofs.YtjlggfdmfchncaaW.PrintMore
set_option linter.unusedVariables false
set_option linter.unusedSimpArgs false
section
variable {α : Type} {d : Kd α} {e base n cap g : Nat} {W w : World} {ok : Nat → Prop} {v : Value} {xs : List α} {rows : List (List Value)}
theorem raw_of_S (h : Kd.S d e W base ok v xs) : ∃ f : Nat → Nat, ∃ rows : List (List Value), rows.length = xs.length ∧ (Kd.raw d.sz).R e W base (fun _ => True) v rows ∧ (∀ m x, xs[m]? = some x → ∃ cm, rows[m]? = some cm ∧ d.M W base (fun k => (ok k ∧ some k ≠ v.ownBlock) ∧ f k = m) x cm) ∧ (∀ k, v.ownBlock = some k → ok k) := by
  obtain ⟨f, hok0, inner, ho, hr⟩ := h
  have hp : ∀ m x, xs[m]? = some x → d.M W base (fun k => (ok k ∧ some k ≠ v.ownBlock) ∧ f k = m) x ((inner.drop (m * d.sz)).take d.sz) := fun m x hx => hr.2 m (x, m) (Kd.zip_at hx)
  refine ⟨f, (List.range xs.length).map fun j => (inner.drop (j * d.sz)).take d.sz, by rw [List.length_map, List.length_range], ⟨fun _ _ => trivial, inner, ?_, ?_, fun j p hj => ?_⟩, fun m x hx => ?_, hok0⟩
  · rw [List.length_map, List.length_range]; rw [List.length_zipIdx] at ho; exact ho
  · rw [List.length_map, List.length_range]; have := hr.1; rw [List.length_zipIdx] at this; exact this
  · rw [List.getElem?_map] at hj
    obtain ⟨j', hj', rfl⟩ := Option.map_eq_some_iff.1 hj
    obtain ⟨hl, he⟩ := List.getElem?_eq_some_iff.1 hj'
    rw [List.getElem_range] at he
    subst he
    rw [List.length_range] at hl
    have hm := d.K_of_M (hp j _ (List.getElem?_eq_getElem hl))
    exact ⟨rfl, d.K_len hm, d.K_one hm⟩
  · have hm : m < xs.length := (List.getElem?_eq_some_iff.1 hx).1
    exact ⟨_, by rw [List.getElem?_map, List.getElem?_eq_getElem (by rw [List.length_range]; exact hm), List.getElem_range]; rfl, hp m x hx⟩
theorem S_of_raw (f : Nat → Nat) (h : (Kd.raw d.sz).R e w base (fun _ => True) v rows) (hl : rows.length = xs.length) (hM : ∀ m x cm, xs[m]? = some x → rows[m]? = some cm → d.M w base (fun k => (ok k ∧ some k ≠ v.ownBlock) ∧ f k = m) x cm) (h0 : ∀ k, v.ownBlock = some k → ok k) : Kd.S d e w base ok v xs := by
  obtain ⟨_, inner, ho, hr⟩ := h
  refine ⟨f, h0, inner, by rw [List.length_zipIdx, ← hl]; exact ho, by rw [List.length_zipIdx, ← hl]; exact hr.1, fun m p hm => ?_⟩
  rw [List.getElem?_zipIdx, Nat.zero_add] at hm
  obtain ⟨x, hx, rfl⟩ := Option.map_eq_some_iff.1 hm
  have hml : m < rows.length := by rw [hl]; exact (List.getElem?_eq_some_iff.1 hx).1
  have hc := (hr.2 m _ (List.getElem?_eq_getElem hml)).1
  have := hM m x _ hx (List.getElem?_eq_getElem hml)
  rw [← hc] at this
  exact this
theorem raw_cell {sz : Nat} (h : (Kd.raw sz).R e w base ok (.slice (some ⟨g, 0, none⟩) n cap) rows) {m : Nat} {cm : List Value} (hm : rows[m]? = some cm) {j : Nat} {u : Value} (hj : cm[j]? = some u) : w.cell? ⟨g, m * sz + j, none⟩ = some u ∧ w.frozen? ⟨g, m * sz + j, none⟩ = false := by
  have hn := (Kd.R_reads' h).1
  have hml := (List.getElem?_eq_some_iff.1 hm).1
  obtain ⟨c, hcl, hM, hcc, hfr⟩ := Kd.R_elem h [] (m : Int) (by omega) (by omega)
  rw [Int.toNat_natCast] at hM hcc hfr
  have : c = cm := by
    have h1 := hM.1
    rw [List.getD_eq_getElem?_getD, hm] at h1
    exact h1
  subst this
  exact ⟨hcc j u hj, hfr j⟩
end
theorem raw_of_Sg {α : Type} {d : Kd α} {e base n cap g : Nat} {W : World} {ok : Nat → Prop} {xs : List α} (h : Kd.S d e W base ok (.slice (some ⟨g, 0, none⟩) n cap) xs) : ∃ f : Nat → Nat, ∃ rows : List (List Value), rows.length = xs.length ∧ (Kd.raw d.sz).R e W base (fun _ => True) (.slice (some ⟨g, 0, none⟩) n cap) rows ∧ (∀ m x, xs[m]? = some x → ∃ cm, rows[m]? = some cm ∧ d.M W base (fun k => (ok k ∧ k ≠ g) ∧ f k = m) x cm) ∧ ok g := by
  obtain ⟨f, rows, h1, h2, h3, h4⟩ := raw_of_S h
  refine ⟨f, rows, h1, h2, fun m x hx => ?_, h4 g (by simp [Value.ownBlock])⟩
  obtain ⟨cm, h5, h6⟩ := h3 m x hx
  exact ⟨cm, h5, d.M_mono (fun k hk => ⟨⟨hk.1.1, fun he => hk.1.2 (by simp [Value.ownBlock, he])⟩, hk.2⟩) h6⟩
end Go.Proofs.Ytjlggfdmfchncaa.Q

namespace Go.Proofs.Ytjlggfdmfchncaa.Q
open Go.RowKit Go.Proofs.YtjlggfdmfchncaaW.PrintWords Go.Proofs.YtjlggfdmfchncaaW.PrintLast Go.Proofs.YtjlggfdmfchncaaW.PrintMore
set_option linter.unusedVariables false
set_option linter.unusedSimpArgs false
/-- copy, of elements of several cells. -/
theorem run_copy_K {P : Program} (w : World) (dT sT ty elem : TypeId) (sz b o dLen dCap : Nat) (a : Addr) (sLen sCap m : Nat) (cs : List Value)
    (hu : P.underlying dT = some (.slice elem)) (hs : (P.info? elem).map (·.size) = some sz) (hm : Nat.min sLen dLen = m) (hn : cs.length = m * sz)
    (hsrc : ∀ j v, cs[j]? = some v → w.cell? (a.add j) = some v) (hc : ∀ j, j < cs.length → (w.cell? ⟨b, o + j, none⟩).isSome = true) (hf : ∀ j, j < cs.length → w.frozen? ⟨b, o + j, none⟩ = false) (h1 : ∀ v ∈ cs, v.oneCell' = true) :
    (Builtin.copy_ #[dT, sT] ty #[.slice (some ⟨b, o, none⟩) dLen dCap, .slice (some a) sLen sCap]).run P w = .ok (goInt m) (w.setCells b o cs) := by
  have hl := run_loadCells_list (P := P) w a cs hsrc
  have hst := run_storeCells_cells (P := P) b o cs 0 w (by simpa using hc) (by simpa using hf) h1
  cases hq : P.info? elem with
  | none => simp [hq] at hs
  | some i =>
    have hi : i.size = sz := by simpa [hq] using hs
    simp [Builtin.copy_, run_underlying hu, Builtin.lenOf, Builtin.firstCells, sizeOf, typeInfo, hq, hi, hm, ← hn, hl, hst]
set_option maxHeartbeats 4000000 in
set_option maxRecDepth 100000 in
theorem insert_end (base g n c vb : Nat) (rows : List (List Value)) (v0 v1 : Value) (w : World) (h : (Kd.raw 2).R 40 w base (fun _ => True) (.slice (some ⟨g, 0, none⟩) n c) rows) (hv : w.heap[vb]? = some (.cells #[v0, v1] 40 (0, 0))) (h1 : v0.oneCell' = true ∧ v1.oneCell' = true) (hn : n ≤ 1000000000) (hb : base ≤ w.heap.size) :
    Calls Try.prog 30 #[.slice (some ⟨g, 0, none⟩) n c, .int .i64 n, .slice (some ⟨vb, 0, none⟩) 1 1] w fun e w' => ∃ g' c', e = .returned (.slice (some ⟨g', 0, none⟩) (n + 1) c') ∧ (Kd.raw 2).R 40 w' base (fun _ => True) (.slice (some ⟨g', 0, none⟩) (n + 1) c') (rows ++ [[v0, v1]]) ∧ (g' = g ∨ w.heap.size ≤ g') ∧ w.grownBy w' (some g) := by
  have kr : K0 (Below w.heap.size w w) := ⟨Below.refl _ _⟩
  have hl := Kd.R_reads' h
  have hC1 : (Kd.raw 2).C w (some ⟨vb, 0, none⟩) 1 [[v0, v1]] := ⟨rfl, by decide, fun _ => ⟨_, rfl, fun j p hj => by
    obtain ⟨hj0, hp⟩ := List.getElem?_eq_some_iff.1 hj
    obtain rfl : j = 0 := by simp at hj0; exact hj0
    subst hp
    refine ⟨_, rfl, ⟨rfl, rfl, fun u hu => by simp at hu; rcases hu with rfl | rfl; exact h1.1; exact h1.2⟩, fun q u hu => ?_⟩
    rw [add_at, blk_cell hv]
    rw [Nat.zero_mul, Nat.zero_add, Nat.zero_add]
    simpa using hu⟩⟩
  have HO := Aside0.mk (And.intro h (And.intro hC1 (And.intro hb hn)))
  have HL := Aside0.mk hl
  have q1 : (n ≤ c) = True := eq_true hl.2.1
  have q2 : ((0 : Int) ≤ (n : Int)) = True := eq_true (by omega)
  clear h hC1 hb hl hn
  by_cases hcn : c = n
  case' pos => obtain rfl : n = c := hcn.symm
  case' neg => have r4 : (c = n) = False := eq_false hcn
  all_goals
    go_enter Try.func30, Try.ntmps30
    go_wp2_with (at_builtin; go_loud (refine Kd.R_append_rows (Kd.raw 2) (w0 := w) base rfl (.tmp 23) (.tmp 24) 26 40 (.agg #[(.string ⟨#[]⟩), (.slice none 0 0)]) 40 rfl Try.underlying26 info40 rfl (by decide) (by omega) _ rows [[v0, v1]] (some ⟨vb, 0, none⟩) 1 1 (fun _ => True) (fun _ => False) rfl rfl HO.out.1 HO.out.2.1 (fun _ _ h => h) (fun _ h => h.elim) (fun _ _ => trivial) (Below.refl _ _) HO.out.2.2.1 (by have := HO.out.2.2.2; have := HL.out.1; first | omega | (simp; omega)) ?_; intro v5 w5 ho hb hg hat; have HG := Aside0.mk (And.intro ho (And.intro (show w.grownBy w5 (some g) from hg) (show v5.ownBlock = some g ∨ ∃ b, v5.ownBlock = some b ∧ w.heap.size ≤ b from hat))); clear ho hb hg hat))
    go_ret
    obtain ⟨ho, hg, hat⟩ := HG.out
    obtain ⟨g5, c5, rfl, -, -, -⟩ := Kd.R_form ho (by simp)
    have hlen : (rows ++ [[v0, v1]]).length = n + 1 := by rw [List.length_append, List.length_singleton, ← HL.out.1]
    rw [hlen] at ho ⊢
    exact ⟨g5, c5, rfl, ho, hat.imp (fun h => by injection h) (fun ⟨b, h, hb⟩ => by injection h with h; subst h; exact hb), hg⟩
/-- A row of cells, a piece put in and what stood behind it. -/
theorem row_ins {w : World} {N : Nat} {cur : Array Value} {e : TypeId} (hh : w.heap[N]? = some (.cells cur e (0, 0))) {G n k : Nat} (hk : k ≤ n) (hs : cur.size = G * 2) (hG : n + 1 ≤ G) {A D : List Value} (hA : cur.toList.take (k * 2) = A) (hD : D.length = (n - k) * 2) (v0 v1 : Value) :
    (∃ cur' : Array Value, ((w.setCells N (k * 2) [v0, v1]).setCells N ((k + 1) * 2) D).heap[N]? = some (.cells cur' e (0, 0)) ∧ cur'.size = G * 2 ∧ cur'.toList.take ((n + 1) * 2) = A ++ [v0, v1] ++ D) ∧
    (∃ cur' : Array Value, ((w.setCells N ((k + 1) * 2) D).setCells N (k * 2) [v0, v1]).heap[N]? = some (.cells cur' e (0, 0)) ∧ cur'.size = G * 2 ∧ cur'.toList.take ((n + 1) * 2) = A ++ [v0, v1] ++ D) := by
  have hAl : A.length = k * 2 := by rw [← hA, List.length_take, Array.length_toList]; omega
  constructor
  · obtain ⟨c1, g1, s1, e1⟩ := setCells_row [v0, v1] (k * 2) w cur hh (by simp; omega)
    obtain ⟨c2, g2, s2, e2⟩ := setCells_row D ((k + 1) * 2) _ c1 g1 (by rw [s1, hD]; omega)
    refine ⟨c2, g2, by rw [s2, s1, hs], ?_⟩
    have h2 : c1.toList.take ((k + 1) * 2) = A ++ [v0, v1] := by
      rw [e1, hA, List.take_append_of_le_length (by simp [hAl]; omega), List.take_of_length_le (by simp [hAl]; omega)]
    rw [e2, h2, List.take_append_of_le_length (by simp [hAl, hD]; omega), List.take_of_length_le (by simp [hAl, hD]; omega)]
  · obtain ⟨c1, g1, s1, e1⟩ := setCells_row D ((k + 1) * 2) w cur hh (by rw [hD]; omega)
    obtain ⟨c2, g2, s2, e2⟩ := setCells_row [v0, v1] (k * 2) _ c1 g1 (by rw [s1]; simp; omega)
    refine ⟨c2, g2, by rw [s2, s1, hs], ?_⟩
    have hc : cur.toList.length = G * 2 := by rw [Array.length_toList, hs]
    have ht : (cur.toList.take ((k + 1) * 2)).length = (k + 1) * 2 := by rw [List.length_take]; omega
    have h1 : c1.toList.take (k * 2) = A := by
      rw [e1, List.append_assoc, List.take_append_of_le_length (by rw [ht]; omega), List.take_take, Nat.min_eq_left (by omega), hA]
    have h3 : c1.toList.drop (k * 2 + 2) = D ++ cur.toList.drop ((k + 1) * 2 + D.length) := by
      rw [e1, List.append_assoc, show k * 2 + 2 = (k + 1) * 2 by omega]
      rw [List.drop_append_of_le_length (by rw [ht]; exact Nat.le_refl _), List.drop_of_length_le (by rw [ht]; exact Nat.le_refl _), List.nil_append]
    rw [e2, h1, show k * 2 + [v0, v1].length = k * 2 + 2 from rfl, h3, ← List.append_assoc, List.take_append_of_le_length (by simp [hAl, hD]; omega), List.take_of_length_le (by simp [hAl, hD]; omega)]
theorem raw_own {w : World} {base g n c : Nat} {rows : List (List Value)} (h : (Kd.raw 2).R 40 w base (fun _ => True) (.slice (some ⟨g, 0, none⟩) n c) rows) :
    ∃ (cur : Array Value) (inner : List Value), w.heap[g]? = some (.cells cur 40 (0, 0)) ∧ n ≤ c ∧ c ≤ maxLen ∧ cur.size = c * 2 ∧ inner.length = n * 2 ∧ cur.toList.take (n * 2) = inner ∧ base ≤ g ∧ n = rows.length ∧ (∀ u ∈ inner, u.oneCell' = true) ∧ Reps (fun (x : List Value) cs => cs = x ∧ cs.length = 2 ∧ ∀ u ∈ cs, u.oneCell' = true) 2 rows inner := by
  have hn := (Kd.R_reads' h).1
  obtain ⟨hok, inner, hown, hr⟩ := h
  rcases hown.2 with ⟨hv, _⟩ | ⟨g', cap', cur, hv, hb, hh, hle, hcm, hcs, htake⟩
  · cases hv
  injection hv with ha _ hc
  injection ha with ha
  injection ha with hg
  subst hg; subst hc
  exact ⟨cur, inner, hh, hn ▸ hle, hcm, hcs, hn ▸ hown.1, hn ▸ htake, hb, hn, Kd.reps_one hr (by decide) (fun p c hp => hp.2.2), hr⟩
theorem own_raw {w : World} {base g n c : Nat} {cur : Array Value} {rows : List (List Value)} {inner : List Value} (hh : w.heap[g]? = some (.cells cur 40 (0, 0))) (hle : n ≤ c) (hcm : c ≤ maxLen) (hcs : cur.size = c * 2) (hb : base ≤ g) (hn : rows.length = n) (htake : cur.toList.take (n * 2) = inner)
    (hr : Reps (fun (x : List Value) cs => cs = x ∧ cs.length = 2 ∧ ∀ u ∈ cs, u.oneCell' = true) 2 rows inner) : (Kd.raw 2).R 40 w base (fun _ => True) (.slice (some ⟨g, 0, none⟩) n c) rows := by
  subst hn
  exact ⟨fun _ _ => trivial, inner, ⟨hr.1, .inr ⟨g, c, cur, rfl, hb, hh, hle, hcm, hcs, htake⟩⟩, hr⟩
/-- What comes out where the tablet stands among others. -/
def InsAns (w w' : World) (base g n k : Nat) (rows : List (List Value)) (v0 v1 : Value) (e : Ending) : Prop :=
  ∃ g' c', e = .returned (.slice (some ⟨g', 0, none⟩) (n + 1) c') ∧ (Kd.raw 2).R 40 w' base (fun _ => True) (.slice (some ⟨g', 0, none⟩) (n + 1) c') (rows.take k ++ [[v0, v1]] ++ rows.drop k) ∧ (g' = g ∨ w.heap.size ≤ g') ∧ w.grownBy w' (some g)
theorem grown_two {w w1 w2 : World} {r : Option Nat} (h : w.grownBy w1 r) (h' : w1.grownBy w2 r) : w.grownBy w2 r :=
  ⟨h'.os.trans h.os, h'.tape.trans h.tape, h'.output.trans h.output, Nat.le_trans h.size h'.size, fun k hk hr => (h'.block k (Nat.lt_of_lt_of_le hk h.size) hr).trans (h.block k hk hr)⟩
theorem reps_ins {rows : List (List Value)} {inner : List Value} {v0 v1 : Value} (hr : Reps (fun (x : List Value) cs => cs = x ∧ cs.length = 2 ∧ ∀ u ∈ cs, u.oneCell' = true) 2 rows inner) (h1 : v0.oneCell' = true ∧ v1.oneCell' = true) {k : Nat} (hk : k ≤ rows.length) :
    Reps (fun (x : List Value) cs => cs = x ∧ cs.length = 2 ∧ ∀ u ∈ cs, u.oneCell' = true) 2 (rows.take k ++ [[v0, v1]] ++ rows.drop k) (inner.take (k * 2) ++ [v0, v1] ++ inner.drop (k * 2)) :=
  Kd.reps_append (Reps.snoc (Kd.reps_take hr hk) ⟨rfl, rfl, fun u hu => by simp at hu; rcases hu with rfl | rfl; exact h1.1; exact h1.2⟩ rfl) (Kd.reps_drop hr)
set_option maxHeartbeats 8000000 in
set_option maxRecDepth 100000 in
theorem insert_room (base g n c k vb : Nat) (rows : List (List Value)) (v0 v1 : Value) (w : World) (h : (Kd.raw 2).R 40 w base (fun _ => True) (.slice (some ⟨g, 0, none⟩) n c) rows) (hv : w.heap[vb]? = some (.cells #[v0, v1] 40 (0, 0))) (h1 : v0.oneCell' = true ∧ v1.oneCell' = true) (hgv : vb ≠ g) (hn : n ≤ 1000000000) (hb : base ≤ w.heap.size) (hk : k < n) (hc : n < c) :
    Calls Try.prog 30 #[.slice (some ⟨g, 0, none⟩) n c, .int .i64 k, .slice (some ⟨vb, 0, none⟩) 1 1] w fun e w' => InsAns w w' base g n k rows v0 v1 e := by
  have kr : K0 (Below w.heap.size w w) := ⟨Below.refl _ _⟩
  obtain ⟨cur, inner, hh, hle, hcm, hcs, hil, htk, hbg, hnr, hone, hr⟩ := raw_own h
  have hsz : (Try.prog.info? 40).map (·.size) = some 2 := by kernel_rfl
  have hA : cur.toList.take (k * 2) = inner.take (k * 2) := by rw [← htk, List.take_take, Nat.min_eq_left (by omega)]
  have hD : (inner.drop (k * 2)).length = (n - k) * 2 := by rw [List.length_drop, hil]; omega
  have hcell : ∀ j u, inner[j]? = some u → w.cell? ⟨g, j, none⟩ = some u := fun j u hj => by
    rw [blk_cell hh]
    have hjl := (List.getElem?_eq_some_iff.1 hj).1
    rw [← htk, List.getElem?_take] at hj
    split at hj
    · rw [Array.getElem?_toList] at hj; exact hj
    · cases hj
  have hsome : ∀ j, j < c * 2 → (w.cell? ⟨g, j, none⟩).isSome = true := fun j hj => by rw [blk_cell hh, Array.getElem?_eq_getElem (by omega)]; rfl
  have hins := (row_ins (w := w.drew) (N := g) hh (Nat.le_of_lt hk) hcs hc hA hD v0 v1).2
  have hcp1 : ∀ ty dc sc, (Builtin.copy_ #[26, 26] ty #[.slice (some ⟨g, (k + 1) * 2, none⟩) (n - k) dc, .slice (some ⟨g, k * 2, none⟩) (n + 1 - k) sc]).run Try.prog w.drew = .ok (goInt ((n - k : Nat) : Int)) (w.drew.setCells g ((k + 1) * 2) (inner.drop (k * 2))) := fun ty dc sc =>
    run_copy_K w.drew _ _ ty 40 2 g ((k + 1) * 2) (n - k) dc ⟨g, k * 2, none⟩ (n + 1 - k) sc (n - k) (inner.drop (k * 2)) Try.underlying26 hsz (by simp only [Nat.min_def]; split <;> omega) hD
      (fun j v hj => by rw [Addr.add_lit]; exact hcell (k * 2 + j) v (by rwa [List.getElem?_drop] at hj))
      (fun j hj => hsome _ (by rw [hD] at hj; omega)) (fun j hj => blk_frozen hh _) (fun v hv => hone v (List.mem_of_mem_drop hv))
  obtain ⟨W1, hW1⟩ : ∃ W1, W1 = w.drew.setCells g ((k + 1) * 2) (inner.drop (k * 2)) := ⟨_, rfl⟩
  rw [← hW1] at hcp1 hins
  obtain ⟨cur1, g1, s1, -⟩ := setCells_row (inner.drop (k * 2)) ((k + 1) * 2) w.drew cur hh (by rw [hD]; omega)
  rw [← hW1] at g1
  have hgr1 : w.grownBy W1 (some g) := by
    obtain ⟨a1, a2, a3, a4⟩ := setCells_same g (inner.drop (k * 2)) ((k + 1) * 2) w.drew
    rw [hW1]
    exact ⟨a1, a2, a3, by rw [a4]; exact Nat.le_refl _, fun k' _ hk' => setCells_far (inner.drop (k * 2)) _ k' (fun he => hk' (by rw [he]))⟩
  have hv1 := (hgr1.block vb (blk_lt hv) (fun e => hgv (by injection e))).trans hv
  have hcp2 : ∀ ty dc, (Builtin.copy_ #[26, 26] ty #[.slice (some ⟨g, k * 2, none⟩) (n + 1 - k) dc, .slice (some ⟨vb, 0, none⟩) 1 1]).run Try.prog W1 = .ok (goInt 1) (W1.setCells g (k * 2) [v0, v1]) := fun ty dc =>
    run_copy_K W1 _ _ ty 40 2 g (k * 2) (n + 1 - k) dc ⟨vb, 0, none⟩ 1 1 1 [v0, v1] Try.underlying26 hsz (by simp only [Nat.min_def]; split <;> omega) rfl
      (fun j v hj => by rw [Addr.add_lit, Nat.zero_add, blk_cell hv1]; simpa using hj)
      (fun j hj => by rw [blk_cell g1, Array.getElem?_eq_getElem (by rw [s1, hcs]; simp at hj; omega)]; rfl) (fun j hj => blk_frozen g1 _) (fun v hv => by simp at hv; rcases hv with rfl | rfl; exact h1.1; exact h1.2)
  have hgr2 : w.grownBy (W1.setCells g (k * 2) [v0, v1]) (some g) := by
    obtain ⟨a1, a2, a3, a4⟩ := setCells_same g [v0, v1] (k * 2) W1
    exact grown_two hgr1 ⟨a1, a2, a3, by rw [a4]; exact Nat.le_refl _, fun k' _ hk' => setCells_far [v0, v1] _ k' (fun he => hk' (by rw [he]))⟩
  have hans : InsAns w (W1.setCells g (k * 2) [v0, v1]) base g n k rows v0 v1 (.returned (.slice (some ⟨g, 0, none⟩) (n + 1) c)) := by
    obtain ⟨cur2, g2, s2, t2⟩ := hins
    exact ⟨g, c, rfl, own_raw g2 hc hcm s2 hbg (by simp; omega) t2 (reps_ins hr h1 (by omega)), .inl rfl, hgr2⟩
  have hov : ∀ W : World, (∀ x, W.heap[x]? = w.heap[x]?) → ∀ lb cb, (callFunc 49 #[.slice (some ⟨vb, 0, none⟩) 1 1, .slice (some ⟨g, (k + 1) * 2, none⟩) lb cb]).run Try.prog W = .ok (.value (.bool false)) W := fun W hW lb cb => by
    rw [run_callFunc_extern Try.func49 (by kernel_rfl) (by kernel_rfl) (by kernel_rfl) (e := Extern.SlicesOverlaps.overlaps #[26, 26] #[4]) (by kernel_rfl),
      Lib.run_overlaps_apart W 26 4 40 Try.underlying26 2 (by intro w; kernel_rfl) ⟨vb, 0, none⟩ ⟨g, (k + 1) * 2, none⟩ 1 1 lb cb hgv 40 40 2 (c * 2) (by simp [World.shape?, hW, hv]) (by simp [World.shape?, hW, hh, hcs]) (by omega) (blk_frozen ((hW vb).trans hv) _) (blk_frozen ((hW vb).trans hv) _)]
    rfl
  have hd : ((k : Int) == (n : Int)) = false := beq_eq_false_iff_ne.2 (by omega)
  have hw1 : IntKind.i64.wrap ((n : Int) + 1) = (n : Int) + 1 := by rw [IntKind.wrap_i64]; omega
  have hw2 : IntKind.i64.wrap ((k : Int) + 1) = (k : Int) + 1 := by rw [IntKind.wrap_i64]; omega
  have d3 : decide ((c : Int) < (n : Int) + 1) = false := decide_eq_false (by omega)
  have i1 : ((0 : Int) ≤ (n : Int) + 1) = True := eq_true (by omega)
  have i2 : ((n : Int) + 1 ≤ (c : Int)) = True := eq_true (by omega)
  have i3 : ((0 : Int) ≤ (k : Int) + 1) = True := eq_true (by omega)
  have i4 : ((k : Int) + 1 ≤ (n : Int) + 1) = True := eq_true (by omega)
  have i7 : ((k : Int) ≤ (n : Int) + 1) = True := eq_true (by omega)
  have i5 : ((n : Int) + 1).toNat = n + 1 := by omega
  have i6 : ((k : Int) + 1).toNat = k + 1 := by omega
  have r0 : ((0 : Int) ≤ (k : Int)) = True := eq_true (by omega)
  have r1 : (k ≤ n) = True := eq_true (by omega)
  have r2 : (n ≤ c) = True := eq_true (by omega)
  have r3 : (k ≤ n + 1) = True := eq_true (by omega)
  have r4 : (c = k) = False := eq_false (by omega)
  have r5 : (c = k + 1) = False := eq_false (by omega)
  have r6 : (n + 1 ≤ c) = True := eq_true (by omega)
  have r7 : (k + 1 ≤ n + 1) = True := eq_true (by omega)
  have HA := Aside0.mk hans
  have HC1 := Aside0.mk hcp1
  have HC2 := Aside0.mk hcp2
  have HV := Aside0.mk hov
  clear hans hcp1 hcp2 hov hh hle hcm hcs hil htk hbg hnr hone hr hsz hA hD hcell hsome hins hW1 g1 s1 hgr1 hv1 hgr2 h hv h1 hgv hb hk hc
  go_enter Try.func30, Try.ntmps30
  go_wp2_with (simp only [HV.out w (fun _ => rfl)])
  go_upto_region 15 with (fail)
  refine sq_region (S := fun _ => True) [(0, false), (1, false), (2, false), (3, false), (4, false), (5, false), (6, false), (7, false), (8, true)] (by kernel_rfl) (by kernel_rfl) trivial (fun hS => ?_)
  repeat (refine sq_n ?_ ?_ rfl ?_ ?_ ?_; rotate_left 2; (intro W hW; go_simp; first | done | with_reducible rfl); (simp only [List.setIfInBounds_toArray, List.set_cons_zero, List.set_cons_succ]; try rfl))
  refine sq_1n rfl (fun hS K hK => ?_)
  refine wp_copy_runI _ _ _ 26 26 rfl (.slice (some ⟨g, (k + 1) * 2, none⟩) (n - k) (c - (k + 1))) (.slice (some ⟨g, k * 2, none⟩) (n + 1 - k) (c - k)) rfl rfl (HC1.out _ _ _) ?_
  refine hK.out _ _ trivial (fun hS => ?_)
  refine sq_done (fun hS => ?_)
  go_wp2_with (simp only [HC2.out])
  go_ret
  exact HA.out
theorem zero_size (z : Array Value) (hz : z.size = 2) (m : Nat) : (Builtin.zeroCells z m).size = m * 2 := by
  have h := (Kd.reps_zeros (R := fun (_ : Unit) (_ : List Value) => True) (z := .agg z) (size := 2) (z0 := ()) (by simpa [Value.cells] using hz) (by decide) trivial m).1
  rw [List.length_replicate] at h
  simpa [Value.cells] using h
set_option maxHeartbeats 8000000 in
set_option maxRecDepth 100000 in
theorem insert_grow (base g n c k vb : Nat) (rows : List (List Value)) (v0 v1 : Value) (w : World) (h : (Kd.raw 2).R 40 w base (fun _ => True) (.slice (some ⟨g, 0, none⟩) n c) rows) (hv : w.heap[vb]? = some (.cells #[v0, v1] 40 (0, 0))) (h1 : v0.oneCell' = true ∧ v1.oneCell' = true) (hgv : vb ≠ g) (hn : n ≤ 1000000000) (hb : base ≤ w.heap.size) (hk : k < n) (hc : ¬ n < c) :
    Calls Try.prog 30 #[.slice (some ⟨g, 0, none⟩) n c, .int .i64 k, .slice (some ⟨vb, 0, none⟩) 1 1] w fun e w' => InsAns w w' base g n k rows v0 v1 e := by
  have kr : K0 (Below w.heap.size w w) := ⟨Below.refl _ _⟩
  obtain ⟨cur, inner, hh, hle, hcm, hcs, hil, htk, hbg, hnr, hone, hr⟩ := raw_own h
  obtain rfl : n = c := by omega
  have hsz : (Try.prog.info? 40).map (·.size) = some 2 := by kernel_rfl
  obtain ⟨i0, hi0, hzz⟩ := Option.map_eq_some_iff.1 (show (Try.prog.info? 40).map (fun i => (i.zero, i.size, i.bytes)) = some (some (.agg #[(.string ⟨#[]⟩), (.slice none 0 0)]), 2, 40) from info40)
  simp only [Prod.mk.injEq] at hzz
  obtain ⟨hz0, hzs, hzb⟩ := hzz
  have hD : (inner.drop (k * 2)).length = (n - k) * 2 := by rw [List.length_drop, hil]; omega
  have hAl : (inner.take (k * 2)).length = k * 2 := by rw [List.length_take, hil]; omega
  have hcell : ∀ j u, inner[j]? = some u → w.cell? ⟨g, j, none⟩ = some u := fun j u hj => by
    rw [blk_cell hh]
    have hjl := (List.getElem?_eq_some_iff.1 hj).1
    rw [← htk, List.getElem?_take] at hj
    split at hj
    · rw [Array.getElem?_toList] at hj; exact hj
    · cases hj
  obtain ⟨G, hG⟩ : ∃ G, G = grownCap w (n + 1) n 40 := ⟨_, rfl⟩
  have hG1 : n + 1 ≤ G := by rw [hG]; exact grownCap_ge w _ _ _
  have hG2 : G ≤ maxLen := by rw [hG]; exact grownCap_le_maxLen w _ _ _ (by unfold maxLen; omega)
  obtain ⟨ROW, hROW⟩ : ∃ R, R = (inner.take (k * 2)).toArray ++ Builtin.zeroCells (Value.agg #[(.string ⟨#[]⟩), (.slice none 0 0)]).cells (n + 1 - k) ++ Builtin.zeroCells (Value.agg #[(.string ⟨#[]⟩), (.slice none 0 0)]).cells (G - (n + 1)) := ⟨_, rfl⟩
  have hRs : ROW.size = G * 2 := by
    rw [hROW, Array.size_append, Array.size_append, zero_size _ rfl, zero_size _ rfl, List.size_toArray, hAl]; omega
  have hRt : ROW.toList.take (k * 2) = inner.take (k * 2) := by
    rw [hROW, Array.toList_append, Array.toList_append, List.append_assoc, List.take_append_of_le_length (by simp [hAl]), List.take_of_length_le (by simp [hAl])]
  have hold : (Builtin.firstCells i0.size k (.slice (some ⟨g, 0, none⟩) k n)).run Try.prog w.drew = .ok (inner.take (k * 2)).toArray w.drew := by
    rw [hzs]
    exact run_firstCells_some w.drew 2 k ⟨g, 0, none⟩ k n (inner.take (k * 2)) hAl (fun j v hj => by
      rw [Addr.add_lit, Nat.zero_add]
      rw [List.getElem?_take] at hj
      split at hj
      · exact hcell j v hj
      · cases hj)
  obtain ⟨W1, hW1⟩ : ∃ W1, W1 = w.drew.alloc (.cells ROW 40) := ⟨_, rfl⟩
  have hkk : ((n + 1 - k : Nat) : Int) = (n : Int) + 1 - (k : Int) := by omega
  have hrz : ∀ ty, (Builtin.append_ #[26, 3] ty #[.slice (some ⟨g, 0, none⟩) k n, .int .i64 ((n : Int) + 1 - (k : Int))]).run Try.prog w = .ok (.slice (some ⟨w.heap.size, 0, none⟩) (n + 1) G) W1 := fun ty => by
    have h := Lib.run_append_grow_zeros w 26 3 ty 40 i0 _ .i64 .i64 Try.underlying26 Try.underlying3 hi0 hz0 (some ⟨g, 0, none⟩) k n (inner.take (k * 2)) hold (n + 1 - k) (by omega) (by omega) (by omega) (by omega) (by rw [hzb]; omega) (by rw [hzb, show k + (n + 1 - k) = n + 1 by omega]; exact growslice_fits (by omega) (by omega))
    rw [show k + (n + 1 - k) = n + 1 by omega, ← hG, ← hROW, ← hW1, hkk] at h
    exact h
  have hNh : W1.heap[w.heap.size]? = some (.cells ROW 40 (0, 0)) := hW1 ▸ heap_alloc_new w.drew _
  have hgr1 : w.grownBy W1 (some g) := hW1 ▸ ⟨rfl, rfl, rfl, by rw [sz_al]; exact Nat.le_succ _, fun k' hk' _ => (Below.alloc (Below.refl w.drew.heap.size w.drew) (Nat.le_refl _) _).block k' hk'⟩
  have hNne : w.heap.size ≠ g := by have := blk_lt hh; omega
  have hNv : vb ≠ w.heap.size := by have := blk_lt hv; omega
  have hv1 := (hgr1.block vb (blk_lt hv) (fun e => hgv (by injection e))).trans hv
  have hh1 : W1.heap[g]? = w.heap[g]? := hW1 ▸ (Below.alloc (Below.refl w.drew.heap.size w.drew) (Nat.le_refl _) _).block g (blk_lt hh)
  have hcp1 : ∀ ty dc, (Builtin.copy_ #[26, 26] ty #[.slice (some ⟨w.heap.size, k * 2, none⟩) (n + 1 - k) dc, .slice (some ⟨vb, 0, none⟩) 1 1]).run Try.prog W1 = .ok (goInt 1) (W1.setCells w.heap.size (k * 2) [v0, v1]) := fun ty dc =>
    run_copy_K W1 _ _ ty 40 2 w.heap.size (k * 2) (n + 1 - k) dc ⟨vb, 0, none⟩ 1 1 1 [v0, v1] Try.underlying26 hsz (by simp only [Nat.min_def]; split <;> omega) rfl
      (fun j v hj => by rw [Addr.add_lit, Nat.zero_add, blk_cell hv1]; simpa using hj)
      (fun j hj => by rw [blk_cell hNh, Array.getElem?_eq_getElem (by rw [hRs]; simp at hj; omega)]; rfl) (fun j hj => blk_frozen hNh _) (fun v hv => by simp at hv; rcases hv with rfl | rfl; exact h1.1; exact h1.2)
  obtain ⟨W2, hW2⟩ : ∃ W2, W2 = W1.setCells w.heap.size (k * 2) [v0, v1] := ⟨_, rfl⟩
  rw [← hW2] at hcp1
  obtain ⟨cur2, g2, s2, -⟩ := setCells_row [v0, v1] (k * 2) W1 ROW hNh (by rw [hRs]; simp; omega)
  rw [← hW2] at g2
  have hgr2 : W1.grownBy W2 (some w.heap.size) := by
    obtain ⟨a1, a2, a3, a4⟩ := setCells_same w.heap.size [v0, v1] (k * 2) W1
    rw [hW2]
    exact ⟨a1, a2, a3, by rw [a4]; exact Nat.le_refl _, fun k' _ hk' => setCells_far [v0, v1] _ k' (fun he => hk' (by rw [he]))⟩
  have hh2 : W2.heap[g]? = some (.cells cur 40 (0, 0)) := (hgr2.block g (by have := hgr1.size; have := blk_lt hh; omega) (fun e => hNne (by injection e with e; exact e.symm))).trans (hh1.trans hh)
  have hcp2 : ∀ ty dc sc, (Builtin.copy_ #[26, 26] ty #[.slice (some ⟨w.heap.size, (k + 1) * 2, none⟩) (n - k) dc, .slice (some ⟨g, k * 2, none⟩) (n - k) sc]).run Try.prog W2.drew = .ok (goInt ((n - k : Nat) : Int)) (W2.drew.setCells w.heap.size ((k + 1) * 2) (inner.drop (k * 2))) := fun ty dc sc =>
    run_copy_K W2.drew _ _ ty 40 2 w.heap.size ((k + 1) * 2) (n - k) dc ⟨g, k * 2, none⟩ (n - k) sc (n - k) (inner.drop (k * 2)) Try.underlying26 hsz (by simp) hD
      (fun j v hj => by
        rw [Addr.add_lit]
        show W2.cell? _ = _
        have := hcell (k * 2 + j) v (by rwa [List.getElem?_drop] at hj)
        rw [blk_cell hh] at this
        rw [blk_cell hh2]; exact this)
      (fun j hj => by
        show (W2.cell? _).isSome = true
        rw [blk_cell g2, Array.getElem?_eq_getElem (by rw [s2, hRs]; rw [hD] at hj; omega)]; rfl) (fun j hj => blk_frozen g2 _) (fun v hv => hone v (List.mem_of_mem_drop hv))
  have hins := (row_ins (w := W1.drew) (N := w.heap.size) hNh (Nat.le_of_lt hk) hRs hG1 hRt hD v0 v1).1
  rw [← drew_setCells, ← hW2] at hins
  have hans : InsAns w (W2.drew.setCells w.heap.size ((k + 1) * 2) (inner.drop (k * 2))) base g n k rows v0 v1 (.returned (.slice (some ⟨w.heap.size, 0, none⟩) (n + 1) G)) := by
    obtain ⟨cur3, g3, s3, t3⟩ := hins
    refine ⟨w.heap.size, G, rfl, own_raw g3 hG1 hG2 s3 hb (by simp; omega) t3 (reps_ins hr h1 (by omega)), .inr (Nat.le_refl _), ?_⟩
    obtain ⟨a1, a2, a3, a4⟩ := setCells_same w.heap.size (inner.drop (k * 2)) ((k + 1) * 2) W2.drew
    refine ⟨a1.trans (hgr2.os.trans hgr1.os), a2.trans (hgr2.tape.trans hgr1.tape), a3.trans (hgr2.output.trans hgr1.output), by rw [a4]; exact Nat.le_trans hgr1.size hgr2.size, fun k' hlt hk' => ?_⟩
    exact (setCells_far (inner.drop (k * 2)) _ k' (fun he => by omega)).trans ((hgr2.block k' (Nat.lt_of_lt_of_le hlt hgr1.size) (fun e => by injection e; omega)).trans (hgr1.block k' hlt hk'))
  have hd : ((k : Int) == (n : Int)) = false := beq_eq_false_iff_ne.2 (by omega)
  have hw1 : IntKind.i64.wrap ((n : Int) + 1) = (n : Int) + 1 := by rw [IntKind.wrap_i64]; omega
  have hw2 : IntKind.i64.wrap ((k : Int) + 1) = (k : Int) + 1 := by rw [IntKind.wrap_i64]; omega
  have hw3 : IntKind.i64.wrap ((n : Int) + 1 - (k : Int)) = (n : Int) + 1 - (k : Int) := by rw [IntKind.wrap_i64]; omega
  have d3 : decide ((n : Int) < (n : Int) + 1) = true := decide_eq_true (by omega)
  have i3 : ((0 : Int) ≤ (k : Int) + 1) = True := eq_true (by omega)
  have i4 : ((k : Int) + 1 ≤ (n : Int) + 1) = True := eq_true (by omega)
  have i7 : ((k : Int) ≤ (n : Int) + 1) = True := eq_true (by omega)
  have i6 : ((k : Int) + 1).toNat = k + 1 := by omega
  have r0 : ((0 : Int) ≤ (k : Int)) = True := eq_true (by omega)
  have r1 : (k ≤ n) = True := eq_true (by omega)
  have r3 : (k ≤ n + 1) = True := eq_true (by omega)
  have r4 : (n = k) = False := eq_false (by omega)
  have r5 : (G = k + 1) = False := eq_false (by omega)
  have r6 : (G = k) = False := eq_false (by omega)
  have r7 : (k + 1 ≤ n + 1) = True := eq_true (by omega)
  have r8 : (n + 1 ≤ G) = True := eq_true (by omega)
  have HA := Aside0.mk hans
  have HZ := Aside0.mk hrz
  have HC1 := Aside0.mk hcp1
  have HC2 := Aside0.mk hcp2
  clear hans hrz hcp1 hcp2 hh hle hcm hcs hil htk hbg hnr hone hr hsz hD hcell hins hW1 hW2 g2 s2 hgr1 hgr2 hv1 h hv h1 hgv hb hk hc hNh hNne hNv hh1 hh2 hi0 hz0 hzs hzb hAl hG hG1 hG2 hROW hRs hRt hold hkk
  go_enter Try.func30, Try.ntmps30
  go_wp2_with (first | (at_builtin; refine Lib.wpList_append_run _ rfl _ _ _ _ rfl _ _ rfl rfl _ _ (HZ.out _) ?_) | (simp only [HC1.out]))
  go_upto_region 11 with (fail)
  refine sq_region (S := fun _ => True) [(0, false), (1, false), (2, false), (3, false), (4, false), (5, false), (6, false), (7, false), (8, true)] (by kernel_rfl) (by kernel_rfl) trivial (fun hS => ?_)
  repeat (refine sq_n ?_ ?_ rfl ?_ ?_ ?_; rotate_left 2; (intro W hW; go_simp; first | done | with_reducible rfl); (simp only [List.setIfInBounds_toArray, List.set_cons_zero, List.set_cons_succ]; try rfl))
  refine sq_1n rfl (fun hS K hK => ?_)
  refine wp_copy_runI _ _ _ 26 26 rfl (.slice (some ⟨w.heap.size, (k + 1) * 2, none⟩) (n - k) (G - (k + 1))) (.slice (some ⟨g, k * 2, none⟩) (n - k) (n - k)) rfl rfl (HC2.out _ _ _) ?_
  refine hK.out _ _ trivial (fun hS => ?_)
  refine sq_done (fun hS => ?_)
  go_wp2
  go_ret
  exact HA.out
theorem insert_call (base g n c k vb : Nat) (rows : List (List Value)) (v0 v1 : Value) (w : World) (h : (Kd.raw 2).R 40 w base (fun _ => True) (.slice (some ⟨g, 0, none⟩) n c) rows) (hv : w.heap[vb]? = some (.cells #[v0, v1] 40 (0, 0))) (h1 : v0.oneCell' = true ∧ v1.oneCell' = true) (hgv : vb ≠ g) (hn : n ≤ 1000000000) (hb : base ≤ w.heap.size) (hk : k ≤ n) :
    Calls Try.prog 30 #[.slice (some ⟨g, 0, none⟩) n c, .int .i64 k, .slice (some ⟨vb, 0, none⟩) 1 1] w fun e w' => InsAns w w' base g n k rows v0 v1 e := by
  by_cases hkn : k = n
  · subst hkn
    refine (insert_end base g k c vb rows v0 v1 w h hv h1 hn hb).mono ?_
    rintro e w' ⟨g', c', he, hR, hl, hg⟩
    have hl2 := (Kd.R_reads' h).1
    exact ⟨g', c', he, by rw [hl2, List.take_length, List.drop_length, List.append_nil]; rw [hl2] at hR; exact hR, hl, hg⟩
  · by_cases hc : n < c
    · exact insert_room base g n c k vb rows v0 v1 w h hv h1 hgv hn hb (by omega) hc
    · exact insert_grow base g n c k vb rows v0 v1 w h hv h1 hgv hn hb (by omega) hc
end Go.Proofs.Ytjlggfdmfchncaa.Q
