/- FnExactMatchRegex: the row of the law: its arguments opened, its walk, its statement over lists (PrFnExactMatchRegex). No condition. -/
import Derived.Test.YtcdpmmpdfdillaaCFnExactMatchRegex2
import Derived.Deep.RegionHeld
import Derived.Deep.DeepCutAuto
import Derived.Deep.QuietTactic
import Derived.BigQuiet
import Derived.Test.YtcdpmmpdfdillaaRows
import Derived.WalkKit
import Derived.ProofKit
import Derived.OpenShut
import Derived.ShutString
import Derived.ChangeOld
import Derived.Below
import Derived.SizedLaws

namespace Go.Proofs.Ytcdpmmpdfdillaa.Q
open Go.RowKit Go.Proofs.YtcdpmmpdfdillaaW.PrintWords Go.Proofs.YtcdpmmpdfdillaaW.PrintLast Go.Proofs.YtcdpmmpdfdillaaW.PrintMore
set_option linter.unusedVariables false
set_option linter.unusedSimpArgs false

/-! ### spec_l4Parts: function 25 -/
def spec_l4Parts.l0 : Nat → ByteArray → List ByteArray → Int → Int → Option (List ByteArray)
 | 0, _, _, _, _ => none
 | k + 1, x0, x3, x4, x5 => if x5 < (x0.size : Int) then (if 0 ≤ x5 then (if (bt x0 x5) = 124 then (if 0 ≤ x4 then (if x4 ≤ x5 then (if x5 ≤ (x0.size : Int) then (if x3.length < 8796093022208 then (spec_l4Parts.l0 k x0 (x3 ++ [x0.extract (x4 : Int).toNat (x5 : Int).toNat]) (wrap64 (x5 + 1)) (wrap64 (x5 + 1))) else (none)) else (none)) else (none)) else (none)) else ((spec_l4Op.f (bt x0 x5)).bind fun t129 => (if t129 = true then (spec_l4Parts.l0 k x0 x3 x4 (wrap64 (x5 + 1))) else ((spec_l4AtomEnd.f k x0 x5).bind fun t130 => (spec_l4Parts.l0 k x0 x3 x4 t130))))) else (none)) else (if 0 ≤ x4 then (if x4 ≤ (x0.size : Int) then (if x3.length < 8796093022208 then (some (x3 ++ [x0.extract (x4 : Int).toNat x0.size])) else (none)) else (none)) else (none))
def spec_l4Parts.f (k : Nat) (a0 : ByteArray) : Option (List ByteArray) := spec_l4Parts.l0 k a0 (([] : List ByteArray)) 0 0
set_option maxHeartbeats 8000000 in
set_option maxRecDepth 100000 in
theorem spec_l4Parts.calls (k : Nat) (a0 : ByteArray) (r : List ByteArray) (w : World) (h : spec_l4Parts.f k a0 = some r) :
  Calls Try.prog 25 #[.string a0] w fun e w' => ∃ v0_ : Value, e = .returned (v0_) ∧ Kd.R Kd.string 9 w' w.heap.size (fun _ => True) v0_ r ∧ Below w.heap.size w w' := by
 have HB := Aside0.mk (Below.refl w.heap.size w)
 have H : (spec_l4Parts.l0 k a0 (([] : List ByteArray)) 0 0) = some r := h
 clear h
 obtain ⟨y120, hy120⟩ : ∃ y_ : List ByteArray, y_ = (([] : List ByteArray)) := ⟨_, rfl⟩
 replace H : (spec_l4Parts.l0 k a0 y120 0 0) = some r := by first | (rw [hy120]; with_reducible exact H) | (have H2_ := (Option.bind_some _ _).symm.trans H; rw [hy120]; with_reducible exact H2_) | (have H2_ := (Option.bind_some _ _).symm.trans H; with_reducible exact H2_) | with_reducible exact H | (rw [hy120]; exact H) | exact H
 have Ny120 := Aside0.mk hy120
 clear hy120
 have H' := Aside0.mk H
 clear H
 go_enter Try.func25, Try.ntmps25
 go_wp2_with (first | ((with_reducible refine gate_dst (N := 6) rfl ?_); refine Kd.R_lit Kd.string _ 9 ?hg (N := 6) ?hd (xs := ([] : List ByteArray)) (inner := []) (ok := fun _ => True) (okp := fun _ => True) ?hr ?hp (fun _ hk => hk) trivial (Below.refl _ _) (Nat.le_refl _) (by simp) ?_; (case hd => rfl); (case hg => rfl); (case hr => first | (go_simp; done) | (go_simp; rfl)); (case hp => exact (Reps.none _ _)); intro v121 w2 ho3 hb hg_ hnew_; clear hg_ hnew_; (first | rw [← Ny120.out] at ho3 | (simp only [Int.reduceToNat] at ho3; rw [← Ny120.out] at ho3)); have n0_ := Aside0.mk (Kd.R_lower ho3 (below_size bw)); have n1_ := Aside0.mk (below_step bw hb); clear HB; have HO122 := n0_; have HB := n1_; clear n0_ n1_; clear hb ho3))
 go_loopg [3, 4, 5] k (fun kq v3 v4 v5 w' => ∃ (x3_1 : List ByteArray) (x4_1 : Int) (x5_1 : Int), v4 = .int .i64 x4_1 ∧ v5 = .int .i64 x5_1 ∧ Aside0 (spec_l4Parts.l0 kq a0 x3_1 x4_1 x5_1 = some r) ∧ Aside0 (kq ≤ k) ∧ Aside0 (Kd.R Kd.string 9 w' w.heap.size (fun _ => True) v3 x3_1) ∧ Aside0 (Below w.heap.size w w'))
 case atStart => exact ⟨(y120), (0), (0), (by first | rfl | (simp; done) | (simp [*]; done)), (by first | rfl | (simp; done) | (simp [*]; done)), H', ⟨Nat.le_refl _⟩, ⟨lf HO122⟩, ⟨bw⟩⟩
 case round =>
  clear H'
  try clear c2
  try clear p2
  obtain ⟨x3_1, x4_1, x5_1, rfl, rfl, HA, HK1, HO_3, HB⟩ := hrel
  cases gk with
  | zero => exact absurd HA.out (by simp [spec_l4Parts.l0])
  | succ k1 =>
   have H := HA.out
   clear HA
   simp only [spec_l4Parts.l0] at H
   by_cases c4 : x5_1 < (a0.size : Int)
   ·rw [if_pos c4] at H
    have c4b0 : decide (x5_1 < (a0.size : Int)) = true := decide_eq_true c4
    clear c4
    by_cases c5 : 0 ≤ x5_1
    ·rw [if_pos c5] at H
     have c5b0 : decide (0 ≤ x5_1) = true := decide_eq_true c5
     clear c5
     by_cases c7 : (bt a0 x5_1) = 124
     ·rw [if_pos c7] at H
      have c7b0 : ((bt a0 x5_1) == 124) = true := beq_iff_eq.mpr c7
      have c7b1 : ((bt a0 x5_1) != 124) = false := bne_eq_false_iff_eq.mpr c7
      clear c7
      by_cases c8 : 0 ≤ x4_1
      ·rw [if_pos c8] at H
       have c8b0 := eq_true c8
       have c8b1 : decide (0 ≤ x4_1) = true := decide_eq_true c8
       clear c8
       by_cases c9 : x4_1 ≤ x5_1
       ·rw [if_pos c9] at H
        have c9b0 := eq_true c9
        have c9b1 : decide (x4_1 ≤ x5_1) = true := decide_eq_true c9
        clear c9
        by_cases c10 : x5_1 ≤ (a0.size : Int)
        ·rw [if_pos c10] at H
         have c10b0 := eq_true c10
         have c10b1 : decide (x5_1 ≤ (a0.size : Int)) = true := decide_eq_true c10
         clear c10
         by_cases c11 : x3_1.length < 8796093022208
         ·rw [if_pos c11] at H
          have LMc11 := Aside0.mk c11
          clear c11
          obtain ⟨y126, hy126⟩ : ∃ y_ : List ByteArray, y_ = (x3_1 ++ [a0.extract (x4_1 : Int).toNat (x5_1 : Int).toNat]) := ⟨_, rfl⟩
          replace H : (spec_l4Parts.l0 k1 a0 y126 (wrap64 (x5_1 + 1)) (wrap64 (x5_1 + 1))) = some r := by first | (rw [hy126]; with_reducible exact H) | (have H2_ := (Option.bind_some _ _).symm.trans H; rw [hy126]; with_reducible exact H2_) | (have H2_ := (Option.bind_some _ _).symm.trans H; with_reducible exact H2_) | with_reducible exact H | (rw [hy126]; exact H) | exact H
          have Ny126 := Aside0.mk hy126
          clear hy126
          have H' := Aside0.mk H
          clear H
          have p6 : 0 ≤ (x5_1 : Int) := of_decide_eq_true (by first | (with_reducible assumption) | assumption)
          have q6 : x5_1 < (a0.size : Int) := of_decide_eq_true (by first | (with_reducible assumption) | assumption)
          have hx6 := bt_at a0 x5_1
          replace p6 := eq_true p6
          replace q6 := eq_true q6
          go_wp2_with (first | ((with_reducible refine gate_builtin (b := .append) (xs := #[.tmp 15, .tmp 20]) rfl ?_); at_builtin; refine Kd.R_append Kd.string (w0 := w) w.heap.size rfl (.tmp 15) (.tmp 20) 61 9 (.string ⟨#[]⟩) 16 rfl Try.underlying61 info9 rfl (by decide) (by omega) u3 x3_1 (a0.extract (x4_1 : Int).toNat (x5_1 : Int).toNat) [.string (a0.extract (x4_1 : Int).toNat (x5_1 : Int).toNat)] (fun _ => True) (fun _ => False) rfl rfl ?aP (fun _ hk => hk.elim) ?aF ?aO ?aB ?aS ?aL ?_; (case aP => exact rfl); (case aB => exact bw); (case aF => exact (fun _ _ => trivial)); (case aO => exact (lf HO_3)); (case aS => exact (below_size bw)); (case aL => have := LMc11.out; omega); intro v127 w12 ho hb hg hat; rw [← Ny126.out] at ho; have n0_ := Aside0.mk (hb); have n1_ := Aside0.mk (ho); clear HB; clear HO_3; have HB := n0_; have HO128 := n1_; clear n0_ n1_; clear ho hb hg hat))
          go_roundg k1
          case measure => have := HK1.out; omega
          case rel => exact ⟨(y126), (wrap64 (x5_1 + 1)), (wrap64 (x5_1 + 1)), (by first | rfl | (simp; done) | (simp [*]; done)), (by first | rfl | (simp; done) | (simp [*]; done)), H', ⟨by have := HK1.out; omega⟩, ⟨lf HO128⟩, ⟨bw⟩⟩
         ·rw [if_neg c11] at H
          exact absurd H (by simp)
        ·rw [if_neg c10] at H
         exact absurd H (by simp)
       ·rw [if_neg c9] at H
        exact absurd H (by simp)
      ·rw [if_neg c8] at H
       exact absurd H (by simp)
     ·rw [if_neg c7] at H
      have c7b0 : ((bt a0 x5_1) == 124) = false := beq_eq_false_iff_ne.mpr c7
      have c7b1 : ((bt a0 x5_1) != 124) = true := bne_iff_ne.mpr c7
      replace H := Option.bind_eq_some_iff.mp H
      obtain ⟨t129, A140, H⟩ := H
      replace H : (if t129 = true then (spec_l4Parts.l0 k1 a0 x3_1 x4_1 (wrap64 (x5_1 + 1))) else ((spec_l4AtomEnd.f k1 a0 x5_1).bind fun t130 => (spec_l4Parts.l0 k1 a0 x3_1 x4_1 t130))) = some r := H
      have A14 := Aside0.mk A140
      clear A140
      by_cases c15 : t129 = true
      ·subst c15
       have H1 : (spec_l4Parts.l0 k1 a0 x3_1 x4_1 (wrap64 (x5_1 + 1))) = some r := by rw [if_pos rfl] at H; exact H
       clear H
       have H := H1
       clear H1
       have H' := Aside0.mk H
       clear H
       have p6 : 0 ≤ (x5_1 : Int) := of_decide_eq_true (by first | (with_reducible assumption) | assumption)
       have q6 : x5_1 < (a0.size : Int) := of_decide_eq_true (by first | (with_reducible assumption) | assumption)
       have hx6 := bt_at a0 x5_1
       replace p6 := eq_true p6
       replace q6 := eq_true q6
       have p13 : 0 ≤ (x5_1 : Int) := of_decide_eq_true (by first | (with_reducible assumption) | assumption)
       have q13 : x5_1 < (a0.size : Int) := of_decide_eq_true (by first | (with_reducible assumption) | assumption)
       have hx13 := bt_at a0 x5_1
       replace p13 := eq_true p13
       replace q13 := eq_true q13
       go_wp2_with (first | ((with_reducible refine at_fn (f := 28) rfl ?_); refine goesL_ (some 28) rfl rfl Try.func28 (by kernel_rfl) rfl #[.int .u8 (bt a0 x5_1)] rfl (by (try simp only [List.map_toArray, List.map_cons, List.map_nil]); first | done | rfl | (simp only [List.length_drop, List.length_take]; rfl)) ?_; (with_reducible refine (spec_l4Op.calls (bt a0 x5_1) true _ A14.out).mono ?_); rintro e w' ⟨rfl, ⟨nd, rfl⟩⟩; refine ⟨_, rfl, ?_⟩))
       go_roundg k1
       case measure => have := HK1.out; omega
       case rel => exact ⟨(x3_1), (x4_1), (wrap64 (x5_1 + 1)), (by first | rfl | (simp; done) | (simp [*]; done)), (by first | rfl | (simp; done) | (simp [*]; done)), H', ⟨by have := HK1.out; omega⟩, ⟨lf HO_3⟩, ⟨bw⟩⟩
      ·replace c15 := Bool.eq_false_iff.mpr c15
       subst c15
       have H1 : ((spec_l4AtomEnd.f k1 a0 x5_1).bind fun t130 => (spec_l4Parts.l0 k1 a0 x3_1 x4_1 t130)) = some r := by rw [if_neg (show ¬ (false = true) by decide)] at H; exact H
       clear H
       have H := H1
       clear H1
       replace H := Option.bind_eq_some_iff.mp H
       obtain ⟨t130, A160, H⟩ := H
       replace H : (spec_l4Parts.l0 k1 a0 x3_1 x4_1 t130) = some r := H
       have A16 := Aside0.mk A160
       clear A160
       have H' := Aside0.mk H
       clear H
       have p6 : 0 ≤ (x5_1 : Int) := of_decide_eq_true (by first | (with_reducible assumption) | assumption)
       have q6 : x5_1 < (a0.size : Int) := of_decide_eq_true (by first | (with_reducible assumption) | assumption)
       have hx6 := bt_at a0 x5_1
       replace p6 := eq_true p6
       replace q6 := eq_true q6
       have p13 : 0 ≤ (x5_1 : Int) := of_decide_eq_true (by first | (with_reducible assumption) | assumption)
       have q13 : x5_1 < (a0.size : Int) := of_decide_eq_true (by first | (with_reducible assumption) | assumption)
       have hx13 := bt_at a0 x5_1
       replace p13 := eq_true p13
       replace q13 := eq_true q13
       go_wp2_with (first | ((with_reducible refine at_fn (f := 28) rfl ?_); refine goesL_ (some 28) rfl rfl Try.func28 (by kernel_rfl) rfl #[.int .u8 (bt a0 x5_1)] rfl (by (try simp only [List.map_toArray, List.map_cons, List.map_nil]); first | done | rfl | (simp only [List.length_drop, List.length_take]; rfl)) ?_; (with_reducible refine (spec_l4Op.calls (bt a0 x5_1) false _ A14.out).mono ?_); rintro e w' ⟨rfl, ⟨nd, rfl⟩⟩; refine ⟨_, rfl, ?_⟩) | ((with_reducible refine at_fn (f := 26) rfl ?_); refine goesL_ (some 33) rfl rfl Try.func26 (by kernel_rfl) rfl #[.string a0, .int .i64 x5_1] rfl (by (try simp only [List.map_toArray, List.map_cons, List.map_nil]); first | done | rfl | (simp only [List.length_drop, List.length_take]; rfl)) ?_; (with_reducible refine (spec_l4AtomEnd.calls k1 a0 x5_1 t130 _ A16.out).mono ?_); rintro e w17 ⟨rfl, hb⟩; refine ⟨_, rfl, ?_⟩; have n0_ := Aside0.mk (Kd.R_below (lf HO_3) hb); have n1_ := Aside0.mk (below_step bw hb); clear HO_3; clear HB; have HO_3 := n0_; have HB := n1_; clear n0_ n1_; (try clear hb); (try clear hb2); (try clear hk); (try clear hi)))
       go_roundg k1
       case measure => have := HK1.out; omega
       case rel => exact ⟨(x3_1), (x4_1), (t130), (by first | rfl | (simp; done) | (simp [*]; done)), (by first | rfl | (simp; done) | (simp [*]; done)), H', ⟨by have := HK1.out; omega⟩, ⟨lf HO_3⟩, ⟨bw⟩⟩
    ·rw [if_neg c5] at H
     exact absurd H (by simp)
   ·rw [if_neg c4] at H
    have c4b0 : decide (x5_1 < (a0.size : Int)) = false := decide_eq_false c4
    clear c4
    by_cases c18 : 0 ≤ x4_1
    ·rw [if_pos c18] at H
     have c18b0 := eq_true c18
     have c18b1 : decide (0 ≤ x4_1) = true := decide_eq_true c18
     clear c18
     by_cases c19 : x4_1 ≤ (a0.size : Int)
     ·rw [if_pos c19] at H
      have c19b0 := eq_true c19
      have c19b1 : decide (x4_1 ≤ (a0.size : Int)) = true := decide_eq_true c19
      clear c19
      by_cases c20 : x3_1.length < 8796093022208
      ·rw [if_pos c20] at H
       have LMc20 := Aside0.mk c20
       clear c20
       obtain ⟨y123, hy123⟩ : ∃ y_ : List ByteArray, y_ = (x3_1 ++ [a0.extract (x4_1 : Int).toNat a0.size]) := ⟨_, rfl⟩
       replace H : (some y123) = some r := by first | (rw [hy123]; with_reducible exact H) | (have H2_ := (Option.bind_some _ _).symm.trans H; rw [hy123]; with_reducible exact H2_) | (have H2_ := (Option.bind_some _ _).symm.trans H; with_reducible exact H2_) | with_reducible exact H | (rw [hy123]; exact H) | exact H
       have Ny123 := Aside0.mk hy123
       clear hy123
       obtain rfl := Option.some.inj H
       go_wp2_with (first | ((with_reducible refine gate_builtin (b := .append) (xs := #[.tmp 34, .tmp 38]) rfl ?_); at_builtin; refine Kd.R_append Kd.string (w0 := w) w.heap.size rfl (.tmp 34) (.tmp 38) 61 9 (.string ⟨#[]⟩) 16 rfl Try.underlying61 info9 rfl (by decide) (by omega) u3 x3_1 (a0.extract (x4_1 : Int).toNat a0.size) [.string (a0.extract (x4_1 : Int).toNat a0.size)] (fun _ => True) (fun _ => False) rfl rfl ?aP (fun _ hk => hk.elim) ?aF ?aO ?aB ?aS ?aL ?_; (case aP => exact rfl); (case aB => exact bw); (case aF => exact (fun _ _ => trivial)); (case aO => exact (lf HO_3)); (case aS => exact (below_size bw)); (case aL => have := LMc20.out; omega); intro v124 w21 ho hb hg hat; rw [← Ny123.out] at ho; have n0_ := Aside0.mk (hb); have n1_ := Aside0.mk (ho); clear HB; clear HO_3; have HB := n0_; have HO125 := n1_; clear n0_ n1_; clear ho hb hg hat))
       go_ret
       exact ⟨_, by first | rfl | (simp [errW_none, errW_some] <;> rfl) | (simp [*, errW_none, errW_some] <;> rfl), lf HO125, bw⟩
      ·rw [if_neg c20] at H
       exact absurd H (by simp)
     ·rw [if_neg c19] at H
      exact absurd H (by simp)
    ·rw [if_neg c18] at H
     exact absurd H (by simp)

end Go.Proofs.Ytcdpmmpdfdillaa.Q

namespace Go.Proofs.Ytcdpmmpdfdillaa.Q
open Go.RowKit Go.Proofs.YtcdpmmpdfdillaaW.PrintWords Go.Proofs.YtcdpmmpdfdillaaW.PrintLast
set_option linter.unusedVariables false
set_option linter.unusedSimpArgs false
set_option linter.unusedSectionVars false
theorem par_end : ∀ k, (∀ p i o acc r, altL k p i o acc = some (.ok r) → r.2 = p.size ∨ bt p r.2 ≠ 124) ∧ (∀ p i o acc r, seqL k p i o acc = some (.ok r) → ¬ (r.2 < p.size ∧ (bt p r.2 ≠ 124 ∧ bt p r.2 ≠ 41)))
  | 0 => ⟨fun _ _ _ _ _ h => (by cases h), fun _ _ _ _ _ h => (by cases h)⟩
  | k + 1 => by
    obtain ⟨ia, is⟩ := par_end k
    refine ⟨fun p i o acc r h => ?_, fun p i o acc r h => ?_⟩
    · rw [altL_s] at h
      obtain ⟨x, hx, h⟩ := obind_ok h
      split at h
      · rename_i hc; cases h; exact hc
      · exact ia _ _ _ _ _ h
    · rw [seqL_s] at h
      split at h
      · obtain ⟨x, hx, h⟩ := obind_ok h
        obtain ⟨y, hy, h⟩ := Option.bind_eq_some_iff.mp h
        exact is _ _ _ _ _ h
      · rename_i hc; cases h; exact hc
theorem alt_end : ∀ k p i o acc r, altL k p i o acc = some (.ok r) → 0 ≤ i → i ≤ (p.size : Int) → r.2 < p.size → bt p r.2 = 41
  | 0, _, _, _, _, _, h, _, _, _ => by cases h
  | k + 1, p, i, o, acc, r, h, h0, h1, hl => by
    rw [altL_s] at h
    obtain ⟨x, hx, h⟩ := obind_ok h
    have hb := (par_ok k).2.1 _ _ _ _ _ hx h0 h1
    have he := (par_end k).2 _ _ _ _ _ hx
    split at h
    · rename_i hc
      cases h
      have hl' : x.2 < (p.size : Int) := hl
      show bt p x.2 = 41
      rcases hc with hc | hc
      · omega
      · exact Classical.not_not.mp fun h41 => he ⟨hl', hc, h41⟩
    · rename_i hc
      have : ¬ x.2 = (p.size : Int) := fun e => hc (.inl e)
      exact alt_end k _ _ _ _ _ h (by omega) (by omega) hl
theorem atom_noop {k : Nat} {p : ByteArray} {i o : Int} {r : Rx × Int} (h : atomF k p i o = some (.ok r)) : isOp (bt p i) = false := by
  cases k with
  | zero => cases h
  | succ k =>
    rw [atomF_s] at h
    by_cases hop : isOp (bt p i) = true
    · have n : bt p i ≠ 40 ∧ bt p i ≠ 91 ∧ bt p i ≠ 46 := by
        refine ⟨fun e => ?_, fun e => ?_, fun e => ?_⟩ <;> (rw [e] at hop; revert hop; decide)
      rw [if_neg n.1, if_neg n.2.1, if_neg n.2.2, if_pos (.inl hop)] at h
      cases h
    · simpa using hop
section
variable {p : ByteArray} (hp : p.size ≤ 200)
include hp
theorem ae_s (k : Nat) (i : Int) (h0 : 0 ≤ i) (h1 : i < p.size) : spec_l4AtomEnd.f (k + 1) p i = if bt p i = 92 then some (i + 2) else if bt p i = 91 then ((spec_l4Class.f k p i).bind fun b => some b.1) else if bt p i = 40 then spec_l4AtomEnd.l0 k p (i + 1) else some (i + 1) := by
  rw [spec_l4AtomEnd.f, if_pos h0, if_pos h1, wr1 hp h0 (Int.le_of_lt h1), wr2 hp h0 (Int.le_of_lt h1)]
theorem al_s (k : Nat) (i : Int) (h0 : 0 ≤ i) (h1 : i < p.size) : spec_l4AtomEnd.l0 (k + 1) p i = if bt p i = 41 then some (i + 1) else if bt p i = 124 then spec_l4AtomEnd.l0 k p (i + 1) else if isOp (bt p i) = true then spec_l4AtomEnd.l0 k p (i + 1) else (spec_l4AtomEnd.f k p i).bind fun t => spec_l4AtomEnd.l0 k p t := by
  rw [spec_l4AtomEnd.l0, if_pos h0, if_pos h1, wr1 hp h0 (Int.le_of_lt h1), l4Op_is hp]
  rfl
theorem op_ne {c : Int} (h : isOp c = true) : c ≠ 41 ∧ c ≠ 124 := by
  refine ⟨fun e => ?_, fun e => ?_⟩ <;> (rw [e] at h; revert h; decide)
theorem ops_end : ∀ (k : Nat) (i : Int) (x : Rx) (r : Rx × Int), opsF k p i x = some r → 0 ≤ i → i ≤ p.size → ∀ q, Ev (fun n => spec_l4AtomEnd.l0 n p r.2) q → Ev (fun n => spec_l4AtomEnd.l0 n p i) q
  | 0, _, _, _, h, _, _ => by cases h
  | k + 1, i, x, r, h, h0, h1 => by
    intro q hq
    simp only [opsF] at h
    split at h
    · rename_i hc
      have hn := op_ne hp hc.2
      refine Ev.step (fun n => ?_) (ops_end k (i + 1) _ r h (by omega) (by omega) q hq)
      rw [al_s hp n i h0 hc.1, if_neg hn.1, if_neg hn.2, if_pos hc.2]
    · cases h; exact hq
theorem par_ends : ∀ k, (∀ i o acc r, altL k p i o acc = some (.ok r) → 0 ≤ i → i ≤ (p.size : Int) → ∀ q, Ev (fun n => spec_l4AtomEnd.l0 n p r.2) q → Ev (fun n => spec_l4AtomEnd.l0 n p i) q) ∧
    (∀ i o acc r, seqL k p i o acc = some (.ok r) → 0 ≤ i → i ≤ (p.size : Int) → ∀ q, Ev (fun n => spec_l4AtomEnd.l0 n p r.2) q → Ev (fun n => spec_l4AtomEnd.l0 n p i) q) ∧
    (∀ i o r, atomF k p i o = some (.ok r) → 0 ≤ i → i < (p.size : Int) → Ev (fun n => spec_l4AtomEnd.f n p i) r.2)
  | 0 => ⟨fun _ _ _ _ h => (by cases h), fun _ _ _ _ h => (by cases h), fun _ _ _ h => (by cases h)⟩
  | k + 1 => by
    obtain ⟨ia, is, im⟩ := par_ends k
    refine ⟨fun i o acc r h h0 h1 q hq => ?_, fun i o acc r h h0 h1 q hq => ?_, fun i o r h h0 h1 => ?_⟩
    · rw [altL_s] at h
      obtain ⟨x, hx, h⟩ := obind_ok h
      have hb := (par_ok k).2.1 _ _ _ _ _ hx h0 h1
      split at h
      · cases h; exact is _ _ _ _ hx h0 h1 q hq
      · rename_i hc
        have e1 : ¬ x.2 = (p.size : Int) := fun e => hc (.inl e)
        have e2 : bt p x.2 = 124 := Classical.not_not.mp fun e => hc (.inr e)
        refine is _ _ _ _ hx h0 h1 q (Ev.step (fun n => ?_) (ia _ _ _ _ h (by omega) (by omega) q hq))
        rw [al_s hp n x.2 (by omega) (by omega), if_neg (by omega), if_pos e2]
    · rw [seqL_s] at h
      split at h
      · rename_i hc
        obtain ⟨x, hx, h⟩ := obind_ok h
        have hb := (par_ok k).2.2 _ _ _ _ hx h0 hc.1
        obtain ⟨y, hy, h⟩ := Option.bind_eq_some_iff.mp h
        have hb2 := opsF_ok _ _ _ _ _ hy hb.2
        have hno := atom_noop hx
        refine Ev.step (fun n => ?_) (Ev.bind (im _ _ _ hx h0 hc.1) (ops_end hp k x.2 x.1 y hy (by omega) hb.2 q (is _ _ _ _ h (by omega) hb2.2 q hq)))
        rw [al_s hp n i h0 hc.1, if_neg hc.2.2, if_neg hc.2.1, if_neg (by rw [hno]; decide)]
      · cases h; exact hq
    · have hs := fun n => ae_s hp n i h0 h1
      rw [atomF_s] at h
      by_cases n40 : bt p i = 40
      · rw [if_pos n40] at h
        split at h
        · cases h
        · obtain ⟨x, hx, h⟩ := obind_ok h
          have hb := (par_ok k).1 _ _ _ _ _ hx (by omega) (by omega)
          split at h
          · cases h
          · rename_i e1
            cases h
            have hlt : x.2 < (p.size : Int) := by omega
            have h41 := alt_end k _ _ _ _ _ hx (by omega) (by omega) hlt
            refine Ev.step (fun n => ?_) (ia _ _ _ _ hx (by omega) (by omega) (x.2 + 1) (Ev.step (f := fun _ => some (x.2 + 1)) (fun n => ?_) (Ev.now _)))
            · rw [hs, if_neg (by omega), if_neg (by omega), if_pos n40]
            · rw [al_s hp n x.2 (by omega) hlt, if_pos h41]
      · rw [if_neg n40] at h
        by_cases n91 : bt p i = 91
        · rw [if_pos n91] at h
          obtain ⟨x, hx, h⟩ := obind_ok h
          cases h
          obtain ⟨q, hq, hc⟩ := class_spec hp h0 h1
          have e := Ev.same (Ev.of (leo_cla · p (i + 1)) hx) hq
          subst e
          rcases hc with ⟨s, j, e, hc⟩ | ⟨c, a, e, _⟩
          · cases e
            exact Ev.step (fun n => by rw [hs, if_neg (by omega), if_pos n91]) (Ev.bind hc (Ev.now _))
          · cases e
        · rw [if_neg n91] at h
          split at h
          · rename_i n46
            cases h
            exact Ev.step (f := fun _ => some (i + 1)) (fun n => by rw [hs, if_neg (by omega), if_neg n91, if_neg n40]) (Ev.now _)
          · split at h
            · cases h
            · split at h
              · rename_i n92
                split at h
                · cases h
                · cases h
                  exact Ev.step (f := fun _ => some (i + 2)) (fun n => by rw [hs, if_pos n92]) (Ev.now _)
              · rename_i n92
                cases h
                exact Ev.step (f := fun _ => some (i + 1)) (fun n => by rw [hs, if_neg n92, if_neg n91, if_neg n40]) (Ev.now _)
/-! The parts. -/
theorem pt_s (k : Nat) (out : List ByteArray) (f i : Int) (h0 : 0 ≤ i) (h1 : i < p.size) (f0 : 0 ≤ f) (f1 : f ≤ i) (ho : out.length < 8796093022208) : spec_l4Parts.l0 (k + 1) p out f i = if bt p i = 124 then spec_l4Parts.l0 k p (out ++ [p.extract f.toNat i.toNat]) (i + 1) (i + 1) else if isOp (bt p i) = true then spec_l4Parts.l0 k p out f (i + 1) else (spec_l4AtomEnd.f k p i).bind fun t => spec_l4Parts.l0 k p out f t := by
  rw [spec_l4Parts.l0, if_pos h1, if_pos h0, wr1 hp h0 (Int.le_of_lt h1), l4Op_is hp, if_pos f0, if_pos f1, if_pos (show i ≤ (p.size : Int) by omega), if_pos ho]
  rfl
theorem parts_ops : ∀ (k : Nat) (i : Int) (x : Rx) (r : Rx × Int), opsF k p i x = some r → 0 ≤ i → i ≤ p.size → ∀ out f q, 0 ≤ f → f ≤ i → out.length < 8796093022208 → Ev (fun n => spec_l4Parts.l0 n p out f r.2) q → Ev (fun n => spec_l4Parts.l0 n p out f i) q
  | 0, _, _, _, h, _, _ => by cases h
  | k + 1, i, x, r, h, h0, h1 => by
    intro out f q f0 f1 ho hq
    simp only [opsF] at h
    split at h
    · rename_i hc
      have hn := op_ne hp hc.2
      refine Ev.step (fun n => ?_) (parts_ops k (i + 1) _ r h (by omega) (by omega) out f q f0 (by omega) ho hq)
      rw [pt_s hp n out f i h0 hc.1 f0 f1 ho, if_neg hn.2, if_pos hc.2]
    · cases h; exact hq
theorem parts_seq : ∀ (k : Nat) (i o : Int) (acc : List Rx) (r : Rx × Int), seqL k p i o acc = some (.ok r) → 0 ≤ i → i ≤ (p.size : Int) → ∀ out f q, 0 ≤ f → f ≤ i → out.length < 8796093022208 → Ev (fun n => spec_l4Parts.l0 n p out f r.2) q → Ev (fun n => spec_l4Parts.l0 n p out f i) q
  | 0, _, _, _, _, h, _, _ => by cases h
  | k + 1, i, o, acc, r, h, h0, h1 => by
    intro out f q f0 f1 ho hq
    rw [seqL_s] at h
    split at h
    · rename_i hc
      obtain ⟨x, hx, h⟩ := obind_ok h
      have hb := (par_ok k).2.2 _ _ _ _ hx h0 hc.1
      obtain ⟨y, hy, h⟩ := Option.bind_eq_some_iff.mp h
      have hb2 := opsF_ok _ _ _ _ _ hy hb.2
      have hno := atom_noop hx
      refine Ev.step (fun n => ?_) (Ev.bind ((par_ends hp k).2.2 _ _ _ hx h0 hc.1) (parts_ops hp k x.2 x.1 y hy (by omega) hb.2 out f q f0 (by omega) ho (parts_seq k _ _ _ _ h (by omega) hb2.2 out f q f0 (by omega) ho hq)))
      rw [pt_s hp n out f i h0 hc.1 f0 f1 ho, if_neg hc.2.1, if_neg (by rw [hno]; decide)]
    · cases h; exact hq
end
end Go.Proofs.Ytcdpmmpdfdillaa.Q

namespace Go.Proofs.Ytcdpmmpdfdillaa.Q
open Go.RowKit Go.Proofs.YtcdpmmpdfdillaaW.PrintWords Go.Proofs.YtcdpmmpdfdillaaW.PrintLast Go.Proofs.YtcdpmmpdfdillaaW.PrintMore
set_option linter.unusedVariables false
set_option linter.unusedSimpArgs false

/-! ### spec_l4None: function 30 -/
mutual
def spec_l4None.l0 : Nat → Int → List (List Bool) → Int → Option ((List (List Bool)))
 | 0, _, _, _ => none
 | k + 1, x0, x3, x4 => if x4 ≤ x0 then (spec_l4None.l1 k x0 x3 x4 (([] : List Bool)) 0) else (some x3)
def spec_l4None.l1 : Nat → Int → List (List Bool) → Int → List Bool → Int → Option ((List (List Bool)))
 | 0, _, _, _, _, _ => none
 | k + 1, x0, x3, x4, x5, x6 => if x6 ≤ x0 then (if x5.length < 140737488355328 then (spec_l4None.l1 k x0 x3 x4 (x5 ++ [false]) (wrap64 (x6 + 1))) else (none)) else (if x3.length < 5864062014805 then (spec_l4None.l0 k x0 (x3 ++ [x5]) (wrap64 (x4 + 1))) else (none))
end
def spec_l4None.f (k : Nat) (a0 : Int) : Option ((List (List Bool))) := spec_l4None.l0 k a0 (([] : List (List Bool))) 0
set_option maxHeartbeats 8000000 in
set_option maxRecDepth 100000 in
theorem spec_l4None.calls (k : Nat) (a0 : Int) (r : List (List Bool)) (w : World) (h : spec_l4None.f k a0 = some r) :
  Calls Try.prog 30 #[.int .i64 a0] w fun e w' => ∃ v0_ : Value, e = .returned (v0_) ∧ Kd.S (Kd.slice 4 Kd.bool) 33 w' w.heap.size (fun _ => True) v0_ r ∧ Below w.heap.size w w' := by
 have HB := Aside0.mk (Below.refl w.heap.size w)
 have H : (spec_l4None.l0 k a0 (([] : List (List Bool))) 0) = some r := h
 clear h
 obtain ⟨y131, hy131⟩ : ∃ y_ : List (List Bool), y_ = (([] : List (List Bool))) := ⟨_, rfl⟩
 replace H : (spec_l4None.l0 k a0 y131 0) = some r := by first | (rw [hy131]; with_reducible exact H) | (have H2_ := (Option.bind_some _ _).symm.trans H; rw [hy131]; with_reducible exact H2_) | (have H2_ := (Option.bind_some _ _).symm.trans H; with_reducible exact H2_) | with_reducible exact H | (rw [hy131]; exact H) | exact H
 have Ny131 := Aside0.mk hy131
 clear hy131
 have H' := Aside0.mk H
 clear H
 go_enter Try.func30, Try.ntmps30
 go_wp2_with (first | ((with_reducible refine gate_dst (N := 7) rfl ?_); refine Kd.S_lit (Kd.slice 4 Kd.bool) _ 33 ?hg (N := 7) ?hd (xs := ([] : List (List Bool))) (inner := []) (ok := fun _ => True) (okp := fun _ => True) ?hr ?hp (fun _ hk => hk) trivial (Below.refl _ _) (Nat.le_refl _) (by simp) ?_; (case hd => rfl); (case hg => rfl); (case hr => first | (go_simp; done) | (go_simp; rfl)); (case hp => exact (Reps.none _ _)); intro v132 w2 ho3 hb hg_ hnew_; clear hg_ hnew_; (first | rw [← Ny131.out] at ho3 | (simp only [Int.reduceToNat] at ho3; rw [← Ny131.out] at ho3)); have n0_ := Aside0.mk (Kd.S_lower ho3 (below_size bw)); have n1_ := Aside0.mk (below_step bw hb); clear HB; have HO133 := n0_; have HB := n1_; clear n0_ n1_; clear hb ho3))
 go_loopg [3, 4] k (fun kq v3 v4 w' => ∃ (x3_1 : List (List Bool)) (x4_1 : Int), v4 = .int .i64 x4_1 ∧ Aside0 (spec_l4None.l0 kq a0 x3_1 x4_1 = some r) ∧ Aside0 (kq ≤ k) ∧ Aside0 (Kd.S (Kd.slice 4 Kd.bool) 33 w' w.heap.size (fun _ => True) v3 x3_1) ∧ Aside0 (Below w.heap.size w w'))
 case atStart => exact ⟨(y131), (0), (by first | rfl | (simp; done) | (simp [*]; done)), H', ⟨Nat.le_refl _⟩, ⟨by (with_reducible repeat (first | apply Kd.S_alloc | apply Kd.S_drewN | apply Kd.S_drew)); exact HO133.out⟩, ⟨bw⟩⟩
 case round =>
  clear H'
  try clear p2
  try clear c3
  obtain ⟨x3_1, x4_1, rfl, HA, HK1, HO_3, HB⟩ := hrel
  cases gk with
  | zero => exact absurd HA.out (by simp [spec_l4None.l0])
  | succ k1 =>
   have H := HA.out
   clear HA
   simp only [spec_l4None.l0] at H
   by_cases c4 : x4_1 ≤ a0
   ·rw [if_pos c4] at H
    have c4b0 : decide (x4_1 ≤ a0) = true := decide_eq_true c4
    clear c4
    obtain ⟨y134, hy134⟩ : ∃ y_ : List Bool, y_ = (([] : List Bool)) := ⟨_, rfl⟩
    replace H : (spec_l4None.l1 k1 a0 x3_1 x4_1 y134 0) = some r := by first | (rw [hy134]; with_reducible exact H) | (have H2_ := (Option.bind_some _ _).symm.trans H; rw [hy134]; with_reducible exact H2_) | (have H2_ := (Option.bind_some _ _).symm.trans H; with_reducible exact H2_) | with_reducible exact H | (rw [hy134]; exact H) | exact H
    have Ny134 := Aside0.mk hy134
    clear hy134
    have H' := Aside0.mk H
    clear H
    go_wp2_with (first | ((with_reducible refine gate_dst (N := 13) rfl ?_); refine Kd.R_lit Kd.bool _ 4 ?hg (N := 13) ?hd (xs := ([] : List Bool)) (inner := []) (ok := fun _ => True) (okp := fun _ => True) ?hr ?hp (fun _ hk => hk) trivial (Below.refl _ _) (Nat.le_refl _) (by simp) ?_; (case hd => rfl); (case hg => rfl); (case hr => first | (go_simp; done) | (go_simp; rfl)); (case hp => exact (Reps.none _ _)); intro v135 w5 ho6 hb hg_ hnew_; clear hg_ hnew_; (first | rw [← Ny134.out] at ho6 | (simp only [Int.reduceToNat] at ho6; rw [← Ny134.out] at ho6)); have n0_ := Aside0.mk (Kd.S_elder' (by (with_reducible repeat (first | apply Kd.S_alloc | apply Kd.S_drewN | apply Kd.S_drew)); exact HO_3.out) (Kd.R_base ho6) hb); have n1_ := Aside0.mk (Kd.R_lower ho6 (below_size bw)); have n2_ := Aside0.mk (below_step bw hb); clear HO_3; clear HB; have HO_3 := n0_; have HO136 := n1_; have HB := n2_; clear n0_ n1_ n2_; clear hb ho6))
    go_loopg [5, 6] k1 (fun kq v5 v6 w' => ∃ (x5_2 : List Bool) (x6_2 : Int), v6 = .int .i64 x6_2 ∧ Aside0 (spec_l4None.l1 kq a0 x3_1 x4_1 x5_2 x6_2 = some r) ∧ Aside0 (kq ≤ k1) ∧ Aside0 (Kd.S (Kd.slice 4 Kd.bool) 33 w' w.heap.size (fun k_ => some k_ ≠ (v5 : Value).ownBlock) u3 x3_1) ∧ Aside0 (Kd.R Kd.bool 4 w' w.heap.size (fun _ => True) v5 x5_2) ∧ Aside0 (Below w.heap.size w w'))
    case atStart => exact ⟨(y134), (0), (by first | rfl | (simp; done) | (simp [*]; done)), H', ⟨Nat.le_refl _⟩, ⟨by (with_reducible repeat (first | apply Kd.S_alloc | apply Kd.S_drewN | apply Kd.S_drew)); exact Kd.S_mono HO_3.out (fun _ hk => hk.2)⟩, ⟨lf HO136⟩, ⟨bw⟩⟩
    case round =>
     clear H'
     try clear p2
     try clear c3
     try clear c4
     try clear c4b0
     try clear p2
     obtain ⟨x5_2, x6_2, rfl, HA, HK2, HO_3, HO_5, HB⟩ := hrel
     cases gk with
     | zero => exact absurd HA.out (by simp [spec_l4None.l1])
     | succ k2 =>
      have H := HA.out
      clear HA
      simp only [spec_l4None.l1] at H
      by_cases c7 : x6_2 ≤ a0
      ·rw [if_pos c7] at H
       have c7b0 : decide (x6_2 ≤ a0) = true := decide_eq_true c7
       clear c7
       by_cases c8 : x5_2.length < 140737488355328
       ·rw [if_pos c8] at H
        have LMc8 := Aside0.mk c8
        clear c8
        obtain ⟨y137, hy137⟩ : ∃ y_ : List Bool, y_ = (x5_2 ++ [false]) := ⟨_, rfl⟩
        replace H : (spec_l4None.l1 k2 a0 x3_1 x4_1 y137 (wrap64 (x6_2 + 1))) = some r := by first | (rw [hy137]; with_reducible exact H) | (have H2_ := (Option.bind_some _ _).symm.trans H; rw [hy137]; with_reducible exact H2_) | (have H2_ := (Option.bind_some _ _).symm.trans H; with_reducible exact H2_) | with_reducible exact H | (rw [hy137]; exact H) | exact H
        have Ny137 := Aside0.mk hy137
        clear hy137
        have H' := Aside0.mk H
        clear H
        go_wp2_with (first | ((with_reducible refine gate_builtin (b := .append) (xs := #[.tmp 19, .tmp 20]) rfl ?_); at_builtin; refine Kd.R_append Kd.bool (w0 := w) w.heap.size rfl (.tmp 19) (.tmp 20) 33 4 (.bool false) 1 rfl Try.underlying33 info4 rfl (by decide) (by omega) u5 x5_2 false [.bool false] (fun _ => True) (fun _ => False) rfl rfl ?aP (fun _ hk => hk.elim) ?aF ?aO ?aB ?aS ?aL ?_; (case aP => exact rfl); (case aB => exact bw); (case aF => exact (fun _ _ => trivial)); (case aO => exact (lf HO_5)); (case aS => exact (below_size bw)); (case aL => have := LMc8.out; omega); intro v138 w9 ho hb hg hat; rw [← Ny137.out] at ho; have n0_ := Aside0.mk (Kd.S_after (ok := (fun _ => True)) (by (with_reducible repeat (first | apply Kd.S_alloc | apply Kd.S_drewN | apply Kd.S_drew)); exact Kd.S_mono HO_3.out (fun _ hk => ⟨trivial, hk⟩)) hg hat); have n1_ := Aside0.mk (hb); have n2_ := Aside0.mk (ho); clear HO_3; clear HB; clear HO_5; have HO_3 := n0_; have HB := n1_; have HO139 := n2_; clear n0_ n1_ n2_; clear ho hb hg hat))
        go_roundg k2
        case measure => have := HK1.out; have := HK2.out; omega
        case rel => exact ⟨(y137), (wrap64 (x6_2 + 1)), (by first | rfl | (simp; done) | (simp [*]; done)), H', ⟨by have := HK1.out; have := HK2.out; omega⟩, ⟨by (with_reducible repeat (first | apply Kd.S_alloc | apply Kd.S_drewN | apply Kd.S_drew)); exact Kd.S_mono HO_3.out (fun _ hk => hk.2)⟩, ⟨lf HO139⟩, ⟨bw⟩⟩
       ·rw [if_neg c8] at H
        exact absurd H (by simp)
      ·rw [if_neg c7] at H
       have c7b0 : decide (x6_2 ≤ a0) = false := decide_eq_false c7
       clear c7
       by_cases c10 : x3_1.length < 5864062014805
       ·rw [if_pos c10] at H
        have LMc10 := Aside0.mk c10
        clear c10
        obtain ⟨y140, hy140⟩ : ∃ y_ : List (List Bool), y_ = (x3_1 ++ [x5_2]) := ⟨_, rfl⟩
        replace H : (spec_l4None.l0 k2 a0 y140 (wrap64 (x4_1 + 1))) = some r := by first | (rw [hy140]; with_reducible exact H) | (have H2_ := (Option.bind_some _ _).symm.trans H; rw [hy140]; with_reducible exact H2_) | (have H2_ := (Option.bind_some _ _).symm.trans H; with_reducible exact H2_) | with_reducible exact H | (rw [hy140]; exact H) | exact H
        have Ny140 := Aside0.mk hy140
        clear hy140
        have H' := Aside0.mk H
        clear H
        obtain ⟨Ao12, co12, eo12⟩ := Kd.R_slice HO_5.out
        subst eo12
        go_wp2_with (first | ((with_reducible refine gate_builtin (b := .append) (xs := #[.tmp 22, .tmp 24]) rfl ?_); at_builtin; refine Kd.S_append (Kd.slice 4 Kd.bool) (w0 := w) w.heap.size rfl (.tmp 22) (.tmp 24) 34 33 (.slice none 0 0) 24 rfl Try.underlying34 info33 rfl (by decide) (by omega) u3 x3_1 x5_2 [.slice Ao12 x5_2.length co12] (fun _ => True) (fun k_ => some k_ = (.slice Ao12 x5_2.length co12 : Value).ownBlock) rfl rfl ?aP (fun k_ hk_ => ((Kd.R_mono (ok' := fun k_ => ((fun _ => True)) k_ ∧ some k_ ≠ (u3 : Value).ownBlock) (Kd.R_apart' (HO_5.out) (Kd.S_typed HO_3.out) (by decide)) (fun k_ hk => ⟨trivial, hk.2⟩))).1 k_ hk_.symm) ?aF ?aO ?aB ?aS ?aL ?_; (case aP => exact Kd.M_row (Kd.R_mono (Kd.R_tight rfl (Kd.R_mono (ok' := fun k_ => ((fun _ => True)) k_ ∧ some k_ ≠ (u3 : Value).ownBlock) (Kd.R_apart' (HO_5.out) (Kd.S_typed HO_3.out) (by decide)) (fun k_ hk => ⟨trivial, hk.2⟩))) (fun _ h_ => h_))); (case aB => exact bw); (case aF => exact (fun _ _ => trivial)); (case aO => exact (by (with_reducible repeat (first | apply Kd.S_alloc | apply Kd.S_drewN | apply Kd.S_drew)); exact Kd.S_mono HO_3.out (fun k_ hk => ⟨trivial, fun e_ => hk e_⟩))); (case aS => exact (below_size bw)); (case aL => have := LMc10.out; omega); intro v141 w11 ho hb hg hat; rw [← Ny140.out] at ho; have n0_ := Aside0.mk (hb); have n1_ := Aside0.mk (ho); clear HB; clear HO_3; clear HO_5; have HB := n0_; have HO142 := n1_; clear n0_ n1_; clear ho hb hg hat))
        go_roundg k2
        case measure => have := HK1.out; have := HK2.out; omega
        case rel => exact ⟨(y140), (wrap64 (x4_1 + 1)), (by first | rfl | (simp; done) | (simp [*]; done)), H', ⟨by have := HK1.out; have := HK2.out; omega⟩, ⟨by (with_reducible repeat (first | apply Kd.S_alloc | apply Kd.S_drewN | apply Kd.S_drew)); exact HO142.out⟩, ⟨bw⟩⟩
       ·rw [if_neg c10] at H
        exact absurd H (by simp)
   ·rw [if_neg c4] at H
    have c4b0 : decide (x4_1 ≤ a0) = false := decide_eq_false c4
    clear c4
    obtain rfl := Option.some.inj H
    go_wp2
    go_ret
    exact ⟨_, by first | rfl | (simp [errW_none, errW_some] <;> rfl) | (simp [*, errW_none, errW_some] <;> rfl), by (with_reducible repeat (first | apply Kd.S_alloc | apply Kd.S_drewN | apply Kd.S_drew)); exact HO_3.out, bw⟩

end Go.Proofs.Ytcdpmmpdfdillaa.Q

namespace Go.Proofs.Ytcdpmmpdfdillaa.Q
open Go.RowKit Go.Proofs.YtcdpmmpdfdillaaW.PrintWords Go.Proofs.YtcdpmmpdfdillaaW.PrintLast Go.Proofs.YtcdpmmpdfdillaaW.PrintMore
set_option linter.unusedVariables false
set_option linter.unusedSimpArgs false

/-! ### spec_l4Empty: function 40 -/
def spec_l4Empty.l0 : Nat → Int → List (List Bool) → Int → Option ((List (List Bool)))
 | 0, _, _, _ => none
 | k + 1, x0, x3, x4 => if x4 ≤ x0 then (if 0 ≤ x4 then (if x4 < (x3.length : Int) then (if x4 < ((rd_L2 x3 x4).length : Int) then (spec_l4Empty.l0 k x0 (x3.set (x4 : Int).toNat ((rd_L2 x3 x4).set (x4 : Int).toNat true)) (wrap64 (x4 + 1))) else (none)) else (none)) else (none)) else (some x3)
def spec_l4Empty.f (k : Nat) (a0 : Int) : Option ((List (List Bool))) := (spec_l4None.f k a0).bind fun t157 => (spec_l4Empty.l0 k a0 t157 0)
set_option maxHeartbeats 8000000 in
set_option maxRecDepth 100000 in
theorem spec_l4Empty.calls (k : Nat) (a0 : Int) (r : List (List Bool)) (w : World) (h : spec_l4Empty.f k a0 = some r) :
  Calls Try.prog 40 #[.int .i64 a0] w fun e w' => ∃ v0_ : Value, e = .returned (v0_) ∧ Kd.S (Kd.slice 4 Kd.bool) 33 w' w.heap.size (fun _ => True) v0_ r ∧ Below w.heap.size w w' := by
 have HB := Aside0.mk (Below.refl w.heap.size w)
 have H : ((spec_l4None.f k a0).bind fun t157 => (spec_l4Empty.l0 k a0 t157 0)) = some r := h
 clear h
 replace H := Option.bind_eq_some_iff.mp H
 obtain ⟨t157, A20, H⟩ := H
 replace H : (spec_l4Empty.l0 k a0 t157 0) = some r := H
 have A2 := Aside0.mk A20
 clear A20
 have H' := Aside0.mk H
 clear H
 go_enter Try.func40, Try.ntmps40
 go_wp2_with (first | ((with_reducible refine at_fn (f := 30) rfl ?_); refine goesL_ (some 6) rfl rfl Try.func30 (by kernel_rfl) rfl #[.int .i64 a0] rfl (by (try simp only [List.map_toArray, List.map_cons, List.map_nil]); first | done | rfl | (simp only [List.length_drop, List.length_take]; rfl)) ?_; (with_reducible refine (spec_l4None.calls k a0 t157 _ A2.out).mono ?_); rintro e w3 ⟨v158, rfl, ho0, hb⟩; refine ⟨_, rfl, ?_⟩; have n0_ := Aside0.mk (Kd.S_lower ho0 (below_size bw)); have n1_ := Aside0.mk (below_step bw hb); clear HB; have HO159 := n0_; have HB := n1_; clear n0_ n1_; (try clear hb); (try clear hb2); (try clear hk); (try clear hi); (try clear ho0)))
 go_loopg [4] k (fun kq v4 w' => ∃ (x3_1 : List (List Bool)) (x4_1 : Int), v4 = .int .i64 x4_1 ∧ Aside0 (spec_l4Empty.l0 kq a0 x3_1 x4_1 = some r) ∧ Aside0 (kq ≤ k) ∧ Aside0 (Kd.S (Kd.slice 4 Kd.bool) 33 w' w.heap.size (fun _ => True) v158 x3_1) ∧ Aside0 (Below w.heap.size w w'))
 case atStart => exact ⟨(t157), (0), (by first | rfl | (simp; done) | (simp [*]; done)), H', ⟨Nat.le_refl _⟩, ⟨by (with_reducible repeat (first | apply Kd.S_alloc | apply Kd.S_drewN | apply Kd.S_drew)); exact HO159.out⟩, ⟨bw⟩⟩
 case round =>
  clear H'
  try clear p2
  try clear c3
  obtain ⟨x3_1, x4_1, rfl, HA, HK1, HO_3, HB⟩ := hrel
  cases gk with
  | zero => exact absurd HA.out (by simp [spec_l4Empty.l0])
  | succ k1 =>
   have H := HA.out
   clear HA
   simp only [spec_l4Empty.l0] at H
   by_cases c4 : x4_1 ≤ a0
   ·rw [if_pos c4] at H
    have c4b0 : decide (x4_1 ≤ a0) = true := decide_eq_true c4
    clear c4
    by_cases c5 : 0 ≤ x4_1
    ·rw [if_pos c5] at H
     have c5b0 : decide (0 ≤ x4_1) = true := decide_eq_true c5
     clear c5
     by_cases c6 : x4_1 < (x3_1.length : Int)
     ·rw [if_pos c6] at H
      have c6b0 : decide (x4_1 < (x3_1.length : Int)) = true := decide_eq_true c6
      clear c6
      by_cases c7 : x4_1 < ((rd_L2 x3_1 x4_1).length : Int)
      ·rw [if_pos c7] at H
       have c7b0 : decide (x4_1 < ((rd_L2 x3_1 x4_1).length : Int)) = true := decide_eq_true c7
       clear c7
       obtain ⟨y161, hy161⟩ : ∃ y_ : List Bool, y_ = ((rd_L2 x3_1 x4_1).set (x4_1 : Int).toNat true) := ⟨_, rfl⟩
       replace H : (spec_l4Empty.l0 k1 a0 (x3_1.set (x4_1 : Int).toNat y161) (wrap64 (x4_1 + 1))) = some r := by first | (rw [hy161]; with_reducible exact H) | (have H2_ := (Option.bind_some _ _).symm.trans H; rw [hy161]; with_reducible exact H2_) | (have H2_ := (Option.bind_some _ _).symm.trans H; with_reducible exact H2_) | with_reducible exact H | (rw [hy161]; exact H) | exact H
       have Ny161 := Aside0.mk hy161
       clear hy161
       obtain ⟨y163, hy163⟩ : ∃ y_ : List (List Bool), y_ = (x3_1.set (x4_1 : Int).toNat y161) := ⟨_, rfl⟩
       replace H : (spec_l4Empty.l0 k1 a0 y163 (wrap64 (x4_1 + 1))) = some r := by first | (rw [hy163]; with_reducible exact H) | (have H2_ := (Option.bind_some _ _).symm.trans H; rw [hy163]; with_reducible exact H2_) | (have H2_ := (Option.bind_some _ _).symm.trans H; with_reducible exact H2_) | with_reducible exact H | (rw [hy163]; exact H) | exact H
       have Ny163 := Aside0.mk hy163
       clear hy163
       have H' := Aside0.mk H
       clear H
       obtain ⟨Ao9, co9, eo9⟩ := Kd.S_slice HO_3.out
       subst eo9
       have p160 : 0 ≤ (x4_1 : Int) := of_decide_eq_true (by first | (with_reducible assumption) | assumption)
       have q160 : x4_1 < (x3_1.length : Int) := of_decide_eq_true (by first | (with_reducible assumption) | assumption)
       obtain ⟨ad160, A160_0, c160_0, e160, hx160_0, hl160_0, hi160_0⟩ := at_L2 (Kd.S_reads' HO_3.out).2.2 x4_1 p160 q160
       cases e160
       obtain ⟨ce160, hce160, hMe160, hcc160⟩ := Kd.S_get HO_3.out [] x4_1 p160 (by first | exact q160 | exact of_decide_eq_true (by first | (with_reducible assumption) | assumption) | (have e_ := (Kd.S_reads' HO_3.out).1; omega))
       obtain ⟨ve160_0, rfl, ge160_0⟩ := hMe160
       have hv160_0 := hcc160 0 _ rfl
       rw [Nat.add_zero, show ((Kd.slice 4 Kd.bool)).sz = 1 from rfl, Nat.mul_one] at hv160_0
       replace hv160_0 := Option.some.inj (hv160_0.symm.trans hx160_0)
       rw [hv160_0] at ge160_0
       have HL160_0 := Aside0.mk (show Kd.R Kd.bool 4 _ _ _ _ (rd_L2 x3_1 x4_1) from ge160_0)
       clear hv160_0 ge160_0
       have HX160_0 := Aside0.mk hx160_0
       clear hcc160 hce160
       have HR160_0 := Aside0.mk hi160_0
       have HC160_0 := Aside0.mk hl160_0
       clear hi160_0 hl160_0
       replace p160 := eq_true p160
       replace q160 := eq_true q160
       have p8 : 0 ≤ (x4_1 : Int) := of_decide_eq_true (by first | (with_reducible assumption) | assumption)
       have q8 : (x4_1 : Int) < (((rd_L2 x3_1 x4_1).length : Int) : Int) := of_decide_eq_true (by first | (with_reducible assumption) | assumption)
       obtain ⟨go8, co8, eo8, gb8, gl8, cl8, HG8⟩ := Kd.R_form HL160_0.out (by omega)
       (first | cases eo8 | (injection eo8 with ea_ en_ ec_; (first | subst ea_ | (injection ea_ with ea_; subst ea_)); subst ec_; clear en_))
       have GB8 := Aside0.mk gb8
       have GG8 := Aside0.mk HG8
       clear gb8 gl8 HG8
       obtain ⟨hx8_0, hf8_0⟩ := Kd.R_celln false HL160_0.out (x4_1 : Int) p8 q8
       replace p8 := eq_true p8
       replace q8 := eq_true q8
       have hq10 : (x4_1 : Int) < (x3_1.length : Int) := (by have h_ : (x4_1 : Int) < ((x3_1.length : Int) : Int) := of_decide_eq_true (by first | (with_reducible assumption) | assumption); first | exact h_ | (have e_ := (Kd.S_reads' HO_3.out).1; omega) | simpa only [List.length_set, List.length_set] using h_)
       obtain ⟨oki10, ce10, hcl10, hM10, hcc10, hok10, hbk10⟩ := Kd.S_borrow HO_3.out [] (x4_1 : Int) (of_decide_eq_true (by first | (with_reducible assumption) | assumption)) hq10
       obtain ⟨ve10_0, rfl, ge10_0⟩ := hM10
       have hv10 := hcc10 0 _ rfl
       rw [Nat.add_zero, show ((Kd.slice 4 Kd.bool)).sz = 1 from rfl, Nat.mul_one] at hv10
       replace hv10 := Option.some.inj (hv10.symm.trans HX160_0.out)
       subst hv10
       clear hcc10 hcl10
       replace ge10_0 := (show Kd.R Kd.bool 4 _ _ _ _ (rd_L2 x3_1 x4_1) from ge10_0)
       have HP10 := Kd.R_putg ge10_0 (x4_1 : Int) true
       go_wp2_with (first | ((with_reducible refine gate_store (t := 4) (p := 17) rfl ?_); refine store_event (t := 4) (p := 17) (v := ?vo_w11) (w1 := (wr.setCell ⟨go8, (x4_1 : Int).toNat, none⟩ (.bool true))) ?hg ?ho ?hn ?hr ?_; (case ho => rfl); (case hg => rfl); (case hn => rfl); (case hr => first | (go_simp; done) | (go_simp; rfl)); intro w11 hw; have hg : wr.grownBy w11 (some go8) := (by rw [hw]; exact HP10.2); have hz_ : Kd.R Kd.bool 4 w11 w.heap.size oki10 (.slice (some ⟨go8, 0, none⟩) (rd_L2 x3_1 x4_1).length c160_0) y161 := (by rw [hw, Ny161.out]; exact HP10.1); have hp_ : Kd.S (Kd.slice 4 Kd.bool) 33 w11 w.heap.size (fun _ => True) (.slice (some ad160) x3_1.length co9) y163 := (by rw [Ny163.out]; exact hbk10 hg (fun k_ e_ => by injection e_ with e_; subst e_; exact ge10_0.1 _ rfl) (Kd.M_row hz_)); have hm_ := Kd.R_mono hz_ hok10; clear HP10 hbk10; have n0_ := Aside0.mk (hp_); have n1_ := Aside0.mk ((by rw [hw]; exact below_set (HB.out) GB8.out : Below w.heap.size w w11)); have n2_ := Aside0.mk (hm_); have n3_ := Aside0.mk ((Kd.R_reads' hm_).2.1); clear HO_3; clear HB; clear HL160_0; have HO_3 := n0_; have HB := n1_; have HL164 := n2_; have HC162 := n3_; clear n0_ n1_ n2_ n3_; clear hg hw hp_ hz_ hm_ hok10))
       go_roundg k1
       case measure => have := HK1.out; omega
       case rel => exact ⟨(y163), (wrap64 (x4_1 + 1)), (by first | rfl | (simp; done) | (simp [*]; done)), H', ⟨by have := HK1.out; omega⟩, ⟨by (with_reducible repeat (first | apply Kd.S_alloc | apply Kd.S_drewN | apply Kd.S_drew)); exact HO_3.out⟩, ⟨bw⟩⟩
      ·rw [if_neg c7] at H
       exact absurd H (by simp)
     ·rw [if_neg c6] at H
      exact absurd H (by simp)
    ·rw [if_neg c5] at H
     exact absurd H (by simp)
   ·rw [if_neg c4] at H
    have c4b0 : decide (x4_1 ≤ a0) = false := decide_eq_false c4
    clear c4
    obtain rfl := Option.some.inj H
    go_wp2
    go_ret
    exact ⟨_, by first | rfl | (simp [errW_none, errW_some] <;> rfl) | (simp [*, errW_none, errW_some] <;> rfl), by (with_reducible repeat (first | apply Kd.S_alloc | apply Kd.S_drewN | apply Kd.S_drew)); exact HO_3.out, bw⟩

end Go.Proofs.Ytcdpmmpdfdillaa.Q

namespace Go.Proofs.Ytcdpmmpdfdillaa.Q
open Go.RowKit Go.Proofs.YtcdpmmpdfdillaaW.PrintWords Go.Proofs.YtcdpmmpdfdillaaW.PrintLast
set_option linter.unusedVariables false
set_option linter.unusedSimpArgs false
/-- N rows of N: at i and j it is f i j. -/
def tab (N : Nat) (f : Nat → Nat → Bool) : List (List Bool) := (List.range N).map fun i => (List.range N).map (f i)
theorem tab_len (N : Nat) (f : Nat → Nat → Bool) : (tab N f).length = N := by simp [tab]
theorem tab_row (N : Nat) (f : Nat → Nat → Bool) (i : Nat) (h : i < N) : rd_L2 (tab N f) (i : Int) = (List.range N).map (f i) := by
  unfold rd_L2 tab
  rw [Int.toNat_natCast, List.getD_eq_getElem?_getD, List.getElem?_map, List.getElem?_range h]
  rfl
theorem row_at (N : Nat) (f : Nat → Bool) (j : Nat) (h : j < N) : rdOf false ((List.range N).map f) (j : Int) = f j := by
  unfold rdOf
  rw [Int.toNat_natCast, List.getD_eq_getElem?_getD, List.getElem?_map, List.getElem?_range h]
  rfl
theorem tab_set (N : Nat) (f : Nat → Nat → Bool) (i j : Nat) (hi : i < N) (x : Bool) : (tab N f).set i (((List.range N).map (f i)).set j x) = tab N (fun a b => if a = i ∧ b = j then x else f a b) := by
  apply List.ext_getElem?
  intro a
  by_cases ha : a < N
  · by_cases h : i = a
    · subst h
      rw [List.getElem?_set_self (by simp [tab]; exact ha)]
      unfold tab
      rw [List.getElem?_map, List.getElem?_range ha]
      show some _ = some _
      congr 1
      apply List.ext_getElem?
      intro b
      by_cases hb : b < N
      · by_cases hj : j = b
        · subst hj
          rw [List.getElem?_set_self (by simp; exact hb), List.getElem?_map, List.getElem?_range hb]
          simp
        · rw [List.getElem?_set_ne hj, List.getElem?_map, List.getElem?_map, List.getElem?_range hb]
          simp [Ne.symm hj]
      · rw [List.getElem?_eq_none (by simp; omega), List.getElem?_eq_none (by simp; omega)]
    · rw [List.getElem?_set_ne h]
      unfold tab
      rw [List.getElem?_map, List.getElem?_map, List.getElem?_range ha]
      simp [Ne.symm h]
  · rw [List.getElem?_eq_none (by simp [tab]; omega), List.getElem?_eq_none (by simp [tab]; omega)]
theorem tab_congr {N : Nat} {f g : Nat → Nat → Bool} (h : ∀ i j, i < N → j < N → f i j = g i j) : tab N f = tab N g := by
  unfold tab
  refine List.map_congr_left fun i hi => List.map_congr_left fun j hj => h i j (List.mem_range.1 hi) (List.mem_range.1 hj)
/-! none -/
theorem none_row (n : Nat) (hn : n ≤ 1000) (out : List (List Bool)) (i : Nat) (q : List (List Bool)) : ∀ (m j : Nat), j + m = n + 1 → Ev (fun k => spec_l4None.l0 k n (out ++ [List.replicate (n + 1) false]) ((i + 1 : Nat) : Int)) q → out.length ≤ 1001 → i ≤ 1000 → Ev (fun k => spec_l4None.l1 k n out i (List.replicate j false) j) q
  | 0, j, hj, h, ho, hi => by
    obtain rfl : j = n + 1 := by omega
    refine Ev.step (fun k => ?_) h
    rw [spec_l4None.l1, if_neg (by omega), if_pos (by omega), wrap_nat _ (by omega)]
  | m + 1, j, hj, h, ho, hi => by
    refine Ev.step (fun k => ?_) (none_row n hn out i q m (j + 1) (by omega) h ho hi)
    rw [spec_l4None.l1, if_pos (by omega), if_pos (by simp; omega), wrap_nat _ (by omega), List.replicate_succ']
theorem none_out (n : Nat) (hn : n ≤ 1000) : ∀ (m i : Nat), i + m = n + 1 → Ev (fun k => spec_l4None.l0 k n (List.replicate i (List.replicate (n + 1) false)) i) (List.replicate (n + 1) (List.replicate (n + 1) false))
  | 0, i, hi => by
    obtain rfl : i = n + 1 := by omega
    refine Ev.step (f := fun _ => some (List.replicate (n + 1) (List.replicate (n + 1) false))) (fun k => ?_) (Ev.now _)
    rw [spec_l4None.l0, if_neg (by omega)]
  | m + 1, i, hi => by
    have ih := none_out n hn m (i + 1) (by omega)
    rw [List.replicate_succ'] at ih
    refine Ev.step (fun k => ?_) (none_row n hn (List.replicate i (List.replicate (n + 1) false)) i _ (n + 1) 0 (by omega) ih (by simp; omega) (by omega))
    rw [spec_l4None.l0, if_pos (by omega)]
    rfl
theorem rep_tab (N : Nat) : List.replicate N (List.replicate N false) = tab N (fun _ _ => false) := by
  unfold tab
  have : ∀ (α : Type) (x : α), (List.range N).map (fun _ => x) = List.replicate N x := fun α x => by
    apply List.ext_getElem?
    intro a
    rw [List.getElem?_map, List.getElem?_replicate]
    by_cases h : a < N
    · rw [List.getElem?_range h, if_pos h]; rfl
    · rw [List.getElem?_eq_none (by simp; omega), if_neg h]; rfl
  rw [this, this]
theorem none_is (n : Nat) (hn : n ≤ 1000) : Ev (fun k => spec_l4None.f k n) (tab (n + 1) (fun _ _ => false)) := by
  rw [← rep_tab]
  exact none_out n hn (n + 1) 0 (by omega)
/-! the one line -/
theorem empty_loop (n : Nat) (hn : n ≤ 1000) : ∀ (m i : Nat), i + m = n + 1 → Ev (fun k => spec_l4Empty.l0 k n (tab (n + 1) (fun a b => decide (a < i ∧ a = b))) i) (tab (n + 1) (fun a b => decide (a = b)))
  | 0, i, hi => by
    refine Ev.step (f := fun _ => some (tab (n + 1) (fun a b => decide (a = b)))) (fun k => ?_) (Ev.now _)
    rw [spec_l4Empty.l0, if_neg (by omega)]
    refine congrArg some (tab_congr fun a b ha hb => decide_eq_decide.2 ⟨fun h => h.2, fun h => ⟨by omega, h⟩⟩)
  | m + 1, i, hi => by
    refine Ev.step (fun k => ?_) (empty_loop n hn m (i + 1) (by omega))
    rw [spec_l4Empty.l0, if_pos (by omega), if_pos (by omega), if_pos (by rw [tab_len]; omega), tab_row _ _ _ (by omega), if_pos (by simp; omega), Int.toNat_natCast, tab_set _ _ _ _ (by omega), wrap_nat _ (by omega)]
    congr 1
    refine tab_congr fun a b ha hb => ?_
    by_cases h : a = i ∧ b = i
    · rw [if_pos h]; exact (decide_eq_true (by omega)).symm
    · rw [if_neg h]; exact decide_eq_decide.2 (by omega)
theorem empty_is (n : Nat) (hn : n ≤ 1000) : Ev (fun k => spec_l4Empty.f k n) (tab (n + 1) (fun a b => decide (a = b))) := by
  refine Ev.bind (none_is n hn) ?_
  have := empty_loop n hn (n + 1) 0 (by omega)
  rw [show (tab (n + 1) fun a b => decide (a < 0 ∧ a = b)) = tab (n + 1) (fun _ _ => false) from tab_congr fun a b _ _ => decide_eq_false (by omega)] at this
  exact this
/-! or -/
def orF (f g : Nat → Nat → Bool) (a b : Nat) : Bool := decide (a ≤ b) && (f a b || g a b)
/-- What is written so far: rows before i, and in row i what lies before j. -/
def upTo (i j : Nat) (h : Nat → Nat → Bool) (a b : Nat) : Bool := if a < i ∨ (a = i ∧ b < j) then h a b else false
theorem upTo_put {N i j : Nat} {h : Nat → Nat → Bool} (a b : Nat) : (if a = i ∧ b = j then h i j else upTo i j h a b) = upTo i (j + 1) h a b := by
  unfold upTo
  by_cases e : a = i ∧ b = j
  · obtain ⟨rfl, rfl⟩ := e
    rw [if_pos ⟨rfl, rfl⟩, if_pos (by omega)]
  · rw [if_neg e]
    by_cases e2 : a < i ∨ (a = i ∧ b < j)
    · rw [if_pos e2, if_pos (by omega)]
    · rw [if_neg e2, if_neg (by omega)]
theorem upTo_row {N i j : Nat} {h : Nat → Nat → Bool} (hj : N ≤ j) (hz : ∀ a b, b < a → h a b = false) : tab N (upTo i j h) = tab N (upTo (i + 1) (i + 1) h) := tab_congr fun a b ha hb => by
  unfold upTo
  by_cases e : a < i ∨ (a = i ∧ b < j)
  · rw [if_pos e, if_pos (by omega)]
  · rw [if_neg e]
    by_cases e2 : a < i + 1 ∨ a = i + 1 ∧ b < i + 1
    · rw [if_pos e2, hz a b (by omega)]
    · rw [if_neg e2]
theorem upTo_zero (N : Nat) (h : Nat → Nat → Bool) : tab N (upTo 0 0 h) = tab N (fun _ _ => false) := tab_congr fun a b _ _ => if_neg (by omega)
theorem upTo_all {N i j : Nat} {h : Nat → Nat → Bool} (hi : N ≤ i) : tab N (upTo i j h) = tab N h := tab_congr fun a b ha _ => if_pos (by omega)
/-! in memory -/
abbrev MC (w : World) (A : Option Addr) (N : Nat) (f : Nat → Nat → Bool) : Prop := Kd.C (Kd.slice 4 Kd.bool) w A N (tab N f)
abbrev MS (w : World) (base : Nat) (v : Value) (N : Nat) (f : Nat → Nat → Bool) : Prop := Kd.S (Kd.slice 4 Kd.bool) 33 w base (fun _ => True) v (tab N f)
theorem ms_of {w : World} {base : Nat} {v : Value} {N : Nat} {f g : Nat → Nat → Bool} (h : MS w base v N f) (e : tab N f = tab N g) : MS w base v N g := by
  unfold MS at *; rw [← e]; exact h
theorem mat_ad {w : World} {A : Option Addr} {N : Nat} {f : Nat → Nat → Bool} (h : MC w A N f) (hN : 0 < N) : ∃ ad, A = some ad := by
  obtain ⟨ad, A0, c0, e, -⟩ := at_L2 h 0 (by omega) (by omega)
  exact ⟨ad, e⟩
theorem mat_get {w : World} {ad : Addr} {N : Nat} {f : Nat → Nat → Bool} (h : MC w (some ad) N f) {i j : Nat} (hi : i < N) (hj : j < N) : ∃ a0 c0, w.cell? (ad.add i) = some (.slice (some a0) N c0) ∧ w.cell? (a0.add j) = some (.bool (f i j)) := by
  obtain ⟨ad, A0, c0, e, h1, h2, h3⟩ := at_L2 h (i : Int) (by omega) (by omega)
  cases e
  rw [tab_row _ _ _ hi] at h1 h2 h3
  rw [Int.toNat_natCast] at h1
  have hl : ((List.range N).map (f i)).length = N := by simp
  rw [hl] at h1 h2 h3
  obtain ⟨a0, rfl, h4⟩ := Kd.at_bool h3 (j : Int) (by omega) (by omega)
  rw [row_at _ _ _ hj, Int.toNat_natCast] at h4
  exact ⟨a0, c0, h1, h4⟩
theorem mat_form {w : World} {B : Nat} {v : Value} {N : Nat} {f : Nat → Nat → Bool} (h : MS w B v N f) (hN : 0 < N) : ∃ g c, v = .slice (some ⟨g, 0, none⟩) N c ∧ B ≤ g ∧ g < w.heap.size := by
  obtain ⟨g, c, e, h1, h2, -⟩ := Kd.S_form h (by rw [tab_len]; exact hN)
  rw [tab_len] at e
  exact ⟨g, c, e, h1, h2⟩
theorem mat_C {w : World} {B : Nat} {A : Option Addr} {c N : Nat} {f : Nat → Nat → Bool} (h : MS w B (.slice A N c) N f) : MC w A N f ∧ N ≤ c := by
  have h1 := Kd.S_reads' h
  rw [tab_len] at h1
  exact ⟨h1.2.2, h1.2.1⟩
theorem mat_put {W : World} {B g c N i j : Nat} {f : Nat → Nat → Bool} (h : MS W B (.slice (some ⟨g, 0, none⟩) N c) N f) (hi : i < N) (hj : j < N) :
    ∃ r cr, r ≠ g ∧ B ≤ r ∧ W.cell? ⟨g, i, none⟩ = some (.slice (some ⟨r, 0, none⟩) N cr) ∧ W.cell? ⟨r, j, none⟩ = some (.bool (f i j)) ∧ W.frozen? ⟨r, j, none⟩ = false ∧ r < W.heap.size ∧
      ∀ x, MS (W.setCell ⟨r, j, none⟩ (.bool x)) B (.slice (some ⟨g, 0, none⟩) N c) N (fun a b => if a = i ∧ b = j then x else f a b) := by
  obtain ⟨oki, cs, hcl, hM, hcc, hoki, hback⟩ := Kd.S_borrow h ([] : List Bool) (i : Int) (by omega) (by omega)
  rw [show (tab N f).getD (i : Int).toNat [] = (List.range N).map (f i) from tab_row N f i hi] at hM
  obtain ⟨v, rfl, hR⟩ := hM
  have hl : ((List.range N).map (f i)).length = N := by simp
  obtain ⟨r, cr, rfl, hBr, hrl, -⟩ := Kd.R_form hR (by rw [hl]; omega)
  rw [hl] at hR hcc hback
  have hok := hR.1 r rfl
  have h1 := hcc 0 _ rfl
  rw [Nat.add_zero, show (Kd.slice 4 Kd.bool).sz = 1 from rfl, Nat.mul_one, Int.toNat_natCast, add_at, Nat.zero_add] at h1
  have h2 := Kd.R_celln false hR (j : Int) (by omega) (by omega)
  rw [row_at _ _ _ hj, Int.toNat_natCast] at h2
  refine ⟨r, cr, fun e => (hoki r hok).2 (by rw [e]; rfl), hBr, h1, h2.1, h2.2, hrl, fun x => ?_⟩
  have h3 := Kd.R_putg hR (j : Int) x
  rw [Int.toNat_natCast] at h3
  have h4 := hback h3.2 (fun k e => by injection e with e; subst e; exact hok) (Kd.M_row h3.1)
  rw [Int.toNat_natCast, tab_set _ _ _ _ hi] at h4
  exact h4
theorem none_call (n : Nat) (hn : n ≤ 1000) (w : World) : Calls Try.prog 30 #[.int .i64 n] w fun e w' => ∃ v, e = .returned v ∧ MS w' w.heap.size v (n + 1) (fun _ _ => false) ∧ Below w.heap.size w w' := by
  obtain ⟨K, hK⟩ := none_is n hn
  exact spec_l4None.calls K _ _ w (hK K (Nat.le_refl _))
theorem empty_call (n : Nat) (hn : n ≤ 1000) (w : World) : Calls Try.prog 40 #[.int .i64 n] w fun e w' => ∃ v, e = .returned v ∧ MS w' w.heap.size v (n + 1) (fun a b => decide (a = b)) ∧ Below w.heap.size w w' := by
  obtain ⟨K, hK⟩ := empty_is n hn
  exact spec_l4Empty.calls K _ _ w (hK K (Nat.le_refl _))
/-- What a store into the new matrix leaves. -/
def SMt (wB : World) (g i : Nat) (hd : Value) (W : World) : Prop := Below wB.heap.size wB W ∧ W.cell? ⟨g, i, none⟩ = some hd
theorem SMt.set {wB W : World} {g i r j : Nat} {hd : Value} (h : SMt wB g i hd W) (h1 : wB.heap.size ≤ r) (h2 : r ≠ g) (x : Value) : SMt wB g i hd (W.setCell ⟨r, j, none⟩ x) :=
  ⟨Below.setCell (p := ⟨r, j, none⟩) h.1 h1 x, (World.cell?_setCell_far W ⟨r, j, none⟩ ⟨g, i, none⟩ x h2).trans h.2⟩
end Go.Proofs.Ytcdpmmpdfdillaa.Q

namespace Go.Proofs.Ytcdpmmpdfdillaa.Q
open Go.RowKit Go.Proofs.YtcdpmmpdfdillaaW.PrintWords Go.Proofs.YtcdpmmpdfdillaaW.PrintLast
set_option linter.unusedVariables false
set_option linter.unusedSimpArgs false
set_option maxHeartbeats 4000000 in
set_option maxRecDepth 100000 in
theorem or_call (A0 A1 : Option Addr) (c0 c1 n : Nat) (f g : Nat → Nat → Bool) (w : World) (h0 : MC w A0 (n + 1) f) (h1 : MC w A1 (n + 1) g) (hn : n ≤ 1000) :
    Calls Try.prog 31 #[.slice A0 (n + 1) c0, .slice A1 (n + 1) c1] w fun e w' => ∃ v, e = .returned v ∧ MS w' w.heap.size v (n + 1) (orF f g) ∧ Below w.heap.size w w' := by
  obtain ⟨N, hN⟩ : ∃ N, N = n + 1 := ⟨_, rfl⟩
  rw [← hN] at h0 h1 ⊢
  obtain ⟨a0, rfl⟩ := mat_ad h0 (by omega)
  obtain ⟨a1, rfl⟩ := mat_ad h1 (by omega)
  have hw : IntKind.i64.wrap ((N : Int) - 1) = (n : Int) := by rw [IntKind.wrap_i64]; omega
  have H0 := Aside0.mk (And.intro h0 h1)
  have HN := Aside0.mk (And.intro hN hn)
  have hz : ∀ a b, b < a → orF f g a b = false := fun a b h => by unfold orF; rw [decide_eq_false (by omega)]; rfl
  have HZ := Aside0.mk hz
  clear h0 h1 hN hn hz
  go_enter Try.func31, Try.ntmps31
  go_wp2_with fail
  refine (none_call n HN.out.2 w).mono ?_
  rintro ex W1 ⟨v1, rfl, hS, hb⟩
  rw [← HN.out.1] at hS
  obtain ⟨m, c, rfl, hm, -⟩ := mat_form hS (by have := HN.out; omega)
  have hS := ms_of hS (upTo_zero N (orF f g)).symm
  have HS := Aside0.mk hS
  have HB := Aside0.mk hb
  clear hS hb hw
  go_wp2_with fail
  go_loopw [6] (fun v6 W => ∃ i : Nat, i ≤ N ∧ v6 = .int .i64 i ∧ Aside0 (MS W w.heap.size (.slice (some ⟨m, 0, none⟩) N c) N (upTo i i (orF f g))) ∧ Aside0 (Below w.heap.size w W)) (fun v6 _ => N - (intOf v6).toNat)
  case atStart => exact ⟨0, by omega, rfl, HS, HB⟩
  case round =>
    clear HS HB
    obtain ⟨i, hi, rfl, HS, HB⟩ := hrel
    by_cases hlt : i < N
    · have dl : decide ((i : Int) < (N : Int)) = true := decide_eq_true (by omega)
      have hwi : IntKind.i64.wrap ((i : Int) + 1) = ((i + 1 : Nat) : Int) := by have := HN.out; rw [IntKind.wrap_i64]; omega
      go_wp2_with fail
      go_loopw [7] (fun v7 W => ∃ j : Nat, i ≤ j ∧ j ≤ N ∧ v7 = .int .i64 j ∧ Aside0 (MS W w.heap.size (.slice (some ⟨m, 0, none⟩) N c) N (upTo i j (orF f g))) ∧ Aside0 (Below w.heap.size w W)) (fun v7 _ => N - (intOf v7).toNat)
      case atStart => exact ⟨i, by omega, by omega, rfl, HS, HB⟩
      case round =>
        clear HS HB
        obtain ⟨j, hij, hj, rfl, HS, HB⟩ := hrel
        by_cases hlt2 : j < N
        · have dl2 : decide ((j : Int) < (N : Int)) = true := decide_eq_true (by omega)
          have hwj : IntKind.i64.wrap ((j : Int) + 1) = ((j + 1 : Nat) : Int) := by have := HN.out; rw [IntKind.wrap_i64]; omega
          go_upto_region 8 with (fail)
          obtain ⟨r, cr, hrg, hBr, hx, hy, hf, -, hput⟩ := mat_put (W := wr.drew) (Kd.S_drew HS.out) hlt hlt2
          obtain ⟨b0, k0, x0, x1⟩ := mat_get H0.out.1 hlt hlt2
          obtain ⟨b1, k1, y0, y1⟩ := mat_get H0.out.2 hlt hlt2
          have kS : K0 (SMt w m i (.slice (some ⟨r, 0, none⟩) N cr) wr.drew) := ⟨below_drew1 HB.out, hx⟩
          have z0 : ∀ W [K0 (SMt w m i (.slice (some ⟨r, 0, none⟩) N cr) W)], W.cell? ⟨m, i, none⟩ = some (.slice (some ⟨r, 0, none⟩) N cr) := fun W k => k.out.2
          have z1 : ∀ W [K0 (SMt w m i (.slice (some ⟨r, 0, none⟩) N cr) W)], W.cell? (a0.add i) = some (.slice (some b0) N k0) := fun W k => (k.out.1.cell (World.block_lt_of_cell? w _ x0)).trans x0
          have z2 : ∀ W [K0 (SMt w m i (.slice (some ⟨r, 0, none⟩) N cr) W)], W.cell? (b0.add j) = some (.bool (f i j)) := fun W k => (k.out.1.cell (World.block_lt_of_cell? w _ x1)).trans x1
          have z3 : ∀ W [K0 (SMt w m i (.slice (some ⟨r, 0, none⟩) N cr) W)], W.cell? (a1.add i) = some (.slice (some b1) N k1) := fun W k => (k.out.1.cell (World.block_lt_of_cell? w _ y0)).trans y0
          have z4 : ∀ W [K0 (SMt w m i (.slice (some ⟨r, 0, none⟩) N cr) W)], W.cell? (b1.add j) = some (.bool (g i j)) := fun W k => (k.out.1.cell (World.block_lt_of_cell? w _ y1)).trans y1
          have HP := Aside0.mk (fun x => And.intro (hput x) (kS.out.set (j := j) hBr hrg (.bool x)))
          have he : orF f g i j = (f i j || g i j) := by unfold orF; rw [decide_eq_true hij, Bool.true_and]
          have HE := Aside0.mk he
          have i1 : ((i : Int) < (N : Int)) = True := eq_true (by omega)
          have i2 : ((0 : Int) ≤ (i : Int)) = True := eq_true (by omega)
          have i3 : ((j : Int) < (N : Int)) = True := eq_true (by omega)
          have i4 : ((0 : Int) ≤ (j : Int)) = True := eq_true (by omega)
          clear x0 x1 y0 y1 hput he hx
          generalize f i j = u at *
          generalize g i j = t at *
          cases u
          all_goals
            refine sq_region (S := fun W' => K0 (SMt w m i (.slice (some ⟨r, 0, none⟩) N cr) W')) [(0, false), (1, false), (2, false), (3, false), (4, false), (5, false), (6, false), (7, false), (8, false), (9, false), (10, false), (11, false), (12, false), (13, false), (14, false), (15, false), (16, false), (17, false), (18, false), (19, false), (20, false), (21, false), (22, true)] (by kernel_rfl) (by kernel_rfl) kS (fun hS => ?_)
            repeat (first | (refine sq_n ?_ ?_ rfl ?_ ?_ ?_; rotate_left 2; (intro W hW; go_simp; first | done | with_reducible rfl); (simp only [List.setIfInBounds_toArray, List.set_cons_zero, List.set_cons_succ]; try rfl)) | (refine sq_g ?_ ?_ rfl rfl rfl ?_ ?_ ?_; rotate_left 2; (intro W hW; go_simp; first | done | with_reducible rfl); (simp only [List.setIfInBounds_toArray, List.set_cons_zero, List.set_cons_succ]; try rfl)) | (refine sq_f ?_ rfl rfl rfl ?_ ?_; rotate_left; (simp only [List.setIfInBounds_toArray, List.set_cons_zero, List.set_cons_succ]; try rfl)) | (refine sq_u ?_ rfl rfl rfl ?_ ?_; rotate_left; (simp only [List.setIfInBounds_toArray, List.set_cons_zero, List.set_cons_succ]; try rfl)))
            refine sq_1n rfl (fun hS K hK => ?_)
            go_wp2_with fail
            refine hK.out _ _ ⟨(HP.out _).2⟩ (fun hS => ?_)
            refine sq_done (fun hS => ?_)
            clear hK hS hy hf kS
            go_wp2_with fail
            go_roundw
            case measure => simp only [intOf]; omega
            case rel => exact ⟨j + 1, by omega, by omega, by rw [Int.natCast_add]; rfl, ⟨ms_of (HP.out _).1 (tab_congr fun a b _ _ => by have e := HE.out; simp only [Bool.true_or, Bool.false_or] at e; rw [← e]; exact upTo_put (N := N) a b)⟩, ⟨(HP.out _).2.1⟩⟩
        · obtain rfl : j = N := by omega
          have dl2 : decide ((j : Int) < (j : Int)) = false := decide_eq_false (by omega)
          go_wp2_with fail
          go_roundw
          case measure => simp only [intOf]; omega
          case rel => exact ⟨i + 1, by omega, by rw [Int.natCast_add]; rfl, ⟨ms_of HS.out (upTo_row (Nat.le_refl _) HZ.out)⟩, HB⟩
    · obtain rfl : i = N := by omega
      have dl : decide ((i : Int) < (i : Int)) = false := decide_eq_false (by omega)
      go_wp2_with fail
      go_ret
      exact ⟨_, rfl, ms_of HS.out (upTo_all (Nat.le_refl _)), HB.out⟩
end Go.Proofs.Ytcdpmmpdfdillaa.Q

namespace Go.Proofs.Ytcdpmmpdfdillaa.Q
inductive Pl where
  | done
  | n (i : Nat) (r : Pl)
  | y (i : Nat) (r : Pl)
  | two (i j : Nat) (p q : Pl)
def Pl.len : Pl → Nat
  | .done => 0
  | .n _ r => r.len + 1
  | .y _ r => r.len + 1
  | .two _ _ p _ => p.len + 1
def planP (md : Region.Mode) (ops : Array Oper) : Pl → Array Bool → Bool
  | .done, l => Region.ready md ops l == []
  | .n i r, l => Region.free md ops l i && ((Region.ready md ops l).contains i && planP md ops r (l.setIfInBounds i true))
  | .y i r, l => (Region.ready md ops l == [i]) && planP md ops r (l.setIfInBounds i true)
  | .two i j p q, l => (Region.ready md ops l == [i, j]) && ((p.len == q.len) && (planP md ops p (l.setIfInBounds i true) && planP md ops q (l.setIfInBounds j true)))
section
variable {P : Program} {ops : Array Oper} {Q : Exit → Act → World → Prop} {md : Region.Mode} {S : World → Prop}
def Sp (P : Program) (md : Region.Mode) (ops : Array Oper) (Q : Exit → Act → World → Prop) (S : World → Prop) (r : Pl) (a : Act) (w : World) : Prop :=
  S w → Region.noSelect ops = true → ∀ l, planP md ops r l = true → wpAnyH P md ops (NoPanic Q) S r.len l a w
theorem sp_region {id : Nat} {a : Act} {w : World} (r : Pl) (hm : P.follows .mixedOrders = true) (hc : (Region.noSelect ops && (planP .any ops r (Array.replicate ops.size false) && (r.len == ops.size))) = true)
    (hS : S w.drew) (h : S w.drew → Sp P .any ops Q S r a w.drew) : (Code.region id ops true).wp P Q a w := by
  simp only [Bool.and_eq_true, beq_iff_eq] at hc
  refine wp_region_noPanic (wp_region_held_drew hm hS fun h1 => ?_)
  have h2 := h h1 h1 hc.1 _ hc.2.1
  rw [hc.2.2] at h2
  exact h2
theorem sp_done {a : Act} {w : World} (h : S w → Q .normal a w) : Sp P md ops Q S .done a w := fun hS _ l hl => wpAnyH_done (by simpa [planP] using hl) (NoPanic.normal (h hS)) _
theorem sp_one {i : Nat} {r : Pl} {d : Option Tmp} {op : Op} {ty : TypeId} {pos : String} {af : Array Edge} {gu : Option (Nat × Bool)} {a : Act} {w : World} (ho : ops[i]? = some ⟨d, op, ty, pos, af, gu⟩) (hw : Region.wanted ⟨d, op, ty, pos, af, gu⟩ (yielded ops a.tmps) = true)
    (h : S w → ∀ K : Act → World → Prop, Shut (∀ a' w', S w' → (S w' → Sp P md ops Q S r a' w') → K a' w') → Oper.wp P ⟨d, op, ty, pos, af, gu⟩ a w K (NoPanic Q)) : Sp P md ops Q S (.y i r) a w := by
  intro hS hs l hl
  simp only [planP, Bool.and_eq_true, beq_iff_eq] at hl
  refine wpAnyH_ready hl.1 (by simp) (AllReadyH.cons ho (fun K hK => ?_) AllReadyH.nil)
  rw [if_pos hw]
  exact h hS K fun a' w' h1 h2 => hK.out a' w' h1 fun h3 => h2 h3 h3 hs _ hl.2
variable {i j dj : Nat} {r p q : Pl} {d : Tmp} {od od' : Option Tmp} {op op' : Op} {ty ty' : TypeId} {pos pos' : String} {af af' : Array Edge} {gu' : Option (Nat × Bool)} {g b : Bool} {T : Array Value} {D : List Deferred} {w : World}
theorem sp_n (T' : Array Value) (v : Value) (ho : ops[i]? = some ⟨some d, op, ty, pos, af, none⟩) (hv : ∀ W, S W → (execOp (Act.eval ⟨T, D⟩) ⟨some d, op, ty, pos, af, none⟩).run P W = .ok (.value v) W) (hT : T.setIfInBounds d v = T') (h : Sp P md ops Q S r ⟨T', D⟩ w) : Sp P md ops Q S (.n i r) ⟨T, D⟩ w := by
  subst hT
  intro hS hs l hl
  simp only [planP, Bool.and_eq_true] at hl
  exact wpAnyH_take ho hs hl.1 hl.2.1 (fun _ _ _ h => h.elim) (.inl ⟨yes_n, hv⟩) hS (h hS hs _ hl.2.2)
theorem sp_1n (ho : ops[i]? = some ⟨od, op, ty, pos, af, none⟩)
    (h : S w → ∀ K : Act → World → Prop, Shut (∀ a' w', S w' → (S w' → Sp P md ops Q S r a' w') → K a' w') → Oper.wp P ⟨od, op, ty, pos, af, none⟩ ⟨T, D⟩ w K (NoPanic Q)) : Sp P md ops Q S (.y i r) ⟨T, D⟩ w := sp_one ho yes_n h
end
end Go.Proofs.Ytcdpmmpdfdillaa.Q

namespace Go.Proofs.Ytcdpmmpdfdillaa.Q
section
variable {P : Program} {ops : Array Oper} {Q : Exit → Act → World → Prop} {md : Region.Mode} {S : World → Prop}
variable {i j dj : Nat} {r p q : Pl} {d : Tmp} {od od' : Option Tmp} {op op' : Op} {ty ty' : TypeId} {pos pos' : String} {af af' : Array Edge} {gu' : Option (Nat × Bool)} {g b : Bool} {T : Array Value} {D : List Deferred} {w : World}
theorem sp_f (T' : Array Value) (ho : ops[i]? = some ⟨some d, op, ty, pos, af, some (j, g)⟩) (hj : ops[j]? = some ⟨some dj, op', ty', pos', af', gu'⟩) (hd : T[dj]? = some (.bool (!g))) (hT : T.setIfInBounds d undef = T') (h : Sp P md ops Q S r ⟨T', D⟩ w) : Sp P md ops Q S (.n i r) ⟨T, D⟩ w := by
  subst hT
  intro hS hs l hl
  simp only [planP, Bool.and_eq_true] at hl
  exact wpAnyH_take ho hs hl.1 hl.2.1 (fun _ _ _ h => h.elim) (.inr ⟨no_g hj hd, rfl⟩) hS (h hS hs _ hl.2.2)
theorem sp_u (T' : Array Value) (ho : ops[i]? = some ⟨some d, op, ty, pos, af, some (j, g)⟩) (hj : ops[j]? = some ⟨some dj, op', ty', pos', af', gu'⟩) (hd : T[dj]? = some undef) (hT : T.setIfInBounds d undef = T') (h : Sp P md ops Q S r ⟨T', D⟩ w) : Sp P md ops Q S (.n i r) ⟨T, D⟩ w := by
  subst hT
  intro hS hs l hl
  simp only [planP, Bool.and_eq_true] at hl
  exact wpAnyH_take ho hs hl.1 hl.2.1 (fun _ _ _ h => h.elim) (.inr ⟨no_u hj hd, rfl⟩) hS (h hS hs _ hl.2.2)
theorem sp_g (T' : Array Value) (v : Value) (ho : ops[i]? = some ⟨some d, op, ty, pos, af, some (j, g)⟩) (hj : ops[j]? = some ⟨some dj, op', ty', pos', af', gu'⟩) (hd : T[dj]? = some (.bool g)) (hv : ∀ W, S W → (execOp (Act.eval ⟨T, D⟩) ⟨some d, op, ty, pos, af, some (j, g)⟩).run P W = .ok (.value v) W) (hT : T.setIfInBounds d v = T') (h : Sp P md ops Q S r ⟨T', D⟩ w) : Sp P md ops Q S (.n i r) ⟨T, D⟩ w := by
  subst hT
  intro hS hs l hl
  simp only [planP, Bool.and_eq_true] at hl
  exact wpAnyH_take ho hs hl.1 hl.2.1 (fun _ _ _ h => h.elim) (.inl ⟨yes_g hj hd, hv⟩) hS (h hS hs _ hl.2.2)
end
end Go.Proofs.Ytcdpmmpdfdillaa.Q

namespace Go.Proofs.Ytcdpmmpdfdillaa.Q
open Go.RowKit Go.Proofs.YtcdpmmpdfdillaaW.PrintWords Go.Proofs.YtcdpmmpdfdillaaW.PrintLast
set_option linter.unusedVariables false
set_option linter.unusedSimpArgs false
/-- By way of a place below K. -/
def thK (f g : Nat → Nat → Bool) : Nat → Nat → Nat → Bool
  | 0, _, _ => false
  | k + 1, a, b => thK f g k a b || (decide (a ≤ k ∧ k ≤ b) && (f a k && g k b))
theorem thK_low {f g : Nat → Nat → Bool} {a b : Nat} : ∀ {k : Nat}, k ≤ a → thK f g k a b = false
  | 0, _ => rfl
  | k + 1, h => by unfold thK; rw [thK_low (by omega), decide_eq_false (by omega)]; rfl
theorem thK_is {f g : Nat → Nat → Bool} {a b : Nat} : ∀ {k : Nat}, thK f g k a b = true ↔ ∃ q, q < k ∧ a ≤ q ∧ q ≤ b ∧ f a q = true ∧ g q b = true
  | 0 => by simp [thK]
  | k + 1 => by
    unfold thK
    rw [Bool.or_eq_true, thK_is]
    simp only [Bool.and_eq_true, decide_eq_true_eq]
    constructor
    · rintro (⟨q, h1, h2⟩ | ⟨⟨h1, h2⟩, h3, h4⟩)
      · exact ⟨q, by omega, h2⟩
      · exact ⟨k, by omega, h1, h2, h3, h4⟩
    · rintro ⟨q, h1, h2, h3, h4, h5⟩
      by_cases hq : q = k
      · subst hq; exact .inr ⟨⟨h2, h3⟩, h4, h5⟩
      · exact .inl ⟨q, by omega, h2, h3, h4, h5⟩
/-- What is written so far. -/
def thU (f g : Nat → Nat → Bool) (N i k j a b : Nat) : Bool := if a < i then thK f g N a b else if a = i then (if b < j then thK f g (k + 1) a b else thK f g k a b) else false
theorem thU_zero (f g : Nat → Nat → Bool) (N : Nat) : tab N (fun _ _ => false) = tab N (thU f g N 0 0 0) := tab_congr fun a b _ _ => by
  unfold thU
  rw [if_neg (by omega)]
  by_cases h : a = 0
  · rw [if_pos h, if_neg (by omega), thK_low (by omega)]
  · rw [if_neg h]
theorem thU_in (f g : Nat → Nat → Bool) (N i k : Nat) : tab N (thU f g N i k 0) = tab N (thU f g N i k k) := tab_congr fun a b _ _ => by
  unfold thU
  by_cases h1 : a < i
  · rw [if_pos h1, if_pos h1]
  · rw [if_neg h1, if_neg h1]
    by_cases h : a = i
    · rw [if_pos h, if_pos h, if_neg (by omega)]
      by_cases hb : b < k
      · rw [if_pos hb]; unfold thK; rw [decide_eq_false (by omega), Bool.false_and, Bool.or_false]; cases k <;> rfl
      · rw [if_neg hb]
    · rw [if_neg h, if_neg h]
theorem thU_skip {f g : Nat → Nat → Bool} {N i k : Nat} (h : f i k = false) : tab N (thU f g N i k 0) = tab N (thU f g N i (k + 1) 0) := tab_congr fun a b _ _ => by
  unfold thU
  by_cases h1 : a < i
  · rw [if_pos h1, if_pos h1]
  · rw [if_neg h1, if_neg h1]
    by_cases h2 : a = i
    · rw [if_pos h2, if_pos h2, if_neg (by omega), if_neg (by omega), h2]
      show _ = (thK f g k i b || _)
      rw [h, Bool.false_and, Bool.and_false, Bool.or_false]
    · rw [if_neg h2, if_neg h2]
theorem thU_out (f g : Nat → Nat → Bool) (N i k : Nat) : tab N (thU f g N i k N) = tab N (thU f g N i (k + 1) 0) := tab_congr fun a b _ hb => by
  unfold thU
  by_cases h1 : a < i
  · rw [if_pos h1, if_pos h1]
  · rw [if_neg h1, if_neg h1]
    by_cases h2 : a = i
    · rw [if_pos h2, if_pos h2, if_pos hb, if_neg (by omega)]
    · rw [if_neg h2, if_neg h2]
theorem thU_row (f g : Nat → Nat → Bool) (N i : Nat) : tab N (thU f g N i N 0) = tab N (thU f g N (i + 1) (i + 1) 0) := tab_congr fun a b _ _ => by
  unfold thU
  by_cases h1 : a < i
  · rw [if_pos h1, if_pos (by omega)]
  · rw [if_neg h1]
    by_cases h2 : a = i
    · rw [if_pos h2, if_neg (by omega), if_pos (by omega)]
    · rw [if_neg h2, if_neg (by omega)]
      by_cases h3 : a = i + 1
      · rw [if_pos h3, if_neg (by omega), thK_low (by omega)]
      · rw [if_neg h3]
theorem thU_end (f g : Nat → Nat → Bool) (N k j : Nat) : tab N (thU f g N N k j) = tab N (thK f g N) := tab_congr fun a b ha _ => if_pos ha
theorem thU_put {f g : Nat → Nat → Bool} {N i k j : Nat} (hij : i ≤ k) (hkj : k ≤ j) (hf : f i k = true) (a b : Nat) : (if a = i ∧ b = j then (thU f g N i k j i j || g k j) else thU f g N i k j a b) = thU f g N i k (j + 1) a b := by
  unfold thU
  by_cases h : a = i ∧ b = j
  · obtain ⟨rfl, rfl⟩ := h
    rw [if_pos ⟨rfl, rfl⟩, if_neg (by omega), if_pos rfl, if_neg (by omega), if_neg (by omega), if_pos rfl, if_pos (by omega)]
    show _ = (thK f g k a b || _)
    rw [hf, decide_eq_true ⟨hij, hkj⟩, Bool.true_and, Bool.true_and]
  · rw [if_neg h]
    by_cases h1 : a < i
    · rw [if_pos h1, if_pos h1]
    · rw [if_neg h1, if_neg h1]
      by_cases h2 : a = i
      · rw [if_pos h2, if_pos h2]
        by_cases hb : b < j
        · rw [if_pos hb, if_pos (by omega)]
        · rw [if_neg hb, if_neg (by omega)]
      · rw [if_neg h2, if_neg h2]
set_option maxHeartbeats 4000000 in
set_option maxRecDepth 100000 in
theorem then_call (A0 A1 : Option Addr) (c0 c1 n : Nat) (f g : Nat → Nat → Bool) (w : World) (h0 : MC w A0 (n + 1) f) (h1 : MC w A1 (n + 1) g) (hn : n ≤ 1000) :
    Calls Try.prog 43 #[.slice A0 (n + 1) c0, .slice A1 (n + 1) c1] w fun e w' => ∃ v, e = .returned v ∧ MS w' w.heap.size v (n + 1) (thK f g (n + 1)) ∧ Below w.heap.size w w' := by
  obtain ⟨N, hN⟩ : ∃ N, N = n + 1 := ⟨_, rfl⟩
  rw [← hN] at h0 h1 ⊢
  obtain ⟨a0, rfl⟩ := mat_ad h0 (by omega)
  obtain ⟨a1, rfl⟩ := mat_ad h1 (by omega)
  have hw : IntKind.i64.wrap ((N : Int) - 1) = (n : Int) := by rw [IntKind.wrap_i64]; omega
  have H0 := Aside0.mk (And.intro h0 h1)
  have HN := Aside0.mk (And.intro hN hn)
  clear h0 h1 hN hn
  go_enter Try.func43, Try.ntmps43
  go_wp2_with fail
  refine (none_call n HN.out.2 w).mono ?_
  rintro ex W1 ⟨v1, rfl, hS, hb⟩
  rw [← HN.out.1] at hS
  obtain ⟨m, c, rfl, hm, -⟩ := mat_form hS (by have := HN.out; omega)
  have hS := ms_of hS (thU_zero f g N)
  have HS := Aside0.mk hS
  have HB := Aside0.mk hb
  clear hS hb hw
  go_wp2_with fail
  go_loopw [6] (fun v6 W => ∃ i : Nat, i ≤ N ∧ v6 = .int .i64 i ∧ Aside0 (MS W w.heap.size (.slice (some ⟨m, 0, none⟩) N c) N (thU f g N i i 0)) ∧ Aside0 (Below w.heap.size w W)) (fun v6 _ => N - (intOf v6).toNat)
  case atStart => exact ⟨0, by omega, rfl, HS, HB⟩
  case round =>
    clear HS HB
    obtain ⟨i, hi, rfl, HS, HB⟩ := hrel
    by_cases hlt : i < N
    · have dl : decide ((i : Int) < (N : Int)) = true := decide_eq_true (by omega)
      have hwi : IntKind.i64.wrap ((i : Int) + 1) = ((i + 1 : Nat) : Int) := by have := HN.out; rw [IntKind.wrap_i64]; omega
      go_wp2_with fail
      go_loopw [7] (fun v7 W => ∃ k : Nat, i ≤ k ∧ k ≤ N ∧ v7 = .int .i64 k ∧ Aside0 (MS W w.heap.size (.slice (some ⟨m, 0, none⟩) N c) N (thU f g N i k 0)) ∧ Aside0 (Below w.heap.size w W)) (fun v7 _ => N - (intOf v7).toNat)
      case atStart => exact ⟨i, by omega, by omega, rfl, HS, HB⟩
      case round =>
        clear HS HB
        obtain ⟨k, hik, hk, rfl, HS, HB⟩ := hrel
        by_cases hlt2 : k < N
        · have dl2 : decide ((k : Int) < (N : Int)) = true := decide_eq_true (by omega)
          have hwk : IntKind.i64.wrap ((k : Int) + 1) = ((k + 1 : Nat) : Int) := by have := HN.out; rw [IntKind.wrap_i64]; omega
          have kB : K0 (Below w.heap.size w wr) := ⟨HB.out⟩
          obtain ⟨b0, k0, x0, x1⟩ := mat_get H0.out.1 hlt hlt2
          have x0 := clk x0
          have x1 := clk x1
          have i1 : ((i : Int) < (N : Int)) = True := eq_true (by omega)
          have i2 : ((0 : Int) ≤ (i : Int)) = True := eq_true (by omega)
          have i3 : ((k : Int) < (N : Int)) = True := eq_true (by omega)
          have i4 : ((0 : Int) ≤ (k : Int)) = True := eq_true (by omega)
          obtain ⟨u, hu⟩ : ∃ u, f i k = u := ⟨_, rfl⟩
          rw [hu] at x1
          have HU := Aside0.mk hu
          clear hu
          cases u
          · go_wp2_with fail
            go_roundw
            case measure => simp only [intOf]; omega
            case rel => exact ⟨k + 1, by omega, by omega, by rw [Int.natCast_add]; rfl, ⟨ms_of HS.out (thU_skip HU.out)⟩, HB⟩
          · go_wp2_with fail
            clear x0 x1 kB
            go_loopw [8] (fun v8 W => ∃ j : Nat, k ≤ j ∧ j ≤ N ∧ v8 = .int .i64 j ∧ Aside0 (MS W w.heap.size (.slice (some ⟨m, 0, none⟩) N c) N (thU f g N i k j)) ∧ Aside0 (Below w.heap.size w W)) (fun v8 _ => N - (intOf v8).toNat)
            case atStart => exact ⟨k, by omega, by omega, rfl, ⟨ms_of HS.out (thU_in f g N i k)⟩, HB⟩
            case round =>
              clear HS HB
              obtain ⟨j, hkj, hj, rfl, HS, HB⟩ := hrel
              by_cases hlt3 : j < N
              · have dl3 : decide ((j : Int) < (N : Int)) = true := decide_eq_true (by omega)
                have hwj : IntKind.i64.wrap ((j : Int) + 1) = ((j + 1 : Nat) : Int) := by have := HN.out; rw [IntKind.wrap_i64]; omega
                go_upto_region 12 with (fail)
                obtain ⟨r, cr, hrg, hBr, hx, hy, hf, -, hput⟩ := mat_put (W := wr.drew) (Kd.S_drew HS.out) hlt hlt3
                obtain ⟨b1, k1, y0, y1⟩ := mat_get H0.out.2 hlt2 hlt3
                have kS : K0 (SMt w m i (.slice (some ⟨r, 0, none⟩) N cr) wr.drew) := ⟨below_drew1 HB.out, hx⟩
                have z0 : ∀ W [K0 (SMt w m i (.slice (some ⟨r, 0, none⟩) N cr) W)], W.cell? ⟨m, i, none⟩ = some (.slice (some ⟨r, 0, none⟩) N cr) := fun W k => k.out.2
                have z3 : ∀ W [K0 (SMt w m i (.slice (some ⟨r, 0, none⟩) N cr) W)], W.cell? (a1.add k) = some (.slice (some b1) N k1) := fun W k => (k.out.1.cell (World.block_lt_of_cell? w _ y0)).trans y0
                have z4 : ∀ W [K0 (SMt w m i (.slice (some ⟨r, 0, none⟩) N cr) W)], W.cell? (b1.add j) = some (.bool (g k j)) := fun W k => (k.out.1.cell (World.block_lt_of_cell? w _ y1)).trans y1
                have HP := Aside0.mk (fun x => And.intro (hput x) (kS.out.set (j := j) hBr hrg (.bool x)))
                have i5 : ((j : Int) < (N : Int)) = True := eq_true (by omega)
                have i6 : ((0 : Int) ≤ (j : Int)) = True := eq_true (by omega)
                obtain ⟨u, hu⟩ : ∃ u, thU f g N i k j i j = u := ⟨_, rfl⟩
                obtain ⟨t, ht⟩ : ∃ t, g k j = t := ⟨_, rfl⟩
                rw [hu] at hy
                rw [ht] at z4
                have HE := Aside0.mk (And.intro hu ht)
                clear y0 y1 hput hx hu ht
                cases u
                all_goals
                  refine sp_region (S := fun W' => K0 (SMt w m i (.slice (some ⟨r, 0, none⟩) N cr) W')) (.n 0 (.n 1 (.n 2 (.n 3 (.n 4 (.n 5 (.n 6 (.n 7 (.n 8 (.n 9 (.n 10 (.y 11 (.n 12 (.n 13 (.n 14 (.n 15 (.n 16 (.n 17 (.n 18 (.n 19 (.n 20 (.n 21 (.y 22 .done))))))))))))))))))))))) (by kernel_rfl) (by kernel_rfl) kS (fun hS => ?_)
                  repeat (refine sp_n ?_ ?_ rfl ?_ ?_ ?_; rotate_left 2; (intro W hW; go_simp; first | done | with_reducible rfl); (simp only [List.setIfInBounds_toArray, List.set_cons_zero, List.set_cons_succ]; try rfl))
                  refine sp_1n rfl ?_
                  intro hS K hK
                  go_wp2_with fail
                  refine hK.out _ _ kS (fun hS => ?_)
                  clear hK hS
                  repeat (first | (refine sp_n ?_ ?_ rfl ?_ ?_ ?_; rotate_left 2; (intro W hW; go_simp; first | done | with_reducible rfl); (simp only [List.setIfInBounds_toArray, List.set_cons_zero, List.set_cons_succ]; try rfl)) | (refine sp_g ?_ ?_ rfl rfl rfl ?_ ?_ ?_; rotate_left 2; (intro W hW; go_simp; first | done | with_reducible rfl); (simp only [List.setIfInBounds_toArray, List.set_cons_zero, List.set_cons_succ]; try rfl)) | (refine sp_f ?_ rfl rfl rfl ?_ ?_; rotate_left; (simp only [List.setIfInBounds_toArray, List.set_cons_zero, List.set_cons_succ]; try rfl)) | (refine sp_u ?_ rfl rfl rfl ?_ ?_; rotate_left; (simp only [List.setIfInBounds_toArray, List.set_cons_zero, List.set_cons_succ]; try rfl)))
                  refine sp_1n rfl ?_
                  intro hS K hK
                  go_wp2_with fail
                  refine hK.out _ _ ⟨(HP.out _).2⟩ (fun hS => ?_)
                  refine sp_done (fun hS => ?_)
                  clear hK hS hy hf kS
                  go_wp2_with fail
                  go_roundw
                  case measure => simp only [intOf]; omega
                  case rel => exact ⟨j + 1, by omega, by omega, by rw [Int.natCast_add]; rfl, ⟨ms_of (HP.out _).1 (tab_congr fun a b _ _ => by have e := thU_put (g := g) (N := N) hik hkj HU.out a b; rw [HE.out.1, HE.out.2] at e; simp only [Bool.true_or, Bool.false_or] at e; exact e)⟩, ⟨(HP.out _).2.1⟩⟩
              · obtain rfl : j = N := by omega
                have dl3 : decide ((j : Int) < (j : Int)) = false := decide_eq_false (by omega)
                go_wp2_with fail
                go_roundw
                case measure => simp only [intOf]; omega
                case rel => exact ⟨k + 1, by omega, by omega, by rw [Int.natCast_add]; rfl, ⟨ms_of HS.out (thU_out f g _ i k)⟩, HB⟩
        · obtain rfl : k = N := by omega
          have dl2 : decide ((k : Int) < (k : Int)) = false := decide_eq_false (by omega)
          go_wp2_with fail
          go_roundw
          case measure => simp only [intOf]; omega
          case rel => exact ⟨i + 1, by omega, by rw [Int.natCast_add]; rfl, ⟨ms_of HS.out (thU_row f g _ i)⟩, HB⟩
    · obtain rfl : i = N := by omega
      have dl : decide ((i : Int) < (i : Int)) = false := decide_eq_false (by omega)
      go_wp2_with fail
      go_ret
      exact ⟨_, rfl, ms_of HS.out (thU_end f g _ _ _), HB.out⟩
end Go.Proofs.Ytcdpmmpdfdillaa.Q

namespace Go.Proofs.Ytcdpmmpdfdillaa.Q
open Go.RowKit Go.Proofs.YtcdpmmpdfdillaaW.PrintWords Go.Proofs.YtcdpmmpdfdillaaW.PrintLast
set_option linter.unusedVariables false
set_option linter.unusedSimpArgs false
/-- After k rounds. -/
def plK (f : Nat → Nat → Bool) : Nat → Nat → Nat → Bool
  | 0, a, b => f a b
  | k + 1, a, b => decide (a ≤ b) && (plK f k a b || (decide (a ≤ k) && (decide (k ≤ b) && (plK f k a k && plK f k k b))))
set_option maxHeartbeats 8000000 in
set_option maxRecDepth 100000 in
theorem plus_call (A0 : Option Addr) (c0 n : Nat) (f : Nat → Nat → Bool) (w : World) (h0 : MC w A0 (n + 1) f) (hn : n ≤ 1000) :
    Calls Try.prog 42 #[.slice A0 (n + 1) c0] w fun e w' => ∃ v, e = .returned v ∧ MS w' w.heap.size v (n + 1) (plK f (n + 1)) ∧ Below w.heap.size w w' := by
  obtain ⟨N, hN⟩ : ∃ N, N = n + 1 := ⟨_, rfl⟩
  rw [← hN] at h0 ⊢
  obtain ⟨a0, rfl⟩ := mat_ad h0 (by omega)
  have hw : IntKind.i64.wrap ((N : Int) - 1) = (n : Int) := by rw [IntKind.wrap_i64]; omega
  have H0 := Aside0.mk h0
  have HN := Aside0.mk (And.intro hN hn)
  clear h0 hN hn
  go_enter Try.func42, Try.ntmps42
  go_wp2_with fail
  go_loopw [3, 4] (fun v3 v4 W => ∃ (k : Nat) (a : Addr) (c : Nat), k ≤ N ∧ v4 = .int .i64 k ∧ v3 = .slice (some a) N c ∧ Aside0 (MC W (some a) N (plK f k)) ∧ Aside0 (k = 0 ∨ MS W w.heap.size (.slice (some a) N c) N (plK f k)) ∧ Aside0 (Below w.heap.size w W)) (fun _ v4 _ => N - (intOf v4).toNat)
  case atStart => exact ⟨0, a0, c0, by omega, rfl, rfl, H0, ⟨.inl rfl⟩, ⟨Below.refl _ _⟩⟩
  case round =>
    obtain ⟨k, a, c, hk, rfl, rfl, HC, HK, HW⟩ := hrel
    obtain ⟨wk, hwk⟩ : ∃ wk, wk = wr := ⟨_, rfl⟩
    subst hwk
    by_cases hltk : k < N
    · have dk : decide ((k : Int) < (N : Int)) = true := decide_eq_true (by omega)
      have hwk : IntKind.i64.wrap ((k : Int) + 1) = ((k + 1 : Nat) : Int) := by have := HN.out; rw [IntKind.wrap_i64]; omega
      have hz : ∀ a b, b < a → plK f (k + 1) a b = false := fun a b h => by unfold plK; rw [decide_eq_false (by omega)]; rfl
      have hg : ∀ a b, a ≤ b → plK f (k + 1) a b = (plK f k a b || (decide (a ≤ k) && (decide (k ≤ b) && (plK f k a k && plK f k k b)))) := fun a b h => by rw [plK, decide_eq_true h, Bool.true_and]
      have HZ := Aside0.mk hz
      have HG := Aside0.mk hg
      clear hz hg HK
      go_wp2_with fail
      refine (none_call n HN.out.2 wk).mono ?_
      rintro ex W1 ⟨v1, rfl, hS, hb⟩
      rw [← HN.out.1] at hS
      obtain ⟨m, cm, rfl, hm, -⟩ := mat_form hS (by have := HN.out; omega)
      have hS := ms_of hS (upTo_zero N (plK f (k + 1))).symm
      have HS := Aside0.mk hS
      have HB := Aside0.mk hb
      clear hS hb
      go_wp2_with fail
      go_loopw [6] (fun v6 W => ∃ i : Nat, i ≤ N ∧ v6 = .int .i64 i ∧ Aside0 (MS W wk.heap.size (.slice (some ⟨m, 0, none⟩) N cm) N (upTo i i (plK f (k + 1)))) ∧ Aside0 (Below wk.heap.size wk W)) (fun v6 _ => N - (intOf v6).toNat)
      case atStart => exact ⟨0, by omega, rfl, HS, HB⟩
      case round =>
        clear HS HB
        obtain ⟨i, hi, rfl, HS, HB⟩ := hrel
        by_cases hlt : i < N
        · have dl : decide ((i : Int) < (N : Int)) = true := decide_eq_true (by omega)
          have hwi : IntKind.i64.wrap ((i : Int) + 1) = ((i + 1 : Nat) : Int) := by have := HN.out; rw [IntKind.wrap_i64]; omega
          go_wp2_with fail
          go_loopw [7] (fun v7 W => ∃ j : Nat, i ≤ j ∧ j ≤ N ∧ v7 = .int .i64 j ∧ Aside0 (MS W wk.heap.size (.slice (some ⟨m, 0, none⟩) N cm) N (upTo i j (plK f (k + 1)))) ∧ Aside0 (Below wk.heap.size wk W)) (fun v7 _ => N - (intOf v7).toNat)
          case atStart => exact ⟨i, by omega, by omega, rfl, HS, HB⟩
          case round =>
            clear HS HB
            obtain ⟨j, hij, hj, rfl, HS, HB⟩ := hrel
            by_cases hlt2 : j < N
            · have dl2 : decide ((j : Int) < (N : Int)) = true := decide_eq_true (by omega)
              have hwj : IntKind.i64.wrap ((j : Int) + 1) = ((j + 1 : Nat) : Int) := by have := HN.out; rw [IntKind.wrap_i64]; omega
              go_upto_region 12 with (fail)
              obtain ⟨r, cr, hrg, hBr, hx, hy, hf, -, hput⟩ := mat_put (W := wr.drew) (Kd.S_drew HS.out) hlt hlt2
              obtain ⟨b0, k0, x0, x1⟩ := mat_get HC.out hlt hlt2
              obtain ⟨b1, k1, y0, y1⟩ := mat_get HC.out hlt hltk
              obtain ⟨b2, k2, t0, t1⟩ := mat_get HC.out hltk hlt2
              have kS : K0 (SMt wk m i (.slice (some ⟨r, 0, none⟩) N cr) wr.drew) := ⟨below_drew1 HB.out, hx⟩
              have e01 : b0 = b1 := by rw [x0] at y0; injection y0 with y0; injection y0 with e1 e2 e3; injection e1
              subst e01
              have z0 : ∀ W [K0 (SMt wk m i (.slice (some ⟨r, 0, none⟩) N cr) W)], W.cell? ⟨m, i, none⟩ = some (.slice (some ⟨r, 0, none⟩) N cr) := fun W k => k.out.2
              have z1 : ∀ W [K0 (SMt wk m i (.slice (some ⟨r, 0, none⟩) N cr) W)], W.cell? (a.add i) = some (.slice (some b0) N k0) := fun W k => (k.out.1.cell (World.block_lt_of_cell? wk _ x0)).trans x0
              have z2 : ∀ W [K0 (SMt wk m i (.slice (some ⟨r, 0, none⟩) N cr) W)], W.cell? (b0.add j) = some (.bool (plK f k i j)) := fun W k => (k.out.1.cell (World.block_lt_of_cell? wk _ x1)).trans x1
              have z3 : ∀ W [K0 (SMt wk m i (.slice (some ⟨r, 0, none⟩) N cr) W)], W.cell? (b0.add k) = some (.bool (plK f k i k)) := fun W k => (k.out.1.cell (World.block_lt_of_cell? wk _ y1)).trans y1
              have z4 : ∀ W [K0 (SMt wk m i (.slice (some ⟨r, 0, none⟩) N cr) W)], W.cell? (a.add k) = some (.slice (some b2) N k2) := fun W k => (k.out.1.cell (World.block_lt_of_cell? wk _ t0)).trans t0
              have z5 : ∀ W [K0 (SMt wk m i (.slice (some ⟨r, 0, none⟩) N cr) W)], W.cell? (b2.add j) = some (.bool (plK f k k j)) := fun W k => (k.out.1.cell (World.block_lt_of_cell? wk _ t1)).trans t1
              have HP := Aside0.mk (fun x => And.intro (hput x) (kS.out.set (j := j) hBr hrg (.bool x)))
              have he := HG.out i j hij
              have i1 : ((i : Int) < (N : Int)) = True := eq_true (by omega)
              have i2 : ((0 : Int) ≤ (i : Int)) = True := eq_true (by omega)
              have i3 : ((j : Int) < (N : Int)) = True := eq_true (by omega)
              have i4 : ((0 : Int) ≤ (j : Int)) = True := eq_true (by omega)
              have i5 : ((k : Int) < (N : Int)) = True := eq_true (by omega)
              have i6 : ((0 : Int) ≤ (k : Int)) = True := eq_true (by omega)
              clear x0 x1 y0 y1 t0 t1 hput hx
              have j1 : decide ((i : Int) ≤ (k : Int)) = decide (i ≤ k) := decide_eq_decide.2 (by omega)
              have j2 : decide ((k : Int) ≤ (j : Int)) = decide (k ≤ j) := decide_eq_decide.2 (by omega)
              generalize plK f k i j = u1 at *
              generalize plK f k i k = u2 at *
              generalize plK f k k j = u3 at *
              obtain ⟨p1, q1⟩ : ∃ p1, decide (i ≤ k) = p1 := ⟨_, rfl⟩
              obtain ⟨p2, q2⟩ : ∃ p2, decide (k ≤ j) = p2 := ⟨_, rfl⟩
              rw [q1] at j1 he
              rw [q2] at j2 he
              have HE := Aside0.mk he
              clear he
              have fin : ∀ x, x = plK f (k + 1) i j → MS (wr.drew.setCell ⟨r, j, none⟩ (.bool x)) wk.heap.size (.slice (some ⟨m, 0, none⟩) N cm) N (upTo i (j + 1) (plK f (k + 1))) := fun x e => ms_of (HP.out x).1 (tab_congr fun a b _ _ => by rw [e]; exact upTo_put (N := N) a b)
              have HF := Aside0.mk fin
              clear fin
              have cs : u1 = true ∨ (u1 = false ∧ p1 = false) ∨ (u1 = false ∧ p1 = true ∧ p2 = false) ∨ (u1 = false ∧ p1 = true ∧ p2 = true ∧ u2 = false) ∨ (u1 = false ∧ p1 = true ∧ p2 = true ∧ u2 = true) := by
                cases u1 <;> cases p1 <;> cases p2 <;> cases u2 <;> simp
              rcases cs with rfl | ⟨rfl, rfl⟩ | ⟨rfl, rfl, rfl⟩ | ⟨rfl, rfl, rfl, rfl⟩ | ⟨rfl, rfl, rfl, rfl⟩
              all_goals
                refine sq_region (S := fun W' => K0 (SMt wk m i (.slice (some ⟨r, 0, none⟩) N cr) W')) [(0, false), (1, false), (2, false), (3, false), (4, false), (5, false), (6, false), (7, false), (8, false), (9, false), (10, false), (11, false), (12, false), (13, false), (14, false), (15, false), (16, false), (17, false), (18, false), (19, false), (20, false), (21, false), (22, false), (23, false), (24, false), (25, false), (26, false), (27, false), (28, false), (29, false), (30, false), (31, false), (32, false), (33, false), (34, false), (35, false), (36, false), (37, false), (38, false), (39, false), (40, false), (41, true)] (by kernel_rfl) (by kernel_rfl) kS (fun hS => ?_)
                repeat (first | (refine sq_n ?_ ?_ rfl ?_ ?_ ?_; rotate_left 2; (intro W hW; go_simp; first | done | with_reducible rfl); (simp only [List.setIfInBounds_toArray, List.set_cons_zero, List.set_cons_succ]; try rfl)) | (refine sq_g ?_ ?_ rfl rfl rfl ?_ ?_ ?_; rotate_left 2; (intro W hW; go_simp; first | done | with_reducible rfl); (simp only [List.setIfInBounds_toArray, List.set_cons_zero, List.set_cons_succ]; try rfl)) | (refine sq_f ?_ rfl rfl rfl ?_ ?_; rotate_left; (simp only [List.setIfInBounds_toArray, List.set_cons_zero, List.set_cons_succ]; try rfl)) | (refine sq_u ?_ rfl rfl rfl ?_ ?_; rotate_left; (simp only [List.setIfInBounds_toArray, List.set_cons_zero, List.set_cons_succ]; try rfl)))
                refine sq_1n rfl (fun hS K hK => ?_)
                go_wp2_with fail
                refine hK.out _ _ ⟨(HP.out _).2⟩ (fun hS => ?_)
                refine sq_done (fun hS => ?_)
                clear hK hS hy hf kS
                go_wp2_with fail
                go_roundw
                case measure => simp only [intOf]; omega
                case rel => exact ⟨j + 1, by omega, by omega, by rw [Int.natCast_add]; rfl, ⟨HF.out _ (by rw [HE.out]; first | rfl | (simp; done))⟩, ⟨(HP.out _).2.1⟩⟩
            · obtain rfl : j = N := by omega
              have dl2 : decide ((j : Int) < (j : Int)) = false := decide_eq_false (by omega)
              go_wp2_with fail
              go_roundw
              case measure => simp only [intOf]; omega
              case rel => exact ⟨i + 1, by omega, by rw [Int.natCast_add]; rfl, ⟨ms_of HS.out (upTo_row (Nat.le_refl _) HZ.out)⟩, HB⟩
        · obtain rfl : i = N := by omega
          have dl : decide ((i : Int) < (i : Int)) = false := decide_eq_false (by omega)
          have hM := ms_of HS.out (upTo_all (Nat.le_refl _))
          have HM := Aside0.mk hM
          clear hM
          go_wp2_with fail
          go_roundw
          case measure => simp only [intOf]; omega
          case rel => exact ⟨k + 1, _, _, by omega, by rw [Int.natCast_add]; rfl, rfl, ⟨(mat_C HM.out).1⟩, ⟨.inr (Kd.S_lower HM.out HW.out.size)⟩, ⟨HW.out.trans (HB.out.mono HW.out.size)⟩⟩
    · obtain rfl : k = N := by omega
      have dk : decide ((k : Int) < (k : Int)) = false := decide_eq_false (by omega)
      have hM := HK.out.resolve_left (by have := HN.out; omega)
      have HM := Aside0.mk hM
      clear hM HK
      go_wp2_with fail
      go_ret
      exact ⟨_, rfl, HM.out, HW.out⟩
end Go.Proofs.Ytcdpmmpdfdillaa.Q

namespace Go.Proofs.Ytcdpmmpdfdillaa.Q
open Go.RowKit Go.Proofs.YtcdpmmpdfdillaaW.PrintWords Go.Proofs.YtcdpmmpdfdillaaW.PrintLast Go.Proofs.YtcdpmmpdfdillaaW.PrintMore
set_option linter.unusedVariables false
set_option linter.unusedSimpArgs false

/-! ### spec_l4Holds: function 47 -/
mutual
def spec_l4Holds.j0 : Nat → ByteArray → Int → Int → Bool → Option (Bool)
 | 0, _, _, _, _ => none
 | k + 1, x0, x1, x5, x6 => spec_l4Holds.l0 k x0 x1 x5 x6 false
def spec_l4Holds.l0 : Nat → ByteArray → Int → Int → Bool → Bool → Option (Bool)
 | 0, _, _, _, _, _ => none
 | k + 1, x0, x1, x5, x6, x7 => if 0 ≤ x5 then (if x5 < (x0.size : Int) then (if (bt x0 x5) = 93 then (some (x7 != x6)) else ((spec_l4Ch.f k x0 x5).bind fun bt165 => (if 0 ≤ bt165.2.1 then (if bt165.2.1 < (x0.size : Int) then (if (bt x0 bt165.2.1) = 45 then ((spec_l4Ch.f k x0 (wrap64 (bt165.2.1 + 1))).bind fun bt168 => (if x7 = true then (spec_l4Holds.l0 k x0 x1 bt168.2.1 x6 true) else (if bt165.1 ≤ x1 then (spec_l4Holds.l0 k x0 x1 bt168.2.1 x6 (decide (x1 ≤ bt168.1))) else (spec_l4Holds.l0 k x0 x1 bt168.2.1 x6 false)))) else (if x7 = true then (spec_l4Holds.l0 k x0 x1 bt165.2.1 x6 true) else (if bt165.1 ≤ x1 then (spec_l4Holds.l0 k x0 x1 bt165.2.1 x6 (decide (x1 ≤ bt165.1))) else (spec_l4Holds.l0 k x0 x1 bt165.2.1 x6 false)))) else (none)) else (none)))) else (none)) else (none)
end
def spec_l4Holds.f (k : Nat) (a0 : ByteArray) (a1 : Int) : Option (Bool) := if 1 < (a0.size : Int) then (if (bt a0 1) = 94 then (spec_l4Holds.j0 k a0 a1 2 true) else (spec_l4Holds.j0 k a0 a1 1 false)) else (none)
set_option maxHeartbeats 8000000 in
set_option maxRecDepth 100000 in
theorem spec_l4Holds.calls (k : Nat) (a0 : ByteArray) (a1 : Int) (r : Bool) (w : World) (h : spec_l4Holds.f k a0 a1 = some r) :
  Calls Try.prog 47 #[.string a0, .int .u8 a1] w fun e w' => e = .returned (.bool r) ∧ Drawn0 w w' := by
 have H : (if 1 < (a0.size : Int) then (if (bt a0 1) = 94 then (spec_l4Holds.j0 k a0 a1 2 true) else (spec_l4Holds.j0 k a0 a1 1 false)) else (none)) = some r := h
 clear h
 by_cases c3 : 1 < (a0.size : Int)
 ·rw [if_pos c3] at H
  have c3b0 : decide (1 < (a0.size : Int)) = true := decide_eq_true c3
  have c3b1 : decide (1 < a0.size) = true := decide_eq_true (by omega)
  clear c3
  have HC5 := Aside0.mk H
  clear H
  have p4 : 0 ≤ (1 : Int) := (by omega)
  have q4 : 1 < a0.size := (by have : (1 : Int) < (a0.size : Int) := of_decide_eq_true (by first | (with_reducible assumption) | assumption); omega)
  have hx4 : ∀ h : 1 < a0.size, ((a0[1]'h).toNat : Int) = bt a0 1 := bt_at a0 1
  clear p4
  have qi4 : (1 < (a0.size : Int)) = True := eq_true (of_decide_eq_true (by first | (with_reducible assumption) | assumption))
  replace q4 := eq_true q4
  go_enter Try.func47, Try.ntmps47
  go_upto_if 15 with (fail)
  go_cut [5, 6] (fun v5 v6 wc => ∃ (kq : Nat) (x5_4 : Int) (x6_4 : Bool), v5 = .int .i64 x5_4 ∧ v6 = .bool x6_4 ∧ Aside0 (spec_l4Holds.j0 kq a0 a1 x5_4 x6_4 = some r) ∧ Aside0 (kq ≤ k) ∧ Drawn0 w wc)
  case first =>
   have H := HC5.out
   clear HC5
   by_cases c6 : (bt a0 1) = 94
   ·rw [if_pos c6] at H
    have c6b0 : ((bt a0 1) == 94) = true := beq_iff_eq.mpr c6
    have c6b1 : ((bt a0 1) != 94) = false := bne_eq_false_iff_eq.mpr c6
    clear c6
    (first | rw [c6b0] | (simp only [i64_w, i32_w]; rw [c6b0]) | skip)
    have H' := Aside0.mk H
    clear H
    go_wp2
    go_meet
    case rel => exact ⟨_, (2), (true), (by first | rfl | (simp; done) | (simp [*]; done)), (by first | rfl | (simp; done) | (simp [*]; done)), H', ⟨by first | omega | exact Nat.le_refl _⟩, by repeat (first | exact Drawn0.refl _ | apply Drawn0.step)⟩
   ·rw [if_neg c6] at H
    have c6b0 : ((bt a0 1) == 94) = false := beq_eq_false_iff_ne.mpr c6
    have c6b1 : ((bt a0 1) != 94) = true := bne_iff_ne.mpr c6
    (first | rw [c6b0] | (simp only [i64_w, i32_w]; rw [c6b0]) | skip)
    have H' := Aside0.mk H
    clear H
    go_wp2
    go_meet
    case rel => exact ⟨_, (1), (false), (by first | rfl | (simp; done) | (simp [*]; done)), (by first | rfl | (simp; done) | (simp [*]; done)), H', ⟨by first | omega | exact Nat.le_refl _⟩, by repeat (first | exact Drawn0.refl _ | apply Drawn0.step)⟩
  case rest =>
   clear HC5
   try clear p2
   try clear c3
   try clear c3b0
   try clear c3b1
   try clear c4
   try clear p4
   try clear q4
   try clear hx4
   try clear qi4
   try clear c6
   try clear c6b0
   try clear c6b1
   try clear p4
   try clear q4
   obtain ⟨kq, x5_4, x6_4, rfl, rfl, HA, HJ4, ⟨mc4, rfl⟩⟩ := hcut
   cases kq with
   | zero => exact absurd HA.out (by simp [spec_l4Holds.j0])
   | succ kj4 =>
    have H := HA.out
    clear HA
    simp only [spec_l4Holds.j0] at H
    have H' := Aside0.mk H
    clear H
    go_wp2
    go_loopg [5, 7] kj4 (fun kq v5 v7 w' => ∃ (x5_2 : Int) (x7_2 : Bool), v5 = .int .i64 x5_2 ∧ v7 = .bool x7_2 ∧ Aside0 (spec_l4Holds.l0 kq a0 a1 x5_2 x6_4 x7_2 = some r) ∧ Aside0 (kq ≤ kj4) ∧ Drawn0 w w')
    case atStart => exact ⟨(x5_4), (false), (by first | rfl | (simp; done) | (simp [*]; done)), (by first | rfl | (simp; done) | (simp [*]; done)), H', ⟨Nat.le_refl _⟩, by repeat (first | exact Drawn0.refl _ | apply Drawn0.step)⟩
    case round =>
     clear H'
     try clear p2
     try clear c3
     try clear c3b0
     try clear c3b1
     try clear c4
     try clear p4
     try clear q4
     try clear hx4
     try clear qi4
     try clear c6
     try clear c6b0
     try clear c6b1
     try clear p2
     try clear p4
     try clear q4
     obtain ⟨x5_2, x7_2, rfl, rfl, HA, HK2, ⟨m2, rfl⟩⟩ := hrel
     cases gk with
     | zero => exact absurd HA.out (by simp [spec_l4Holds.l0])
     | succ k2 =>
      have H := HA.out
      clear HA
      simp only [spec_l4Holds.l0] at H
      by_cases c7 : 0 ≤ x5_2
      ·rw [if_pos c7] at H
       have c7b0 : decide (0 ≤ x5_2) = true := decide_eq_true c7
       clear c7
       by_cases c8 : x5_2 < (a0.size : Int)
       ·rw [if_pos c8] at H
        have c8b0 : decide (x5_2 < (a0.size : Int)) = true := decide_eq_true c8
        clear c8
        by_cases c10 : (bt a0 x5_2) = 93
        ·rw [if_pos c10] at H
         have c10b0 : ((bt a0 x5_2) == 93) = true := beq_iff_eq.mpr c10
         have c10b1 : ((bt a0 x5_2) != 93) = false := bne_eq_false_iff_eq.mpr c10
         clear c10
         obtain rfl := Option.some.inj H
         have p9 : 0 ≤ (x5_2 : Int) := of_decide_eq_true (by first | (with_reducible assumption) | assumption)
         have q9 : x5_2 < (a0.size : Int) := of_decide_eq_true (by first | (with_reducible assumption) | assumption)
         have hx9 := bt_at a0 x5_2
         replace p9 := eq_true p9
         replace q9 := eq_true q9
         go_wp2
         go_ret
         exact ⟨by first | rfl | (simp; done) | (simp [*]; done), by repeat (first | exact Drawn0.refl _ | apply Drawn0.step)⟩
        ·rw [if_neg c10] at H
         have c10b0 : ((bt a0 x5_2) == 93) = false := beq_eq_false_iff_ne.mpr c10
         have c10b1 : ((bt a0 x5_2) != 93) = true := bne_iff_ne.mpr c10
         replace H := Option.bind_eq_some_iff.mp H
         obtain ⟨⟨t165, t166, t167⟩, A110, H⟩ := H
         replace H : (if 0 ≤ t166 then (if t166 < (a0.size : Int) then (if (bt a0 t166) = 45 then ((spec_l4Ch.f k2 a0 (wrap64 (t166 + 1))).bind fun bt168 => (if x7_2 = true then (spec_l4Holds.l0 k2 a0 a1 bt168.2.1 x6_4 true) else (if t165 ≤ a1 then (spec_l4Holds.l0 k2 a0 a1 bt168.2.1 x6_4 (decide (a1 ≤ bt168.1))) else (spec_l4Holds.l0 k2 a0 a1 bt168.2.1 x6_4 false)))) else (if x7_2 = true then (spec_l4Holds.l0 k2 a0 a1 t166 x6_4 true) else (if t165 ≤ a1 then (spec_l4Holds.l0 k2 a0 a1 t166 x6_4 (decide (a1 ≤ t165))) else (spec_l4Holds.l0 k2 a0 a1 t166 x6_4 false)))) else (none)) else (none)) = some r := H
         have A11 := Aside0.mk A110
         clear A110
         by_cases c12 : 0 ≤ t166
         ·rw [if_pos c12] at H
          have c12b0 : decide (0 ≤ t166) = true := decide_eq_true c12
          clear c12
          by_cases c13 : t166 < (a0.size : Int)
          ·rw [if_pos c13] at H
           have c13b0 : decide (t166 < (a0.size : Int)) = true := decide_eq_true c13
           clear c13
           by_cases c15 : (bt a0 t166) = 45
           ·rw [if_pos c15] at H
            have c15b0 : ((bt a0 t166) == 45) = true := beq_iff_eq.mpr c15
            have c15b1 : ((bt a0 t166) != 45) = false := bne_eq_false_iff_eq.mpr c15
            clear c15
            replace H := Option.bind_eq_some_iff.mp H
            obtain ⟨⟨t168, t169, t170⟩, A160, H⟩ := H
            replace H : (if x7_2 = true then (spec_l4Holds.l0 k2 a0 a1 t169 x6_4 true) else (if t165 ≤ a1 then (spec_l4Holds.l0 k2 a0 a1 t169 x6_4 (decide (a1 ≤ t168))) else (spec_l4Holds.l0 k2 a0 a1 t169 x6_4 false))) = some r := H
            have A16 := Aside0.mk A160
            clear A160
            by_cases c17 : x7_2 = true
            ·subst c17
             have H1 : (spec_l4Holds.l0 k2 a0 a1 t169 x6_4 true) = some r := by rw [if_pos rfl] at H; exact H
             clear H
             have H := H1
             clear H1
             have H' := Aside0.mk H
             clear H
             have p9 : 0 ≤ (x5_2 : Int) := of_decide_eq_true (by first | (with_reducible assumption) | assumption)
             have q9 : x5_2 < (a0.size : Int) := of_decide_eq_true (by first | (with_reducible assumption) | assumption)
             have hx9 := bt_at a0 x5_2
             replace p9 := eq_true p9
             replace q9 := eq_true q9
             go_wp2_with (first | ((with_reducible refine at_fn (f := 39) rfl ?_); refine goesL_ (some 23) rfl rfl Try.func39 (by kernel_rfl) rfl #[.string a0, .int .i64 x5_2] rfl (by (try simp only [List.map_toArray, List.map_cons, List.map_nil]); first | done | rfl | (simp only [List.length_drop, List.length_take]; rfl)) ?_; (with_reducible refine (spec_l4Ch.calls k2 a0 x5_2 t165 t166 t167 _ A11.out).mono ?_); rintro e w' ⟨rfl, ⟨nd, rfl⟩⟩; refine ⟨_, rfl, ?_⟩; have p14 : 0 ≤ (t166 : Int) := of_decide_eq_true (by first | (with_reducible assumption) | assumption); have q14 : t166 < (a0.size : Int) := of_decide_eq_true (by first | (with_reducible assumption) | assumption); have hx14 := bt_at a0 t166; replace p14 := eq_true p14; replace q14 := eq_true q14) | ((with_reducible refine at_fn (f := 39) rfl ?_); refine goesL_ (some 36) rfl rfl Try.func39 (by kernel_rfl) rfl #[.string a0, .int .i64 (wrap64 (t166 + 1))] rfl (by (try simp only [List.map_toArray, List.map_cons, List.map_nil]); first | done | rfl | (simp only [List.length_drop, List.length_take]; rfl)) ?_; (with_reducible refine (spec_l4Ch.calls k2 a0 (wrap64 (t166 + 1)) t168 t169 t170 _ A16.out).mono ?_); rintro e w' ⟨rfl, ⟨nd, rfl⟩⟩; refine ⟨_, rfl, ?_⟩))
             go_roundg k2
             case measure => have := HJ4.out; have := HK2.out; omega
             case rel => exact ⟨(t169), (true), (by first | rfl | (simp; done) | (simp [*]; done)), (by first | rfl | (simp; done) | (simp [*]; done)), H', ⟨by have := HJ4.out; have := HK2.out; omega⟩, by repeat (first | exact Drawn0.refl _ | apply Drawn0.step)⟩
            ·replace c17 := Bool.eq_false_iff.mpr c17
             subst c17
             have H1 : (if t165 ≤ a1 then (spec_l4Holds.l0 k2 a0 a1 t169 x6_4 (decide (a1 ≤ t168))) else (spec_l4Holds.l0 k2 a0 a1 t169 x6_4 false)) = some r := by rw [if_neg (show ¬ (false = true) by decide)] at H; exact H
             clear H
             have H := H1
             clear H1
             by_cases c18 : t165 ≤ a1
             ·rw [if_pos c18] at H
              have c18b0 : decide (t165 ≤ a1) = true := decide_eq_true c18
              clear c18
              have H' := Aside0.mk H
              clear H
              have p9 : 0 ≤ (x5_2 : Int) := of_decide_eq_true (by first | (with_reducible assumption) | assumption)
              have q9 : x5_2 < (a0.size : Int) := of_decide_eq_true (by first | (with_reducible assumption) | assumption)
              have hx9 := bt_at a0 x5_2
              replace p9 := eq_true p9
              replace q9 := eq_true q9
              go_wp2_with (first | ((with_reducible refine at_fn (f := 39) rfl ?_); refine goesL_ (some 23) rfl rfl Try.func39 (by kernel_rfl) rfl #[.string a0, .int .i64 x5_2] rfl (by (try simp only [List.map_toArray, List.map_cons, List.map_nil]); first | done | rfl | (simp only [List.length_drop, List.length_take]; rfl)) ?_; (with_reducible refine (spec_l4Ch.calls k2 a0 x5_2 t165 t166 t167 _ A11.out).mono ?_); rintro e w' ⟨rfl, ⟨nd, rfl⟩⟩; refine ⟨_, rfl, ?_⟩; have p14 : 0 ≤ (t166 : Int) := of_decide_eq_true (by first | (with_reducible assumption) | assumption); have q14 : t166 < (a0.size : Int) := of_decide_eq_true (by first | (with_reducible assumption) | assumption); have hx14 := bt_at a0 t166; replace p14 := eq_true p14; replace q14 := eq_true q14) | ((with_reducible refine at_fn (f := 39) rfl ?_); refine goesL_ (some 36) rfl rfl Try.func39 (by kernel_rfl) rfl #[.string a0, .int .i64 (wrap64 (t166 + 1))] rfl (by (try simp only [List.map_toArray, List.map_cons, List.map_nil]); first | done | rfl | (simp only [List.length_drop, List.length_take]; rfl)) ?_; (with_reducible refine (spec_l4Ch.calls k2 a0 (wrap64 (t166 + 1)) t168 t169 t170 _ A16.out).mono ?_); rintro e w' ⟨rfl, ⟨nd, rfl⟩⟩; refine ⟨_, rfl, ?_⟩))
              go_roundg k2
              case measure => have := HJ4.out; have := HK2.out; omega
              case rel => exact ⟨(t169), (decide (a1 ≤ t168)), (by first | rfl | (simp; done) | (simp [*]; done)), (by first | rfl | (simp; done) | (simp [*]; done)), H', ⟨by have := HJ4.out; have := HK2.out; omega⟩, by repeat (first | exact Drawn0.refl _ | apply Drawn0.step)⟩
             ·rw [if_neg c18] at H
              have c18b0 : decide (t165 ≤ a1) = false := decide_eq_false c18
              clear c18
              have H' := Aside0.mk H
              clear H
              have p9 : 0 ≤ (x5_2 : Int) := of_decide_eq_true (by first | (with_reducible assumption) | assumption)
              have q9 : x5_2 < (a0.size : Int) := of_decide_eq_true (by first | (with_reducible assumption) | assumption)
              have hx9 := bt_at a0 x5_2
              replace p9 := eq_true p9
              replace q9 := eq_true q9
              go_wp2_with (first | ((with_reducible refine at_fn (f := 39) rfl ?_); refine goesL_ (some 23) rfl rfl Try.func39 (by kernel_rfl) rfl #[.string a0, .int .i64 x5_2] rfl (by (try simp only [List.map_toArray, List.map_cons, List.map_nil]); first | done | rfl | (simp only [List.length_drop, List.length_take]; rfl)) ?_; (with_reducible refine (spec_l4Ch.calls k2 a0 x5_2 t165 t166 t167 _ A11.out).mono ?_); rintro e w' ⟨rfl, ⟨nd, rfl⟩⟩; refine ⟨_, rfl, ?_⟩; have p14 : 0 ≤ (t166 : Int) := of_decide_eq_true (by first | (with_reducible assumption) | assumption); have q14 : t166 < (a0.size : Int) := of_decide_eq_true (by first | (with_reducible assumption) | assumption); have hx14 := bt_at a0 t166; replace p14 := eq_true p14; replace q14 := eq_true q14) | ((with_reducible refine at_fn (f := 39) rfl ?_); refine goesL_ (some 36) rfl rfl Try.func39 (by kernel_rfl) rfl #[.string a0, .int .i64 (wrap64 (t166 + 1))] rfl (by (try simp only [List.map_toArray, List.map_cons, List.map_nil]); first | done | rfl | (simp only [List.length_drop, List.length_take]; rfl)) ?_; (with_reducible refine (spec_l4Ch.calls k2 a0 (wrap64 (t166 + 1)) t168 t169 t170 _ A16.out).mono ?_); rintro e w' ⟨rfl, ⟨nd, rfl⟩⟩; refine ⟨_, rfl, ?_⟩))
              go_roundg k2
              case measure => have := HJ4.out; have := HK2.out; omega
              case rel => exact ⟨(t169), (false), (by first | rfl | (simp; done) | (simp [*]; done)), (by first | rfl | (simp; done) | (simp [*]; done)), H', ⟨by have := HJ4.out; have := HK2.out; omega⟩, by repeat (first | exact Drawn0.refl _ | apply Drawn0.step)⟩
           ·rw [if_neg c15] at H
            have c15b0 : ((bt a0 t166) == 45) = false := beq_eq_false_iff_ne.mpr c15
            have c15b1 : ((bt a0 t166) != 45) = true := bne_iff_ne.mpr c15
            by_cases c19 : x7_2 = true
            ·subst c19
             have H1 : (spec_l4Holds.l0 k2 a0 a1 t166 x6_4 true) = some r := by rw [if_pos rfl] at H; exact H
             clear H
             have H := H1
             clear H1
             have H' := Aside0.mk H
             clear H
             have p9 : 0 ≤ (x5_2 : Int) := of_decide_eq_true (by first | (with_reducible assumption) | assumption)
             have q9 : x5_2 < (a0.size : Int) := of_decide_eq_true (by first | (with_reducible assumption) | assumption)
             have hx9 := bt_at a0 x5_2
             replace p9 := eq_true p9
             replace q9 := eq_true q9
             go_wp2_with (first | ((with_reducible refine at_fn (f := 39) rfl ?_); refine goesL_ (some 23) rfl rfl Try.func39 (by kernel_rfl) rfl #[.string a0, .int .i64 x5_2] rfl (by (try simp only [List.map_toArray, List.map_cons, List.map_nil]); first | done | rfl | (simp only [List.length_drop, List.length_take]; rfl)) ?_; (with_reducible refine (spec_l4Ch.calls k2 a0 x5_2 t165 t166 t167 _ A11.out).mono ?_); rintro e w' ⟨rfl, ⟨nd, rfl⟩⟩; refine ⟨_, rfl, ?_⟩; have p14 : 0 ≤ (t166 : Int) := of_decide_eq_true (by first | (with_reducible assumption) | assumption); have q14 : t166 < (a0.size : Int) := of_decide_eq_true (by first | (with_reducible assumption) | assumption); have hx14 := bt_at a0 t166; replace p14 := eq_true p14; replace q14 := eq_true q14))
             go_roundg k2
             case measure => have := HJ4.out; have := HK2.out; omega
             case rel => exact ⟨(t166), (true), (by first | rfl | (simp; done) | (simp [*]; done)), (by first | rfl | (simp; done) | (simp [*]; done)), H', ⟨by have := HJ4.out; have := HK2.out; omega⟩, by repeat (first | exact Drawn0.refl _ | apply Drawn0.step)⟩
            ·replace c19 := Bool.eq_false_iff.mpr c19
             subst c19
             have H1 : (if t165 ≤ a1 then (spec_l4Holds.l0 k2 a0 a1 t166 x6_4 (decide (a1 ≤ t165))) else (spec_l4Holds.l0 k2 a0 a1 t166 x6_4 false)) = some r := by rw [if_neg (show ¬ (false = true) by decide)] at H; exact H
             clear H
             have H := H1
             clear H1
             by_cases c20 : t165 ≤ a1
             ·rw [if_pos c20] at H
              have c20b0 : decide (t165 ≤ a1) = true := decide_eq_true c20
              clear c20
              have H' := Aside0.mk H
              clear H
              have p9 : 0 ≤ (x5_2 : Int) := of_decide_eq_true (by first | (with_reducible assumption) | assumption)
              have q9 : x5_2 < (a0.size : Int) := of_decide_eq_true (by first | (with_reducible assumption) | assumption)
              have hx9 := bt_at a0 x5_2
              replace p9 := eq_true p9
              replace q9 := eq_true q9
              go_wp2_with (first | ((with_reducible refine at_fn (f := 39) rfl ?_); refine goesL_ (some 23) rfl rfl Try.func39 (by kernel_rfl) rfl #[.string a0, .int .i64 x5_2] rfl (by (try simp only [List.map_toArray, List.map_cons, List.map_nil]); first | done | rfl | (simp only [List.length_drop, List.length_take]; rfl)) ?_; (with_reducible refine (spec_l4Ch.calls k2 a0 x5_2 t165 t166 t167 _ A11.out).mono ?_); rintro e w' ⟨rfl, ⟨nd, rfl⟩⟩; refine ⟨_, rfl, ?_⟩; have p14 : 0 ≤ (t166 : Int) := of_decide_eq_true (by first | (with_reducible assumption) | assumption); have q14 : t166 < (a0.size : Int) := of_decide_eq_true (by first | (with_reducible assumption) | assumption); have hx14 := bt_at a0 t166; replace p14 := eq_true p14; replace q14 := eq_true q14))
              go_roundg k2
              case measure => have := HJ4.out; have := HK2.out; omega
              case rel => exact ⟨(t166), (decide (a1 ≤ t165)), (by first | rfl | (simp; done) | (simp [*]; done)), (by first | rfl | (simp; done) | (simp [*]; done)), H', ⟨by have := HJ4.out; have := HK2.out; omega⟩, by repeat (first | exact Drawn0.refl _ | apply Drawn0.step)⟩
             ·rw [if_neg c20] at H
              have c20b0 : decide (t165 ≤ a1) = false := decide_eq_false c20
              clear c20
              have H' := Aside0.mk H
              clear H
              have p9 : 0 ≤ (x5_2 : Int) := of_decide_eq_true (by first | (with_reducible assumption) | assumption)
              have q9 : x5_2 < (a0.size : Int) := of_decide_eq_true (by first | (with_reducible assumption) | assumption)
              have hx9 := bt_at a0 x5_2
              replace p9 := eq_true p9
              replace q9 := eq_true q9
              go_wp2_with (first | ((with_reducible refine at_fn (f := 39) rfl ?_); refine goesL_ (some 23) rfl rfl Try.func39 (by kernel_rfl) rfl #[.string a0, .int .i64 x5_2] rfl (by (try simp only [List.map_toArray, List.map_cons, List.map_nil]); first | done | rfl | (simp only [List.length_drop, List.length_take]; rfl)) ?_; (with_reducible refine (spec_l4Ch.calls k2 a0 x5_2 t165 t166 t167 _ A11.out).mono ?_); rintro e w' ⟨rfl, ⟨nd, rfl⟩⟩; refine ⟨_, rfl, ?_⟩; have p14 : 0 ≤ (t166 : Int) := of_decide_eq_true (by first | (with_reducible assumption) | assumption); have q14 : t166 < (a0.size : Int) := of_decide_eq_true (by first | (with_reducible assumption) | assumption); have hx14 := bt_at a0 t166; replace p14 := eq_true p14; replace q14 := eq_true q14))
              go_roundg k2
              case measure => have := HJ4.out; have := HK2.out; omega
              case rel => exact ⟨(t166), (false), (by first | rfl | (simp; done) | (simp [*]; done)), (by first | rfl | (simp; done) | (simp [*]; done)), H', ⟨by have := HJ4.out; have := HK2.out; omega⟩, by repeat (first | exact Drawn0.refl _ | apply Drawn0.step)⟩
          ·rw [if_neg c13] at H
           exact absurd H (by simp)
         ·rw [if_neg c12] at H
          exact absurd H (by simp)
       ·rw [if_neg c8] at H
        exact absurd H (by simp)
      ·rw [if_neg c7] at H
       exact absurd H (by simp)
 ·rw [if_neg c3] at H
  exact absurd H (by simp)

end Go.Proofs.Ytcdpmmpdfdillaa.Q

namespace Go.Proofs.Ytcdpmmpdfdillaa.Q
open Go.RowKit Go.Proofs.YtcdpmmpdfdillaaW.PrintWords Go.Proofs.YtcdpmmpdfdillaaW.PrintLast
set_option linter.unusedVariables false
set_option linter.unusedSimpArgs false
/-- f tells R on places up to n. -/
def Mat (n : Nat) (f : Nat → Nat → Bool) (R : Nat → Nat → Prop) : Prop := ∀ i j, i ≤ n → j ≤ n → (f i j = true ↔ R i j)
/-- Goes on, and stays within. -/
def Rise (n : Nat) (R : Nat → Nat → Prop) : Prop := ∀ i j, i ≤ n → R i j → i ≤ j ∧ j ≤ n
theorem mat_iff {n : Nat} {f : Nat → Nat → Bool} {R S : Nat → Nat → Prop} (h : Mat n f R) (e : ∀ i j, i ≤ n → j ≤ n → (R i j ↔ S i j)) : Mat n f S := fun i j hi hj => (h i j hi hj).trans (e i j hi hj)
theorem mat_none (n : Nat) : Mat n (fun _ _ => false) (fun _ _ => False) := fun i j _ _ => by simp
theorem mat_empty (n : Nat) : Mat n (fun a b => decide (a = b)) (fun a b => a = b) := fun i j _ _ => by simp
theorem mat_or {n : Nat} {f g : Nat → Nat → Bool} {R S : Nat → Nat → Prop} (h : Mat n f R) (k : Mat n g S) (hr : Rise n R) (ks : Rise n S) : Mat n (orF f g) (fun i j => R i j ∨ S i j) := fun i j hi hj => by
  unfold orF
  rw [Bool.and_eq_true, Bool.or_eq_true, h i j hi hj, k i j hi hj, decide_eq_true_eq]
  exact ⟨fun e => e.2, fun e => ⟨e.elim (fun e => (hr i j hi e).1) (fun e => (ks i j hi e).1), e⟩⟩
theorem mat_then {n : Nat} {f g : Nat → Nat → Bool} {R S : Nat → Nat → Prop} (h : Mat n f R) (k : Mat n g S) (hr : Rise n R) (ks : Rise n S) : Mat n (thK f g (n + 1)) (fun i j => ∃ q, R i q ∧ S q j) := fun i j hi hj => by
  rw [thK_is]
  constructor
  · rintro ⟨q, h1, h2, h3, h4, h5⟩
    exact ⟨q, (h i q hi (by omega)).1 h4, (k q j (by omega) hj).1 h5⟩
  · rintro ⟨q, h1, h2⟩
    have h3 := hr i q hi h1
    have h4 := ks q j h3.2 h2
    exact ⟨q, by omega, h3.1, h4.1, (h i q hi h3.2).2 h1, (k q j h3.2 hj).2 h2⟩
theorem mat_plus {n : Nat} {f : Nat → Nat → Bool} {R : Nat → Nat → Prop} (h : Mat n f R) (hr : Rise n R) : Mat n (plK f (n + 1)) (Plus R) := by
  have hup : ∀ i k, (R i k ∧ i ≤ n ∧ k ≤ n) → i ≤ k := fun i k hk => (hr i k hk.2.1 hk.1).1
  have key : ∀ K, K ≤ n + 1 → Mat n (plK f K) (PathK (fun i j => R i j ∧ i ≤ n ∧ j ≤ n) K) := by
    intro K
    induction K with
    | zero =>
      intro _ i j hi hj
      rw [PathK.zero]
      exact (h i j hi hj).trans ⟨fun e => ⟨e, hi, hj⟩, fun e => e.1⟩
    | succ K ih =>
      intro hK i j hi hj
      rw [plK, Bool.and_eq_true, Bool.or_eq_true, Bool.and_eq_true, Bool.and_eq_true, Bool.and_eq_true, decide_eq_true_eq, decide_eq_true_eq, decide_eq_true_eq, ih (by omega) i j hi hj, ih (by omega) i K hi (by omega), ih (by omega) K j (by omega) hj, PathK.next]
      constructor
      · rintro ⟨-, e | ⟨-, -, e⟩⟩
        · exact .inl e
        · exact .inr e
      · rintro (e | ⟨e1, e2⟩)
        · exact ⟨PathK.rise hup e, .inl e⟩
        · have h1 := PathK.rise hup e1
          have h2 := PathK.rise hup e2
          exact ⟨by omega, .inr ⟨h1, h2, e1, e2⟩⟩
  refine mat_iff (key (n + 1) (Nat.le_refl _)) fun i j hi hj => ?_
  rw [← plus_path (R := fun i j => R i j ∧ i ≤ n ∧ j ≤ n) (N := n + 1) (fun i k hk => by omega)]
  constructor
  · intro e
    induction e with
    | one e => exact .one e.1
    | step e t ih => exact .step e.1 (ih e.2.2 hj)
  · intro e
    induction e with
    | one e => exact .one ⟨e, hi, hj⟩
    | step e t ih =>
      have h1 := hr _ _ hi e
      exact .step ⟨e, hi, h1.2⟩ (ih h1.2 hj)
/-! windows -/
theorem win_ext (p : ByteArray) (a b : Int) (h0 : 0 ≤ a) (hab : a ≤ b) (hb : b ≤ p.size) : Win p (p.extract a.toNat b.toNat) a b := by
  refine ⟨h0, hab, hb, by rw [ByteArray.size_extract]; omega, fun i hi hib => ?_⟩
  unfold bt
  rw [dif_pos (by rw [ByteArray.size_extract]; omega), dif_pos (by omega)]
  rw [ByteArray.getElem_extract]
  congr 3
  omega
theorem seqL_acc {p : ByteArray} : ∀ (k : Nat) (i o : Int) (acc : List Rx) (r : Rx × Int), seqL k p i o acc = some (.ok r) → ∃ ys, r.1 = .seq (acc ++ ys) ∧ ∀ acc', seqL k p i o acc' = some (.ok (.seq (acc' ++ ys), r.2))
  | 0, _, _, _, _, h => by cases h
  | k + 1, i, o, acc, r, h => by
    rw [seqL_s] at h
    split at h
    · rename_i hc
      obtain ⟨x, hx, h⟩ := obind_ok h
      obtain ⟨y, hy, h⟩ := Option.bind_eq_some_iff.mp h
      obtain ⟨ys, e, h1⟩ := seqL_acc k _ _ _ _ h
      refine ⟨y.1 :: ys, by rw [e, List.append_assoc]; rfl, fun acc' => ?_⟩
      rw [seqL_s, if_pos hc, hx]
      simp only [obind]
      rw [hy]
      simp only [Option.bind_some]
      rw [h1, List.append_assoc]
      rfl
    · rename_i hc
      cases h
      exact ⟨[], by rw [List.append_nil], fun acc' => by rw [seqL_s, if_neg hc, List.append_nil]⟩
def PS (z : Rx) (q : ByteArray) : Prop := ∃ K o, o ≤ 20 ∧ seqL K q 0 o [] = some (.ok (z, (q.size : Int)))
def PA (z : Rx) (q : ByteArray) : Prop := ∃ K o, o ≤ 20 ∧ altL K q 0 o [] = some (.ok (z, (q.size : Int)))
def PT (z : Rx) (q : ByteArray) : Prop := 0 < q.size ∧ ∃ K o, o ≤ 20 ∧ atomF K q 0 o = some (.ok (z, (q.size : Int)))
theorem ps_win {p : ByteArray} {k : Nat} {a b o : Int} {r : Rx} (h : seqL k p a o [] = some (.ok (r, b))) (ho : o ≤ 20) (h0 : 0 ≤ a) (h1 : a ≤ p.size) : PS r (p.extract a.toNat b.toNat) := by
  have hb := (par_ok k).2.1 _ _ _ _ _ h h0 h1
  simp only at hb
  have hw := win_ext p a b h0 hb.1 hb.2
  have h2 := (sh_par hw k).2.1 _ _ _ _ h (Int.le_refl _) h1 (Int.le_refl _) o (Int.le_refl _) ho
  simp only at h2
  rw [Int.sub_self, ← hw.sz] at h2
  exact ⟨k, o, ho, h2⟩
theorem parts_alt2 {p : ByteArray} (hp : p.size ≤ 200) : ∀ (k : Nat) (i o : Int) (acc : List Rx) (r : Rx × Int), altL k p i o acc = some (.ok r) → o ≤ 20 → 0 ≤ i → i ≤ (p.size : Int) → r.2 = p.size → ∀ (out : List ByteArray), (out.length : Int) ≤ i →
    ∃ pr : List (Rx × ByteArray), r.1 = .alt (acc ++ pr.map (·.1)) ∧ (∀ x ∈ pr, PS x.1 x.2 ∧ x.2.size ≤ p.size) ∧ Ev (fun n => spec_l4Parts.l0 n p out i i) (out ++ pr.map (·.2))
  | 0, _, _, _, _, h, _, _, _, _ => by cases h
  | k + 1, i, o, acc, r, h, ho20, h0, h1, hr => by
    intro out ho
    have ho2 : out.length < 8796093022208 := by omega
    rw [altL_s] at h
    obtain ⟨x, hx, h⟩ := obind_ok h
    have hb := (par_ok k).2.1 _ _ _ _ _ hx h0 h1
    have hps := ps_win (r := x.1) (b := x.2) hx ho20 h0 h1
    split at h
    · cases h
      have hr' : x.2 = (p.size : Int) := hr
      rw [hr', Int.toNat_natCast] at hps
      refine ⟨[(x.1, p.extract i.toNat p.size)], rfl, fun y hy => ?_, parts_seq hp k _ _ _ _ hx h0 h1 out i _ h0 (Int.le_refl _) ho2 (Ev.step (f := fun _ => some (out ++ [p.extract i.toNat p.size])) (fun n => ?_) (Ev.now _))⟩
      · rw [List.mem_singleton] at hy
        subst hy
        exact ⟨hps, by rw [ByteArray.size_extract]; omega⟩
      · rw [spec_l4Parts.l0, if_neg (by omega), if_pos h0, if_pos h1, if_pos ho2]
    · rename_i hc
      have e1 : ¬ x.2 = (p.size : Int) := fun e => hc (.inl e)
      have e2 : bt p x.2 = 124 := Classical.not_not.mp fun e => hc (.inr e)
      obtain ⟨pr, ez, hall, hv⟩ := parts_alt2 hp k (x.2 + 1) o (acc ++ [x.1]) r h ho20 (by omega) (by omega) hr (out ++ [p.extract i.toNat x.2.toNat]) (by rw [List.length_append]; simp only [List.length_cons, List.length_nil]; omega)
      refine ⟨(x.1, p.extract i.toNat x.2.toNat) :: pr, by rw [ez, List.append_assoc]; rfl, fun y hy => ?_, parts_seq hp k _ _ _ _ hx h0 h1 out i _ h0 (Int.le_refl _) ho2 (Ev.step (fun n => ?_) (by rw [List.append_assoc] at hv; exact hv))⟩
      · rcases List.mem_cons.1 hy with rfl | hy
        · exact ⟨hps, by rw [ByteArray.size_extract]; omega⟩
        · exact hall y hy
      · rw [pt_s hp n out i x.2 (by omega) (by omega) h0 (by omega) ho2, if_pos e2]
end Go.Proofs.Ytcdpmmpdfdillaa.Q

namespace Go.Proofs.Ytcdpmmpdfdillaa.Q
open Go.RowKit Go.Proofs.YtcdpmmpdfdillaaW.PrintWords Go.Proofs.YtcdpmmpdfdillaaW.PrintLast
set_option linter.unusedVariables false
set_option linter.unusedSimpArgs false
theorem setN_get (s : List Bool) (lo : Int) (h0 : 0 ≤ lo) (c : Nat) (hc : c < s.length) : ∀ n, (setN s lo n).getD c false = (s.getD c false || decide (lo ≤ c ∧ (c : Int) < lo + n))
  | 0 => by rw [decide_eq_false (by omega), Bool.or_false]; rfl
  | n + 1 => by
    have ih := setN_get s lo h0 c hc n
    have hl := setN_len s lo n
    unfold setN
    rw [List.getD_eq_getElem?_getD] at ih ⊢
    by_cases h : (lo + n).toNat = c
    · rw [h, List.getElem?_set_self (by omega), decide_eq_true (by omega), Bool.or_true]; rfl
    · rw [List.getElem?_set_ne h, ih]
      congr 1
      exact decide_eq_decide.2 (by omega)
theorem setR_get (s : List Bool) (lo hi : Int) (h0 : 0 ≤ lo) (c : Nat) (hc : c < s.length) (hlh : lo ≤ hi) : (setR s lo hi).getD c false = (s.getD c false || (decide (lo ≤ c) && decide ((c : Int) ≤ hi))) := by
  unfold setR
  rw [setN_get s lo h0 c hc]
  congr 1
  rw [← Bool.decide_and]
  exact decide_eq_decide.2 (by omega)
theorem setR_len (s : List Bool) (lo hi : Int) : (setR s lo hi).length = s.length := by unfold setR; rw [setN_len]
section
variable {p : ByteArray} (hp : p.size ≤ 200)
include hp
theorem ch_ev {i c j : Int} (h : chF p i = .ok (c, j)) (h0 : 0 ≤ i) (h1 : i ≤ p.size) : Ev (fun k => spec_l4Ch.f k p i) (c, j, true) := by
  have := ch_spec hp h0 h1
  rw [h] at this
  exact this
theorem holds_loop (c : Nat) (hc : c < 256) (not : Bool) : ∀ (k : Nat) (i : Int) (f : Bool) (s : List Bool) (r : List Bool × Int), clsF k p i f s = some (.ok r) → 0 ≤ i → i ≤ p.size → s.length = 256 → Ev (fun n => spec_l4Holds.l0 n p c i not (s.getD c false)) (r.1.getD c false != not)
  | 0, _, _, _, _, h, _, _, _ => by cases h
  | k + 1, i, f, s, r, h, h0, h1, hl => by
    obtain ⟨g1, g2, -⟩ := clsF_ok (k + 1) p i f s r h h0 h1 hl
    have hlt : i < (p.size : Int) := by omega
    simp only [clsF] at h
    by_cases hcd : f = true ∨ i = p.size ∨ bt p i ≠ 93
    · rw [if_pos hcd] at h
      cases hch : chF p i with
      | error x => rw [hch] at h; cases h
      | ok y =>
        obtain ⟨lo, j⟩ := y
        rw [hch] at h
        simp only at h
        have h93 : bt p i ≠ 93 := by
          intro e
          unfold chF at hch
          rw [if_neg (by omega), if_pos (.inr (.inl e))] at hch
          cases hch
        obtain ⟨c0, c1, c2, c3⟩ := chF_ok hch h0 h1
        have e1 := ch_ev hp hch h0 h1
        refine Ev.step (f := fun n => (spec_l4Ch.f n p i).bind fun bt165 => (if 0 ≤ bt165.2.1 then (if bt165.2.1 < (p.size : Int) then (if (bt p bt165.2.1) = 45 then ((spec_l4Ch.f n p (wrap64 (bt165.2.1 + 1))).bind fun bt168 => (if s.getD c false = true then (spec_l4Holds.l0 n p c bt168.2.1 not true) else (if bt165.1 ≤ (c : Int) then (spec_l4Holds.l0 n p c bt168.2.1 not (decide ((c : Int) ≤ bt168.1))) else (spec_l4Holds.l0 n p c bt168.2.1 not false)))) else (if s.getD c false = true then (spec_l4Holds.l0 n p c bt165.2.1 not true) else (if bt165.1 ≤ (c : Int) then (spec_l4Holds.l0 n p c bt165.2.1 not (decide ((c : Int) ≤ bt165.1))) else (spec_l4Holds.l0 n p c bt165.2.1 not false)))) else (none)) else (none))) (fun n => ?_) (Ev.bind e1 ?_)
        · rw [spec_l4Holds.l0, if_pos h0, if_pos hlt, if_neg h93]
        · refine Ev.if_pos (show 0 ≤ j by omega) ?_
          have fin : ∀ (lo hi : Int) (q : Bool), 0 ≤ lo → lo ≤ hi → (setR s lo hi).getD c false = (s.getD c false || (decide (lo ≤ (c : Int)) && decide ((c : Int) ≤ hi))) := fun lo hi q a b => setR_get s lo hi a c (by omega) b
          by_cases hd : j < p.size ∧ bt p j = 45
          · rw [if_pos hd] at h
            cases hch2 : chF p (j + 1) with
            | error x => rw [hch2] at h; cases h
            | ok y2 =>
              obtain ⟨hi, m⟩ := y2
              rw [hch2] at h
              simp only at h
              obtain ⟨d0, d1, d2, d3⟩ := chF_ok hch2 (by omega) (by omega)
              have e2 := ch_ev hp hch2 (by omega) (by omega)
              rw [← wr1 hp (show 0 ≤ j by omega) (by omega)] at e2
              by_cases hlh : lo > hi
              · rw [if_pos hlh] at h; cases h
              · rw [if_neg hlh] at h
                have ih := holds_loop c hc not k m false _ r h (by omega) d3 (by rw [setR_len]; exact hl)
                rw [fin lo hi true (by omega) (by omega)] at ih
                refine Ev.if_pos hd.1 (Ev.if_pos hd.2 (Ev.bind e2 ?_))
                by_cases hin : s.getD c false = true
                · rw [hin, Bool.true_or] at ih
                  exact Ev.if_pos hin ih
                · have hin' : s.getD c false = false := by simpa using hin
                  rw [hin', Bool.false_or] at ih
                  refine Ev.if_neg hin ?_
                  by_cases hle : lo ≤ (c : Int)
                  · rw [decide_eq_true hle, Bool.true_and] at ih
                    exact Ev.if_pos hle ih
                  · rw [decide_eq_false hle, Bool.false_and] at ih
                    exact Ev.if_neg hle ih
          · rw [if_neg hd] at h
            have ih := holds_loop c hc not k j false _ r h (by omega) c3 (by rw [setR_len]; exact hl)
            obtain ⟨g3, g4, -⟩ := clsF_ok k p j false _ r h (by omega) c3 (by rw [setR_len]; exact hl)
            rw [fin lo lo true (by omega) (by omega)] at ih
            refine Ev.if_pos (show j < (p.size : Int) by omega) (Ev.if_neg (fun e => hd ⟨by omega, e⟩) ?_)
            by_cases hin : s.getD c false = true
            · rw [hin, Bool.true_or] at ih
              exact Ev.if_pos hin ih
            · have hin' : s.getD c false = false := by simpa using hin
              rw [hin', Bool.false_or] at ih
              refine Ev.if_neg hin ?_
              by_cases hle : lo ≤ (c : Int)
              · rw [decide_eq_true hle, Bool.true_and] at ih
                exact Ev.if_pos hle ih
              · rw [decide_eq_false hle, Bool.false_and] at ih
                exact Ev.if_neg hle ih
    · rw [if_neg hcd] at h
      cases h
      have h93 : bt p i = 93 := Classical.not_not.mp fun e => hcd (.inr (.inr e))
      exact Ev.step (f := fun _ => some (s.getD c false != not)) (fun n => by rw [spec_l4Holds.l0, if_pos h0, if_pos hlt, if_pos h93]) (Ev.now _)
theorem holds_is {k : Nat} {r : List Bool × Int} (h : claF k p 1 = some (.ok r)) (h1 : 1 < p.size) (c : Nat) (hc : c < 256) : Ev (fun n => spec_l4Holds.f n p c) (r.1.getD c false) := by
  unfold claF at h
  have hn : notQ p 1 = (bt p 1 == 94) := by unfold notQ; rw [decide_eq_true (by omega), Bool.true_and]
  cases hcl : clsF k p (notI p 1) true noB with
  | none => rw [hcl] at h; cases h
  | some x =>
    rw [hcl] at h
    cases x with
    | error e => cases h
    | ok y =>
      have he : r = (if notQ p 1 = true then y.1.map (!·) else y.1, y.2 + 1) := by
        simp only [Option.map_some, Except.map, Option.some.injEq, Except.ok.injEq] at h
        exact h.symm
      have hz : noB.getD c false = false := by unfold noB; rw [List.getD_eq_getElem?_getD, List.getElem?_replicate]; split <;> rfl
      have hle : notI p 1 ≤ p.size := by unfold notI; split <;> omega
      have h0 : 0 ≤ notI p 1 := by unfold notI; split <;> omega
      have hlp := holds_loop hp c hc (notQ p 1) k _ true noB y hcl h0 hle noB_len
      rw [hz] at hlp
      have hlen := (clsF_ok k p _ true noB y hcl h0 hle noB_len).2.2
      have hfin : r.1.getD c false = (y.1.getD c false != notQ p 1) := by
        rw [he]
        simp only
        cases notQ p 1
        · simp
        · rw [if_pos rfl, List.getD_eq_getElem?_getD, List.getD_eq_getElem?_getD, List.getElem?_map, List.getElem?_eq_getElem (by omega)]
          simp
      rw [hfin]
      refine Ev.if_pos (show (1 : Int) < p.size by omega) ?_
      by_cases h94 : bt p 1 = 94
      · have hq : notQ p 1 = true := by rw [hn, h94]; rfl
        rw [hq] at hlp ⊢
        have hi : notI p 1 = 2 := by unfold notI; rw [if_pos hq]; rfl
        rw [hi] at hlp
        exact Ev.if_pos h94 (Ev.step (fun n => by rw [spec_l4Holds.j0]) hlp)
      · have hq : notQ p 1 = false := by rw [hn]; exact beq_eq_false_iff_ne.2 h94
        rw [hq] at hlp ⊢
        have hi : notI p 1 = 1 := by unfold notI; rw [if_neg (by rw [hq]; decide)]
        rw [hi] at hlp
        exact Ev.if_neg h94 (Ev.step (fun n => by rw [spec_l4Holds.j0]) hlp)
end
end Go.Proofs.Ytcdpmmpdfdillaa.Q

namespace Go.Proofs.Ytcdpmmpdfdillaa.Q
open Go.RowKit Go.Proofs.YtcdpmmpdfdillaaW.PrintWords Go.Proofs.YtcdpmmpdfdillaaW.PrintLast
set_option linter.unusedVariables false
set_option linter.unusedSimpArgs false
abbrev bs (s : ByteArray) : Nat → Int := fun i => bt s (i : Int)
def MRes (w0 w' : World) (s : ByteArray) (e : Ending) (R : Nat → Nat → Prop) : Prop := ∃ v f, e = .returned v ∧ MS w' w0.heap.size v (s.size + 1) f ∧ Mat s.size f R ∧ Below w0.heap.size w0 w'
def AltQ (q s : ByteArray) : Prop := ∀ x w, PA x q → Calls Try.prog 12 #[.string q, .string s] w fun e w' => MRes w w' s e (Mx s.size (bs s) x)
def SeqQ (q s : ByteArray) : Prop := ∀ xs w, PS (.seq xs) q → Calls Try.prog 32 #[.string q, .string s] w fun e w' => MRes w w' s e (MxS s.size (bs s) xs)
def AtomQ (q s : ByteArray) : Prop := ∀ x w, PT x q → Calls Try.prog 41 #[.string q, .string s] w fun e w' => MRes w w' s e (Mx s.size (bs s) x)
theorem noB_set (c b : Nat) (hc : c < 256) : (noB.set c true).getD b false = decide (c = b) := by
  rw [List.getD_eq_getElem?_getD]
  by_cases h : c = b
  · subst h; rw [List.getElem?_set_self (by rw [noB_len]; exact hc)]; simp
  · rw [List.getElem?_set_ne h, decide_eq_false h]
    unfold noB
    rw [List.getElem?_replicate]
    split <;> rfl
/-- What an atom is. -/
theorem atom_form {q : ByteArray} {x : Rx} (h : PT x q) (hq : q.size ≤ 200) :
    (bt q 0 = 40 ∧ 2 ≤ q.size ∧ PA x (q.extract 1 (q.size - 1))) ∨
    (bt q 0 ≠ 40 ∧ ∃ st b pl, x = .one st b pl ∧
      ((bt q 0 = 46 ∧ ∀ c, c < 256 → st.getD c false = true) ∨ (bt q 0 = 91 ∧ ∀ c, c < 256 → Ev (fun n => spec_l4Holds.f n q (c : Nat)) (st.getD c false)) ∨
       (bt q 0 = 92 ∧ 2 ≤ q.size ∧ ∀ c : Nat, c < 256 → st.getD c false = (bt q 1 == (c : Int))) ∨ (bt q 0 ≠ 46 ∧ bt q 0 ≠ 91 ∧ bt q 0 ≠ 92 ∧ ∀ c : Nat, c < 256 → st.getD c false = (bt q 0 == (c : Int))))) := by
  obtain ⟨h0, K, o, ho, h⟩ := h
  have hsg : ∀ a : Int, 0 ≤ a → a ≤ 255 → ∀ c : Nat, c < 256 → (noB.set a.toNat true).getD c false = (a == (c : Int)) := fun a ha ha2 c hc => by
    rw [noB_set _ _ (by omega)]
    by_cases e : a.toNat = c
    · rw [decide_eq_true e]; exact (beq_iff_eq.2 (by omega)).symm
    · rw [decide_eq_false e]; exact (beq_eq_false_iff_ne.2 (by omega)).symm
  have r0 := bt_range q 0
  have r1 := bt_range q 1
  cases K with
  | zero => cases h
  | succ k =>
  rw [atomF_s] at h
  by_cases n40 : bt q 0 = 40
  · rw [if_pos n40] at h
    split at h
    · cases h
    · rename_i ho2
      obtain ⟨y, hy, h⟩ := obind_ok h
      have hb := (par_ok k).1 _ _ _ _ _ hy (by omega) (by omega)
      split at h
      · cases h
      · rename_i e1
        injection h with h
        injection h with h
        injection h with hx hs
        have hw := win_ext q (0 + 1) ((q.size : Int) - 1) (by omega) (by omega) (by omega)
        have h2 := (sh_par hw k).1 _ _ _ _ hy (Int.le_refl _) (by omega) (by omega) (o + 1) (Int.le_refl _) (by omega)
        rw [Int.sub_self] at h2
        refine .inl ⟨n40, by omega, k, o + 1, by omega, ?_⟩
        rw [show q.extract 1 (q.size - 1) = q.extract ((0 : Int) + 1).toNat ((q.size : Int) - 1).toNat by congr 1; omega]
        rw [hx, show y.2 - (0 + 1) = ((q.extract ((0 : Int) + 1).toNat ((q.size : Int) - 1).toNat).size : Int) by rw [hw.sz]; omega] at h2
        exact h2
  · rw [if_neg n40] at h
    refine .inr ⟨n40, ?_⟩
    by_cases n91 : bt q 0 = 91
    · rw [if_pos n91] at h
      obtain ⟨y, hy, h⟩ := obind_ok h
      injection h with h
      injection h with h
      injection h with hx hs
      have hc := claF_ok hy (by omega) (by omega)
      refine ⟨_, _, _, hx.symm, .inr (.inl ⟨n91, fun c hc2 => holds_is hq (r := y) hy ?_ c hc2⟩)⟩
      have := hc.1
      omega
    · rw [if_neg n91] at h
      by_cases n46 : bt q 0 = 46
      · rw [if_pos n46] at h
        injection h with h
        injection h with h
        injection h with hx hs
        refine ⟨_, _, _, hx.symm, .inl ⟨n46, fun c hc => ?_⟩⟩
        rw [List.getD_eq_getElem?_getD, List.getElem?_replicate, if_pos hc]
        rfl
      · rw [if_neg n46] at h
        split at h
        · cases h
        · by_cases n92 : bt q 0 = 92
          · rw [if_pos n92] at h
            split at h
            · cases h
            · rename_i e1
              injection h with h
              injection h with h
              injection h with hx hs
              exact ⟨_, _, _, hx.symm, .inr (.inr (.inl ⟨n92, by omega, hsg _ r1.1 r1.2⟩))⟩
          · rw [if_neg n92] at h
            injection h with h
            injection h with h
            injection h with hx hs
            exact ⟨_, _, _, hx.symm, .inr (.inr (.inr ⟨n46, n91, n92, hsg _ r0.1 r0.2⟩))⟩
theorem ms_mr {w w' : World} {s : ByteArray} {v : Value} {f : Nat → Nat → Bool} {R : Nat → Nat → Prop} (h : MS w' w.heap.size v (s.size + 1) f) (k : Mat s.size f R) (b : Below w.heap.size w w') : MRes w w' s (.returned v) R := ⟨v, f, rfl, h, k, b⟩
theorem holds_call (q : ByteArray) (c : Int) (b : Bool) (h : Ev (fun n => spec_l4Holds.f n q c) b) (w : World) : Calls Try.prog 47 #[.string q, .int .u8 c] w fun e w' => e = .returned (.bool b) ∧ Drawn0 w w' := by
  obtain ⟨K, hK⟩ := h
  exact spec_l4Holds.calls K q c b w (hK K (Nat.le_refl _))
/-- What is written before row i. -/
def atU (st : Nat → Bool) (i a b : Nat) : Bool := decide (a < i ∧ b = a + 1) && st a
theorem atU_put (st : Nat → Bool) (i a b : Nat) : (if a = i ∧ b = i + 1 then st i else atU st i a b) = atU st (i + 1) a b := by
  unfold atU
  by_cases h : a = i ∧ b = i + 1
  · obtain ⟨rfl, rfl⟩ := h
    rw [if_pos ⟨rfl, rfl⟩, decide_eq_true (by omega), Bool.true_and]
  · rw [if_neg h]
    congr 1
    exact decide_eq_decide.2 (by omega)
set_option maxHeartbeats 4000000 in
set_option maxRecDepth 100000 in
theorem atom_par (q s : ByteArray) (hq : q.size ≤ 200) (hs : s.size ≤ 200) (x : Rx) (w : World) (h40 : bt q 0 = 40) (h2 : 2 ≤ q.size) (hA : Calls Try.prog 12 #[.string (q.extract 1 (q.size - 1)), .string s] w fun e w' => MRes w w' s e (Mx s.size (bs s) x)) :
    Calls Try.prog 41 #[.string q, .string s] w fun e w' => MRes w w' s e (Mx s.size (bs s) x) := by
  have hx0 : ∀ h : 0 < q.size, ((q[0]'h).toNat : Int) = bt q 0 := bt_at q 0
  have d1 : (bt q 0 == 40) = true := beq_iff_eq.2 h40
  have hw : IntKind.i64.wrap ((q.size : Int) - 1) = (q.size : Int) - 1 := by rw [IntKind.wrap_i64]; omega
  have i1 : (0 : Int) < (q.size : Int) := by omega
  have i2 : (1 : Int) ≤ (q.size : Int) - 1 := by omega
  have i3 : (q.size : Int) - 1 ≤ (q.size : Int) := by omega
  have HA := Aside0.mk hA
  clear hA h40
  go_enter Try.func41, Try.ntmps41
  go_wp2_with fail
  refine HA.out.mono ?_
  rintro ex W1 ⟨v, f, rfl, h1, h3, h4⟩
  have HF := Aside0.mk (ms_mr h1 h3 h4)
  clear h1 h3 h4 HA
  go_wp2_with fail
  go_ret
  exact HF.out
set_option maxHeartbeats 4000000 in
set_option maxRecDepth 100000 in
theorem atom_one (q s : ByteArray) (hq : q.size ≤ 200) (hs : s.size ≤ 200) (st : List Bool) (w : World) (h0 : 0 < q.size) (h40 : bt q 0 ≠ 40)
    (h : (bt q 0 = 46 ∧ ∀ c, c < 256 → st.getD c false = true) ∨ (bt q 0 = 91 ∧ ∀ c, c < 256 → Ev (fun n => spec_l4Holds.f n q (c : Nat)) (st.getD c false)) ∨
       (bt q 0 = 92 ∧ 2 ≤ q.size ∧ ∀ c : Nat, c < 256 → st.getD c false = (bt q 1 == (c : Int))) ∨ (bt q 0 ≠ 46 ∧ bt q 0 ≠ 91 ∧ bt q 0 ≠ 92 ∧ ∀ c : Nat, c < 256 → st.getD c false = (bt q 0 == (c : Int)))) :
    Calls Try.prog 41 #[.string q, .string s] w fun e w' => MRes w w' s e (fun i j => i < s.size ∧ st.getD (bs s i).toNat false = true ∧ j = i + 1) := by
  have hx0 : ∀ h : 0 < q.size, ((q[0]'h).toNat : Int) = bt q 0 := bt_at q 0
  have hx1 : ∀ h : 1 < q.size, ((q[1]'h).toNat : Int) = bt q 1 := bt_at q 1
  have d1 : (bt q 0 == 40) = false := beq_eq_false_iff_ne.2 h40
  have i0 : (0 : Int) < (q.size : Int) := by omega
  obtain ⟨N, hN⟩ : ∃ N, N = s.size + 1 := ⟨_, rfl⟩
  have HN := Aside0.mk hN
  have HH := Aside0.mk h
  clear hN h40
  go_enter Try.func41, Try.ntmps41
  go_wp2_with fail
  refine (none_call s.size (by omega) w).mono ?_
  rintro ex W1 ⟨v1, rfl, hS, hb⟩
  rw [← HN.out] at hS
  obtain ⟨m, c, rfl, hm, -⟩ := mat_form hS (by have := HN.out; omega)
  have hS := ms_of (g := atU (fun a => st.getD (bs s a).toNat false) 0) hS (tab_congr fun a b _ _ => by unfold atU; rw [decide_eq_false (by omega), Bool.false_and])
  have HS := Aside0.mk hS
  have HB := Aside0.mk hb
  clear hS hb
  go_wp2_with fail
  go_loopw [6] (fun v6 W => ∃ i : Nat, i ≤ s.size ∧ v6 = .int .i64 i ∧ Aside0 (MS W w.heap.size (.slice (some ⟨m, 0, none⟩) N c) N (atU (fun a => st.getD (bs s a).toNat false) i)) ∧ Aside0 (Below w.heap.size w W)) (fun v6 _ => s.size - (intOf v6).toNat)
  case atStart => exact ⟨0, by omega, rfl, HS, HB⟩
  case round =>
    clear HS HB
    obtain ⟨i, hi, rfl, HS, HB⟩ := hrel
    by_cases hlt : i < s.size
    · have dl : decide ((i : Int) < (s.size : Int)) = true := decide_eq_true (by omega)
      have hwi : IntKind.i64.wrap ((i : Int) + 1) = ((i + 1 : Nat) : Int) := by rw [IntKind.wrap_i64]; omega
      have hxi := bt_at s (i : Int)
      have hxj : ∀ h : i < s.size, ((s[i]'h).toNat : Int) = bt s (i : Int) := fun h => bt_at s (i : Int) h
      have hr := bt_range s (i : Int)
      obtain ⟨b, hb⟩ : ∃ b : Nat, bt s (i : Int) = (b : Int) := ⟨(bt s (i : Int)).toNat, by omega⟩
      rw [hb] at hxi hxj
      have hb256 : b < 256 := by omega
      have HBt := Aside0.mk hb
      have h := HH.out
      clear hr hb
      obtain ⟨r, cr, hrg, hBr, hx, hy, hf, -, hput⟩ := mat_put (i := i) (j := i + 1) HS.out (by have := HN.out; omega) (by have := HN.out; omega)
      have j1 : ((i : Int) < (N : Int)) = True := eq_true (by have := HN.out; omega)
      have j2 : ((0 : Int) ≤ (i : Int)) = True := eq_true (by omega)
      have j3 : (((i + 1 : Nat) : Int) < (N : Int)) = True := eq_true (by have := HN.out; omega)
      have j4 : ((0 : Int) ≤ ((i + 1 : Nat) : Int)) = True := eq_true (by omega)
      have j5 : ((i : Int) < (s.size : Int)) = True := eq_true (by omega)
      have HP := Aside0.mk hput
      have FIN : Aside0 (∀ t, st.getD b false = t → tab N (fun a b' => if a = i ∧ b' = i + 1 then t else atU (fun a => st.getD (bs s a).toNat false) i a b') = tab N (atU (fun a => st.getD (bs s a).toNat false) (i + 1))) :=
        ⟨fun t ht => tab_congr fun a b' _ _ => by rw [← atU_put, ← ht]; show _ = (if a = i ∧ b' = i + 1 then st.getD (bt s (i : Int)).toNat false else _); rw [HBt.out, Int.toNat_natCast]⟩
      clear hput
      have k1 : i < N := by have := HN.out; omega
      have k2 : i + 1 < N := by have := HN.out; omega
      rcases h with ⟨h46, hst⟩ | ⟨h91, hst⟩ | ⟨h92, h2, hst⟩ | ⟨h46, h91, h92, hst⟩
      · have d2 : (bt q 0 == 46) = true := beq_iff_eq.2 h46
        have d3 : (bt q 0 == 92) = false := beq_eq_false_iff_ne.2 (by omega)
        have d4 : (bt q 0 == 91) = false := beq_eq_false_iff_ne.2 (by omega)
        have HT := Aside0.mk (hst b hb256)
        clear hst hb256 h46
        go_wp2_with fail
        go_quiet (fail)
        go_wp2_with fail
        clear hx hy hf
        go_roundw
        case measure => simp only [intOf]; omega
        case rel => exact ⟨i + 1, by omega, by rw [Int.natCast_add]; rfl, ⟨ms_of (Kd.S_drewN (HP.out _) _) (FIN.out _ HT.out)⟩, ⟨Below.setCell (p := ⟨r, i + 1, none⟩) (pw_below_drewN HB.out _) hBr _⟩⟩
      · have d2 : (bt q 0 == 46) = false := beq_eq_false_iff_ne.2 (by omega)
        have d3 : (bt q 0 == 92) = false := beq_eq_false_iff_ne.2 (by omega)
        have d4 : (bt q 0 == 91) = true := beq_iff_eq.2 h91
        have hC := hst b hb256
        obtain ⟨t, ht⟩ : ∃ t, st.getD b false = t := ⟨_, rfl⟩
        rw [ht] at hC
        have HC := Aside0.mk hC
        have HT := Aside0.mk ht
        clear hst hb256 hC ht h91
        go_wp2_with fail
        go_quiet (fail)
        go_wp2_with fail
        refine (holds_call q b _ HC.out _).mono ?_
        rintro ex W2 ⟨rfl, ⟨nn, rfl⟩⟩
        go_wp2_with fail
        clear hx hy hf
        go_roundw
        case measure => simp only [intOf]; omega
        case rel => exact ⟨i + 1, by omega, by rw [Int.natCast_add]; rfl, ⟨ms_of (Kd.S_drewN (HP.out _) _) (FIN.out _ HT.out)⟩, ⟨Below.setCell (p := ⟨r, i + 1, none⟩) (pw_below_drewN HB.out _) hBr _⟩⟩
      · have d2 : (bt q 0 == 46) = false := beq_eq_false_iff_ne.2 (by omega)
        have d3 : (bt q 0 == 92) = true := beq_iff_eq.2 h92
        have d4 : (bt q 0 == 91) = false := beq_eq_false_iff_ne.2 (by omega)
        have HT := Aside0.mk (hst b hb256)
        have i5 : (1 : Int) < (q.size : Int) := by omega
        clear hst hb256 h92
        go_wp2_with fail
        go_quiet (fail)
        go_wp2_with fail
        go_quiet (fail)
        go_wp2_with fail
        clear hx hy hf
        go_roundw
        case measure => simp only [intOf]; omega
        case rel => exact ⟨i + 1, by omega, by rw [Int.natCast_add]; rfl, ⟨ms_of (Kd.S_drewN (HP.out _) _) (FIN.out _ HT.out)⟩, ⟨Below.setCell (p := ⟨r, i + 1, none⟩) (pw_below_drewN HB.out _) hBr _⟩⟩
      · have d2 : (bt q 0 == 46) = false := beq_eq_false_iff_ne.2 h46
        have d3 : (bt q 0 == 92) = false := beq_eq_false_iff_ne.2 h92
        have d4 : (bt q 0 == 91) = false := beq_eq_false_iff_ne.2 h91
        have HT := Aside0.mk (hst b hb256)
        clear hst hb256 h46 h91 h92
        go_wp2_with fail
        go_quiet (fail)
        go_wp2_with fail
        clear hx hy hf
        go_roundw
        case measure => simp only [intOf]; omega
        case rel => exact ⟨i + 1, by omega, by rw [Int.natCast_add]; rfl, ⟨ms_of (Kd.S_drewN (HP.out _) _) (FIN.out _ HT.out)⟩, ⟨Below.setCell (p := ⟨r, i + 1, none⟩) (pw_below_drewN HB.out _) hBr _⟩⟩
    · obtain rfl : i = s.size := by omega
      have dl : decide ((s.size : Int) < (s.size : Int)) = false := decide_eq_false (by omega)
      go_wp2_with fail
      go_ret
      refine ms_mr (f := atU (fun a => st.getD (bs s a).toNat false) s.size) (by rw [← HN.out]; exact HS.out) (fun i j hi hj => ?_) HB.out
      unfold atU
      rw [Bool.and_eq_true, decide_eq_true_eq]
      exact ⟨fun e => ⟨e.1.1, e.2, e.1.2⟩, fun e => ⟨⟨e.1, e.2.2⟩, e.2.1⟩⟩
end Go.Proofs.Ytcdpmmpdfdillaa.Q

namespace Go.Proofs.Ytcdpmmpdfdillaa.Q
open Go.RowKit Go.Proofs.YtcdpmmpdfdillaaW.PrintWords Go.Proofs.YtcdpmmpdfdillaaW.PrintLast
set_option linter.unusedVariables false
set_option linter.unusedSimpArgs false
theorem rise_mx (n : Nat) (b : Nat → Int) (x : Rx) : Rise n (Mx n b x) := fun i j hi h => Mx_rise n b x i j hi h
theorem rise_mxs (n : Nat) (b : Nat → Int) (xs : List Rx) : Rise n (MxS n b xs) := fun i j hi h => MxS_rise n b xs i j hi h
theorem rise_mxa (n : Nat) (b : Nat → Int) (xs : List Rx) : Rise n (MxA n b xs) := fun i j hi h => MxA_rise n b xs i j hi h
theorem rise_eq (n : Nat) : Rise n (fun a b => a = b) := fun i j hi h => by omega
theorem rise_plus {n : Nat} {R : Nat → Nat → Prop} (hr : Rise n R) : Rise n (Plus R) := by
  intro i j hi h
  induction h with
  | one h => exact hr _ _ hi h
  | step h t ih =>
    have h1 := hr _ _ hi h
    have h2 := ih h1.2
    exact ⟨Nat.le_trans h1.1 h2.1, h2.2⟩
theorem mat_rep {n : Nat} {b : Nat → Int} {f : Nat → Nat → Bool} {x : Rx} (h : Mat n f (Mx n b x)) :
    (Mat n (plK f (n + 1)) (Mx n b (.rep x 43))) ∧ (∀ g, Mat n g (fun a b => a = b) → Mat n (orF f g) (Mx n b (.rep x 63)) ∧ Mat n (orF (plK f (n + 1)) g) (Mx n b (.rep x 42))) := by
  have hp := mat_plus h (rise_mx n b x)
  refine ⟨mat_iff hp fun i j _ _ => ?_, fun g hg => ⟨mat_iff (mat_or h hg (rise_mx n b x) (rise_eq n)) fun i j _ _ => ?_, mat_iff (mat_or hp hg (rise_plus (rise_mx n b x)) (rise_eq n)) fun i j _ _ => ?_⟩⟩
  · conv => rhs; unfold Mx
    simp
  · conv => rhs; unfold Mx
    simp [or_comm]
  · conv => rhs; unfold Mx
    simp [or_comm]
theorem ps_nil {xs : List Rx} {q : ByteArray} (h : PS (.seq xs) q) (h0 : q.size = 0) : xs = [] := by
  obtain ⟨K, o, ho, h⟩ := h
  cases K with
  | zero => cases h
  | succ k =>
  rw [seqL_s, if_neg (by omega)] at h
  injection h with h; injection h with h; injection h with h _; injection h with h
  exact h.symm
theorem ps_cons {xs : List Rx} {q : ByteArray} (h : PS (.seq xs) q) (h0 : 0 < q.size) (hq : q.size ≤ 200) :
    ∃ (j1 j2 : Nat) (x y : Rx) (ys : List Rx) (k : Nat), 0 < j1 ∧ j1 ≤ j2 ∧ j2 ≤ q.size ∧ xs = y :: ys ∧ PT x (q.extract 0 j1) ∧ Ev (fun n => spec_l4AtomEnd.f n q 0) (j1 : Int) ∧ opsF k q j1 x = some (y, (j2 : Int)) ∧ PS (.seq ys) (q.extract j2 q.size) := by
  obtain ⟨K, o, ho, h⟩ := h
  cases K with
  | zero => cases h
  | succ k =>
  rw [seqL_s] at h
  split at h
  · rename_i hc
    obtain ⟨x, hx, h⟩ := obind_ok h
    have hb := (par_ok k).2.2 _ _ _ _ hx (Int.le_refl _) hc.1
    obtain ⟨y, hy, h⟩ := Option.bind_eq_some_iff.mp h
    have hb2 := opsF_ok _ _ _ _ _ hy hb.2
    obtain ⟨ys, e, hys⟩ := seqL_acc k _ _ _ _ h
    have hend := (par_ends hq k).2.2 _ _ _ hx (Int.le_refl _) hc.1
    obtain ⟨j1, e1⟩ : ∃ j1 : Nat, x.2 = (j1 : Int) := ⟨x.2.toNat, by omega⟩
    obtain ⟨j2, e2⟩ : ∃ j2 : Nat, y.2 = (j2 : Int) := ⟨y.2.toNat, by omega⟩
    have hw := win_ext q 0 (j1 : Int) (Int.le_refl _) (by omega) (by omega)
    have hx2 := (sh_par hw k).2.2 _ _ _ hx (Int.le_refl _) hc.1 (by omega) o (Int.le_refl _) ho
    refine ⟨j1, j2, x.1, y.1, ys, k, by omega, by omega, by omega, ?_, ⟨?_, k, o, ho, ?_⟩, e1 ▸ hend, ?_, ?_⟩
    · injection e
    · have hs := hw.sz
      rw [Int.toNat_natCast] at hs
      have : ((q.extract 0 j1).size : Int) = j1 - 0 := hs
      omega
    · have hs := hw.sz
      rw [Int.toNat_natCast] at hs hx2
      have hs : ((q.extract 0 j1).size : Int) = j1 - 0 := hs
      rw [hs, ← e1]
      exact hx2
    · rw [← e1, hy, ← e2]
    · have h3 := hys []
      rw [List.nil_append] at h3
      have h4 := ps_win h3 ho (by omega) (by omega)
      rw [e2, Int.toNat_natCast, Int.toNat_natCast] at h4
      exact h4
  · rename_i hc
    injection h with h; injection h with h; injection h with _ h
    omega
theorem op_call (c : Int) (w : World) : Calls Try.prog 28 #[.int .u8 c] w fun e w' => e = .returned (.bool (isOp c)) ∧ Drawn0 w w' :=
  spec_l4Op.calls c _ w (l4Op_is (p := ⟨#[]⟩) (by decide) c)
theorem plus_mr (s : ByteArray) (hs : s.size ≤ 200) (w0 w : World) (m c : Nat) (f : Nat → Nat → Bool) (h : MS w w0.heap.size (.slice (some ⟨m, 0, none⟩) (s.size + 1) c) (s.size + 1) f) (hb : Below w0.heap.size w0 w) :
    Calls Try.prog 42 #[.slice (some ⟨m, 0, none⟩) (s.size + 1) c] w fun e w' => ∃ m' c', e = .returned (.slice (some ⟨m', 0, none⟩) (s.size + 1) c') ∧ MS w' w0.heap.size (.slice (some ⟨m', 0, none⟩) (s.size + 1) c') (s.size + 1) (plK f (s.size + 1)) ∧ Below w0.heap.size w0 w' := by
  refine (plus_call _ c s.size f w (mat_C h).1 (by omega)).mono ?_
  rintro e w' ⟨v, rfl, h1, h2⟩
  obtain ⟨m', c', rfl, -, -⟩ := mat_form h1 (by omega)
  exact ⟨m', c', rfl, Kd.S_lower h1 hb.size, hb.trans (h2.mono hb.size)⟩
theorem or_mr (s : ByteArray) (hs : s.size ≤ 200) (w0 w1 w : World) (m c m2 c2 : Nat) (f g : Nat → Nat → Bool) (h : MS w w0.heap.size (.slice (some ⟨m, 0, none⟩) (s.size + 1) c) (s.size + 1) f) (h2 : MS w w1.heap.size (.slice (some ⟨m2, 0, none⟩) (s.size + 1) c2) (s.size + 1) g) (hb : Below w0.heap.size w0 w) :
    Calls Try.prog 31 #[.slice (some ⟨m, 0, none⟩) (s.size + 1) c, .slice (some ⟨m2, 0, none⟩) (s.size + 1) c2] w fun e w' => ∃ m' c', e = .returned (.slice (some ⟨m', 0, none⟩) (s.size + 1) c') ∧ MS w' w0.heap.size (.slice (some ⟨m', 0, none⟩) (s.size + 1) c') (s.size + 1) (orF f g) ∧ Below w0.heap.size w0 w' := by
  refine (or_call _ _ c c2 s.size f g w (mat_C h).1 (mat_C h2).1 (by omega)).mono ?_
  rintro e w' ⟨v, rfl, h1, h2⟩
  obtain ⟨m', c', rfl, -, -⟩ := mat_form h1 (by omega)
  exact ⟨m', c', rfl, Kd.S_lower h1 hb.size, hb.trans (h2.mono hb.size)⟩
theorem mres_form {w w' : World} {s : ByteArray} {e : Ending} {R : Nat → Nat → Prop} (h : MRes w w' s e R) : ∃ m c f, e = .returned (.slice (some ⟨m, 0, none⟩) (s.size + 1) c) ∧ MS w' w.heap.size (.slice (some ⟨m, 0, none⟩) (s.size + 1) c) (s.size + 1) f ∧ Mat s.size f R ∧ Below w.heap.size w w' := by
  obtain ⟨v, f, rfl, h1, h2, h3⟩ := h
  obtain ⟨m', c', rfl, -, -⟩ := mat_form h1 (by omega)
  exact ⟨m', c', f, rfl, h1, h2, h3⟩
set_option maxHeartbeats 4000000 in
set_option maxRecDepth 100000 in
theorem seq_nil (q s : ByteArray) (hs : s.size ≤ 200) (h0 : q.size = 0) (w : World) : Calls Try.prog 32 #[.string q, .string s] w fun e w' => MRes w w' s e (MxS s.size (bs s) []) := by
  have hq : q = ⟨#[]⟩ := by
    cases q with | mk a => cases a with | mk l => cases l with
      | nil => rfl
      | cons => simp [ByteArray.size] at h0
  subst hq
  go_enter Try.func32, Try.ntmps32
  go_wp2_with fail
  refine (empty_call s.size (by omega) w).mono ?_
  rintro ex W1 ⟨v, rfl, h1, h3⟩
  have HF := Aside0.mk (ms_mr h1 (mat_iff (mat_empty s.size) fun i j _ _ => by conv => rhs; unfold MxS) h3)
  clear h1 h3
  go_wp2_with fail
  go_ret
  exact HF.out
set_option maxHeartbeats 4000000 in
set_option maxRecDepth 100000 in
theorem seq_cons (q s : ByteArray) (hq : q.size ≤ 200) (hs : s.size ≤ 200) (h0 : 0 < q.size) (hA : ∀ j : Nat, 0 < j → j ≤ q.size → AtomQ (q.extract 0 j) s) (hS : ∀ j : Nat, 0 < j → j ≤ q.size → SeqQ (q.extract j q.size) s) : SeqQ q s := by
  intro xs w hp
  obtain ⟨j1, j2, x, y, ys, k, h1, h2, h3, rfl, hx, hend, hops, hys⟩ := ps_cons hp h0 hq
  obtain ⟨Ke, hKe⟩ := hend
  have HE := Aside0.mk (spec_l4AtomEnd.calls Ke q 0 (j1 : Int) w (hKe Ke (Nat.le_refl _)))
  have HA := Aside0.mk (fun W => hA j1 h1 (by omega) x W hx)
  have HS := Aside0.mk (fun W => hS j2 (by omega) h3 ys W hys)
  have HO := Aside0.mk hops
  have HN := Aside0.mk (And.intro h1 (And.intro h2 h3))
  have de : (q.toList.isEmpty) = false := by
    rw [ByteArray.toList_eq]
    cases q with | mk a => cases a with | mk l => cases l with
      | nil => simp [ByteArray.size] at h0
      | cons => rfl
  clear hKe hx hops hys hA hS hp h1 h2
  have k1 : j1 ≤ q.size := by have := HN.out; omega
  have i1 : ((j1 : Int) ≤ (q.size : Int)) = True := eq_true (by omega)
  have i2 : ((0 : Int) ≤ (j1 : Int)) = True := eq_true (by omega)
  go_enter Try.func32, Try.ntmps32
  go_wp2_with fail
  refine HE.out.mono ?_
  rintro ex W1 ⟨rfl, hb1⟩
  have B1 := Aside0.mk hb1
  clear hb1 HE
  go_wp2_with fail
  refine (HA.out W1).mono ?_
  rintro ex W2 hm
  obtain ⟨m, c, f, rfl, hM, hF, hb2⟩ := mres_form hm
  have HM := Aside0.mk (And.intro (show MS W2 w.heap.size _ _ _ from Kd.S_lower hM B1.out.size) hF)
  have HB := Aside0.mk (B1.out.trans (hb2.mono B1.out.size))
  clear hm hM hF hb2 HA B1
  go_wp2_with fail
  go_loopw [5, 6] (fun v5 v6 W => ∃ (j : Nat) (u : Rx) (m c k' : Nat) (f : Nat → Nat → Bool), 0 < j ∧ j ≤ q.size ∧ v5 = .int .i64 j ∧ v6 = .slice (some ⟨m, 0, none⟩) (s.size + 1) c ∧ Aside0 (opsF k' q j u = some (y, (j2 : Int))) ∧ Aside0 (MS W w.heap.size (.slice (some ⟨m, 0, none⟩) (s.size + 1) c) (s.size + 1) f ∧ Mat s.size f (Mx s.size (bs s) u)) ∧ Aside0 (Below w.heap.size w W)) (fun v5 _ _ => q.size - (intOf v5).toNat)
  case atStart => exact ⟨j1, x, m, c, k, f, by have := HN.out; omega, by omega, rfl, rfl, HO, HM, HB⟩
  case round =>
    clear HO HM HB k1 i1 i2
    obtain ⟨j, u, m, c, k', f, hj0, hj, rfl, rfl, HO, HM, HB⟩ := hrel
    have ho := HO.out
    cases k' with
    | zero => cases ho
    | succ k' =>
    simp only [opsF] at ho
    have hwj : IntKind.i64.wrap ((j : Int) + 1) = ((j + 1 : Nat) : Int) := by rw [IntKind.wrap_i64]; omega
    have hxi := bt_at q (j : Int)
    have hxj : ∀ h : j < q.size, ((q[j]'h).toNat : Int) = bt q (j : Int) := fun h => bt_at q (j : Int) h
    by_cases hc : (j : Int) < q.size ∧ isOp (bt q j) = true
    · rw [if_pos hc] at ho
      have HO2 := Aside0.mk ho
      obtain ⟨hlt, hop⟩ := hc
      have hlt2 : j < q.size := by omega
      have dl : decide ((j : Int) < (q.size : Int)) = true := decide_eq_true hlt
      have i3 : ((j : Int) < (q.size : Int)) = True := eq_true hlt
      have i4 : ((0 : Int) ≤ (j : Int)) = True := eq_true (by omega)
      have hcs : bt q j = 42 ∨ bt q j = 43 ∨ bt q j = 63 := by
        unfold isOp at hop
        simp only [Bool.or_eq_true, beq_iff_eq] at hop
        exact hop
      clear ho HO
      go_wp2_with fail
      refine (op_call (bt q j) _).mono ?_
      rintro ex W3 ⟨rfl, ⟨nn, rfl⟩⟩
      have HM3 := Aside0.mk (And.intro (show MS (wr.drewN nn) w.heap.size _ _ _ from Kd.S_drewN HM.out.1 nn) HM.out.2)
      have HB3 := Aside0.mk (pw_below_drewN HB.out nn)
      generalize wr.drewN nn = W3 at *
      generalize bt q (j : Int) = ch at *
      clear HM HB
      rcases hcs with rfl | rfl | rfl
      · go_wp2_with fail
        refine (plus_mr s hs w W3 _ _ f HM3.out.1 HB3.out).mono ?_
        rintro ex W4 ⟨m4, c4, rfl, hM, hB⟩
        have HM4 := Aside0.mk hM
        have HB4 := Aside0.mk hB
        clear hM hB
        go_wp2_with fail
        refine (empty_call s.size (by omega) W4).mono ?_
        rintro ex W5 ⟨ve, rfl, hE, hB⟩
        obtain ⟨me, ce, rfl, -, -⟩ := mat_form hE (by omega)
        have HME := Aside0.mk (And.intro hE (And.intro (show MS W5 w.heap.size _ _ _ from Kd.S_below HM4.out hB) (HB4.out.trans (hB.mono HB4.out.size))))
        clear hE hB
        go_wp2_with fail
        refine (or_mr s hs w W4 W5 _ _ _ _ _ _ HME.out.2.1 HME.out.1 HME.out.2.2).mono ?_
        rintro ex W6 ⟨m6, c6, rfl, hM, hB⟩
        have HM6 := Aside0.mk hM
        have HB6 := Aside0.mk hB
        clear hM hB
        go_wp2_with fail
        go_roundw
        case measure => simp only [intOf]; omega
        case rel => exact ⟨j + 1, _, _, _, k', _, by omega, by omega, by rw [Int.natCast_add]; rfl, rfl, HO2, ⟨HM6.out, ((mat_rep HM3.out.2).2 _ (mat_empty s.size)).2⟩, HB6⟩
      · go_wp2_with fail
        refine (plus_mr s hs w W3 _ _ f HM3.out.1 HB3.out).mono ?_
        rintro ex W4 ⟨m4, c4, rfl, hM, hB⟩
        have HM4 := Aside0.mk hM
        have HB4 := Aside0.mk hB
        clear hM hB
        go_wp2_with fail
        go_roundw
        case measure => simp only [intOf]; omega
        case rel => exact ⟨j + 1, _, _, _, k', _, by omega, by omega, by rw [Int.natCast_add]; rfl, rfl, HO2, ⟨HM4.out, (mat_rep HM3.out.2).1⟩, HB4⟩
      · go_wp2_with fail
        refine (empty_call s.size (by omega) W3).mono ?_
        rintro ex W5 ⟨ve, rfl, hE, hB⟩
        obtain ⟨me, ce, rfl, -, -⟩ := mat_form hE (by omega)
        have HME := Aside0.mk (And.intro hE (And.intro (show MS W5 w.heap.size _ _ _ from Kd.S_below HM3.out.1 hB) (HB3.out.trans (hB.mono HB3.out.size))))
        clear hE hB
        go_wp2_with fail
        refine (or_mr s hs w W3 W5 _ _ _ _ f _ HME.out.2.1 HME.out.1 HME.out.2.2).mono ?_
        rintro ex W6 ⟨m6, c6, rfl, hM, hB⟩
        have HM6 := Aside0.mk hM
        have HB6 := Aside0.mk hB
        clear hM hB
        go_wp2_with fail
        go_roundw
        case measure => simp only [intOf]; omega
        case rel => exact ⟨j + 1, _, _, _, k', _, by omega, by omega, by rw [Int.natCast_add]; rfl, rfl, HO2, ⟨HM6.out, ((mat_rep HM3.out.2).2 _ (mat_empty s.size)).1⟩, HB6⟩
    · rw [if_neg hc] at ho
      obtain ⟨rfl, e2⟩ : u = y ∧ (j : Int) = j2 := by
        injection ho with ho
        injection ho with h1 h2
        exact ⟨h1, h2⟩
      obtain rfl : j = j2 := by omega
      have i3 : ((j : Int) ≤ (q.size : Int)) = True := eq_true (by omega)
      have i4 : ((0 : Int) ≤ (j : Int)) = True := eq_true (by omega)
      clear ho e2 HO
      by_cases hlt : j < q.size
      case' pos =>
        have hop : isOp (bt q j) = false := by simpa using fun e => hc ⟨by omega, e⟩
        have dl : decide ((j : Int) < (q.size : Int)) = true := decide_eq_true (by omega)
        have i5 : ((j : Int) < (q.size : Int)) = True := eq_true (by omega)
        clear hc
        go_wp2_with fail
        refine (op_call (bt q j) _).mono ?_
        rintro ex W3 ⟨rfl, ⟨nn, rfl⟩⟩
        have HM3 := Aside0.mk (And.intro (show MS (wr.drewN nn) w.heap.size _ _ _ from Kd.S_drewN HM.out.1 nn) HM.out.2)
        have HB3 := Aside0.mk (pw_below_drewN HB.out nn)
        generalize wr.drewN nn = W3 at *
      case' neg =>
        have dl : decide ((j : Int) < (q.size : Int)) = false := decide_eq_false (by omega)
        have HM3 := HM
        have HB3 := HB
        obtain ⟨W3, hW3⟩ : ∃ W3, W3 = wr := ⟨_, rfl⟩
        subst hW3
        clear hc
      all_goals
        clear HM HB
        go_wp2_with fail
        refine (HS.out W3).mono ?_
        rintro ex W4 hm
        obtain ⟨m4, c4, f4, rfl, hM, hF, hb4⟩ := mres_form hm
        have HM4 := Aside0.mk (And.intro hM hF)
        have HB4 := Aside0.mk hb4
        clear hm hM hF hb4
        go_wp2_with fail
        have hfin := (mat_C (show MS W4 w.heap.size _ _ _ from Kd.S_below HM3.out.1 HB4.out)).1
        refine (then_call _ _ c c4 s.size f f4 W4 hfin (mat_C HM4.out.1).1 (by omega)).mono ?_
        rintro ex W5 ⟨v5, rfl, hM5, hB5⟩
        have HF := Aside0.mk (show MRes w W5 s (.returned v5) (MxS s.size (bs s) (u :: ys)) from by
          refine ms_mr (Kd.S_lower hM5 (Nat.le_trans HB3.out.size HB4.out.size)) (mat_iff (mat_then HM3.out.2 HM4.out.2 (rise_mx _ _ _) (rise_mxs _ _ _)) fun i j _ _ => ?_) (HB3.out.trans ((HB4.out.trans (hB5.mono HB4.out.size)).mono HB3.out.size))
          conv => rhs; unfold MxS)
        clear hfin hM5 hB5
        go_wp2_with fail
        go_ret
        exact HF.out
end Go.Proofs.Ytcdpmmpdfdillaa.Q

namespace Go.Proofs.Ytcdpmmpdfdillaa.Q
open Go.RowKit Go.Proofs.YtcdpmmpdfdillaaW.PrintWords Go.Proofs.YtcdpmmpdfdillaaW.PrintLast
set_option linter.unusedVariables false
set_option linter.unusedSimpArgs false
theorem mxa_snoc (n : Nat) (b : Nat → Int) (x : Rx) (i j : Nat) : ∀ xs : List Rx, MxA n b (xs ++ [x]) i j ↔ MxA n b xs i j ∨ Mx n b x i j
  | [] => by simp [MxA]
  | y :: ys => by
    rw [List.cons_append, MxA, MxA, mxa_snoc n b x i j ys, or_assoc]
set_option maxHeartbeats 4000000 in
set_option maxRecDepth 100000 in
theorem alt_main (q s : ByteArray) (hq : q.size ≤ 200) (hs : s.size ≤ 200) (hS : ∀ p : ByteArray, p.size ≤ q.size → SeqQ p s) : AltQ q s := by
  intro x w hp
  obtain ⟨K, o, ho, h⟩ := hp
  obtain ⟨pr, hx, hall, hev⟩ := parts_alt2 hq K 0 o [] _ h ho (Int.le_refl _) (by omega) rfl [] (Int.le_refl _)
  simp only [List.nil_append] at hx hev
  subst hx
  obtain ⟨Kp, hKp⟩ := hev
  have HP := Aside0.mk (fun W => spec_l4Parts.calls Kp q (pr.map (·.2)) W (show spec_l4Parts.f Kp q = some (pr.map (·.2)) from hKp Kp (Nat.le_refl _)))
  have HS : Aside0 (∀ (k : Nat) (z : Rx) (p : ByteArray), pr[k]? = some (z, p) → ∀ W : World, Calls Try.prog 32 #[.string p, .string s] W fun e w' => MRes W w' s e (Mx s.size (bs s) z)) := ⟨fun k z p hk W => by
    have hm := hall (z, p) (List.mem_of_getElem? hk)
    have hps := hm.1
    obtain ⟨K2, o2, ho2, h2⟩ := hm.1
    obtain ⟨ys, e, -⟩ := seqL_acc K2 _ _ _ _ h2
    simp only [List.nil_append] at e
    subst e
    refine (hS p hm.2 ys W hps).mono ?_
    rintro e w' ⟨v, f, h1, h2, h3, h4⟩
    exact ⟨v, f, h1, h2, mat_iff h3 fun i j _ _ => (by conv => rhs; unfold Mx), h4⟩⟩
  clear hKp hall hS h
  go_enter Try.func12, Try.ntmps12
  go_wp2_with fail
  refine (none_call s.size (by omega) w).mono ?_
  rintro ex W1 ⟨v1, rfl, h1, hb1⟩
  obtain ⟨m, c, rfl, -, -⟩ := mat_form h1 (by omega)
  have H1 := Aside0.mk (And.intro h1 hb1)
  clear h1 hb1
  go_wp2_with fail
  refine (HP.out W1).mono ?_
  rintro ex W2 ⟨v2, rfl, h2, hb2⟩
  obtain ⟨A, cp, rfl⟩ := Kd.R_slice h2
  have hC := (Kd.R_reads' h2).2.2
  have hmax : pr.length ≤ maxLen := by
    obtain ⟨inner, ho⟩ := Kd.R_own h2
    rcases ho.2 with ⟨hv, h0⟩ | ⟨g', cap', cur, hv, hb, hh, hle, hcm, -⟩
    · injection hv with _ e _
      rw [List.length_map] at e
      omega
    · simp at hle; omega
  have HC := Aside0.mk hC
  have HM := Aside0.mk (And.intro (show MS W2 w.heap.size _ _ _ from Kd.S_below H1.out.1 hb2) (show Mat s.size (fun _ _ => false) (MxA s.size (bs s) ((pr.take 0).map (·.1))) from mat_iff (mat_none s.size) fun i j _ _ => by simp [MxA]))
  have HB := Aside0.mk (H1.out.2.trans (hb2.mono H1.out.2.size))
  have HX := Aside0.mk hmax
  clear h2 hC hb2 HP H1 hmax
  have hlen : (pr.map (·.2)).length = pr.length := List.length_map _
  rw [hlen]
  rw [hlen] at HC
  clear hlen
  go_wp2_with fail
  go_loopw [5, 7] (fun v5 v7 W => ∃ (k m c : Nat) (f : Nat → Nat → Bool), k ≤ pr.length ∧ v7 = .int .i64 k ∧ v5 = .slice (some ⟨m, 0, none⟩) (s.size + 1) c ∧ Aside0 (MS W w.heap.size (.slice (some ⟨m, 0, none⟩) (s.size + 1) c) (s.size + 1) f ∧ Mat s.size f (MxA s.size (bs s) ((pr.take k).map (·.1)))) ∧ Aside0 (Below w.heap.size w W) ∧ Aside0 (Below W2.heap.size W2 W)) (fun _ v7 _ => pr.length - (intOf v7).toNat)
  case atStart => exact ⟨0, m, c, _, by omega, rfl, rfl, HM, HB, ⟨Below.refl _ _⟩⟩
  case round =>
    clear HM HB
    obtain ⟨k, m, c, f, hk, rfl, rfl, HM, HB, HW⟩ := hrel
    by_cases hlt : k < pr.length
    · have dl : decide ((k : Int) < (pr.length : Int)) = true := decide_eq_true (by omega)
      have i3 : ((k : Int) < (pr.length : Int)) = True := eq_true (by omega)
      have i4 : ((0 : Int) ≤ (k : Int)) = True := eq_true (by omega)
      have hwk : IntKind.i64.wrap ((k : Int) + 1) = ((k + 1 : Nat) : Int) := by have := HX.out; simp only [maxLen] at this; rw [IntKind.wrap_i64]; omega
      obtain ⟨ad, rfl, hx⟩ := Kd.at_string HC.out (k : Int) (by omega) (by omega)
      obtain ⟨z, hz⟩ : ∃ z, pr[k]? = some z := ⟨pr[k], List.getElem?_eq_getElem hlt⟩
      obtain ⟨z, p⟩ := z
      rw [Int.toNat_natCast, show rdOf ByteArray.empty (pr.map (·.2)) (k : Int) = p from by unfold rdOf; rw [Int.toNat_natCast, List.getD_eq_getElem?_getD, List.getElem?_map, hz]; rfl] at hx
      have kW : K0 (Below W2.heap.size W2 wr) := ⟨HW.out⟩
      have hx := clk hx
      have HSk := Aside0.mk (HS.out k z p hz)
      have HZ := Aside0.mk (show (pr.take (k + 1)).map (·.1) = (pr.take k).map (·.1) ++ [z] from by rw [List.take_add_one, hz, List.map_append]; rfl)
      clear hz
      go_wp2_with fail
      refine (HSk.out wr).mono ?_
      rintro ex W3 hm
      obtain ⟨m3, c3, f3, rfl, hM, hF, hb3⟩ := mres_form hm
      have HM3 := Aside0.mk (And.intro hM hF)
      have HB3 := Aside0.mk hb3
      clear hm hM hF hb3 hx kW
      go_wp2_with fail
      refine (or_call _ _ c c3 s.size f f3 W3 (mat_C (show MS W3 w.heap.size _ _ _ from Kd.S_below HM.out.1 HB3.out)).1 (mat_C HM3.out.1).1 (by omega)).mono ?_
      rintro ex W4 ⟨v4, rfl, hM, hB⟩
      obtain ⟨m4, c4, rfl, -, -⟩ := mat_form hM (by omega)
      have hB3 := HB.out.trans (HB3.out.mono HB.out.size)
      have hB := And.intro (hB3.trans (hB.mono hB3.size)) (HW.out.trans ((HB3.out.trans (hB.mono HB3.out.size)).mono HW.out.size))
      have hM := Kd.S_lower hM hB3.size
      have HM4 := Aside0.mk hM
      clear hB3
      have HB4 := Aside0.mk hB
      clear hM hB
      go_wp2_with fail
      go_roundw
      case measure => simp only [intOf]; omega
      case rel => exact ⟨k + 1, _, _, _, by omega, by rw [Int.natCast_add]; rfl, rfl, ⟨HM4.out, mat_iff (mat_or HM.out.2 HM3.out.2 (rise_mxa _ _ _) (rise_mx _ _ _)) fun i j _ _ => by rw [HZ.out, mxa_snoc]⟩, ⟨HB4.out.1⟩, ⟨HB4.out.2⟩⟩
    · have dl : decide ((k : Int) < (pr.length : Int)) = false := decide_eq_false (by omega)
      go_wp2_with fail
      go_ret
      refine ms_mr HM.out.1 (mat_iff HM.out.2 fun i j _ _ => ?_) HB.out
      rw [List.take_of_length_le (by omega)]
      conv => rhs; unfold Mx
theorem rel_all (s : ByteArray) (hs : s.size ≤ 200) : ∀ (n : Nat), n ≤ 200 → ∀ q : ByteArray, q.size ≤ n → AtomQ q s ∧ SeqQ q s ∧ AltQ q s := by
  intro n
  induction n with
  | zero =>
    intro _ q hq
    have h0 : q.size = 0 := by omega
    have hS : ∀ p : ByteArray, p.size ≤ q.size → SeqQ p s := fun p hp xs w h => by
      have := ps_nil h (by omega)
      subst this
      exact seq_nil p s hs (by omega) w
    exact ⟨fun x w h => absurd h.1 (by omega), hS q (Nat.le_refl _), alt_main q s (by omega) hs hS⟩
  | succ n ih =>
    intro hn
    have hA : ∀ q : ByteArray, q.size ≤ n + 1 → AtomQ q s := fun q hq x w h => by
      rcases atom_form h (by omega) with ⟨h1, h2, h3⟩ | ⟨h1, st, b, pl, rfl, h2⟩
      · exact atom_par q s (by omega) hs x w h1 h2 ((ih (by omega) _ (by rw [ByteArray.size_extract]; omega)).2.2 x w h3)
      · refine (atom_one q s (by omega) hs st w h.1 h1 h2).mono ?_
        rintro e w' ⟨v, f, e1, e2, e3, e4⟩
        exact ⟨v, f, e1, e2, mat_iff e3 fun i j _ _ => (by conv => rhs; unfold Mx), e4⟩
    have hS : ∀ q : ByteArray, q.size ≤ n + 1 → SeqQ q s := fun q hq => by
      by_cases h0 : q.size = 0
      · intro xs w h
        have := ps_nil h h0
        subst this
        exact seq_nil q s hs h0 w
      · exact seq_cons q s (by omega) hs (by omega) (fun j h1 h2 => hA _ (by rw [ByteArray.size_extract]; omega)) (fun j h1 h2 => (ih (by omega) _ (by rw [ByteArray.size_extract]; omega)).2.1)
    exact fun q hq => ⟨hA q hq, hS q hq, alt_main q s (by omega) hs fun p hp => hS p (by omega)⟩
open Classical in
/-- Whether the whole of s is matched. -/
noncomputable def mtchB (q : Except (Int × Int) Rx) (s : ByteArray) : Bool := match q with | .error _ => false | .ok x => decide (s.size ≤ 200 ∧ Mx s.size (bs s) x 0 s.size)
open Classical in
theorem mtch_ok (x : Rx) (s : ByteArray) : mtchB (.ok x) s = true ↔ s.size ≤ 200 ∧ Mx s.size (bs s) x 0 s.size := by
  unfold mtchB
  exact decide_eq_true_iff
end Go.Proofs.Ytcdpmmpdfdillaa.Q

namespace Go.Proofs.Ytcdpmmpdfdillaa.Q
open Go.RowKit Go.Proofs.YtcdpmmpdfdillaaW.PrintWords Go.Proofs.YtcdpmmpdfdillaaW.PrintLast
set_option linter.unusedVariables false
set_option linter.unusedSimpArgs false
theorem patR_cases {k : Nat} {p : ByteArray} {r : Except (Int × Int) Rx} (h : patR k p = some r) : (∃ c a, r = .error (c, a) ∧ c ≠ 0) ∨ (∃ x, r = .ok x ∧ p.size ≤ 200 ∧ PA x p) := by
  rcases r with ⟨c, a⟩ | x
  · exact .inl ⟨c, a, rfl, patR_err h⟩
  · unfold patR at h
    split at h
    · cases h
    · rename_i hp
      unfold patF at h
      obtain ⟨z, hz, h⟩ := obind_ok h
      have hb := (par_ok k).1 _ _ _ _ _ hz (Int.le_refl _) (by omega)
      split at h
      · cases h
      · cases h
        refine .inr ⟨_, rfl, by omega, k, 0, by omega, ?_⟩
        rw [hz]
        congr 2
        exact Prod.ext rfl (by show z.2 = _; omega)
theorem run_fdRes (c a : Int) (w : World) : (Instr.field 30 (.agg #[.int .i64 c, .int .i64 a]) 0).run Try.prog w = .ok (.int .i64 c) w := by kernel_rfl
set_option maxHeartbeats 4000000 in
set_option maxRecDepth 100000 in
theorem match_spec (p s : ByteArray) (k : Nat) (q : Except (Int × Int) Rx) (h : patR k p = some q) (w : World) :
    Calls Try.prog 5 #[.string p, .string s] w fun e w' => e = .returned (.bool (mtchB q s)) ∧ Below w.heap.size w w' := by
  obtain ⟨q', hq', hs⟩ := check_spec p
  have e0 := Ev.same hq' (Ev.of (leo_patR · p) h)
  subst e0
  obtain ⟨K, hK⟩ := hs
  have hfd := run_fdRes
  rcases patR_cases h with ⟨c, a, rfl, hc⟩ | ⟨x, rfl, hp, hx⟩
  · have HC := Aside0.mk (spec_CheckRegex.calls K p c a w (hK K (Nat.le_refl _)))
    have dc : (c == 0) = false := beq_eq_false_iff_ne.2 hc
    clear hK h hq' hc
    go_enter Try.func5, Try.ntmps5
    go_wp2_with fail
    refine HC.out.mono ?_
    rintro ex W1 ⟨rfl, hb⟩
    have HB := Aside0.mk hb
    clear hb HC
    go_wp2_with fail
    go_ret
    exact ⟨rfl, HB.out⟩
  · have HC := Aside0.mk (spec_CheckRegex.calls K p 0 0 w (hK K (Nat.le_refl _)))
    clear hK h hq'
    by_cases hs : s.size ≤ 200
    · have dl : decide ((s.size : Int) ≤ 200) = true := decide_eq_true (by omega)
      have dl2 : decide (s.size ≤ 200) = true := decide_eq_true hs
      have HA := Aside0.mk ((rel_all s hs 200 (Nat.le_refl _) p hp).2.2 x)
      have HX := Aside0.mk hx
      clear hx
      go_enter Try.func5, Try.ntmps5
      go_wp2_with fail
      refine HC.out.mono ?_
      rintro ex W1 ⟨rfl, hb⟩
      have HB := Aside0.mk hb
      clear hb HC
      go_wp2_with fail
      refine (HA.out W1 HX.out).mono ?_
      rintro ex W2 hm
      obtain ⟨m, c, f, rfl, hM, hF, hb2⟩ := mres_form hm
      obtain ⟨r, cr, -, -, y1, y2, -, -, -⟩ := mat_put (i := 0) (j := s.size) hM (by omega) (by omega)
      have HB2 := Aside0.mk (HB.out.trans (hb2.mono HB.out.size))
      have he : f 0 s.size = mtchB (.ok x) s := Bool.eq_iff_iff.2 ((hF 0 s.size (by omega) (Nat.le_refl _)).trans ⟨fun e => (mtch_ok x s).2 ⟨hs, e⟩, fun e => ((mtch_ok x s).1 e).2⟩)
      rw [he] at y2
      have i1 : ((s.size : Int) < ((s.size + 1 : Nat) : Int)) = True := eq_true (by omega)
      have i2 : ((0 : Int) ≤ (s.size : Int)) = True := eq_true (by omega)
      have i3 : ((0 : Int) < ((s.size + 1 : Nat) : Int)) = True := eq_true (by omega)
      clear hm hM hF hb2 he HB HA
      go_wp2_with fail
      go_ret
      exact ⟨rfl, HB2.out⟩
    · have dl : decide ((s.size : Int) ≤ 200) = false := decide_eq_false (by omega)
      have dl2 : decide (s.size ≤ 200) = false := decide_eq_false hs
      have he : mtchB (.ok x) s = false := by
        cases h : mtchB (.ok x) s with
        | false => rfl
        | true => exact absurd ((mtch_ok x s).1 h).1 hs
      go_enter Try.func5, Try.ntmps5
      go_wp2_with fail
      refine HC.out.mono ?_
      rintro ex W1 ⟨rfl, hb⟩
      have HB := Aside0.mk hb
      clear hb HC
      go_wp2_with fail
      go_ret
      rw [he]
      exact ⟨rfl, HB.out⟩
end Go.Proofs.Ytcdpmmpdfdillaa.Q

namespace Go.Proofs.Ytcdpmmpdfdillaa.Q
open Go.RowKit Go.Proofs.YtcdpmmpdfdillaaW.PrintWords Go.Proofs.YtcdpmmpdfdillaaW.PrintLast
set_option linter.unusedVariables false
set_option linter.unusedSimpArgs false
theorem zeroFault (w : World) : (zeroValue 39).run Try.prog w = .ok (.agg #[.int .i64 0, .int .i64 0]) w := by kernel_rfl
theorem zeroMach (w : World) : (zeroValue 45).run Try.prog w = .ok (.agg #[.slice none 0 0, .slice none 0 0]) w := by kernel_rfl
/-- 256 cells, all false. -/
def zset : Array Value := (List.replicate 256 (Value.bool false)).toArray
theorem zero49 (w : World) : (zeroValue 49).run Try.prog w = .ok (.agg zset) w := by kernel_rfl
theorem zset_at (c : Nat) (hc : c < 256) : zset[c]? = some (.bool (noS.getD c false)) := by
  unfold zset noS
  rw [List.getElem?_toArray, List.getElem?_replicate, if_pos hc, List.getD_eq_getElem?_getD, List.getElem?_replicate, if_pos hc]
  rfl
attribute [irreducible] zset
attribute [local go_sem high] zeroFault zeroMach zero49
theorem infoBool : (Try.prog.info? 4).map (fun i => (i.zero, i.size, i.bytes)) = some (some (.bool false), 1, 1) := by kernel_rfl
theorem und33 : Try.prog.underlying 33 = some (.slice 4) := by kernel_rfl
theorem made_eq (n : Nat) : madeCells #[Value.bool false] n = ((List.replicate n false).map Value.bool).toArray := by
  unfold madeCells
  apply Array.ext
  · simp
  · intro i h1 h2
    simp [Nat.mod_one]
/-- A new row of marks. -/
def newB (w : World) (n : Nat) : World := w.alloc (.cells ((List.replicate n false).map Value.bool).toArray 4)
theorem make_bools (n : Nat) (h : n ≤ 100000) (w : World) :
    (Instr.makeSlice 33 (.int .i64 (n : Int)) (.int .i64 (n : Int))).run Try.prog w = .ok (.slice (some ⟨w.heap.size, 0, none⟩) n n) (newB w n) := by
  unfold newB
  rw [← made_eq]
  exact run_make_row' 33 4 (.bool false) 1 und33 infoBool rfl .i64 .i64 n (by omega) (by omega) w
theorem newB_row (w : World) (n : Nat) : RowB (newB w n) w.heap.size (List.replicate n false) := heap_alloc_new w _
theorem newB_old {w : World} {n k : Nat} (h : k < w.heap.size) : (newB w n).heap[k]? = w.heap[k]? := heap_alloc_old w _ h
theorem newB_below {b w : World} {n : Nat} (h : Below b.heap.size b w) : Below b.heap.size b (newB w n) := below_alloc h _
theorem RepM.newB {w : World} {B gm : Nat} {P : Nat → Prop} {m : Sts} (h : RepM w B P gm m) (n : Nat) : RepM (newB w n) B P gm m := h.alloc _
theorem RepM.head {w : World} {B gm : Nat} {P : Nat → Prop} {m : Sts} (h : RepM w B P gm m) (hm : 0 < m.length) : ∃ a c, w.cell? ⟨gm, 0, none⟩ = some (.slice (some ⟨a, 0, none⟩) m.length c) := by
  obtain ⟨vs, vw, ss, ws, g1, -, g3, g4, -⟩ := h
  rcases g3.2 with ⟨_, h0⟩ | ⟨g, cap, cur, rfl, _⟩
  · omega
  · exact ⟨g, cap, (blk_cell g1 0).trans rfl⟩
theorem mach_pos (x : Rx) : 0 < (mach x).2.length := by
  have := (bld_ext x 0 [(some noS, [])]).1
  unfold mach
  simp at this
  omega
theorem RepM.nil {w : World} {B gm : Nat} (P : Nat → Prop) (h : w.heap[gm]? = some (.cells #[.slice none 0 0, .slice none 0 0] 45 (0, 0))) (hB : B ≤ gm) : RepM w B P gm [] :=
  ⟨_, _, [], [], h, hB, ⟨rfl, .inl ⟨rfl, rfl⟩⟩, ⟨rfl, .inl ⟨rfl, rfl⟩⟩, fun q o ls hq => by simp at hq⟩
/-- A state with a set but no way has an empty set. -/
def Wayed (m : Sts) : Prop := ∀ (q : Nat) (st : List Bool), m[q]? = some (some st, []) → ∀ c, st.getD c false = false
theorem wayed_snoc {m : Sts} {y : Option (List Bool) × List Nat} (h : Wayed m) (hy : ∀ st, y = (some st, []) → ∀ c, st.getD c false = false) : Wayed (m ++ [y]) := by
  intro q st hq
  rw [List.getElem?_append] at hq
  split at hq
  · exact h q st hq
  · have hq0 : q - m.length = 0 := by
      have := (List.getElem?_eq_some_iff.1 hq).1
      simpa using this
    rw [hq0] at hq
    injection hq with hq
    exact hy st hq
mutual
theorem bld_wayed : ∀ (x : Rx) (nx : Nat) (m : Sts), Wayed m → Wayed (bld x nx m).2
  | .one s _ _, nx, m, h => by unfold bld; exact wayed_snoc h (fun st e => by simp at e)
  | .seq xs, nx, m, h => by unfold bld; exact bldS_wayed xs nx m h
  | .alt xs, nx, m, h => by unfold bld; exact wayed_snoc (bldA_wayed xs nx m h) (fun st e => by simp at e)
  | .rep x op, nx, m, h => by
    unfold bld
    split
    · exact wayed_snoc (bld_wayed x nx m h) (fun st e => by simp at e)
    · have h1 := bld_wayed x m.length (m ++ [(none, [])]) (wayed_snoc h (fun st e => by simp at e))
      intro q st hq
      have hq : (List.set _ _ _)[q]? = some (some st, []) := hq
      by_cases e : m.length = q
      · subst e
        by_cases hl : m.length < (bld x m.length (m ++ [(none, [])])).2.length
        · rw [List.getElem?_set_self hl] at hq
          simp at hq
        · rw [List.getElem?_eq_none (by rw [List.length_set]; omega)] at hq
          cases hq
      · rw [List.getElem?_set_ne e] at hq
        exact h1 q st hq
theorem bldS_wayed : ∀ (xs : List Rx) (nx : Nat) (m : Sts), Wayed m → Wayed (bldS xs nx m).2
  | [], nx, m, h => by unfold bldS; exact h
  | x :: xs, nx, m, h => by unfold bldS; exact bld_wayed x _ _ (bldS_wayed xs nx m h)
theorem bldA_wayed : ∀ (xs : List Rx) (nx : Nat) (m : Sts), Wayed m → Wayed (bldA xs nx m).2
  | [], nx, m, h => by unfold bldA; exact h
  | x :: xs, nx, m, h => by unfold bldA; exact bldA_wayed xs nx _ (bld_wayed x nx m h)
end
theorem mach_wayed (x : Rx) : Wayed (mach x).2 := bld_wayed x 0 _ (fun q st hq c => by
  have h1 := (List.getElem?_eq_some_iff.1 hq).1
  simp at h1
  subst h1
  simp at hq
  subst hq
  unfold noS
  exact getD_rep 256 c)
set_option maxHeartbeats 4000000 in
set_option maxRecDepth 100000 in
theorem match_err (p s : ByteArray) (k : Nat) (c a : Int) (h : patR k p = some (.error (c, a))) (w : World) :
    Calls Try.prog 6 #[.string p, .string s] w fun e w' => e = .returned (.bool false) ∧ Below w.heap.size w w' := by
  have hc := patR_err h
  have HP := Aside0.mk (pattern_calls k p _ h w)
  have dc : (c != 0) = true := bne_iff_ne.2 hc
  clear h hc
  go_enter Try.func6, Try.ntmps6
  go_wp2_with fail
  refine HP.out.mono ?_
  rintro ex W1 ⟨v, rfl, hb⟩
  have kr : K0 (Below w.heap.size w W1) := ⟨hb⟩
  go_wp2_with fail
  go_ret
  exact ⟨rfl, kk⟩
set_option maxHeartbeats 4000000 in
set_option maxRecDepth 100000 in
theorem match_long (p s : ByteArray) (k : Nat) (x : Rx) (h : patR k p = some (.ok x)) (hs : 200 < s.size) (w : World) :
    Calls Try.prog 6 #[.string p, .string s] w fun e w' => e = .returned (.bool false) ∧ Below w.heap.size w w' := by
  have HP := Aside0.mk (pattern_calls k p _ h w)
  have dc : decide (200 < (s.size : Int)) = true := decide_eq_true (by omega)
  have dc2 : decide (200 < s.size) = true := decide_eq_true hs
  clear h
  go_enter Try.func6, Try.ntmps6
  go_wp2_with fail
  refine HP.out.mono ?_
  rintro ex W1 ⟨v, rfl, hx, hb⟩
  have kr : K0 (Below w.heap.size w W1) := ⟨hb⟩
  go_wp2_with fail
  go_ret
  exact ⟨rfl, kk⟩
set_option maxHeartbeats 4000000 in
set_option maxRecDepth 100000 in
theorem match_main (p s : ByteArray) (k : Nat) (x : Rx) (h : patR k p = some (.ok x)) (hs : s.size ≤ 200) (hcnt : cnt x ≤ 100000) (hlen : (mach x).2.length ≤ 100000) (w : World) :
    Calls Try.prog 6 #[.string p, .string s] w fun e w' => e = .returned (.bool (mtchB (.ok x) s)) ∧ Below w.heap.size w w' := by
  have HP := Aside0.mk (pattern_calls k p _ h w)
  have dc : decide (200 < (s.size : Int)) = false := decide_eq_false (by omega)
  have dc2 : decide (200 < s.size) = false := decide_eq_false (by omega)
  have HN := Aside0.mk (And.intro hcnt hlen)
  clear h hcnt hlen
  go_enter Try.func6, Try.ntmps6
  go_wp2_with fail
  refine HP.out.mono ?_
  rintro ex W1 ⟨v, rfl, hx, hb⟩
  have HX := Aside0.mk (And.intro hx hb)
  clear hx hb HP
  obtain ⟨wp, hwp⟩ : ∃ wp, wp = W1.alloc (.cells #[.int .i64 0, .int .i64 0] 39) := ⟨_, rfl⟩
  have hws : wp.heap.size = W1.heap.size + 1 := by rw [hwp, sz_al]
  have hxp : RepX wp (fun k => w.heap.size ≤ k) x v := RepX_move (fun k hk hl => ⟨hk, by rw [hwp]; exact heap_alloc_old _ _ hl⟩) _ _ HX.out.1
  have hbp : Below w.heap.size w wp := by rw [hwp]; exact below_alloc HX.out.2 _
  have HW := Aside0.mk (And.intro hwp (And.intro hws (And.intro hxp hbp)))
  clear hwp hws hxp hbp
  go_wp2_with fail
  rw [← HW.out.1, ← HW.out.2.1]
  have hg1 : ((wp.alloc (.cells #[.slice none 0 0, .slice none 0 0] 45)).alloc (.cells zset 49)).heap[wp.heap.size]? = some (.cells #[.slice none 0 0, .slice none 0 0] 45 (0, 0)) :=
    (heap_alloc_old _ _ (by rw [sz_al]; omega)).trans (heap_alloc_new wp _)
  have hset : SetP ((wp.alloc (.cells #[.slice none 0 0, .slice none 0 0] 45)).alloc (.cells zset 49)) wp.heap.size (some noS) (.pointer (some ⟨wp.heap.size + 1, 0, none⟩)) :=
    ⟨_, zset, _, rfl, by omega, .inr rfl, new1 wp _ _, zset_at⟩
  have hbe : Below wp.heap.size wp ((wp.alloc (.cells #[.slice none 0 0, .slice none 0 0] 45)).alloc (.cells zset 49)) := below_alloc (below_alloc (Below.refl _ _) _) _
  have hst := state_call wp _ (fun _ => True) wp.heap.size [] (some noS) [] _ (.slice none 0 0) hbe (RepM.nil _ hg1 (Nat.le_refl _)) hset (way_nil _ _) (fun _ _ => trivial) (by simp)
  have HS := Aside0.mk hst
  clear hg1 hset hbe hst
  refine HS.out.mono ?_
  rintro ex W3 ⟨rfl, h1, h2, -⟩
  have HC := Aside0.mk (build_all x wp W3 (fun _ => True) _ wp.heap.size 0 _ v h2 HW.out.2.2.1 h1 HN.out.2 HN.out.1)
  clear h1 h2 HS
  go_wp2_with fail
  refine HC.out.mono ?_
  rintro ex W4 ⟨rfl, h1, h2, -⟩
  have HR := Aside0.mk (And.intro (show RepM W4 wp.heap.size (fun _ => True) wp.heap.size (mach x).2 from h1.weak fun _ _ _ => trivial) (And.intro h2 (show (bld x 0 ([] ++ [(some noS, [])])).1 = (mach x).1 from rfl)))
  rw [HR.out.2.2]
  clear h1 h2 HC
  obtain ⟨m, hm⟩ : ∃ m, (mach x).2 = m := ⟨_, rfl⟩
  obtain ⟨st, hst⟩ : ∃ st, (mach x).1 = st := ⟨_, rfl⟩
  rw [hst]
  rw [hm] at HR
  have HMM := Aside0.mk (And.intro hm hst)
  clear hm hst
  have hm0 : 0 < m.length := by rw [← HMM.out.1]; exact mach_pos x
  have hm1 : m.length ≤ 100000 := by rw [← HMM.out.1]; exact HN.out.2
  obtain ⟨a, ca, y0⟩ := HR.out.1.head hm0
  have hmk := make_bools m.length hm1
  have hg : Good m ∧ st < m.length := by
    have hg0 : Good [(some noS, ([] : List Nat))] := fun q o ls w' h hw' => by
      have hq := (List.getElem?_eq_some_iff.1 h).1
      simp at hq
      subst hq
      simp at h
      obtain ⟨-, rfl⟩ := h
      simp at hw'
    rw [← HMM.out.1, ← HMM.out.2]
    exact bld_good x 0 [(some noS, [])] hg0 (by simp)
  have HG := Aside0.mk hg
  have HRA := Aside0.mk (reach_all m hg.1 hm1 (m.length + 1))
  have HM0 := Aside0.mk (And.intro hm0 hm1)
  clear hg hm0 hm1
  go_wp2_with fail
  refine (HRA.out (newB W4 m.length) wp.heap.size wp.heap.size W4.heap.size _ st _ (List.replicate m.length false) (HR.out.1.newB _) (newB_row _ _) (by simp) HG.out.2 (by rw [unm_rep]; omega)).mono ?_
  rintro ex W5 ⟨rfl, h1, h2⟩
  have hb5 : Below wp.heap.size wp W5 := by
    have hb := newB_below (n := m.length) HR.out.2.1
    have hs4 := HR.out.2.1.size
    exact ⟨h2.1.trans hb.os, h2.2.1.trans hb.tape, h2.2.2.1.trans hb.output, Nat.le_trans hb.size h2.2.2.2.1, fun k hk => (h2.2.2.2.2 k (by have := hb.size; omega) (by omega)).trans (hb.block k hk)⟩
  have H5 := Aside0.mk (And.intro (show RowB W5 W4.heap.size (simN m (m.length + 1) (bs s) st 0) from h1) (And.intro ((HR.out.1.newB m.length).only (newB_row _ _) h2) hb5))
  have HG4 := Aside0.mk HR.out.2.1.size
  clear h1 h2 hb5 y0
  go_wp2_with fail
  go_loopw [10, 43] (fun v10 v43 W' => ∃ (i g : Nat), i ≤ s.size ∧ v43 = .int .i64 i ∧ v10 = .slice (some ⟨g, 0, none⟩) m.length m.length ∧ Aside0 (RowB W' g (simN m (m.length + 1) (bs s) st i) ∧ RepM W' wp.heap.size (fun _ => True) wp.heap.size m ∧ Below wp.heap.size wp W')) (fun _ v43 _ => s.size - (intOf v43).toNat)
  case atStart => exact ⟨0, W4.heap.size, by omega, rfl, rfl, H5⟩
  case round =>
    clear H5
    obtain ⟨i, g, hi, rfl, rfl, H5⟩ := hrel
    by_cases hlt : i < s.size
    · have dl : decide ((i : Int) < (s.size : Int)) = true := decide_eq_true (by omega)
      have hwi : IntKind.i64.wrap ((i : Int) + 1) = ((i + 1 : Nat) : Int) := by rw [IntKind.wrap_i64]; omega
      obtain ⟨a, ca, y0⟩ := H5.out.2.1.head HM0.out.1
      go_wp2_with fail
      obtain ⟨now, hnow⟩ : ∃ now, simN m (m.length + 1) (bs s) st i = now := ⟨_, rfl⟩
      rw [hnow] at H5
      have hnl : now.length = m.length := by rw [← hnow]; exact (simN_is m HG.out.1 (m.length + 1) (by omega) (bs s) st HG.out.2 i).2.1
      have hgl := blk_lt H5.out.1
      obtain ⟨Wn, hWn⟩ : ∃ Wn, Wn = newB wr m.length := ⟨_, rfl⟩
      obtain ⟨g2, hg2⟩ : ∃ g2, g2 = wr.heap.size := ⟨_, rfl⟩
      rw [← hWn, ← hg2]
      have hrow : RowB Wn g2 (List.replicate m.length false) := by rw [hWn, hg2]; exact newB_row _ _
      have hnw : RowB Wn g now := by rw [hWn]; exact (newB_old hgl).trans H5.out.1
      have hrm : RepM Wn wp.heap.size (fun _ => True) wp.heap.size m := by rw [hWn]; exact H5.out.2.1.newB _
      have hbn : Below wp.heap.size wp Wn := by rw [hWn]; exact newB_below H5.out.2.2
      have hg12 : g ≠ g2 := by rw [hg2]; omega
      have hgB : wp.heap.size ≤ g2 := by rw [hg2]; exact H5.out.2.2.size
      have H6 := Aside0.mk (And.intro hnow (And.intro hnl (And.intro hg12 (And.intro hgB (And.intro hrow (And.intro hnw (And.intro hrm hbn)))))))
      have H7 : Aside0 (RowB Wn g2 (stepTo m (m.length + 1) now (bs s i).toNat 0 (List.replicate m.length false)) ∧ OnlyB g2 Wn Wn) := ⟨⟨hrow, OnlyB.refl _ _⟩⟩
      clear hnow hnl hgl hWn hg2 hrow hnw hrm hbn hg12 hgB y0 H5
      go_loopw [52] (fun v52 W' => ∃ q : Nat, q ≤ m.length ∧ v52 = .int .i64 q ∧ Aside0 (RowB W' g2 (stepTo m (m.length + 1) now (bs s i).toNat q (List.replicate m.length false)) ∧ OnlyB g2 Wn W')) (fun v52 _ => m.length - (intOf v52).toNat)
      case atStart => exact ⟨0, by omega, rfl, H7⟩
      case round =>
        clear H7
        obtain ⟨q, hq, rfl, H7⟩ := hrel
        by_cases hlq : q < m.length
        · have dq : decide ((q : Int) < (m.length : Int)) = true := decide_eq_true (by omega)
          have hwq : IntKind.i64.wrap ((q : Int) + 1) = ((q + 1 : Nat) : Int) := by have := HM0.out.2; rw [IntKind.wrap_i64]; omega
          have j1 : ((q : Int) < (m.length : Int)) = True := eq_true (by omega)
          have j2 : ((0 : Int) ≤ (q : Int)) = True := eq_true (by omega)
          have j3 : ((i : Int) < (s.size : Int)) = True := eq_true (by omega)
          have j4 : ((0 : Int) ≤ (i : Int)) = True := eq_true (by omega)
          have hM := H6.out.2.2.2.2.2.2.1.only H6.out.2.2.2.2.1 H7.out.2
          have hnr : RowB wr g now := (H7.out.2.2.2.2.2 g (blk_lt H6.out.2.2.2.2.2.1) H6.out.2.2.1).trans H6.out.2.2.2.2.2.1
          have x0 := hnr.at (s := q) (by rw [H6.out.2.1]; exact hlq)
          obtain ⟨o, ls, hmq⟩ : ∃ o ls, m[q]? = some (o, ls) := ⟨m[q].1, m[q].2, List.getElem?_eq_getElem hlq⟩
          obtain ⟨a, b, c1, d1, pv, u, y0, y1, y2, y3, hS, hWy⟩ := hM.get hmq
          have hstep : stepTo m (m.length + 1) now (bs s i).toNat (q + 1) (List.replicate m.length false) = (match m[q]? with
            | some (some st, w :: _) => if now.getD q false = true ∧ st.getD (bs s i).toNat false = true then rch m (m.length + 1) (stepTo m (m.length + 1) now (bs s i).toNat q (List.replicate m.length false)) w else stepTo m (m.length + 1) now (bs s i).toNat q (List.replicate m.length false)
            | _ => stepTo m (m.length + 1) now (bs s i).toNat q (List.replicate m.length false)) := rfl
          rw [hmq] at hstep
          obtain ⟨th, hth⟩ : ∃ th, stepTo m (m.length + 1) now (bs s i).toNat q (List.replicate m.length false) = th := ⟨_, rfl⟩
          have hsi := stepTo_is m HG.out.1 (m.length + 1) (by omega) now (bs s i).toNat q (List.replicate m.length false) (by simp) (closed_rep m _) (by rw [unm_rep]; exact Nat.le_refl _)
          rw [hth] at hstep hsi H7
          have HST := Aside0.mk (And.intro hstep (And.intro hsi.2.1 hsi.2.2.1))
          have HMq := Aside0.mk (And.intro hM hmq)
          have HWy := Aside0.mk hWy
          clear hM hnr hmq hWy hstep hth hsi
          obtain ⟨z, hz⟩ : ∃ z, now.getD q false = z := ⟨_, rfl⟩
          rw [hz] at x0 HST
          clear hz
          go_upto_region 16 with (fail)
          cases z with
          | false =>
            go_quiet (fail)
            go_wp2_with fail
            go_roundw
            case measure => simp only [intOf]; omega
            case rel => exact ⟨q + 1, by omega, by rw [Int.natCast_add]; rfl, ⟨by rw [HST.out.1]; cases o <;> cases ls <;> simp <;> exact H7.out.1, H7.out.2.trans ⟨rfl, rfl, rfl, Nat.le_refl _, fun _ _ _ => rfl⟩⟩⟩
          | true =>
            cases o with
            | none =>
              obtain rfl : pv = none := by injection hS
              go_quiet (fail)
              go_wp2_with fail
              go_roundw
              case measure => simp only [intOf]; omega
              case rel => exact ⟨q + 1, by omega, by rw [Int.natCast_add]; rfl, ⟨by rw [HST.out.1]; exact H7.out.1, H7.out.2.trans ⟨rfl, rfl, rfl, Nat.le_refl _, fun _ _ _ => rfl⟩⟩⟩
            | some st' =>
              obtain ⟨kb, cells, t, e, hkb, ht, hcells, hget⟩ := hS
              injection e with e
              subst e
              have hr := bt_range s (i : Int)
              obtain ⟨b8, hb8⟩ : ∃ b8 : Nat, bt s (i : Int) = (b8 : Int) := ⟨(bt s (i : Int)).toNat, by omega⟩
              have hxj : ∀ h : i < s.size, ((s[i]'h).toNat : Int) = bt s (i : Int) := fun h => bt_at s (i : Int) h
              have hb256 : b8 < 256 := by omega
              have hbs : (bs s i).toNat = b8 := by show (bt s (i : Int)).toNat = b8; rw [hb8]; rfl
              rw [hb8] at hxj
              rw [hbs] at HST
              have z0 : wr.cell? ⟨kb, b8, none⟩ = some (.bool (st'.getD b8 false)) := (blk_cell hcells b8).trans (hget b8 hb256)
              have k1 : ((b8 : Int) < 256) = True := eq_true (by omega)
              have k2 : ((0 : Int) ≤ (b8 : Int)) = True := eq_true (by omega)
              obtain ⟨bit, hbit⟩ : ∃ bit, st'.getD b8 false = bit := ⟨_, rfl⟩
              rw [hbit] at z0
              have HBI := Aside0.mk (And.intro hbit (And.intro hbs hb256))
              clear hr hb8 hbs hget hcells ht hkb hbit
              cases bit with
              | false =>
                have hst2 : stepTo m (m.length + 1) now b8 (q + 1) (List.replicate m.length false) = th := by
                  rw [HST.out.1]
                  cases ls with
                  | nil => rfl
                  | cons w0 rest =>
                    show (if true = true ∧ st'.getD b8 false = true then _ else _) = _
                    rw [if_neg (by rw [HBI.out.1]; simp)]
                have HS2 := Aside0.mk hst2
                clear hst2
                go_quiet (fail)
                go_wp2_with fail
                go_roundw
                case measure => simp only [intOf]; omega
                case rel => exact ⟨q + 1, by omega, by rw [Int.natCast_add]; rfl, ⟨by rw [HBI.out.2.1, HS2.out]; exact H7.out.1, H7.out.2.trans ⟨rfl, rfl, rfl, Nat.le_refl _, fun _ _ _ => rfl⟩⟩⟩
              | true =>
                cases ls with
                | nil => exact absurd (mach_wayed x q st' (by rw [HMM.out.1]; exact HMq.out.2) b8) (by rw [HBI.out.1]; decide)
                | cons w0 rest =>
                  have hw0 : w0 < m.length := HG.out.1 q (some st') (w0 :: rest) w0 HMq.out.2 (by simp)
                  have hst2 : stepTo m (m.length + 1) now b8 (q + 1) (List.replicate m.length false) = rch m (m.length + 1) th w0 := by
                    rw [HST.out.1]
                    show (if true = true ∧ st'.getD b8 false = true then _ else _) = _
                    rw [if_pos ⟨rfl, HBI.out.1⟩]
                  have HS2 := Aside0.mk (And.intro hw0 hst2)
                  obtain ⟨g3, c3, eA, hc⟩ := own_part HWy.out (show (ints (w0 :: rest))[0]? = some (.int .i64 (w0 : Int)) from rfl)
                  subst eA
                  have k3 : ((0 : Int) < ((w0 :: rest).length : Int)) = True := eq_true (by simp)
                  have k4 : 0 < (w0 :: rest).length := by simp
                  generalize (w0 :: rest).length = L at *
                  clear hw0 hst2
                  go_quiet (fail)
                  go_wp2_with fail
                  refine (HRA.out (wr.drewN _) wp.heap.size wp.heap.size g2 _ w0 _ th (HMq.out.1.moveB (w' := wr.drewN _) fun _ _ _ _ _ => rfl) (show RowB _ g2 th from H7.out.1) HST.out.2.1 HS2.out.1 (by have := HST.out.2.2; omega)).mono ?_
                  rintro ex W6 ⟨rfl, h1, h2⟩
                  have H8 := Aside0.mk (And.intro h1 ((H7.out.2.trans ⟨rfl, rfl, rfl, Nat.le_refl _, fun _ _ _ => rfl⟩).trans h2))
                  clear h1 h2
                  go_wp2_with fail
                  go_roundw
                  case measure => simp only [intOf]; omega
                  case rel => exact ⟨q + 1, by omega, by rw [Int.natCast_add]; rfl, ⟨by rw [HBI.out.2.1, HS2.out.2]; exact H8.out.1, H8.out.2⟩⟩
        · obtain rfl : q = m.length := by omega
          have dq : decide ((m.length : Int) < (m.length : Int)) = false := decide_eq_false (by omega)
          go_wp2_with fail
          go_roundw
          case measure => simp only [intOf]; omega
          case rel =>
            refine ⟨i + 1, g2, by omega, by rw [Int.natCast_add]; rfl, rfl, ⟨?_, H6.out.2.2.2.2.2.2.1.only H6.out.2.2.2.2.1 H7.out.2, ?_⟩⟩
            · rw [simN, H6.out.1]; exact H7.out.1
            · have hb := H6.out.2.2.2.2.2.2.2
              have h2 := H7.out.2
              have hgB := H6.out.2.2.2.1
              exact ⟨h2.1.trans hb.os, h2.2.1.trans hb.tape, h2.2.2.1.trans hb.output, Nat.le_trans hb.size h2.2.2.2.1, fun k hk => (h2.2.2.2.2 k (by have := hb.size; omega) (by omega)).trans (hb.block k hk)⟩
    · obtain rfl : i = s.size := by omega
      have dl : decide ((s.size : Int) < (s.size : Int)) = false := decide_eq_false (by omega)
      have hnl := (simN_is m HG.out.1 (m.length + 1) (by omega) (bs s) st HG.out.2 s.size).2.1
      have hx0 := H5.out.1.at (s := 0) (by rw [hnl]; exact HM0.out.1)
      have he : (simN m (m.length + 1) (bs s) st s.size).getD 0 false = mtchB (.ok x) s := by
        have h1 := mach_is x s.size (bs s) ((mach x).2.length + 1) (by omega)
        rw [HMM.out.1, HMM.out.2] at h1
        exact Bool.eq_iff_iff.2 (h1.trans ⟨fun e => (mtch_ok x s).2 ⟨hs, e⟩, fun e => ((mtch_ok x s).1 e).2⟩)
      rw [he] at hx0
      have j1 : ((0 : Int) < (m.length : Int)) = True := eq_true (by have := HM0.out.1; omega)
      have j5 : 0 < m.length := HM0.out.1
      have hfin := HW.out.2.2.2.trans (H5.out.2.2.mono HW.out.2.2.2.size)
      have HF := Aside0.mk hfin
      clear hnl he hfin H5
      go_wp2_with fail
      go_ret
      exact ⟨rfl, HF.out⟩
end Go.Proofs.Ytcdpmmpdfdillaa.Q

namespace Go.Proofs.Ytcdpmmpdfdillaa.Q
open Go.RowKit Go.Proofs.YtcdpmmpdfdillaaW.PrintWords Go.Proofs.YtcdpmmpdfdillaaW.PrintLast
set_option linter.unusedVariables false
set_option linter.unusedSimpArgs false
mutual
theorem bld_len : ∀ (x : Rx) (nx : Nat) (m : Sts), (bld x nx m).2.length ≤ m.length + cnt x
  | .one s _ _, nx, m => by unfold bld cnt; simp
  | .seq xs, nx, m => by unfold bld cnt; have := bldS_len xs nx m; omega
  | .alt xs, nx, m => by unfold bld cnt; have := bldA_len2 xs nx m; rw [List.length_append]; simp only [List.length_cons, List.length_nil]; omega
  | .rep x op, nx, m => by
    unfold bld cnt
    split
    · have := bld_len x nx m
      rw [List.length_append]; simp only [List.length_cons, List.length_nil]; omega
    · have := bld_len x m.length (m ++ [(none, [])])
      rw [List.length_append] at this
      simp only [List.length_cons, List.length_nil] at this
      show (List.set _ _ _).length ≤ _
      rw [List.length_set]; omega
theorem bldS_len : ∀ (xs : List Rx) (nx : Nat) (m : Sts), (bldS xs nx m).2.length ≤ m.length + cntS xs
  | [], nx, m => by unfold bldS cntS; exact Nat.le_refl _
  | x :: xs, nx, m => by
    unfold bldS cntS
    have h1 := bldS_len xs nx m
    have h2 := bld_len x (bldS xs nx m).1 (bldS xs nx m).2
    omega
theorem bldA_len2 : ∀ (xs : List Rx) (nx : Nat) (m : Sts), (bldA xs nx m).2.length ≤ m.length + cntS xs
  | [], nx, m => by unfold bldA cntS; exact Nat.le_refl _
  | x :: xs, nx, m => by
    unfold bldA cntS
    have h1 := bld_len x nx m
    have h2 := bldA_len2 xs nx (bld x nx m).2
    show (bldA xs nx (bld x nx m).2).2.length ≤ _
    omega
end
theorem cntS_app : ∀ (xs ys : List Rx), cntS (xs ++ ys) = cntS xs + cntS ys
  | [], ys => by simp [cntS]
  | x :: xs, ys => by rw [List.cons_append, cntS, cntS, cntS_app xs ys]; omega
theorem ops_cnt {p : ByteArray} : ∀ (k : Nat) (i : Int) (x : Rx) (r : Rx × Int), opsF k p i x = some r → (cnt r.1 : Int) = cnt x + (r.2 - i)
  | 0, _, _, _, h => by cases h
  | k + 1, i, x, r, h => by
    simp only [opsF] at h
    split at h
    · have ih := ops_cnt k (i + 1) _ r h
      rw [cnt] at ih
      omega
    · cases h; show (cnt x : Int) = cnt x + (i - i); omega
theorem par_cnt {p : ByteArray} : ∀ k, (∀ i o acc r, altL k p i o acc = some (.ok r) → 0 ≤ i → i ≤ (p.size : Int) → (cnt r.1 : Int) ≤ cntS acc + 3 + 2 * (r.2 - i)) ∧
    (∀ i o acc r, seqL k p i o acc = some (.ok r) → 0 ≤ i → i ≤ (p.size : Int) → (cnt r.1 : Int) ≤ cntS acc + 1 + 2 * (r.2 - i)) ∧
    (∀ i o r, atomF k p i o = some (.ok r) → 0 ≤ i → i < (p.size : Int) → (cnt r.1 : Int) + 1 ≤ 2 * (r.2 - i))
  | 0 => ⟨(fun _ _ _ _ h => by cases h), (fun _ _ _ _ h => by cases h), (fun _ _ _ h => by cases h)⟩
  | k + 1 => by
    obtain ⟨ia, is, im⟩ := par_cnt k
    refine ⟨fun i o acc r h h0 h1 => ?_, fun i o acc r h h0 h1 => ?_, fun i o r h h0 h1 => ?_⟩
    · rw [altL_s] at h
      obtain ⟨x, hx, h⟩ := obind_ok h
      have hb := (par_ok k).2.1 _ _ _ _ _ hx h0 h1
      have hs := is _ _ _ _ hx h0 h1
      rw [cntS] at hs
      split at h
      · cases h
        show (cnt (.alt (acc ++ [x.1])) : Int) ≤ _
        rw [cnt, cntS_app, cntS, cntS]
        show ((cntS acc + (cnt x.1 + 0 + 1) + 1 : Nat) : Int) ≤ cntS acc + 3 + 2 * (x.2 - i)
        omega
      · rename_i hc
        have e1 : ¬ x.2 = (p.size : Int) := fun e => hc (.inl e)
        have ha := ia _ _ _ _ h (by omega) (by omega)
        rw [cntS_app, cntS, cntS] at ha
        omega
    · rw [seqL_s] at h
      split at h
      · rename_i hc
        obtain ⟨x, hx, h⟩ := obind_ok h
        have hb := (par_ok k).2.2 _ _ _ _ hx h0 hc.1
        obtain ⟨y, hy, h⟩ := Option.bind_eq_some_iff.mp h
        have hb2 := opsF_ok _ _ _ _ _ hy hb.2
        have hm := im _ _ _ hx h0 hc.1
        have ho := ops_cnt _ _ _ _ hy
        have hs := is _ _ _ _ h (by omega) hb2.2
        rw [cntS_app, cntS, cntS] at hs
        omega
      · cases h
        show (cnt (.seq acc) : Int) ≤ _
        rw [cnt]
        show ((cntS acc + 1 : Nat) : Int) ≤ cntS acc + 1 + 2 * (i - i)
        omega
    · rw [atomF_s] at h
      by_cases n40 : bt p i = 40
      · rw [if_pos n40] at h
        split at h
        · cases h
        · obtain ⟨x, hx, h⟩ := obind_ok h
          have hb := (par_ok k).1 _ _ _ _ _ hx (by omega) (by omega)
          have ha := ia _ _ _ _ hx (by omega) (by omega)
          rw [cntS] at ha
          split at h
          · cases h
          · cases h
            show (cnt x.1 : Int) + 1 ≤ 2 * (x.2 + 1 - i)
            omega
      · rw [if_neg n40] at h
        split at h
        · obtain ⟨x, hx, h⟩ := obind_ok h
          have hc := claF_ok hx (by omega) (by omega)
          cases h
          show (cnt (.one x.1 0 false) : Int) + 1 ≤ 2 * (x.2 - i)
          rw [cnt]; omega
        · split at h
          · cases h
            show (cnt (.one _ 0 false) : Int) + 1 ≤ 2 * (i + 1 - i)
            rw [cnt]; omega
          · split at h
            · cases h
            · split at h
              · split at h
                · cases h
                · cases h
                  show (cnt (sgl _) : Int) + 1 ≤ 2 * (i + 2 - i)
                  unfold sgl; rw [cnt]; omega
              · cases h
                show (cnt (sgl _) : Int) + 1 ≤ 2 * (i + 1 - i)
                unfold sgl; rw [cnt]; omega
theorem match_impl (p s : ByteArray) (k : Nat) (q : Except (Int × Int) Rx) (h : patR k p = some q) (w : World) :
    Calls Try.prog 6 #[.string p, .string s] w fun e w' => e = .returned (.bool (mtchB q s)) ∧ Below w.heap.size w w' := by
  rcases patR_cases h with ⟨c, a, rfl, hc⟩ | ⟨x, rfl, hp, hx⟩
  · exact match_err p s k c a h w
  · by_cases hs : s.size ≤ 200
    · obtain ⟨K, o, ho, hpa⟩ := hx
      have h1 := (par_cnt K).1 _ _ _ _ hpa (Int.le_refl _) (by omega)
      rw [cntS] at h1
      simp only at h1
      have h2 := bld_len x 0 [(some noS, [])]
      refine match_main p s k x h hs (by omega) ?_ w
      unfold mach
      simp only [List.length_cons, List.length_nil] at h2
      omega
    · have he : mtchB (.ok x) s = false := by
        cases h : mtchB (.ok x) s with
        | false => rfl
        | true => exact absurd ((mtch_ok x s).1 h).1 hs
      rw [he]
      exact match_long p s k x h (by omega) w
end Go.Proofs.Ytcdpmmpdfdillaa.Q

namespace Go.Proofs.Ytcdpmmpdfdillaa.Q
open Go.RowKit Go.Proofs.YtcdpmmpdfdillaaW.PrintWords Go.Proofs.YtcdpmmpdfdillaaW.PrintLast
set_option linter.unusedVariables false
noncomputable def impl_MatchRegex.f (k : Nat) (a0 : ByteArray) (a1 : ByteArray) : Option Bool := (patR k a0).map fun q => mtchB q a1
theorem impl_MatchRegex.calls (k : Nat) (a0 : ByteArray) (a1 : ByteArray) (r : Bool) (w : World) (h : impl_MatchRegex.f k a0 a1 = some r) :
    Calls Try.prog 6 #[.string a0, .string a1] w fun e w' => e = .returned (.bool r) ∧ Below w.heap.size w w' := by
  obtain ⟨q, hq, rfl⟩ := Option.map_eq_some_iff.1 h
  exact match_impl a0 a1 k q hq w
noncomputable def spec_MatchRegex.f (k : Nat) (a0 : ByteArray) (a1 : ByteArray) : Option Bool := (patR k a0).map fun q => mtchB q a1
theorem spec_MatchRegex.calls (k : Nat) (a0 : ByteArray) (a1 : ByteArray) (r : Bool) (w : World) (h : spec_MatchRegex.f k a0 a1 = some r) :
    Calls Try.prog 5 #[.string a0, .string a1] w fun e w' => e = .returned (.bool r) ∧ Below w.heap.size w w' := by
  obtain ⟨q, hq, rfl⟩ := Option.map_eq_some_iff.1 h
  exact match_spec a0 a1 k q hq w
end Go.Proofs.Ytcdpmmpdfdillaa.Q

namespace Go.Proofs.Ytcdpmmpdfdillaa.Q
open Go.RowKit Go.Proofs.YtcdpmmpdfdillaaW.PrintWords Go.Proofs.YtcdpmmpdfdillaaW.PrintLast Go.Proofs.YtcdpmmpdfdillaaW.PrintMore
set_option linter.unusedVariables false
set_option linter.unusedSimpArgs false

/-! ### laws_FnExactMatchRegex: function 3 -/
noncomputable def laws_FnExactMatchRegex.f (k : Nat) (a0 : ByteArray) (a1 : ByteArray) : Option (Bool) := if (a0.size : Int) > 1048576 then (some true) else (if (a1.size : Int) > 1048576 then (some true) else ((spec_MatchRegex.f k a0 a1).bind fun t223 => ((impl_MatchRegex.f k a0 a1).bind fun t224 => (if (t224 != t223) = true then (some false) else (some true)))))
set_option maxHeartbeats 8000000 in
set_option maxRecDepth 100000 in
theorem laws_FnExactMatchRegex.calls (k : Nat) (a0 : ByteArray) (a1 : ByteArray) (r : Bool) (w : World) (h : laws_FnExactMatchRegex.f k a0 a1 = some r) :
  Calls Try.prog 3 #[.string a0, .string a1] w fun e w' => e = .returned (.bool r) ∧ Below w.heap.size w w' := by
 have HB := Aside0.mk (Below.refl w.heap.size w)
 have H : (if (a0.size : Int) > 1048576 then (some true) else (if (a1.size : Int) > 1048576 then (some true) else ((spec_MatchRegex.f k a0 a1).bind fun t223 => ((impl_MatchRegex.f k a0 a1).bind fun t224 => (if (t224 != t223) = true then (some false) else (some true)))))) = some r := h
 clear h
 by_cases c3 : (a0.size : Int) > 1048576
 ·rw [if_pos c3] at H
  have c3b0 : decide (1048576 < (a0.size : Int)) = true := decide_eq_true c3
  have c3b1 : decide (1048576 < a0.size) = true := decide_eq_true (by omega)
  clear c3
  obtain rfl := Option.some.inj H
  go_enter Try.func3, Try.ntmps3
  go_wp2
  go_ret
  exact ⟨by first | rfl | (simp [errW_none, errW_some] <;> rfl) | (simp [*, errW_none, errW_some] <;> rfl), bw⟩
 ·rw [if_neg c3] at H
  have c3b0 : decide (1048576 < (a0.size : Int)) = false := decide_eq_false c3
  have c3b1 : decide (1048576 < a0.size) = false := decide_eq_false (by omega)
  clear c3
  by_cases c4 : (a1.size : Int) > 1048576
  ·rw [if_pos c4] at H
   have c4b0 : decide (1048576 < (a1.size : Int)) = true := decide_eq_true c4
   have c4b1 : decide (1048576 < a1.size) = true := decide_eq_true (by omega)
   clear c4
   obtain rfl := Option.some.inj H
   go_enter Try.func3, Try.ntmps3
   go_wp2
   go_ret
   exact ⟨by first | rfl | (simp [errW_none, errW_some] <;> rfl) | (simp [*, errW_none, errW_some] <;> rfl), bw⟩
  ·rw [if_neg c4] at H
   have c4b0 : decide (1048576 < (a1.size : Int)) = false := decide_eq_false c4
   have c4b1 : decide (1048576 < a1.size) = false := decide_eq_false (by omega)
   clear c4
   replace H := Option.bind_eq_some_iff.mp H
   obtain ⟨t223, A50, H⟩ := H
   replace H : ((impl_MatchRegex.f k a0 a1).bind fun t224 => (if (t224 != t223) = true then (some false) else (some true))) = some r := H
   have A5 := Aside0.mk A50
   clear A50
   replace H := Option.bind_eq_some_iff.mp H
   obtain ⟨t224, A60, H⟩ := H
   replace H : (if (t224 != t223) = true then (some false) else (some true)) = some r := H
   have A6 := Aside0.mk A60
   clear A60
   by_cases c7 : (t224 != t223) = true
   ·rw [if_pos c7] at H
    have c7b0 : (t224 != t223) = true := c7
    (try (have c7b1 : decide (t224 = t223) = false := by simpa using c7))
    (try (have c7b2 : (t224 == t223) = false := by simpa using c7))
    (try (have c7b3 : ¬ (t224 = t223) := by simpa using c7))
    clear c7
    obtain rfl := Option.some.inj H
    go_enter Try.func3, Try.ntmps3
    go_wp2_with (first | ((with_reducible refine at_fn (f := 5) rfl ?_); refine goesL_ (some 15) rfl rfl Try.func5 (by kernel_rfl) rfl #[.string a0, .string a1] rfl (by (try simp only [List.map_toArray, List.map_cons, List.map_nil]); first | done | rfl | (simp only [List.length_drop, List.length_take]; rfl)) ?_; (with_reducible refine (spec_MatchRegex.calls k a0 a1 t223 _ A5.out).mono ?_); rintro e w8 ⟨rfl, hb⟩; refine ⟨_, rfl, ?_⟩; have n0_ := Aside0.mk (below_step bw hb); clear HB; have HB := n0_; clear n0_; (try clear hb); (try clear hb2); (try clear hk); (try clear hi)) | ((with_reducible refine at_fn (f := 6) rfl ?_); refine goesL_ (some 18) rfl rfl Try.func6 (by kernel_rfl) rfl #[.string a0, .string a1] rfl (by (try simp only [List.map_toArray, List.map_cons, List.map_nil]); first | done | rfl | (simp only [List.length_drop, List.length_take]; rfl)) ?_; (with_reducible refine (impl_MatchRegex.calls k a0 a1 t224 _ A6.out).mono ?_); rintro e w9 ⟨rfl, hb⟩; refine ⟨_, rfl, ?_⟩; have n0_ := Aside0.mk (below_step bw hb); clear HB; have HB := n0_; clear n0_; (try clear hb); (try clear hb2); (try clear hk); (try clear hi)))
    go_ret
    exact ⟨by first | rfl | (simp [errW_none, errW_some] <;> rfl) | (simp [*, errW_none, errW_some] <;> rfl), bw⟩
   ·rw [if_neg c7] at H
    have c7b0 : (t224 != t223) = false := by simpa using c7
    (try (have c7b1 : decide (t224 = t223) = true := by simpa using c7))
    (try (have c7b2 : (t224 == t223) = true := by simpa using c7))
    clear c7
    obtain rfl := Option.some.inj H
    go_enter Try.func3, Try.ntmps3
    go_wp2_with (first | ((with_reducible refine at_fn (f := 5) rfl ?_); refine goesL_ (some 15) rfl rfl Try.func5 (by kernel_rfl) rfl #[.string a0, .string a1] rfl (by (try simp only [List.map_toArray, List.map_cons, List.map_nil]); first | done | rfl | (simp only [List.length_drop, List.length_take]; rfl)) ?_; (with_reducible refine (spec_MatchRegex.calls k a0 a1 t223 _ A5.out).mono ?_); rintro e w10 ⟨rfl, hb⟩; refine ⟨_, rfl, ?_⟩; have n0_ := Aside0.mk (below_step bw hb); clear HB; have HB := n0_; clear n0_; (try clear hb); (try clear hb2); (try clear hk); (try clear hi)) | ((with_reducible refine at_fn (f := 6) rfl ?_); refine goesL_ (some 18) rfl rfl Try.func6 (by kernel_rfl) rfl #[.string a0, .string a1] rfl (by (try simp only [List.map_toArray, List.map_cons, List.map_nil]); first | done | rfl | (simp only [List.length_drop, List.length_take]; rfl)) ?_; (with_reducible refine (impl_MatchRegex.calls k a0 a1 t224 _ A6.out).mono ?_); rintro e w11 ⟨rfl, hb⟩; refine ⟨_, rfl, ?_⟩; have n0_ := Aside0.mk (below_step bw hb); clear HB; have HB := n0_; clear n0_; (try clear hb); (try clear hb2); (try clear hk); (try clear hi)))
    go_ret
    exact ⟨by first | rfl | (simp [errW_none, errW_some] <;> rfl) | (simp [*, errW_none, errW_some] <;> rfl), bw⟩


end Go.Proofs.Ytcdpmmpdfdillaa.Q

namespace Go.Proofs.Ytcdpmmpdfdillaa.Q
open Go.RowKit Go.Proofs.YtcdpmmpdfdillaaW.PrintWords Go.Proofs.YtcdpmmpdfdillaaW.PrintLast
set_option linter.unusedVariables false

/-- The law over lists and numbers. -/
def laws_FnExactMatchRegex.Pure : Prop := ∀ (a0 : ByteArray) (a1 : ByteArray), a0.size ≤ maxLen → a1.size ≤ maxLen → ∃ k, laws_FnExactMatchRegex.f k a0 a1 = some true
end Go.Proofs.Ytcdpmmpdfdillaa.Q

namespace Go.Proofs.Ytcdpmmpdfdillaa.Pr
open Q Go.Proofs.YtcdpmmpdfdillaaW.PrintWords
theorem FnExactMatchRegex : laws_FnExactMatchRegex.Pure := by
  intro p s _ _
  apply Ev.rounds
  unfold laws_FnExactMatchRegex.f
  by_cases h : (p.size : Int) > 1048576
  · exact Ev.if_pos h (Ev.now _)
  refine Ev.if_neg h ?_
  by_cases h2 : (s.size : Int) > 1048576
  · exact Ev.if_pos h2 (Ev.now _)
  refine Ev.if_neg h2 ?_
  obtain ⟨q, ⟨K, hK⟩, hs⟩ := check_spec p
  have hi : Ev (fun k => impl_MatchRegex.f k p s) (mtchB q s) := ⟨K, fun k hk => by have h : patR k p = some q := hK k hk; show (patR k p).map _ = _; rw [h]; rfl⟩
  have hsp : Ev (fun k => spec_MatchRegex.f k p s) (mtchB q s) := hi
  refine Ev.bind hsp (Ev.bind hi ?_)
  exact Ev.of_some (by simp)
end Go.Proofs.Ytcdpmmpdfdillaa.Pr

namespace Go.Proofs.Ytcdpmmpdfdillaa.fnExactMatchRegex
open Go.ChangeShapes Go.WideShapes Go.ChangeAt Go.RowKit Go.Proofs.YtcdpmmpdfdillaaW.PrintWords Go.Proofs.Ytcdpmmpdfdillaa.RowK Go.Proofs.Ytcdpmmpdfdillaa.Q
open Go.ChangeMaps (open_string shut_string)
set_option linter.unusedVariables false
theorem own : ownKnob Try.prog.godebug = none := by kernel_rfl
theorem laidOut : laidOutB Try.prog = true := by kernel_rfl
set_option maxRecDepth 100000 in
theorem lifted (os : Os) (started : os.Started) (H : Type) (enc : TypeId × Value → H) :
    ReturnsInHanded {} Try.checked os 3 .any (Rows.fnExactMatchRegexSpec.pre6 enc Try.prog Try.f3 Rows.fnExactMatchRegexRow.domain false) (Rows.fnExactMatchRegexSpec.post enc Try.prog Try.f3 false true false false) := by
  refine returnsInHanded_of_change_sized (C := Try.checked) own started (by kernel_rfl) Try.func3
    (ChangeSpec.witness6 (enc := enc) (C := Try.checked) false ⟨#[], #[.string ByteArray.empty, .string ByteArray.empty], []⟩ 8 (by kernel_rfl) (by kernel_rfl) (by kernel_rfl) (by kernel_rfl)) ?_
  intro W base args ds gs before hval0 hW hcnd hsz0 _
  have hval : ∀ (j : Nat) t v, Try.f3.params[j]? = some t → args[j]? = some v → Value.okWide Try.prog W .any base t v := hval0
  have hW' := hW
  obtain ⟨p, q, hA0, hV, rfl, hfz, hnd⟩ := hW
  have hA : DataW.TrodAll enc Try.prog W 0 (fun _ => true) true Try.f3.params.toList args.toList ds p := hA0
  rw [Try.params3] at hA hval
  obtain ⟨v0, vs0, d0, ds0, p0, q0, hargs, rfl, rfl, h0, r0⟩ := trodAll_cons hA
  obtain ⟨v1, vs1, d1, ds1, p1, q1, rfl, rfl, rfl, h1, r1⟩ := trodAll_cons r0
  obtain ⟨rfl, rfl, rfl⟩ := trodAll_nil r1
  obtain rfl : args = #[v0, v1] := by cases args; simp_all
  obtain ⟨rfl, rfl⟩ := trodVars_none hV
  obtain ⟨a0, rfl, rfl, rfl, y0⟩ := open_string Try.underlying9 (hval 0 9 v0 rfl rfl) h0
  obtain ⟨a1, rfl, rfl, rfl, y1⟩ := open_string Try.underlying9 (hval 1 9 v1 rfl rfl) h1
  obtain ⟨k_, hp_⟩ := Pr.FnExactMatchRegex a0 a1 y0 y1
  clear hA0 hval0 hsz0
  have hc_ := Q.laws_FnExactMatchRegex.calls k_ a0 a1 true W  hp_
  refine hc_.mono fun e W' ⟨he, bel0⟩ => ?_
  subst he
  have bel : Below W.heap.size W W' := bel0
  exact ⟨_, rfl, _, _, _, [], _, [], hW', trodAll_mk1 (shut_bool Try.underlying4 _), (trodAll_cons_mk (shut_string Try.underlying9 y0) (trodAll_cons_mk (shut_string Try.underlying9 y1) trodAll_mk0)), rfl, bel.frame _, fun h => by cases h⟩
theorem over : Rows.fnExactMatchRegexRow.holds Try.pinned (OpenSpec.ofChange Rows.fnExactMatchRegexSpec) :=
  OpenClaim.holds_of_wide 3 Try.f3 rfl rfl rfl rfl rfl rfl rfl ⟨rfl, rfl, rfl, rfl, rfl⟩ rfl rfl rfl rfl rfl (by kernel_rfl) Try.func3 (by kernel_rfl)
    (of_decide_eq_true (by kernel_rfl)) (by unfold Func.isWrapper; first | (rw [if_pos (by decide +kernel)]; kernel_rfl) | (rw [if_neg (by decide +kernel)]; exact ⟨rfl, rfl⟩))
    (fun os started H enc _ => lifted os started H enc)
end Go.Proofs.Ytcdpmmpdfdillaa.fnExactMatchRegex
namespace Go.Proofs.Ytcdpmmpdfdillaa
theorem fnExactMatchRegex_holds : Rows.FnExactMatchRegexSaid := fnExactMatchRegex.over
#print axioms fnExactMatchRegex_holds
end Go.Proofs.Ytcdpmmpdfdillaa
