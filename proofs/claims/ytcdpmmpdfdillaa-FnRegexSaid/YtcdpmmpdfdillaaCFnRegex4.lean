/- FnRegex: the row of the law: its arguments opened, its walk, its statement over lists (PrFnRegex). No condition. -/
import Derived.Test.YtcdpmmpdfdillaaCFnRegex3
import Derived.Laws.BitsLemmas
import Derived.Lib.ConvBytes
import Derived.Test.YtcdpmmpdfdillaaRows
import Derived.WalkKit
import Derived.ProofKit
import Derived.OpenShut
import Derived.ShutString
import Derived.ChangeOld
import Derived.Below
import Derived.SizedLaws

namespace Go.Proofs.Ytcdpmmpdfdillaa.Q
open Go.RowKit Go.Proofs.YtcdpmmpdfdillaaW.PrintWords Go.Proofs.YtcdpmmpdfdillaaW.PrintLast
set_option linter.unusedVariables false
set_option linter.unusedSimpArgs false
theorem zeroFault (w : World) : (zeroValue 39).run Try.prog w = .ok (.agg #[.int .i64 0, .int .i64 0]) w := by kernel_rfl
theorem zeroMach (w : World) : (zeroValue 45).run Try.prog w = .ok (.agg #[.slice none 0 0, .slice none 0 0]) w := by kernel_rfl
/-- 256 cells, all false. -/
def zset : Array Value := (List.replicate 256 (Value.bool false)).toArray
theorem zero49 (w : World) : (zeroValue 49).run Try.prog w = .ok (.agg zset) w := by kernel_rfl
theorem zset_at (c : Nat) (hc : c < 256) : zset[c]? = some (.bool (noS.getD c false)) := by
  unfold zset noS
  rw [List.getElem?_toArray, List.getElem?_replicate, if_pos hc, List.getD_eq_getElem?_getD, List.getElem?_replicate, if_pos hc]
  rfl
attribute [irreducible] zset
attribute [local go_sem high] zeroFault zeroMach zero49
theorem infoBool : (Try.prog.info? 4).map (fun i => (i.zero, i.size, i.bytes)) = some (some (.bool false), 1, 1) := by kernel_rfl
theorem und33 : Try.prog.underlying 33 = some (.slice 4) := by kernel_rfl
theorem made_eq (n : Nat) : madeCells #[Value.bool false] n = ((List.replicate n false).map Value.bool).toArray := by
  unfold madeCells
  apply Array.ext
  · simp
  · intro i h1 h2
    simp [Nat.mod_one]
/-- A new row of marks. -/
def newB (w : World) (n : Nat) : World := w.alloc (.cells ((List.replicate n false).map Value.bool).toArray 4)
theorem make_bools (n : Nat) (h : n ≤ 100000) (w : World) :
    (Instr.makeSlice 33 (.int .i64 (n : Int)) (.int .i64 (n : Int))).run Try.prog w = .ok (.slice (some ⟨w.heap.size, 0, none⟩) n n) (newB w n) := by
  unfold newB
  rw [← made_eq]
  exact run_make_row' 33 4 (.bool false) 1 und33 infoBool rfl .i64 .i64 n (by omega) (by omega) w
theorem newB_row (w : World) (n : Nat) : RowB (newB w n) w.heap.size (List.replicate n false) := heap_alloc_new w _
theorem newB_old {w : World} {n k : Nat} (h : k < w.heap.size) : (newB w n).heap[k]? = w.heap[k]? := heap_alloc_old w _ h
theorem newB_below {b w : World} {n : Nat} (h : Below b.heap.size b w) : Below b.heap.size b (newB w n) := below_alloc h _
theorem RepM.newB {w : World} {B gm : Nat} {P : Nat → Prop} {m : Sts} (h : RepM w B P gm m) (n : Nat) : RepM (newB w n) B P gm m := h.alloc _
theorem RepM.head {w : World} {B gm : Nat} {P : Nat → Prop} {m : Sts} (h : RepM w B P gm m) (hm : 0 < m.length) : ∃ a c, w.cell? ⟨gm, 0, none⟩ = some (.slice (some ⟨a, 0, none⟩) m.length c) := by
  obtain ⟨vs, vw, ss, ws, g1, -, g3, g4, -⟩ := h
  rcases g3.2 with ⟨_, h0⟩ | ⟨g, cap, cur, rfl, _⟩
  · omega
  · exact ⟨g, cap, (blk_cell g1 0).trans rfl⟩
theorem mach_pos (x : Rx) : 0 < (mach x).2.length := by
  have := (bld_ext x 0 [(some noS, [])]).1
  unfold mach
  simp at this
  omega
theorem RepM.nil {w : World} {B gm : Nat} (P : Nat → Prop) (h : w.heap[gm]? = some (.cells #[.slice none 0 0, .slice none 0 0] 45 (0, 0))) (hB : B ≤ gm) : RepM w B P gm [] :=
  ⟨_, _, [], [], h, hB, ⟨rfl, .inl ⟨rfl, rfl⟩⟩, ⟨rfl, .inl ⟨rfl, rfl⟩⟩, fun q o ls hq => by simp at hq⟩
/-- A state with a set but no way has an empty set. -/
def Wayed (m : Sts) : Prop := ∀ (q : Nat) (st : List Bool), m[q]? = some (some st, []) → ∀ c, st.getD c false = false
theorem wayed_snoc {m : Sts} {y : Option (List Bool) × List Nat} (h : Wayed m) (hy : ∀ st, y = (some st, []) → ∀ c, st.getD c false = false) : Wayed (m ++ [y]) := by
  intro q st hq
  rw [List.getElem?_append] at hq
  split at hq
  · exact h q st hq
  · have hq0 : q - m.length = 0 := by
      have := (List.getElem?_eq_some_iff.1 hq).1
      simpa using this
    rw [hq0] at hq
    injection hq with hq
    exact hy st hq
mutual
theorem bld_wayed : ∀ (x : Rx) (nx : Nat) (m : Sts), Wayed m → Wayed (bld x nx m).2
  | .one s _ _, nx, m, h => by unfold bld; exact wayed_snoc h (fun st e => by simp at e)
  | .seq xs, nx, m, h => by unfold bld; exact bldS_wayed xs nx m h
  | .alt xs, nx, m, h => by unfold bld; exact wayed_snoc (bldA_wayed xs nx m h) (fun st e => by simp at e)
  | .rep x op, nx, m, h => by
    unfold bld
    split
    · exact wayed_snoc (bld_wayed x nx m h) (fun st e => by simp at e)
    · have h1 := bld_wayed x m.length (m ++ [(none, [])]) (wayed_snoc h (fun st e => by simp at e))
      intro q st hq
      have hq : (List.set _ _ _)[q]? = some (some st, []) := hq
      by_cases e : m.length = q
      · subst e
        by_cases hl : m.length < (bld x m.length (m ++ [(none, [])])).2.length
        · rw [List.getElem?_set_self hl] at hq
          simp at hq
        · rw [List.getElem?_eq_none (by rw [List.length_set]; omega)] at hq
          cases hq
      · rw [List.getElem?_set_ne e] at hq
        exact h1 q st hq
theorem bldS_wayed : ∀ (xs : List Rx) (nx : Nat) (m : Sts), Wayed m → Wayed (bldS xs nx m).2
  | [], nx, m, h => by unfold bldS; exact h
  | x :: xs, nx, m, h => by unfold bldS; exact bld_wayed x _ _ (bldS_wayed xs nx m h)
theorem bldA_wayed : ∀ (xs : List Rx) (nx : Nat) (m : Sts), Wayed m → Wayed (bldA xs nx m).2
  | [], nx, m, h => by unfold bldA; exact h
  | x :: xs, nx, m, h => by unfold bldA; exact bldA_wayed xs nx _ (bld_wayed x nx m h)
end
theorem mach_wayed (x : Rx) : Wayed (mach x).2 := bld_wayed x 0 _ (fun q st hq c => by
  have h1 := (List.getElem?_eq_some_iff.1 hq).1
  simp at h1
  subst h1
  simp at hq
  subst hq
  unfold noS
  exact getD_rep 256 c)
set_option maxHeartbeats 4000000 in
set_option maxRecDepth 100000 in
theorem match_err (p s : ByteArray) (k : Nat) (c a : Int) (h : patR k p = some (.error (c, a))) (w : World) :
    Calls Try.prog 6 #[.string p, .string s] w fun e w' => e = .returned (.bool false) ∧ Below w.heap.size w w' := by
  have hc := patR_err h
  have HP := Aside0.mk (pattern_calls k p _ h w)
  have dc : (c != 0) = true := bne_iff_ne.2 hc
  clear h hc
  go_enter Try.func6, Try.ntmps6
  go_wp2_with fail
  refine HP.out.mono ?_
  rintro ex W1 ⟨v, rfl, hb⟩
  have kr : K0 (Below w.heap.size w W1) := ⟨hb⟩
  go_wp2_with fail
  go_ret
  exact ⟨rfl, kk⟩
set_option maxHeartbeats 4000000 in
set_option maxRecDepth 100000 in
theorem match_long (p s : ByteArray) (k : Nat) (x : Rx) (h : patR k p = some (.ok x)) (hs : 200 < s.size) (w : World) :
    Calls Try.prog 6 #[.string p, .string s] w fun e w' => e = .returned (.bool false) ∧ Below w.heap.size w w' := by
  have HP := Aside0.mk (pattern_calls k p _ h w)
  have dc : decide (200 < (s.size : Int)) = true := decide_eq_true (by omega)
  have dc2 : decide (200 < s.size) = true := decide_eq_true hs
  clear h
  go_enter Try.func6, Try.ntmps6
  go_wp2_with fail
  refine HP.out.mono ?_
  rintro ex W1 ⟨v, rfl, hx, hb⟩
  have kr : K0 (Below w.heap.size w W1) := ⟨hb⟩
  go_wp2_with fail
  go_ret
  exact ⟨rfl, kk⟩
set_option maxHeartbeats 4000000 in
set_option maxRecDepth 100000 in
theorem match_main (p s : ByteArray) (k : Nat) (x : Rx) (h : patR k p = some (.ok x)) (hs : s.size ≤ 200) (hcnt : cnt x ≤ 100000) (hlen : (mach x).2.length ≤ 100000) (w : World) :
    Calls Try.prog 6 #[.string p, .string s] w fun e w' => e = .returned (.bool (mtchB (.ok x) s)) ∧ Below w.heap.size w w' := by
  have HP := Aside0.mk (pattern_calls k p _ h w)
  have dc : decide (200 < (s.size : Int)) = false := decide_eq_false (by omega)
  have dc2 : decide (200 < s.size) = false := decide_eq_false (by omega)
  have HN := Aside0.mk (And.intro hcnt hlen)
  clear h hcnt hlen
  go_enter Try.func6, Try.ntmps6
  go_wp2_with fail
  refine HP.out.mono ?_
  rintro ex W1 ⟨v, rfl, hx, hb⟩
  have HX := Aside0.mk (And.intro hx hb)
  clear hx hb HP
  obtain ⟨wp, hwp⟩ : ∃ wp, wp = W1.alloc (.cells #[.int .i64 0, .int .i64 0] 39) := ⟨_, rfl⟩
  have hws : wp.heap.size = W1.heap.size + 1 := by rw [hwp, sz_al]
  have hxp : RepX wp (fun k => w.heap.size ≤ k) x v := RepX_move (fun k hk hl => ⟨hk, by rw [hwp]; exact heap_alloc_old _ _ hl⟩) _ _ HX.out.1
  have hbp : Below w.heap.size w wp := by rw [hwp]; exact below_alloc HX.out.2 _
  have HW := Aside0.mk (And.intro hwp (And.intro hws (And.intro hxp hbp)))
  clear hwp hws hxp hbp
  go_wp2_with fail
  rw [← HW.out.1, ← HW.out.2.1]
  have hg1 : ((wp.alloc (.cells #[.slice none 0 0, .slice none 0 0] 45)).alloc (.cells zset 49)).heap[wp.heap.size]? = some (.cells #[.slice none 0 0, .slice none 0 0] 45 (0, 0)) :=
    (heap_alloc_old _ _ (by rw [sz_al]; omega)).trans (heap_alloc_new wp _)
  have hset : SetP ((wp.alloc (.cells #[.slice none 0 0, .slice none 0 0] 45)).alloc (.cells zset 49)) wp.heap.size (some noS) (.pointer (some ⟨wp.heap.size + 1, 0, none⟩)) :=
    ⟨_, zset, _, rfl, by omega, .inr rfl, new1 wp _ _, zset_at⟩
  have hbe : Below wp.heap.size wp ((wp.alloc (.cells #[.slice none 0 0, .slice none 0 0] 45)).alloc (.cells zset 49)) := below_alloc (below_alloc (Below.refl _ _) _) _
  have hst := state_call wp _ (fun _ => True) wp.heap.size [] (some noS) [] _ (.slice none 0 0) hbe (RepM.nil _ hg1 (Nat.le_refl _)) hset (way_nil _ _) (fun _ _ => trivial) (by simp)
  have HS := Aside0.mk hst
  clear hg1 hset hbe hst
  refine HS.out.mono ?_
  rintro ex W3 ⟨rfl, h1, h2, -⟩
  have HC := Aside0.mk (build_all x wp W3 (fun _ => True) _ wp.heap.size 0 _ v h2 HW.out.2.2.1 h1 HN.out.2 HN.out.1)
  clear h1 h2 HS
  go_wp2_with fail
  refine HC.out.mono ?_
  rintro ex W4 ⟨rfl, h1, h2, -⟩
  have HR := Aside0.mk (And.intro (show RepM W4 wp.heap.size (fun _ => True) wp.heap.size (mach x).2 from h1.weak fun _ _ _ => trivial) (And.intro h2 (show (bld x 0 ([] ++ [(some noS, [])])).1 = (mach x).1 from rfl)))
  rw [HR.out.2.2]
  clear h1 h2 HC
  obtain ⟨m, hm⟩ : ∃ m, (mach x).2 = m := ⟨_, rfl⟩
  obtain ⟨st, hst⟩ : ∃ st, (mach x).1 = st := ⟨_, rfl⟩
  rw [hst]
  rw [hm] at HR
  have HMM := Aside0.mk (And.intro hm hst)
  clear hm hst
  have hm0 : 0 < m.length := by rw [← HMM.out.1]; exact mach_pos x
  have hm1 : m.length ≤ 100000 := by rw [← HMM.out.1]; exact HN.out.2
  obtain ⟨a, ca, y0⟩ := HR.out.1.head hm0
  have hmk := make_bools m.length hm1
  have hg : Good m ∧ st < m.length := by
    have hg0 : Good [(some noS, ([] : List Nat))] := fun q o ls w' h hw' => by
      have hq := (List.getElem?_eq_some_iff.1 h).1
      simp at hq
      subst hq
      simp at h
      obtain ⟨-, rfl⟩ := h
      simp at hw'
    rw [← HMM.out.1, ← HMM.out.2]
    exact bld_good x 0 [(some noS, [])] hg0 (by simp)
  have HG := Aside0.mk hg
  have HRA := Aside0.mk (reach_all m hg.1 hm1 (m.length + 1))
  have HM0 := Aside0.mk (And.intro hm0 hm1)
  clear hg hm0 hm1
  go_wp2_with fail
  refine (HRA.out (newB W4 m.length) wp.heap.size wp.heap.size W4.heap.size _ st _ (List.replicate m.length false) (HR.out.1.newB _) (newB_row _ _) (by simp) HG.out.2 (by rw [unm_rep]; omega)).mono ?_
  rintro ex W5 ⟨rfl, h1, h2⟩
  have hb5 : Below wp.heap.size wp W5 := by
    have hb := newB_below (n := m.length) HR.out.2.1
    have hs4 := HR.out.2.1.size
    exact ⟨h2.1.trans hb.os, h2.2.1.trans hb.tape, h2.2.2.1.trans hb.output, Nat.le_trans hb.size h2.2.2.2.1, fun k hk => (h2.2.2.2.2 k (by have := hb.size; omega) (by omega)).trans (hb.block k hk)⟩
  have H5 := Aside0.mk (And.intro (show RowB W5 W4.heap.size (simN m (m.length + 1) (bs s) st 0) from h1) (And.intro ((HR.out.1.newB m.length).only (newB_row _ _) h2) hb5))
  have HG4 := Aside0.mk HR.out.2.1.size
  clear h1 h2 hb5 y0
  go_wp2_with fail
  go_loopw [10, 43] (fun v10 v43 W' => ∃ (i g : Nat), i ≤ s.size ∧ v43 = .int .i64 i ∧ v10 = .slice (some ⟨g, 0, none⟩) m.length m.length ∧ Aside0 (RowB W' g (simN m (m.length + 1) (bs s) st i) ∧ RepM W' wp.heap.size (fun _ => True) wp.heap.size m ∧ Below wp.heap.size wp W')) (fun _ v43 _ => s.size - (intOf v43).toNat)
  case atStart => exact ⟨0, W4.heap.size, by omega, rfl, rfl, H5⟩
  case round =>
    clear H5
    obtain ⟨i, g, hi, rfl, rfl, H5⟩ := hrel
    by_cases hlt : i < s.size
    · have dl : decide ((i : Int) < (s.size : Int)) = true := decide_eq_true (by omega)
      have hwi : IntKind.i64.wrap ((i : Int) + 1) = ((i + 1 : Nat) : Int) := by rw [IntKind.wrap_i64]; omega
      obtain ⟨a, ca, y0⟩ := H5.out.2.1.head HM0.out.1
      go_wp2_with fail
      obtain ⟨now, hnow⟩ : ∃ now, simN m (m.length + 1) (bs s) st i = now := ⟨_, rfl⟩
      rw [hnow] at H5
      have hnl : now.length = m.length := by rw [← hnow]; exact (simN_is m HG.out.1 (m.length + 1) (by omega) (bs s) st HG.out.2 i).2.1
      have hgl := blk_lt H5.out.1
      obtain ⟨Wn, hWn⟩ : ∃ Wn, Wn = newB wr m.length := ⟨_, rfl⟩
      obtain ⟨g2, hg2⟩ : ∃ g2, g2 = wr.heap.size := ⟨_, rfl⟩
      rw [← hWn, ← hg2]
      have hrow : RowB Wn g2 (List.replicate m.length false) := by rw [hWn, hg2]; exact newB_row _ _
      have hnw : RowB Wn g now := by rw [hWn]; exact (newB_old hgl).trans H5.out.1
      have hrm : RepM Wn wp.heap.size (fun _ => True) wp.heap.size m := by rw [hWn]; exact H5.out.2.1.newB _
      have hbn : Below wp.heap.size wp Wn := by rw [hWn]; exact newB_below H5.out.2.2
      have hg12 : g ≠ g2 := by rw [hg2]; omega
      have hgB : wp.heap.size ≤ g2 := by rw [hg2]; exact H5.out.2.2.size
      have H6 := Aside0.mk (And.intro hnow (And.intro hnl (And.intro hg12 (And.intro hgB (And.intro hrow (And.intro hnw (And.intro hrm hbn)))))))
      have H7 : Aside0 (RowB Wn g2 (stepTo m (m.length + 1) now (bs s i).toNat 0 (List.replicate m.length false)) ∧ OnlyB g2 Wn Wn) := ⟨⟨hrow, OnlyB.refl _ _⟩⟩
      clear hnow hnl hgl hWn hg2 hrow hnw hrm hbn hg12 hgB y0 H5
      go_loopw [52] (fun v52 W' => ∃ q : Nat, q ≤ m.length ∧ v52 = .int .i64 q ∧ Aside0 (RowB W' g2 (stepTo m (m.length + 1) now (bs s i).toNat q (List.replicate m.length false)) ∧ OnlyB g2 Wn W')) (fun v52 _ => m.length - (intOf v52).toNat)
      case atStart => exact ⟨0, by omega, rfl, H7⟩
      case round =>
        clear H7
        obtain ⟨q, hq, rfl, H7⟩ := hrel
        by_cases hlq : q < m.length
        · have dq : decide ((q : Int) < (m.length : Int)) = true := decide_eq_true (by omega)
          have hwq : IntKind.i64.wrap ((q : Int) + 1) = ((q + 1 : Nat) : Int) := by have := HM0.out.2; rw [IntKind.wrap_i64]; omega
          have j1 : ((q : Int) < (m.length : Int)) = True := eq_true (by omega)
          have j2 : ((0 : Int) ≤ (q : Int)) = True := eq_true (by omega)
          have j3 : ((i : Int) < (s.size : Int)) = True := eq_true (by omega)
          have j4 : ((0 : Int) ≤ (i : Int)) = True := eq_true (by omega)
          have hM := H6.out.2.2.2.2.2.2.1.only H6.out.2.2.2.2.1 H7.out.2
          have hnr : RowB wr g now := (H7.out.2.2.2.2.2 g (blk_lt H6.out.2.2.2.2.2.1) H6.out.2.2.1).trans H6.out.2.2.2.2.2.1
          have x0 := hnr.at (s := q) (by rw [H6.out.2.1]; exact hlq)
          obtain ⟨o, ls, hmq⟩ : ∃ o ls, m[q]? = some (o, ls) := ⟨m[q].1, m[q].2, List.getElem?_eq_getElem hlq⟩
          obtain ⟨a, b, c1, d1, pv, u, y0, y1, y2, y3, hS, hWy⟩ := hM.get hmq
          have hstep : stepTo m (m.length + 1) now (bs s i).toNat (q + 1) (List.replicate m.length false) = (match m[q]? with
            | some (some st, w :: _) => if now.getD q false = true ∧ st.getD (bs s i).toNat false = true then rch m (m.length + 1) (stepTo m (m.length + 1) now (bs s i).toNat q (List.replicate m.length false)) w else stepTo m (m.length + 1) now (bs s i).toNat q (List.replicate m.length false)
            | _ => stepTo m (m.length + 1) now (bs s i).toNat q (List.replicate m.length false)) := rfl
          rw [hmq] at hstep
          obtain ⟨th, hth⟩ : ∃ th, stepTo m (m.length + 1) now (bs s i).toNat q (List.replicate m.length false) = th := ⟨_, rfl⟩
          have hsi := stepTo_is m HG.out.1 (m.length + 1) (by omega) now (bs s i).toNat q (List.replicate m.length false) (by simp) (closed_rep m _) (by rw [unm_rep]; exact Nat.le_refl _)
          rw [hth] at hstep hsi H7
          have HST := Aside0.mk (And.intro hstep (And.intro hsi.2.1 hsi.2.2.1))
          have HMq := Aside0.mk (And.intro hM hmq)
          have HWy := Aside0.mk hWy
          clear hM hnr hmq hWy hstep hth hsi
          obtain ⟨z, hz⟩ : ∃ z, now.getD q false = z := ⟨_, rfl⟩
          rw [hz] at x0 HST
          clear hz
          go_upto_region 16 with (fail)
          cases z with
          | false =>
            go_quiet (fail)
            go_wp2_with fail
            go_roundw
            case measure => simp only [intOf]; omega
            case rel => exact ⟨q + 1, by omega, by rw [Int.natCast_add]; rfl, ⟨by rw [HST.out.1]; cases o <;> cases ls <;> simp <;> exact H7.out.1, H7.out.2.trans ⟨rfl, rfl, rfl, Nat.le_refl _, fun _ _ _ => rfl⟩⟩⟩
          | true =>
            cases o with
            | none =>
              obtain rfl : pv = none := by injection hS
              go_quiet (fail)
              go_wp2_with fail
              go_roundw
              case measure => simp only [intOf]; omega
              case rel => exact ⟨q + 1, by omega, by rw [Int.natCast_add]; rfl, ⟨by rw [HST.out.1]; exact H7.out.1, H7.out.2.trans ⟨rfl, rfl, rfl, Nat.le_refl _, fun _ _ _ => rfl⟩⟩⟩
            | some st' =>
              obtain ⟨kb, cells, t, e, hkb, ht, hcells, hget⟩ := hS
              injection e with e
              subst e
              have hr := bt_range s (i : Int)
              obtain ⟨b8, hb8⟩ : ∃ b8 : Nat, bt s (i : Int) = (b8 : Int) := ⟨(bt s (i : Int)).toNat, by omega⟩
              have hxj : ∀ h : i < s.size, ((s[i]'h).toNat : Int) = bt s (i : Int) := fun h => bt_at s (i : Int) h
              have hb256 : b8 < 256 := by omega
              have hbs : (bs s i).toNat = b8 := by show (bt s (i : Int)).toNat = b8; rw [hb8]; rfl
              rw [hb8] at hxj
              rw [hbs] at HST
              have z0 : wr.cell? ⟨kb, b8, none⟩ = some (.bool (st'.getD b8 false)) := (blk_cell hcells b8).trans (hget b8 hb256)
              have k1 : ((b8 : Int) < 256) = True := eq_true (by omega)
              have k2 : ((0 : Int) ≤ (b8 : Int)) = True := eq_true (by omega)
              obtain ⟨bit, hbit⟩ : ∃ bit, st'.getD b8 false = bit := ⟨_, rfl⟩
              rw [hbit] at z0
              have HBI := Aside0.mk (And.intro hbit (And.intro hbs hb256))
              clear hr hb8 hbs hget hcells ht hkb hbit
              cases bit with
              | false =>
                have hst2 : stepTo m (m.length + 1) now b8 (q + 1) (List.replicate m.length false) = th := by
                  rw [HST.out.1]
                  cases ls with
                  | nil => rfl
                  | cons w0 rest =>
                    show (if true = true ∧ st'.getD b8 false = true then _ else _) = _
                    rw [if_neg (by rw [HBI.out.1]; simp)]
                have HS2 := Aside0.mk hst2
                clear hst2
                go_quiet (fail)
                go_wp2_with fail
                go_roundw
                case measure => simp only [intOf]; omega
                case rel => exact ⟨q + 1, by omega, by rw [Int.natCast_add]; rfl, ⟨by rw [HBI.out.2.1, HS2.out]; exact H7.out.1, H7.out.2.trans ⟨rfl, rfl, rfl, Nat.le_refl _, fun _ _ _ => rfl⟩⟩⟩
              | true =>
                cases ls with
                | nil => exact absurd (mach_wayed x q st' (by rw [HMM.out.1]; exact HMq.out.2) b8) (by rw [HBI.out.1]; decide)
                | cons w0 rest =>
                  have hw0 : w0 < m.length := HG.out.1 q (some st') (w0 :: rest) w0 HMq.out.2 (by simp)
                  have hst2 : stepTo m (m.length + 1) now b8 (q + 1) (List.replicate m.length false) = rch m (m.length + 1) th w0 := by
                    rw [HST.out.1]
                    show (if true = true ∧ st'.getD b8 false = true then _ else _) = _
                    rw [if_pos ⟨rfl, HBI.out.1⟩]
                  have HS2 := Aside0.mk (And.intro hw0 hst2)
                  obtain ⟨g3, c3, eA, hc⟩ := own_part HWy.out (show (ints (w0 :: rest))[0]? = some (.int .i64 (w0 : Int)) from rfl)
                  subst eA
                  have k3 : ((0 : Int) < ((w0 :: rest).length : Int)) = True := eq_true (by simp)
                  have k4 : 0 < (w0 :: rest).length := by simp
                  generalize (w0 :: rest).length = L at *
                  clear hw0 hst2
                  go_quiet (fail)
                  go_wp2_with fail
                  refine (HRA.out (wr.drewN _) wp.heap.size wp.heap.size g2 _ w0 _ th (HMq.out.1.moveB (w' := wr.drewN _) fun _ _ _ _ _ => rfl) (show RowB _ g2 th from H7.out.1) HST.out.2.1 HS2.out.1 (by have := HST.out.2.2; omega)).mono ?_
                  rintro ex W6 ⟨rfl, h1, h2⟩
                  have H8 := Aside0.mk (And.intro h1 ((H7.out.2.trans ⟨rfl, rfl, rfl, Nat.le_refl _, fun _ _ _ => rfl⟩).trans h2))
                  clear h1 h2
                  go_wp2_with fail
                  go_roundw
                  case measure => simp only [intOf]; omega
                  case rel => exact ⟨q + 1, by omega, by rw [Int.natCast_add]; rfl, ⟨by rw [HBI.out.2.1, HS2.out.2]; exact H8.out.1, H8.out.2⟩⟩
        · obtain rfl : q = m.length := by omega
          have dq : decide ((m.length : Int) < (m.length : Int)) = false := decide_eq_false (by omega)
          go_wp2_with fail
          go_roundw
          case measure => simp only [intOf]; omega
          case rel =>
            refine ⟨i + 1, g2, by omega, by rw [Int.natCast_add]; rfl, rfl, ⟨?_, H6.out.2.2.2.2.2.2.1.only H6.out.2.2.2.2.1 H7.out.2, ?_⟩⟩
            · rw [simN, H6.out.1]; exact H7.out.1
            · have hb := H6.out.2.2.2.2.2.2.2
              have h2 := H7.out.2
              have hgB := H6.out.2.2.2.1
              exact ⟨h2.1.trans hb.os, h2.2.1.trans hb.tape, h2.2.2.1.trans hb.output, Nat.le_trans hb.size h2.2.2.2.1, fun k hk => (h2.2.2.2.2 k (by have := hb.size; omega) (by omega)).trans (hb.block k hk)⟩
    · obtain rfl : i = s.size := by omega
      have dl : decide ((s.size : Int) < (s.size : Int)) = false := decide_eq_false (by omega)
      have hnl := (simN_is m HG.out.1 (m.length + 1) (by omega) (bs s) st HG.out.2 s.size).2.1
      have hx0 := H5.out.1.at (s := 0) (by rw [hnl]; exact HM0.out.1)
      have he : (simN m (m.length + 1) (bs s) st s.size).getD 0 false = mtchB (.ok x) s := by
        have h1 := mach_is x s.size (bs s) ((mach x).2.length + 1) (by omega)
        rw [HMM.out.1, HMM.out.2] at h1
        exact Bool.eq_iff_iff.2 (h1.trans ⟨fun e => (mtch_ok x s).2 ⟨hs, e⟩, fun e => ((mtch_ok x s).1 e).2⟩)
      rw [he] at hx0
      have j1 : ((0 : Int) < (m.length : Int)) = True := eq_true (by have := HM0.out.1; omega)
      have j5 : 0 < m.length := HM0.out.1
      have hfin := HW.out.2.2.2.trans (H5.out.2.2.mono HW.out.2.2.2.size)
      have HF := Aside0.mk hfin
      clear hnl he hfin H5
      go_wp2_with fail
      go_ret
      exact ⟨rfl, HF.out⟩
end Go.Proofs.Ytcdpmmpdfdillaa.Q

namespace Go.Proofs.Ytcdpmmpdfdillaa.Q
open Go.RowKit Go.Proofs.YtcdpmmpdfdillaaW.PrintWords Go.Proofs.YtcdpmmpdfdillaaW.PrintLast
set_option linter.unusedVariables false
set_option linter.unusedSimpArgs false
mutual
theorem bld_len : ∀ (x : Rx) (nx : Nat) (m : Sts), (bld x nx m).2.length ≤ m.length + cnt x
  | .one s _ _, nx, m => by unfold bld cnt; simp
  | .seq xs, nx, m => by unfold bld cnt; have := bldS_len xs nx m; omega
  | .alt xs, nx, m => by unfold bld cnt; have := bldA_len2 xs nx m; rw [List.length_append]; simp only [List.length_cons, List.length_nil]; omega
  | .rep x op, nx, m => by
    unfold bld cnt
    split
    · have := bld_len x nx m
      rw [List.length_append]; simp only [List.length_cons, List.length_nil]; omega
    · have := bld_len x m.length (m ++ [(none, [])])
      rw [List.length_append] at this
      simp only [List.length_cons, List.length_nil] at this
      show (List.set _ _ _).length ≤ _
      rw [List.length_set]; omega
theorem bldS_len : ∀ (xs : List Rx) (nx : Nat) (m : Sts), (bldS xs nx m).2.length ≤ m.length + cntS xs
  | [], nx, m => by unfold bldS cntS; exact Nat.le_refl _
  | x :: xs, nx, m => by
    unfold bldS cntS
    have h1 := bldS_len xs nx m
    have h2 := bld_len x (bldS xs nx m).1 (bldS xs nx m).2
    omega
theorem bldA_len2 : ∀ (xs : List Rx) (nx : Nat) (m : Sts), (bldA xs nx m).2.length ≤ m.length + cntS xs
  | [], nx, m => by unfold bldA cntS; exact Nat.le_refl _
  | x :: xs, nx, m => by
    unfold bldA cntS
    have h1 := bld_len x nx m
    have h2 := bldA_len2 xs nx (bld x nx m).2
    show (bldA xs nx (bld x nx m).2).2.length ≤ _
    omega
end
theorem cntS_app : ∀ (xs ys : List Rx), cntS (xs ++ ys) = cntS xs + cntS ys
  | [], ys => by simp [cntS]
  | x :: xs, ys => by rw [List.cons_append, cntS, cntS, cntS_app xs ys]; omega
theorem ops_cnt {p : ByteArray} : ∀ (k : Nat) (i : Int) (x : Rx) (r : Rx × Int), opsF k p i x = some r → (cnt r.1 : Int) = cnt x + (r.2 - i)
  | 0, _, _, _, h => by cases h
  | k + 1, i, x, r, h => by
    simp only [opsF] at h
    split at h
    · have ih := ops_cnt k (i + 1) _ r h
      rw [cnt] at ih
      omega
    · cases h; show (cnt x : Int) = cnt x + (i - i); omega
theorem par_cnt {p : ByteArray} : ∀ k, (∀ i o acc r, altL k p i o acc = some (.ok r) → 0 ≤ i → i ≤ (p.size : Int) → (cnt r.1 : Int) ≤ cntS acc + 3 + 2 * (r.2 - i)) ∧
    (∀ i o acc r, seqL k p i o acc = some (.ok r) → 0 ≤ i → i ≤ (p.size : Int) → (cnt r.1 : Int) ≤ cntS acc + 1 + 2 * (r.2 - i)) ∧
    (∀ i o r, atomF k p i o = some (.ok r) → 0 ≤ i → i < (p.size : Int) → (cnt r.1 : Int) + 1 ≤ 2 * (r.2 - i))
  | 0 => ⟨(fun _ _ _ _ h => by cases h), (fun _ _ _ _ h => by cases h), (fun _ _ _ h => by cases h)⟩
  | k + 1 => by
    obtain ⟨ia, is, im⟩ := par_cnt k
    refine ⟨fun i o acc r h h0 h1 => ?_, fun i o acc r h h0 h1 => ?_, fun i o r h h0 h1 => ?_⟩
    · rw [altL_s] at h
      obtain ⟨x, hx, h⟩ := obind_ok h
      have hb := (par_ok k).2.1 _ _ _ _ _ hx h0 h1
      have hs := is _ _ _ _ hx h0 h1
      rw [cntS] at hs
      split at h
      · cases h
        show (cnt (.alt (acc ++ [x.1])) : Int) ≤ _
        rw [cnt, cntS_app, cntS, cntS]
        show ((cntS acc + (cnt x.1 + 0 + 1) + 1 : Nat) : Int) ≤ cntS acc + 3 + 2 * (x.2 - i)
        omega
      · rename_i hc
        have e1 : ¬ x.2 = (p.size : Int) := fun e => hc (.inl e)
        have ha := ia _ _ _ _ h (by omega) (by omega)
        rw [cntS_app, cntS, cntS] at ha
        omega
    · rw [seqL_s] at h
      split at h
      · rename_i hc
        obtain ⟨x, hx, h⟩ := obind_ok h
        have hb := (par_ok k).2.2 _ _ _ _ hx h0 hc.1
        obtain ⟨y, hy, h⟩ := Option.bind_eq_some_iff.mp h
        have hb2 := opsF_ok _ _ _ _ _ hy hb.2
        have hm := im _ _ _ hx h0 hc.1
        have ho := ops_cnt _ _ _ _ hy
        have hs := is _ _ _ _ h (by omega) hb2.2
        rw [cntS_app, cntS, cntS] at hs
        omega
      · cases h
        show (cnt (.seq acc) : Int) ≤ _
        rw [cnt]
        show ((cntS acc + 1 : Nat) : Int) ≤ cntS acc + 1 + 2 * (i - i)
        omega
    · rw [atomF_s] at h
      by_cases n40 : bt p i = 40
      · rw [if_pos n40] at h
        split at h
        · cases h
        · obtain ⟨x, hx, h⟩ := obind_ok h
          have hb := (par_ok k).1 _ _ _ _ _ hx (by omega) (by omega)
          have ha := ia _ _ _ _ hx (by omega) (by omega)
          rw [cntS] at ha
          split at h
          · cases h
          · cases h
            show (cnt x.1 : Int) + 1 ≤ 2 * (x.2 + 1 - i)
            omega
      · rw [if_neg n40] at h
        split at h
        · obtain ⟨x, hx, h⟩ := obind_ok h
          have hc := claF_ok hx (by omega) (by omega)
          cases h
          show (cnt (.one x.1 0 false) : Int) + 1 ≤ 2 * (x.2 - i)
          rw [cnt]; omega
        · split at h
          · cases h
            show (cnt (.one _ 0 false) : Int) + 1 ≤ 2 * (i + 1 - i)
            rw [cnt]; omega
          · split at h
            · cases h
            · split at h
              · split at h
                · cases h
                · cases h
                  show (cnt (sgl _) : Int) + 1 ≤ 2 * (i + 2 - i)
                  unfold sgl; rw [cnt]; omega
              · cases h
                show (cnt (sgl _) : Int) + 1 ≤ 2 * (i + 1 - i)
                unfold sgl; rw [cnt]; omega
theorem match_impl (p s : ByteArray) (k : Nat) (q : Except (Int × Int) Rx) (h : patR k p = some q) (w : World) :
    Calls Try.prog 6 #[.string p, .string s] w fun e w' => e = .returned (.bool (mtchB q s)) ∧ Below w.heap.size w w' := by
  rcases patR_cases h with ⟨c, a, rfl, hc⟩ | ⟨x, rfl, hp, hx⟩
  · exact match_err p s k c a h w
  · by_cases hs : s.size ≤ 200
    · obtain ⟨K, o, ho, hpa⟩ := hx
      have h1 := (par_cnt K).1 _ _ _ _ hpa (Int.le_refl _) (by omega)
      rw [cntS] at h1
      simp only at h1
      have h2 := bld_len x 0 [(some noS, [])]
      refine match_main p s k x h hs (by omega) ?_ w
      unfold mach
      simp only [List.length_cons, List.length_nil] at h2
      omega
    · have he : mtchB (.ok x) s = false := by
        cases h : mtchB (.ok x) s with
        | false => rfl
        | true => exact absurd ((mtch_ok x s).1 h).1 hs
      rw [he]
      exact match_long p s k x h (by omega) w
end Go.Proofs.Ytcdpmmpdfdillaa.Q

namespace Go.Proofs.Ytcdpmmpdfdillaa.Q
open Go.RowKit Go.Proofs.YtcdpmmpdfdillaaW.PrintWords Go.Proofs.YtcdpmmpdfdillaaW.PrintLast
set_option linter.unusedVariables false
set_option linter.unusedSimpArgs false
abbrev CaS (f : FuncId) (args : Array Value) (v : Value) (w : World) : Prop := Calls Try.prog f args w fun e w' => e = .returned v ∧ Below w.heap.size w w'
theorem six (p : ByteArray) : ∃ (M : ByteArray → Bool) (T : ByteArray) (fl : Bool) (e1 e2 : Int),
    (∀ s w, CaS 5 #[.string p, .string s] (.bool (M s)) w) ∧ (∀ s w, CaS 6 #[.string p, .string s] (.bool (M s)) w) ∧
    (∀ w, CaS 8 #[.string p] (.agg #[.string T, .bool fl]) w) ∧ (∀ w, CaS 9 #[.string p] (.agg #[.string T, .bool fl]) w) ∧
    (∀ w, CaS 10 #[.string p] (.agg #[.int .i64 e1, .int .i64 e2]) w) ∧ (∀ w, CaS 11 #[.string p] (.agg #[.int .i64 e1, .int .i64 e2]) w) ∧
    (e1 ≠ 0 → (∀ s, M s = false) ∧ T = ⟨#[]⟩) ∧ (∀ s, M s = true → T.size ≤ s.size ∧ s.extract 0 T.size = T) ∧ (fl = true → M T = true ∧ ∀ s, (M s = true ↔ s = T)) := by
  obtain ⟨q, hq, hs⟩ := check_spec p
  obtain ⟨q', hq', hp⟩ := prefix_spec p
  obtain rfl : q = q' := Ev.same hq hq'
  obtain ⟨K, hK⟩ := hq
  obtain ⟨K2, hK2⟩ := hs
  obtain ⟨K3, hK3⟩ := hp
  have hk : patR K p = some q := hK K (Nat.le_refl _)
  have hk2 := hK2 K2 (Nat.le_refl _)
  have hk3 := hK3 K3 (Nat.le_refl _)
  refine ⟨mtchB q, strOfNums (prefM q).1, (prefM q).2, (match q with | .ok _ => ((0 : Int), (0 : Int)) | .error x => x).1, (match q with | .ok _ => ((0 : Int), (0 : Int)) | .error x => x).2, fun s w => match_spec p s K q hk w, fun s w => match_impl p s K q hk w,
    fun w => impl_PrefixOf.calls K p _ _ w (by unfold impl_PrefixOf.f; rw [hk]; rfl), fun w => spec_PrefixOf.calls K3 p _ _ w hk3, fun w => impl_CheckRegex.calls K p _ _ w (by unfold impl_CheckRegex.f; rw [hk]; rfl), fun w => spec_CheckRegex.calls K2 p _ _ w hk2, fun he => ?_, fun s => (pref_law hk s).1, fun hf => ?_⟩
  · rcases q with x | x
    · exact ⟨fun s => rfl, rfl⟩
    · exact absurd rfl he
  · exact ⟨((pref_law hk ⟨#[]⟩).2 hf).2, fun s => ((pref_law hk s).2 hf).1⟩
end Go.Proofs.Ytcdpmmpdfdillaa.Q

namespace Go.Proofs.Ytcdpmmpdfdillaa.Q
open Go.RowKit Go.Proofs.YtcdpmmpdfdillaaW.PrintWords Go.Proofs.YtcdpmmpdfdillaaW.PrintLast
set_option linter.unusedVariables false
set_option linter.unusedSimpArgs false
theorem and255 (n : Int) : bits .and .i64 n 255 = n % 256 := by
  have h127 : (BitVec.ofInt 64 255).toNat = 2 ^ 8 - 1 := by decide
  have key : (BitVec.ofInt 64 n &&& BitVec.ofInt 64 255).toNat = (n % ((2 ^ 64 : Nat) : Int)).toNat % 2 ^ 8 := by
    rw [BitVec.toNat_and, BitVec.toNat_ofInt, h127, Nat.and_two_pow_sub_one_eq_mod]
  show IntKind.i64.wrap ((BitVec.ofInt 64 n &&& BitVec.ofInt 64 255).toNat : Nat) = n % 256
  rw [key, IntKind.wrap_i64]
  omega
theorem dr_lt {w : World} {g : Nat} {b : Obj} (h : w.heap[g]? = some b) : g < w.heap.size := (Array.getElem?_eq_some_iff.mp h).1
theorem dr_fr {w : World} {x T : Nat} {cs : Array Value} (h : w.heap[x]? = some (.cells cs T (0, 0))) (j : Nat) : w.frozen? ⟨x, j, none⟩ = false := by unfold World.frozen?; rw [h]; simp
theorem dr_u8 : (Try.prog.info? 5).map (fun i => (i.zero, i.size, i.bytes)) = some (some (.int .u8 0), 1, 1) := by kernel_rfl
/-- The drawn bytes can be read. -/
def Cd (A : Option Addr) (n g : Nat) (W : World) : Prop := ∀ j : Nat, j < n → ∃ ad x, A = some ad ∧ ad.block ≠ g ∧ W.cell? (ad.add j) = some (.int .u8 x)
theorem dr_blk (a : Addr) (j : Nat) : (a.add j).block = a.block := by unfold Addr.add; split <;> rfl
theorem Cd.bx {A : Option Addr} {n g : Nat} {w W : World} (h : Cd A n g w) (hb : Bx w.heap.size g w W) : Cd A n g W := fun j hj => by
  obtain ⟨ad, x, e, hg, hc⟩ := h j hj
  exact ⟨ad, x, e, hg, (hb.cell (p := ad.add j) (World.block_lt_of_cell? w _ hc) (by rw [dr_blk]; exact hg)).trans hc⟩
/-- The cursor's own block. -/
def Cs (A : Option Addr) (n c g : Nat) (W : World) : Prop := ∃ (i : Nat) (h : Int), i ≤ n ∧ W.heap[g]? = some (.cells #[.slice A n c, .int .i64 i, .int .i64 h] 86 (0, 0))
structure Cu (A : Option Addr) (n c g : Nat) (W : World) : Prop where
  st : Cs A n c g W
  cd : Cd A n g W
  small : n ≤ 1048576
theorem Cs.lt {A : Option Addr} {n c g : Nat} {W : World} (h : Cs A n c g W) : g < W.heap.size := by
  obtain ⟨i, h, -, e⟩ := h; exact dr_lt e
theorem Cs.below {A : Option Addr} {n c g B : Nat} {w W : World} (h : Cs A n c g w) (hb : Below B w W) (hg : g < B) : Cs A n c g W := by
  obtain ⟨i, x, hi, e⟩ := h
  exact ⟨i, x, hi, (hb.block g hg).trans e⟩
theorem Cu.of {A : Option Addr} {n c g : Nat} {w W : World} (h : Cu A n c g w) (hb : Bx w.heap.size g w W) (hs : Cs A n c g W) : Cu A n c g W := ⟨hs, h.cd.bx hb, h.small⟩
theorem Cu.keep {A : Option Addr} {n c g : Nat} {w W : World} (h : Cu A n c g w) (hb : Below w.heap.size w W) : Cu A n c g W := h.of (.of hb) (h.st.below hb h.st.lt)
set_option maxHeartbeats 1000000 in
theorem byte_call {A : Option Addr} {n c g : Nat} {w : World} (hs : Cu A n c g w) :
    Calls Try.prog 38 #[.pointer (some ⟨g, 0, none⟩)] w fun e w' => ∃ x : Int, e = .returned (.int .i64 x) ∧ (0 ≤ x ∧ x ≤ 255) ∧ Cu A n c g w' ∧ Bx w.heap.size g w w' := by
  have HS := Aside0.mk hs
  obtain ⟨⟨i, h, hi, hg⟩, hcd, hn⟩ := hs
  have c2 : w.cell? ⟨g, 2, none⟩ = some (.int .i64 h) := (blk_cell hg 2).trans rfl
  have f2 := dr_fr hg 2
  have HG := Aside0.mk hg
  have HC := Aside0.mk hcd
  have HN := Aside0.mk hn
  have kr : K0 (Bx w.heap.size g w w) := ⟨Bx.refl _ _ _⟩
  have hgl := dr_lt hg
  clear hg hcd hn
  go_enter Try.func38, Try.ntmps38
  go_upto_region 2 with (fail)
  obtain ⟨h2, hh⟩ : ∃ h2, wrap64 (wrap64 (h * 6364136223846793005) + 1442695040888963407) = h2 := ⟨_, rfl⟩
  rw [hh]
  clear hh
  have hg2 := bk_put (j := 2) HG.out (.int .i64 h2)
  have kr2 : K0 (Bx w.heap.size g w (w.setCell ⟨g, 2, none⟩ (.int .i64 h2))) := ⟨kk⟩
  generalize w.setCell ⟨g, 2, none⟩ (.int .i64 h2) = W at *
  have hcW := HC.out.bx kr2.out
  have c0 : W.cell? ⟨g, 0, none⟩ = some (.slice A n c) := (blk_cell hg2 0).trans rfl
  have c1 : W.cell? ⟨g, 1, none⟩ = some (.int .i64 i) := (blk_cell hg2 1).trans rfl
  have c2 : W.cell? ⟨g, 2, none⟩ = some (.int .i64 h2) := (blk_cell hg2 2).trans rfl
  have f1 := dr_fr hg2 1
  have hi' : (i : Int) ≤ 1048576 := by have := HN.out; omega
  have HG2 := Aside0.mk hg2
  clear hg2 kr f2
  by_cases hlt : i < n
  · obtain ⟨ad, x, rfl, hag, hcx⟩ := hcW i hlt
    have d1 : decide ((i : Int) < (n : Int)) = true := decide_eq_true (by omega)
    clear hcW
    go_quiet (fail)
    go_wp2
    go_quiet (fail)
    go_wp2
    go_quiet (fail)
    go_wp2
    go_ret
    refine ⟨_, rfl, ?_, ?_, ?_⟩
    · (try rw [and255]); omega
    · exact HS.out.of kk ⟨i + 1, h2, by omega, (bk_put (j := 1) (by repeat (first | exact HG2.out | apply blk_drewN)) _).trans (by go_num)⟩
    · exact kk
  · have d1 : decide ((i : Int) < (n : Int)) = false := decide_eq_false (by omega)
    clear hcW
    go_quiet (fail)
    go_wp2
    go_quiet (fail)
    go_wp2
    go_ret
    refine ⟨_, rfl, ?_, ?_, ?_⟩
    · (try rw [and255]); omega
    · exact HS.out.of kk ⟨i, h2, by omega, by repeat (first | exact HG2.out | apply blk_drewN)⟩
    · exact kk
set_option maxHeartbeats 1000000 in
theorem below_call {A : Option Addr} {n c g : Nat} {w : World} (hs : Cu A n c g w) (m : Int) (hm : 1 ≤ m) (hm2 : m ≤ 4611686018427387904) :
    Calls Try.prog 22 #[.pointer (some ⟨g, 0, none⟩), .int .i64 m] w fun e w' => ∃ x : Int, e = .returned (.int .i64 x) ∧ (0 ≤ x ∧ x < m) ∧ Cu A n c g w' ∧ Bx w.heap.size g w w' := by
  have hm0 : m ≠ 0 := by omega
  have HS := Aside0.mk hs
  clear hs
  go_enter Try.func22, Try.ntmps22
  by_cases h : m ≤ 256
  · have d1 : decide (m ≤ 256) = true := decide_eq_true h
    go_wp2_with fail
    refine (byte_call HS.out).mono ?_
    rintro ex W ⟨x, rfl, hx, hc, hb⟩
    have HB := Aside0.mk (And.intro hc hb)
    clear hc hb
    go_wp2
    go_ret
    refine ⟨_, rfl, ?_, HB.out⟩
    exact ⟨Int.emod_nonneg _ hm0, Int.emod_lt_of_pos _ (by omega)⟩
  · have d1 : decide (m ≤ 256) = false := decide_eq_false h
    go_wp2_with fail
    refine (byte_call HS.out).mono ?_
    rintro ex W ⟨x, rfl, hx, hc, hb⟩
    have HX := Aside0.mk hx
    have HB := Aside0.mk (And.intro hc hb)
    clear hc hb hx
    go_wp2_with fail
    refine (byte_call HB.out.1).mono ?_
    rintro ex W2 ⟨y, rfl, hy, hc, hb⟩
    have HY := Aside0.mk hy
    have HB2 := Aside0.mk (And.intro hc (HB.out.2.step hb))
    clear hc hb hy
    go_wp2_with fail
    refine (byte_call HB2.out.1).mono ?_
    rintro ex W3 ⟨z, rfl, hz, hc, hb⟩
    have HZ := Aside0.mk hz
    have HB3 := Aside0.mk (And.intro hc (HB2.out.2.step hb))
    clear hc hb hz
    go_wp2
    go_ret
    have hx := HX.out
    have hy := HY.out
    have hz := HZ.out
    refine ⟨_, rfl, ?_, HB3.out⟩
    rw [wrap_id (x * 65536) (by omega) (by omega), wrap_id (y * 256) (by omega) (by omega), wrap_id (x * 65536 + y * 256) (by omega) (by omega), wrap_id _ (by omega) (by omega), Int.tmod_eq_emod_of_nonneg (by omega)]
    exact ⟨Int.emod_nonneg _ hm0, Int.emod_lt_of_pos _ (by omega)⟩
theorem once_call {A : Option Addr} {n c g : Nat} {w : World} (hs : Cu A n c g w) (m : Int) (hm : 1 ≤ m) (hm2 : m ≤ 4611686018427387904) :
    Calls Try.prog 19 #[.pointer (some ⟨g, 0, none⟩), .int .i64 m] w fun e w' => ∃ b : Bool, e = .returned (.bool b) ∧ Cu A n c g w' ∧ Bx w.heap.size g w w' := by
  have HS := Aside0.mk hs
  clear hs
  go_enter Try.func19, Try.ntmps19
  go_wp2_with fail
  refine (below_call HS.out m hm hm2).mono ?_
  rintro ex W ⟨x, rfl, hx, hc, hb⟩
  have HB := Aside0.mk (And.intro hc hb)
  clear hc hb hx hm hm2
  go_wp2
  go_ret
  exact ⟨_, rfl, HB.out⟩
/-- One of some words. -/
theorem pick_call {A : Option Addr} {n c g : Nat} {w : World} (hs : Cu A n c g w) (k m c2 : Nat) (cs : Array Value) (T : TypeId) (hk : w.heap[k]? = some (.cells cs T (0, 0))) (hg : k ≠ g) (hm : cs.size = m) (h1 : 1 ≤ m) (h2 : m ≤ 100) (hv : ∀ v ∈ cs.toList, ∃ s : ByteArray, v = .string s ∧ s.size ≤ 8) :
    Calls Try.prog 24 #[.pointer (some ⟨g, 0, none⟩), .slice (some ⟨k, 0, none⟩) m c2] w fun e w' => ∃ s : ByteArray, e = .returned (.string s) ∧ s.size ≤ 8 ∧ Cu A n c g w' ∧ Bx w.heap.size g w w' := by
  have HS := Aside0.mk hs
  have HK := Aside0.mk hk
  have HG := Aside0.mk hg
  clear hs hk hg
  go_enter Try.func24, Try.ntmps24
  go_wp2_with fail
  refine (below_call HS.out m (by omega) (by omega)).mono ?_
  rintro ex W ⟨x, rfl, hx, hc, hb⟩
  obtain ⟨j, rfl⟩ := Int.eq_ofNat_of_zero_le hx.1
  have hj : j < m := by omega
  have hjm : (j : Int) < (m : Int) := hx.2
  obtain ⟨s, es, hz⟩ := hv (cs[j]'(by omega)) (by simp)
  have hkW : W.heap[k]? = some (.cells cs T (0, 0)) := (hb.block k (dr_lt HK.out) HG.out).trans HK.out
  have cj : W.cell? ⟨k, j, none⟩ = some (.string s) := (blk_cell hkW j).trans (by rw [Array.getElem?_eq_getElem (by omega), es])
  have HB := Aside0.mk (And.intro hc hb)
  have HZ := Aside0.mk hz
  clear hc hb hx es hz hv hkW hm h1
  go_wp2
  go_ret
  exact ⟨_, rfl, HZ.out, HB.out⟩
end Go.Proofs.Ytcdpmmpdfdillaa.Q

namespace Go.Proofs.Ytcdpmmpdfdillaa.Q
open Go.RowKit Go.Proofs.YtcdpmmpdfdillaaW.PrintWords Go.Proofs.YtcdpmmpdfdillaaW.PrintLast
set_option linter.unusedVariables false
set_option linter.unusedSimpArgs false
theorem dr_move {B g : Nat} {w W W' : World} {e : TypeId} {v : Value} {n : Nat} {xs : List Value} (h : W.ownsRow B e 1 v n xs) (hB : g < B) (hb : Bx W.heap.size g W W') : W'.ownsRow B e 1 v n xs :=
  own_move (w1 := W') h (fun q hq => hb.block q (h.lt q hq).2 (by have := (h.lt q hq).1; omega))
theorem dr_empty (w : World) (B : Nat) (hB : B ≤ w.heap.size) (e : TypeId) : (w.alloc (.cells #[] e)).ownsRow B e 1 (.slice (some ⟨w.heap.size, 0, none⟩) 0 0) 0 [] := ⟨rfl, .inr ⟨w.heap.size, 0, #[], rfl, hB, heap_alloc_new _ _, Nat.le_refl _, Nat.zero_le _, rfl, rfl⟩⟩
theorem dr_nums (xs : List Int) (b : Int) : nums .u8 (xs ++ [b]) = nums .u8 xs ++ [.int .u8 b] := by simp [nums]
set_option maxHeartbeats 4000000 in
set_option maxRecDepth 100000 in
theorem letters_call {A : Option Addr} {n c g : Nat} {w : World} (hs : Cu A n c g w) (lo hi : Nat) (hlo : lo ≤ hi) (hhi : hi ≤ 1000) :
    Calls Try.prog 21 #[.pointer (some ⟨g, 0, none⟩), .int .i64 lo, .int .i64 hi] w fun e w' => ∃ s : ByteArray, e = .returned (.string s) ∧ s.size ≤ hi ∧ Cu A n c g w' ∧ Bx w.heap.size g w w' := by
  have hgl := hs.st.lt
  have HS := Aside0.mk hs
  clear hs
  have e1 : wrap64 ((hi : Int) - lo) = (hi : Int) - lo := wrap_id _ (by omega) (by omega)
  have e2 : wrap64 ((hi : Int) - lo + 1) = (hi : Int) - lo + 1 := wrap_id _ (by omega) (by omega)
  go_enter Try.func21, Try.ntmps21
  go_wp2_with fail
  try rw [e1]
  try rw [e2]
  clear e1 e2
  refine (below_call HS.out ((hi : Int) - lo + 1) (by omega) (by omega)).mono ?_
  rintro ex W1 ⟨x, rfl, hx, hc, hb⟩
  obtain ⟨m, hm⟩ : ∃ m : Nat, (lo : Int) + x = m := Int.eq_ofNat_of_zero_le (by omega)
  have hmh : m ≤ hi := by omega
  have e3 : wrap64 ((lo : Int) + x) = (m : Int) := by rw [hm]; exact wrap_id _ (by omega) (by omega)
  have H1 := Aside0.mk (And.intro hc hb)
  clear hc hb hx hm
  go_upto_region 3 with (fail)
  try rw [e3]
  clear e3
  go_wp2_with fail
  go_loopw [8, 9] (fun v8 v9 W => ∃ (i : Nat) (tx : List Int), v9 = .int .i64 i ∧ i ≤ m ∧ Aside0 (tx.length = i) ∧ Aside0 (W.ownsRow w.heap.size 5 1 v8 tx.length (nums .u8 tx)) ∧ Aside0 (Cu A n c g W ∧ Bx w.heap.size g w W)) (fun v8 v9 _ => m - (intOf v9).toNat)
  case atStart => exact ⟨0, [], rfl, Nat.zero_le _, ⟨rfl⟩, ⟨dr_empty _ _ H1.out.2.size _⟩, ⟨H1.out.1.keep (below_alloc (Below.refl _ _) _), H1.out.2.trans (.of (below_alloc (Below.refl _ _) _ |>.mono H1.out.2.size))⟩⟩
  case round =>
    obtain ⟨i, tx, rfl, hi1, HT, HO, HC⟩ := hrel
    obtain ⟨A6, c6, rfl⟩ := own_slice HO.out
    by_cases hlt : i < m
    · have d1 : decide ((i : Int) < (m : Int)) = true := decide_eq_true (by omega)
      go_wp2_with fail
      refine (below_call HC.out.1 3 (by omega) (by omega)).mono ?_
      rintro ex W2 ⟨y, rfl, hy, hc, hb⟩
      have ho2 := dr_move (w := w) HO.out hgl hb
      have hb2 := HC.out.2.step hb
      obtain ⟨i0, hz⟩ := Option.map_eq_some_iff.1 dr_u8
      obtain ⟨hi0, hzz⟩ := hz
      simp only [Prod.mk.injEq] at hzz
      have hcu : ∀ v : Int, ∀ j u, [Value.int .u8 v][j]? = some u → (W2.alloc (.cells #[.int .u8 v] 5)).cell? ((⟨W2.heap.size, 0, none⟩ : Addr).add j) = some u := by
        intro v j' u' hu
        rcases j' with _ | j'
        · cases hu; exact cell_of_row _ W2.heap.size 0 _ 5 _ (heap_alloc_new _ _)
        · cases hu
      have h1c : ∀ v : Int, ∀ u ∈ [Value.int .u8 v], u.oneCell' = true := by
        intro v u' hu
        obtain rfl := List.mem_singleton.mp hu
        rfl
      have htl := HT.out
      have hl3 : tx.length + 1 ≤ maxLen := by simp only [maxLen]; omega
      have hl4 : (tx.length + 1) * 1 ≤ 140737488355328 := by omega
      have hl5 : w.heap.size ≤ (W2.alloc (.cells #[.int .u8 0] 5)).heap.size := by rw [sz_al]; have := hb2.size; omega
      have HO2 := Aside0.mk ho2
      have HB2 := Aside0.mk (And.intro hc hb2)
      have HQ := Aside0.mk (And.intro hcu (And.intro h1c (And.intro hl3 (And.intro hl4 hl5))))
      have HZ := Aside0.mk (And.intro hi0 hzz)
      clear ho2 hb2 hi0 hzz hcu h1c htl hl3 hl4 hl5 hb hc HO HC
      go_wp2_with (at_builtin; refine wpList_append_at rfl _ _ 23 rfl w.heap.size 5 i0 (.int .u8 0) 1 1 Try.underlying23 HZ.out.1 HZ.out.2.1 HZ.out.2.2.1 HZ.out.2.2.2 rfl (by decide) (.slice A6 tx.length c6) tx.length (nums .u8 tx) rfl (HO2.out.alloc _) ⟨W2.heap.size, 0, none⟩ 1 1 [.int .u8 _] rfl rfl (HQ.out.1 _) (HQ.out.2.1 _) HQ.out.2.2.1 HQ.out.2.2.2.1 (by rw [sz_al]; have := HB2.out.2.size; omega) ?_; intro v3 w3 hown hgr hloc; have HG := Aside0.mk (And.intro hown (And.intro hgr hloc)); clear hown hgr hloc)
      have hbl : Below w.heap.size W2 w3 := ((Below.refl _ _).alloc HB2.out.2.size _).trans ((Below.refl _ _).grown HG.out.2.1 (by rw [sz_al]; have := HB2.out.2.size; omega) (fun q hq => (HO2.out.lt q hq).1))
      have hbx := HB2.out.2.trans (.of hbl)
      have HF := Aside0.mk (And.intro (HS.out.of hbx (HB2.out.1.st.below hbl hgl)) hbx)
      clear hbl hbx
      go_roundw
      case rel => exact ⟨i + 1, tx ++ [_], by go_num, by omega, ⟨by rw [List.length_append]; simp [HT.out]⟩, ⟨by rw [dr_nums, List.length_append]; exact HG.out.1⟩, HF⟩
      case measure => simp [intOf]; omega
    · have d1 : decide ((i : Int) < (m : Int)) = false := decide_eq_false (by omega)
      have hst := own_string Try.underlying23 Try.underlying5 Try.underlying9 HO.out
      clear HO
      go_wp2
      go_ret
      exact ⟨_, rfl, by rw [strOfNums_size]; have := HT.out; omega, HC.out⟩
end Go.Proofs.Ytcdpmmpdfdillaa.Q

namespace Go.Proofs.Ytcdpmmpdfdillaa.Q
open Go.RowKit Go.Proofs.YtcdpmmpdfdillaaW.PrintWords Go.Proofs.YtcdpmmpdfdillaaW.PrintLast
set_option linter.unusedVariables false
set_option linter.unusedSimpArgs false
theorem dr_bytes (w : World) (s : ByteArray) : Below w.heap.size w (Lib.bytesWorld w 5 s) := ⟨rfl, rfl, rfl, by rw [Lib.bytesWorld_size]; omega, fun k hk => Lib.bytesWorld_at_old w 5 s k hk⟩
theorem dr_cells (w : World) (s : ByteArray) : ∀ j u, (nums .u8 (bytesOf s))[j]? = some u → (Lib.bytesWorld w 5 s).cell? ((⟨w.heap.size, 0, none⟩ : Addr).add j) = some u := by
  intro j u hu
  have hl : (nums .u8 (bytesOf s)).length = s.size := by simp [nums, bytesOf_length]
  have hj : j < s.size := by rw [← hl]; exact (List.getElem?_eq_some_iff.mp hu).1
  have h1 := Lib.bytesWorld_cell w 5 s j hj
  have h2 : (⟨w.heap.size, 0, none⟩ : Addr).add j = ⟨w.heap.size, j, none⟩ := by simp [Addr.add]; omega
  rw [h2, h1, ← hu]
  unfold nums bytesOf
  have hj2 : j < s.data.toList.length := by rw [data_length]; omega
  rw [List.getElem?_map, List.getElem?_map, List.getElem?_eq_getElem hj2, List.getD_eq_getElem?_getD, List.getElem?_eq_getElem hj2]
  rfl
set_option maxHeartbeats 4000000 in
set_option maxRecDepth 100000 in
theorem many_call (s : ByteArray) (hz : s.size = 1) (m : Nat) (hm : m ≤ 1000) (w : World) :
    Calls Try.prog 23 #[.string s, .int .i64 m] w fun e w' => ∃ s : ByteArray, e = .returned (.string s) ∧ s.size ≤ 1000 ∧ Below w.heap.size w w' := by
  go_enter Try.func23, Try.ntmps23
  go_wp2_with fail
  go_loopw [5, 6] (fun v5 v6 W => ∃ (i : Nat) (tx : List Int), v6 = .int .i64 i ∧ i ≤ m ∧ Aside0 (tx.length = i) ∧ Aside0 (W.ownsRow w.heap.size 5 1 v5 tx.length (nums .u8 tx)) ∧ Aside0 (Below w.heap.size w W)) (fun v5 v6 _ => m - (intOf v6).toNat)
  case atStart => exact ⟨0, [], rfl, Nat.zero_le _, ⟨rfl⟩, ⟨dr_empty _ _ (Nat.le_refl _) _⟩, ⟨below_alloc (Below.refl _ _) _⟩⟩
  case round =>
    obtain ⟨i, tx, rfl, hi1, HT, HO, HC⟩ := hrel
    obtain ⟨A6, c6, rfl⟩ := own_slice HO.out
    by_cases hlt : i < m
    · have d1 : decide ((i : Int) < (m : Int)) = true := decide_eq_true (by omega)
      go_wp2_with fail
      rw [Lib.run_convert_string_bytes wr 9 23 5 s Try.underlying9 Try.underlying23 Try.underlying5]
      have hbb := dr_bytes wr s
      have hcc := dr_cells wr s
      have ho2 := own_move (w1 := Lib.bytesWorld wr 5 s) HO.out (fun q hq => hbb.block q (HO.out.lt q hq).2)
      have hb2 := HC.out.trans (hbb.mono HC.out.size)
      have hnl : (nums .u8 (bytesOf s)).length = 1 * 1 := by simp [nums, bytesOf_length, hz]
      have hn1 : ∀ u ∈ nums .u8 (bytesOf s), u.oneCell' = true := by
        intro u hu
        unfold nums at hu
        obtain ⟨x, -, rfl⟩ := List.mem_map.1 hu
        rfl
      obtain ⟨i0, hz'⟩ := Option.map_eq_some_iff.1 dr_u8
      obtain ⟨hi0, hzz⟩ := hz'
      simp only [Prod.mk.injEq] at hzz
      have htl := HT.out
      have hl3 : tx.length + 1 ≤ maxLen := by simp only [maxLen]; omega
      have hl4 : (tx.length + 1) * 1 ≤ 140737488355328 := by omega
      have HO2 := Aside0.mk ho2
      have HB2 := Aside0.mk hb2
      have HQ := Aside0.mk (And.intro hcc (And.intro hn1 (And.intro hl3 (And.intro hl4 hnl))))
      have HZ := Aside0.mk (And.intro hi0 hzz)
      clear hbb hcc ho2 hb2 hnl hn1 hi0 hzz htl hl3 hl4 HO HC
      rw [hz]
      go_wp2_with (at_builtin; refine wpList_append_at rfl _ _ 23 rfl w.heap.size 5 i0 (.int .u8 0) 1 1 Try.underlying23 HZ.out.1 HZ.out.2.1 HZ.out.2.2.1 HZ.out.2.2.2 rfl (by decide) (.slice A6 tx.length c6) tx.length (nums .u8 tx) rfl HO2.out ⟨wr.heap.size, 0, none⟩ 1 _ (nums .u8 (bytesOf s)) rfl HQ.out.2.2.2.2 HQ.out.1 HQ.out.2.1 HQ.out.2.2.1 HQ.out.2.2.2.1 HB2.out.size ?_; intro v3 w3 hown hgr hloc; have HG := Aside0.mk (And.intro hown (And.intro hgr hloc)); clear hown hgr hloc)
      have hbl : Below w.heap.size (Lib.bytesWorld wr 5 s) w3 := (Below.refl _ _).grown HG.out.2.1 HB2.out.size (fun q hq => (HO2.out.lt q hq).1)
      have HF := Aside0.mk (HB2.out.trans hbl)
      clear hbl
      go_roundw
      case rel => exact ⟨i + 1, tx ++ bytesOf s, by go_num, by omega, ⟨by rw [List.length_append, bytesOf_length, hz, HT.out]⟩, ⟨by rw [nums_append, List.length_append, bytesOf_length, hz]; exact HG.out.1⟩, HF⟩
      case measure => simp [intOf]; omega
    · have d1 : decide ((i : Int) < (m : Int)) = false := decide_eq_false (by omega)
      have hst := own_string Try.underlying23 Try.underlying5 Try.underlying9 HO.out
      clear HO
      go_wp2
      go_ret
      exact ⟨_, rfl, by rw [strOfNums_size]; have := HT.out; omega, HC.out⟩
set_option maxHeartbeats 4000000 in
set_option maxRecDepth 100000 in
/-- A new cursor. -/
theorem new_call (A : Option Addr) (n c : Nat) (w : World) (hn : n ≤ 1048576) (hc : ∀ j : Nat, j < n → ∃ ad x, A = some ad ∧ w.cell? (ad.add j) = some (.int .u8 x)) :
    Calls Try.prog 17 #[.slice A n c] w fun e w' => ∃ g, e = .returned (.pointer (some ⟨g, 0, none⟩)) ∧ w.heap.size ≤ g ∧ Cu A n c g w' ∧ Below w.heap.size w w' := by
  have HC := Aside0.mk hc
  clear hc
  have hn2 : (n : Int) ≤ 1048576 := by omega
  go_enter Try.func17, Try.ntmps17
  go_wp2_with fail
  go_loopw [3, 4] (fun v3 v4 W => ∃ (i : Nat) (h : Int), v3 = .int .i64 h ∧ v4 = .int .i64 i ∧ i ≤ n ∧ W = w) (fun v3 v4 _ => n - (intOf v4).toNat)
  case atStart => exact ⟨0, _, rfl, rfl, Nat.zero_le _, rfl⟩
  case round =>
    obtain ⟨i, h, rfl, rfl, hi, rfl⟩ := hrel
    by_cases hlt : i < n
    · have d1 : decide ((i : Int) < (n : Int)) = true := decide_eq_true (by omega)
      have hii : (i : Int) < (n : Int) := by omega
      obtain ⟨ad, x, rfl, hx⟩ := HC.out i hlt
      go_wp2
      go_roundw
      case rel => exact ⟨i + 1, _, rfl, by go_num, by omega, by first | rfl | trivial⟩
      case measure => simp [intOf]; omega
    · have d1 : decide ((i : Int) < (n : Int)) = false := decide_eq_false (by omega)
      go_wp2
      go_ret
      have hb : Below wr.heap.size wr (wr.alloc (.cells #[.slice A n c, .int .i64 0, .int .i64 h] 86)) := below_alloc (Below.refl _ _) _
      refine ⟨_, rfl, Nat.le_refl _, ⟨⟨0, h, Nat.zero_le _, heap_alloc_new _ _⟩, fun j hj => ?_, hn⟩, hb⟩
      obtain ⟨ad, x, e, hx⟩ := HC.out j hj
      have hlt := World.block_lt_of_cell? wr _ hx
      refine ⟨ad, x, e, ?_, (hb.cell hlt).trans hx⟩
      have h3 : ad.block < wr.heap.size := by rw [dr_blk] at hlt; exact hlt
      omega
end Go.Proofs.Ytcdpmmpdfdillaa.Q

namespace Go.Proofs.Ytcdpmmpdfdillaa.Q
open Go.RowKit Go.Proofs.YtcdpmmpdfdillaaW.PrintWords Go.Proofs.YtcdpmmpdfdillaaW.PrintLast
set_option linter.unusedVariables false
set_option linter.unusedSimpArgs false
/-- How long a piece may be. -/
def pB : Nat → Nat
  | 0 => 8
  | d + 1 => 3 * pB d + 6
theorem pB_ge : ∀ d, 8 ≤ pB d
  | 0 => Nat.le_refl _
  | d + 1 => by have := pB_ge d; show 8 ≤ 3 * pB d + 6; omega
/-- A call that draws a string. -/
abbrev DrS (f : FuncId) (args : Array Value) (B : Nat) (A : Option Addr) (n c g : Nat) (w : World) : Prop :=
  Calls Try.prog f args w fun e w' => ∃ s : ByteArray, e = .returned (.string s) ∧ s.size ≤ B ∧ Cu A n c g w' ∧ Bx w.heap.size g w w'
def PieceP (d : Nat) : Prop := ∀ A n c g w, Cu A n c g w → DrS 46 #[.pointer (some ⟨g, 0, none⟩), .int .i64 d] (pB d) A n c g w
def TextP (d : Nat) : Prop := ∀ A n c g w, Cu A n c g w → DrS 37 #[.pointer (some ⟨g, 0, none⟩), .int .i64 d] (3 * pB d + 4) A n c g w
/-- A letter, in the first arm of a piece. -/
theorem piece_zero : PieceP 0 := by
  intro A n c g w hs
  have HS := Aside0.mk hs
  clear hs
  go_enter Try.func46, Try.ntmps46
  go_wp2_with fail
  refine (below_call HS.out 14 (by omega) (by omega)).mono ?_
  rintro ex W ⟨x, rfl, hx, hc, hb⟩
  have HB := Aside0.mk (And.intro hc hb)
  clear hc hb
  have fin : ∀ ex W', (∃ s : ByteArray, ex = Ending.returned (.string s) ∧ s.size ≤ 1 ∧ Cu A n c g W' ∧ Bx W.heap.size g W W') → ∃ s : ByteArray, ex = Ending.returned (.string s) ∧ s.size ≤ pB 0 ∧ Cu A n c g W' ∧ Bx w.heap.size g w W' := by
    rintro ex W' ⟨s, e, hz, hc, hb⟩
    exact ⟨s, e, by have := pB_ge 0; omega, hc, HB.out.2.step hb⟩
  by_cases h6 : x < 6
  · have d1 : decide (x < 6) = true := decide_eq_true h6
    clear hx
    go_wp2_with fail
    refine (letters_call HB.out.1 1 1 (by omega) (by omega)).mono ?_
    rintro ex W2 ⟨s, rfl, hz, hc, hb⟩
    have HF := Aside0.mk (fin _ _ ⟨s, rfl, hz, hc, hb⟩)
    clear hz hc hb
    go_wp2
    go_ret
    exact HF.out
  · have d1 : decide (x < 6) = false := decide_eq_false h6
    clear hx
    go_wp2_with fail
    refine (letters_call HB.out.1 1 1 (by omega) (by omega)).mono ?_
    rintro ex W2 ⟨s, rfl, hz, hc, hb⟩
    have HF := Aside0.mk (fin _ _ ⟨s, rfl, hz, hc, hb⟩)
    clear hz hc hb
    go_wp2
    go_ret
    exact HF.out
set_option maxHeartbeats 1000000 in
theorem piece_succ (d : Nat) (hd : d < 1000) (hpd : pB d ≤ 100000) (ht : TextP d) : PieceP (d + 1) := by
  intro A n c g w hs
  have HS := Aside0.mk hs
  have hgl := hs.st.lt
  clear hs
  go_enter Try.func46, Try.ntmps46
  go_wp2_with fail
  refine (below_call HS.out 14 (by omega) (by omega)).mono ?_
  rintro ex W ⟨x, rfl, hx, hc, hb⟩
  have HB := Aside0.mk (And.intro hc hb)
  have hgW : W.heap.size ≠ g := by have := hb.size; omega
  have HP := Aside0.mk (pB_ge d)
  clear hc hb
  have dd : (((d + 1 : Nat) : Int) == 0) = false := beq_eq_false_iff_ne.mpr (by omega)
  have hbk : ∀ (W1 W' : World) s, Below W.heap.size W W1 → (s : ByteArray).size ≤ 8 → Cu A n c g W' → Bx W1.heap.size g W1 W' → ∃ s' : ByteArray, Ending.returned (.string s) = Ending.returned (.string s') ∧ s'.size ≤ pB (d + 1) ∧ Cu A n c g W' ∧ Bx w.heap.size g w W' := fun W1 W' s h1 hz hc hb =>
    ⟨s, rfl, by have := HP.out; show _ ≤ 3 * pB d + 6; omega, hc, HB.out.2.trans (((Bx.of h1).trans (hb.lower h1.size)).lower HB.out.2.size)⟩
  have HK := Aside0.mk hbk
  clear hbk
  by_cases h6 : x < 6
  · have d1 : decide (x < 6) = true := decide_eq_true h6
    clear hx
    go_wp2_with fail
    refine (letters_call HB.out.1 1 1 (by omega) (by omega)).mono ?_
    rintro ex W2 ⟨s, rfl, hz, hc, hb⟩
    have HF := Aside0.mk (HK.out W _ s (Below.refl _ _) (by omega) hc hb)
    clear hz hc hb
    go_wp2
    go_ret
    exact HF.out
  have d1 : decide (x < 6) = false := decide_eq_false h6
  by_cases e6 : x = 6
  · subst e6
    clear hx
    go_wp2
    go_ret
    exact HK.out W _ _ (Below.refl _ _) (by decide) HB.out.1 (Bx.refl _ _ _)
  have d6 : (x == 6) = false := beq_eq_false_iff_ne.mpr e6
  by_cases e7 : x = 7
  · subst e7
    clear hx
    go_wp2_with fail
    refine (pick_call (HB.out.1.keep (below_alloc (Below.refl _ _) _)) W.heap.size 6 6 _ _ (heap_alloc_new W _) hgW rfl (by omega) (by omega) ?_).mono ?_
    · intro v hv
      simp at hv
      rcases hv with rfl | rfl | rfl | rfl | rfl | rfl <;> exact ⟨_, rfl, by decide⟩
    rintro ex W2 ⟨s, rfl, hz, hc, hb⟩
    have HF := Aside0.mk (HK.out _ _ s (below_alloc (Below.refl _ _) _) hz hc hb)
    clear hz hc hb
    go_wp2
    go_ret
    exact HF.out
  have d7 : (x == 7) = false := beq_eq_false_iff_ne.mpr e7
  by_cases e8 : x = 8
  · subst e8
    clear hx
    go_wp2_with fail
    refine (pick_call (HB.out.1.keep (below_alloc (Below.refl _ _) _)) W.heap.size 4 4 _ _ (heap_alloc_new W _) hgW rfl (by omega) (by omega) ?_).mono ?_
    · intro v hv
      simp at hv
      rcases hv with rfl | rfl | rfl | rfl <;> exact ⟨_, rfl, by decide⟩
    rintro ex W2 ⟨s, rfl, hz, hc, hb⟩
    have HF := Aside0.mk (HK.out _ _ s (below_alloc (Below.refl _ _) _) hz hc hb)
    clear hz hc hb
    go_wp2
    go_ret
    exact HF.out
  have d8 : (x == 8) = false := beq_eq_false_iff_ne.mpr e8
  have ed : wrap64 (((d + 1 : Nat) : Int) - 1) = (d : Int) := by rw [wrap_id _ (by omega) (by omega)]; omega
  clear hx h6 e6 e7 e8
  go_wp2_with fail
  try rw [ed]
  refine (ht A n c g W HB.out.1).mono ?_
  rintro ex W2 ⟨s, rfl, hz, hc, hb⟩
  have HF := Aside0.mk (And.intro hz (And.intro hc (HB.out.2.step hb)))
  have q1 : ¬ 9223372036854775807 < 1 + s.size := by omega
  have q2 : ¬ 9223372036854775807 < 1 + s.size + 1 := by omega
  clear hz hc hb
  go_wp2
  go_ret
  refine ⟨_, rfl, ?_, HF.out.2⟩
  have := HF.out.1
  simp only [ByteArray.size_append]
  show _ ≤ 3 * pB d + 6
  have h1 : (⟨#[40]⟩ : ByteArray).size = 1 := rfl
  have h2 : (⟨#[41]⟩ : ByteArray).size = 1 := rfl
  omega
theorem dr_mul (i P : Nat) : (i + 1) * (P + 1) = i * (P + 1) + P + 1 := by rw [Nat.succ_mul]; omega
set_option maxHeartbeats 4000000 in
theorem text_of (d : Nat) (hpd : pB d ≤ 100000) (hp : PieceP d) : TextP d := by
  intro A n c g w hs
  have HS := Aside0.mk hs
  unfold PieceP at hp
  unfold DrS
  generalize pB d = P at *
  have HP := Aside0.mk hp
  clear hs hp
  go_enter Try.func37, Try.ntmps37
  go_wp2_with fail
  refine (below_call HS.out 4 (by omega) (by omega)).mono ?_
  rintro ex W ⟨x, rfl, hx, hc, hb⟩
  obtain ⟨m, rfl⟩ := Int.eq_ofNat_of_zero_le hx.1
  have HB := Aside0.mk (And.intro hc hb)
  have hm : m ≤ 3 := by omega
  clear hc hb hx
  go_wp2_with fail
  go_loopw [5, 7] (fun v5 v7 W => ∃ (i : Nat) (o : ByteArray), v7 = .int .i64 i ∧ v5 = .string o ∧ i ≤ m ∧ Aside0 (o.size ≤ i * (P + 1)) ∧ Aside0 (Cu A n c g W ∧ Bx w.heap.size g w W)) (fun v5 v7 _ => m - (intOf v7).toNat)
  case atStart => exact ⟨0, ⟨#[]⟩, rfl, rfl, Nat.zero_le _, ⟨Nat.zero_le _⟩, HB⟩
  case round =>
    obtain ⟨i, o, rfl, rfl, hi, HO, HC⟩ := hrel
    have hl : o.size ≤ 3 * (P + 1) := Nat.le_trans HO.out (Nat.mul_le_mul_right _ (by omega))
    have HL := Aside0.mk hl
    clear hl
    by_cases hlt : i < m
    · have d1 : decide ((i : Int) < (m : Int)) = true := decide_eq_true (by omega)
      go_wp2_with fail
      refine (HP.out A n c g wr HC.out.1).mono ?_
      rintro ex W2 ⟨s, rfl, hz, hc, hb⟩
      have hos : (o ++ s).size = o.size + s.size := ByteArray.size_append
      have q1 : ¬ 9223372036854775807 < o.size + s.size := by have := HL.out; omega
      have ho2 : (o ++ s).size ≤ i * (P + 1) + P := by have := HO.out; omega
      have HC2 := Aside0.mk (And.intro hc (HC.out.2.step hb))
      have HO2 := Aside0.mk ho2
      have HL2 := Aside0.mk (show (o ++ s).size ≤ 4 * (P + 1) by have := HL.out; omega)
      clear hz hc hb ho2 hos HO HL HC
      go_wp2_with fail
      clear q1
      generalize o ++ s = o2 at *
      refine (below_call HC2.out.1 9 (by omega) (by omega)).mono ?_
      rintro ex W3 ⟨k, rfl, hk, hc, hb⟩
      have HC3 := Aside0.mk (And.intro hc (HC2.out.2.step hb))
      have q1 : ¬ 9223372036854775807 < o2.size + 1 := by have := HL2.out; omega
      have fin : ∀ b : ByteArray, b.size ≤ 1 → (o2 ++ b).size ≤ (i + 1) * (P + 1) := fun b hb => by rw [dr_mul, ByteArray.size_append]; have := HO2.out; omega
      have fin0 : o2.size ≤ (i + 1) * (P + 1) := by rw [dr_mul]; have := HO2.out; omega
      have FIN := Aside0.mk (And.intro fin fin0)
      clear hc hb HC2 fin fin0
      have e1 : wrap64 ((i : Int) + 1) = ((i + 1 : Nat) : Int) := wrap_nat i (by omega)
      have hk5 : k = 0 ∨ k = 1 ∨ k = 2 ∨ (k = 3 ∧ i + 1 < m) ∨ (k = 3 ∧ ¬ i + 1 < m) ∨ 4 ≤ k := by omega
      clear hk
      rcases hk5 with rfl | rfl | rfl | ⟨rfl, hk⟩ | ⟨rfl, hk⟩ | hk
      · go_wp2
        go_roundw
        case rel => exact ⟨i + 1, _, by go_num, rfl, by omega, ⟨FIN.out.1 _ (by decide)⟩, HC3⟩
        case measure => simp [intOf]; omega
      · go_wp2
        go_roundw
        case rel => exact ⟨i + 1, _, by go_num, rfl, by omega, ⟨FIN.out.1 _ (by decide)⟩, HC3⟩
        case measure => simp [intOf]; omega
      · go_wp2
        go_roundw
        case rel => exact ⟨i + 1, _, by go_num, rfl, by omega, ⟨FIN.out.1 _ (by decide)⟩, HC3⟩
        case measure => simp [intOf]; omega
      · have d2 : decide (((i : Int) + 1) < (m : Int)) = true := decide_eq_true (by omega)
        go_wp2
        go_roundw
        case rel => exact ⟨i + 1, _, by go_num, rfl, by omega, ⟨FIN.out.1 _ (by decide)⟩, HC3⟩
        case measure => simp [intOf]; omega
      · have d2 : decide (((i : Int) + 1) < (m : Int)) = false := decide_eq_false (by omega)
        go_wp2
        go_roundw
        case rel => exact ⟨i + 1, _, by go_num, rfl, by omega, ⟨FIN.out.2⟩, HC3⟩
        case measure => simp [intOf]; omega
      · have d20 : (k == 0) = false := beq_eq_false_iff_ne.mpr (by omega)
        have d21 : (k == 1) = false := beq_eq_false_iff_ne.mpr (by omega)
        have d22 : (k == 2) = false := beq_eq_false_iff_ne.mpr (by omega)
        have d23 : (k == 3) = false := beq_eq_false_iff_ne.mpr (by omega)
        clear hk
        go_wp2
        go_roundw
        case rel => exact ⟨i + 1, _, by go_num, rfl, by omega, ⟨FIN.out.2⟩, HC3⟩
        case measure => simp [intOf]; omega
    · have d1 : decide ((i : Int) < (m : Int)) = false := decide_eq_false (by omega)
      have q1 : ¬ 9223372036854775807 < o.size + 1 := by have := HL.out; omega
      go_wp2_with fail
      refine (once_call HC.out.1 14 (by omega) (by omega)).mono ?_
      rintro ex W2 ⟨b, rfl, hc, hb⟩
      have HC2 := Aside0.mk (And.intro hc (HC.out.2.step hb))
      clear hc hb HC
      cases b with
      | false =>
        go_wp2
        go_ret
        exact ⟨_, rfl, by have := HL.out; omega, HC2.out⟩
      | true =>
        go_wp2
        go_ret
        refine ⟨_, rfl, ?_, HC2.out⟩
        have h1 : (⟨#[42]⟩ : ByteArray).size = 1 := rfl
        have := HL.out
        rw [ByteArray.size_append]
        omega
theorem text_two : TextP 2 := by
  have h0 : pB 0 ≤ 100000 := by decide
  have h1 : pB 1 ≤ 100000 := by decide
  have h2 : pB 2 ≤ 100000 := by decide
  exact text_of 2 h2 (piece_succ 1 (by omega) h1 (text_of 1 h1 (piece_succ 0 (by omega) h0 (text_of 0 h0 piece_zero))))
end Go.Proofs.Ytcdpmmpdfdillaa.Q

namespace Go.Proofs.Ytcdpmmpdfdillaa.Q
open Go.RowKit Go.Proofs.YtcdpmmpdfdillaaW.PrintWords Go.Proofs.YtcdpmmpdfdillaaW.PrintLast
set_option linter.unusedVariables false
set_option linter.unusedSimpArgs false
theorem dr_field (v u : Value) (w : World) : (Instr.field 30 (.agg #[v, u]) 0).run Try.prog w = .ok v w := by kernel_rfl
theorem check_some (p : ByteArray) (w : World) : Calls Try.prog 11 #[.string p] w fun e w' => ∃ a b : Int, e = .returned (.agg #[.int .i64 a, .int .i64 b]) ∧ Below w.heap.size w w' := by
  obtain ⟨q, hq, hs⟩ := check_spec p
  obtain ⟨K, hK⟩ := hs
  refine (spec_CheckRegex.calls K p _ _ w (hK K (Nat.le_refl _))).mono ?_
  rintro e w' ⟨rfl, hb⟩
  exact ⟨_, _, rfl, hb⟩
theorem keep_bx {A : Option Addr} {n c g : Nat} {w W W' : World} (hc : Cu A n c g W) (hb : Bx w.heap.size g w W) (h : Below W.heap.size W W') : Cu A n c g W' ∧ Bx w.heap.size g w W' :=
  ⟨hc.keep h, hb.step (.of h)⟩
set_option maxHeartbeats 4000000 in
set_option maxRecDepth 100000 in
theorem pattern_draw {A : Option Addr} {n c g : Nat} {w : World} (hs : Cu A n c g w) : DrS 18 #[.pointer (some ⟨g, 0, none⟩)] 300 A n c g w := by
  have HS := Aside0.mk hs
  have hgl := hs.st.lt
  clear hs
  go_enter Try.func18, Try.ntmps18
  go_wp2_with fail
  refine (below_call HS.out 12 (by omega) (by omega)).mono ?_
  rintro ex W ⟨x, rfl, hx, hc, hb⟩
  have HB := Aside0.mk (And.intro hc hb)
  clear hc hb
  by_cases e0 : x = 0
  · subst e0
    clear hx
    go_wp2
    go_ret
    exact ⟨_, rfl, by decide, HB.out⟩
  have d0 : (x == 0) = false := beq_eq_false_iff_ne.mpr e0
  by_cases h4 : x < 4
  · have d1 : decide (x < 4) = true := decide_eq_true h4
    clear hx
    go_wp2_with fail
    refine (letters_call HB.out.1 0 2 (by omega) (by omega)).mono ?_
    rintro ex W2 ⟨s, rfl, hz, hc, hb⟩
    have hgW : W2.heap.size ≠ g := by have := hb.size; have := HB.out.2.size; omega
    have HB2 := Aside0.mk (And.intro hz (And.intro hc (HB.out.2.step hb)))
    clear hz hc hb
    go_wp2_with fail
    refine (pick_call (HB2.out.2.1.keep (below_alloc (Below.refl _ _) _)) W2.heap.size 7 7 _ _ (heap_alloc_new W2 _) hgW rfl (by omega) (by omega) ?_).mono ?_
    · intro v hv
      simp at hv
      rcases hv with rfl | rfl | rfl | rfl | rfl | rfl | rfl <;> exact ⟨_, rfl, by decide⟩
    rintro ex W3 ⟨s2, rfl, hz, hc, hb⟩
    have h9 := (keep_bx HB2.out.2.1 HB2.out.2.2 (below_alloc (Below.refl _ _) _)).2.step hb
    have HB3 := Aside0.mk (And.intro hz (And.intro hc h9))
    have q1 : ¬ 9223372036854775807 < s.size + s2.size := by have := HB2.out.1; omega
    clear hz hc hb h9
    go_wp2
    go_ret
    exact ⟨_, rfl, by rw [ByteArray.size_append]; have := HB2.out.1; have := HB3.out.1; omega, HB3.out.2⟩
  have d1 : decide (x < 4) = false := decide_eq_false h4
  clear hx e0 h4
  go_wp2_with fail
  refine (text_two A n c g W HB.out.1).mono ?_
  rintro ex W2 ⟨s, rfl, hz, hc, hb⟩
  have hz2 : s.size ≤ 300 := Nat.le_trans hz (by decide)
  have HB2 := Aside0.mk (And.intro hz2 (And.intro hc (HB.out.2.step hb)))
  clear hz hc hb hz2
  go_wp2_with fail
  refine (check_some s W2).mono ?_
  rintro ex W3 ⟨a, b, rfl, hb⟩
  have HB3 := Aside0.mk (keep_bx HB2.out.2.1 HB2.out.2.2 hb)
  clear hb
  have hf := dr_field
  cases ha : a != 0 with
  | true =>
    go_wp2_with fail
    refine (letters_call HB3.out.1 0 2 (by omega) (by omega)).mono ?_
    rintro ex W4 ⟨s4, rfl, hz, hc, hb⟩
    have HB4 := Aside0.mk (And.intro hz (And.intro hc (HB3.out.2.step hb)))
    clear hz hc hb
    go_wp2
    go_ret
    exact ⟨_, rfl, by have := HB4.out.1; omega, HB4.out.2⟩
  | false =>
    go_wp2
    go_ret
    exact ⟨_, rfl, HB2.out.1, HB3.out⟩
set_option maxHeartbeats 4000000 in
set_option maxRecDepth 100000 in
theorem faulty_draw {A : Option Addr} {n c g : Nat} {w : World} (hs : Cu A n c g w) : Calls Try.prog 20 #[.pointer (some ⟨g, 0, none⟩)] w fun e w' => ∃ s : ByteArray, e = .returned (.string s) ∧ Cu A n c g w' ∧ Bx w.heap.size g w w' := by
  have HS := Aside0.mk hs
  have hgl := hs.st.lt
  clear hs
  go_enter Try.func20, Try.ntmps20
  go_wp2_with fail
  refine (once_call HS.out 12 (by omega) (by omega)).mono ?_
  rintro ex W ⟨b1, rfl, hc, hb⟩
  have HB := Aside0.mk (And.intro hc hb)
  clear hc hb
  cases b1 with
  | true =>
    go_wp2_with fail
    refine (below_call HB.out.1 2 (by omega) (by omega)).mono ?_
    rintro ex W2 ⟨x, rfl, hx, hc, hb⟩
    obtain ⟨m, rfl⟩ := Int.eq_ofNat_of_zero_le hx.1
    have HB2 := Aside0.mk (And.intro hc (HB.out.2.step hb))
    have E2 := Aside0.mk (show (20 + (m : Int)) = ((20 + m : Nat) : Int) by omega)
    have hm : 20 + m ≤ 1000 := by omega
    clear hc hb
    go_wp2_with fail
    clear hx
    try rw [E2.out]
    refine (many_call ⟨#[40]⟩ rfl (20 + m) hm W2).mono ?_
    rintro ex W3 ⟨s, rfl, hz, hb⟩
    have HB3 := Aside0.mk (keep_bx HB2.out.1 HB2.out.2 hb)
    have HZ := Aside0.mk hz
    have q1 : ¬ 9223372036854775807 < s.size + 1 := by omega
    clear hz hb
    go_wp2_with fail
    clear q1
    try rw [E2.out]
    refine (many_call ⟨#[41]⟩ rfl (20 + m) hm W3).mono ?_
    rintro ex W4 ⟨s2, rfl, hz, hb⟩
    have HB4 := Aside0.mk (keep_bx HB3.out.1 HB3.out.2 hb)
    have q1 : ¬ 9223372036854775807 < (s ++ ⟨#[97]⟩).size + s2.size := by rw [ByteArray.size_append]; have h1 : (⟨#[97]⟩ : ByteArray).size = 1 := rfl; have := HZ.out; omega
    have q2 : ¬ 9223372036854775807 < s.size + 1 + s2.size := by have := HZ.out; omega
    clear hz hb hm
    go_wp2
    go_ret
    exact ⟨_, rfl, HB4.out⟩
  | false =>
  go_wp2_with fail
  refine (once_call HB.out.1 20 (by omega) (by omega)).mono ?_
  rintro ex W1 ⟨b2, rfl, hc, hb⟩
  have HB1 := Aside0.mk (And.intro hc (HB.out.2.step hb))
  clear hc hb HB
  cases b2 with
  | true =>
    go_wp2_with fail
    refine (below_call HB1.out.1 2 (by omega) (by omega)).mono ?_
    rintro ex W2 ⟨x, rfl, hx, hc, hb⟩
    obtain ⟨m, rfl⟩ := Int.eq_ofNat_of_zero_le hx.1
    have HB2 := Aside0.mk (And.intro hc (HB1.out.2.step hb))
    have E2 := Aside0.mk (show (200 + (m : Int)) = ((200 + m : Nat) : Int) by omega)
    have hm : 200 + m ≤ 1000 := by omega
    clear hc hb
    go_wp2_with fail
    clear hx
    try rw [E2.out]
    refine (many_call ⟨#[97]⟩ rfl (200 + m) hm W2).mono ?_
    rintro ex W3 ⟨s, rfl, hz, hb⟩
    have HB3 := Aside0.mk (keep_bx HB2.out.1 HB2.out.2 hb)
    clear hz hb hm
    go_wp2
    go_ret
    exact ⟨_, rfl, HB3.out⟩
  | false =>
  go_wp2_with fail
  refine (text_two A n c g W1 HB1.out.1).mono ?_
  rintro ex W2 ⟨s, rfl, hz, hc, hb⟩
  have hz2 : s.size ≤ 300 := Nat.le_trans hz (by decide)
  have HZ := Aside0.mk hz2
  have HB2 := Aside0.mk (And.intro hc (HB1.out.2.step hb))
  clear hz hc hb hz2
  go_wp2_with fail
  refine (once_call HB2.out.1 3 (by omega) (by omega)).mono ?_
  rintro ex W3 ⟨b3, rfl, hc, hb⟩
  have HB3 := Aside0.mk (And.intro hc (HB2.out.2.step hb))
  clear hc hb
  cases b3 with
  | true =>
    go_wp2
    go_ret
    exact ⟨_, rfl, HB3.out⟩
  | false =>
  have hgW : W3.heap.size ≠ g := by have := HB3.out.2.size; omega
  go_wp2_with fail
  refine (pick_call (HB3.out.1.keep (below_alloc (Below.refl _ _) _)) W3.heap.size 18 18 _ _ (heap_alloc_new W3 _) hgW rfl (by omega) (by omega) ?_).mono ?_
  · intro v hv
    simp at hv
    rcases hv with rfl | rfl | rfl | rfl | rfl | rfl | rfl | rfl | rfl | rfl | rfl | rfl | rfl | rfl | rfl | rfl | rfl | rfl <;> exact ⟨_, rfl, by decide⟩
  rintro ex W4 ⟨s2, rfl, hz, hc, hb⟩
  have h9 := (keep_bx HB3.out.1 HB3.out.2 (below_alloc (Below.refl _ _) _)).2.step hb
  have HB4 := Aside0.mk (And.intro hc h9)
  have HZ2 := Aside0.mk hz
  have e1 : wrap64 ((s.size : Int) + 1) = (s.size : Int) + 1 := wrap_id _ (by have := HZ.out; omega) (by have := HZ.out; omega)
  clear hz hc hb h9 hgW
  go_wp2_with fail
  try rw [e1]
  refine (below_call HB4.out.1 ((s.size : Int) + 1) (by omega) (by have := HZ.out; omega)).mono ?_
  rintro ex W5 ⟨y, rfl, hy, hc, hb⟩
  obtain ⟨j, rfl⟩ := Int.eq_ofNat_of_zero_le hy.1
  have HB5 := Aside0.mk (And.intro hc (HB4.out.2.step hb))
  have hj : j ≤ s.size := by omega
  have hj1 : (j : Int) ≤ (s.size : Int) := by omega
  have hj0 : (0 : Int) ≤ (j : Int) := by omega
  have z1 : (s.extract 0 j).size = j := by rw [ByteArray.size_extract]; omega
  have z2 : (s.extract j s.size).size = s.size - j := by rw [ByteArray.size_extract]; omega
  have z3 : (s.extract 0 j ++ s2).size = j + s2.size := by rw [ByteArray.size_append, z1]
  have q1 : ¬ 9223372036854775807 < j + s2.size := by have := HZ.out; have := HZ2.out; omega
  have q2 : ¬ 9223372036854775807 < j + s2.size + (s.size - j) := by have := HZ.out; have := HZ2.out; omega
  clear hc hb e1 hy
  go_wp2_with fail
  go_quiet (fail)
  go_wp2
  go_ret
  exact ⟨_, rfl, HB5.out.1.keep (by first | exact pw_below_drewN (Below.refl _ _) _ | exact Below.refl _ _), HB5.out.2.trans (.of (by first | exact pw_below_drewN (Below.refl _ _) _ | exact Below.refl _ _))⟩
end Go.Proofs.Ytcdpmmpdfdillaa.Q

namespace Go.Proofs.Ytcdpmmpdfdillaa.Q
open Go.RowKit Go.Proofs.YtcdpmmpdfdillaaW.PrintWords Go.Proofs.YtcdpmmpdfdillaaW.PrintLast
set_option linter.unusedVariables false
set_option linter.unusedSimpArgs false
set_option maxHeartbeats 4000000 in
set_option maxRecDepth 100000 in
theorem draw_call (A : Option Addr) (n c : Nat) (w : World) (hn : n ≤ 1048576) (hc : ∀ j : Nat, j < n → ∃ ad x, A = some ad ∧ w.cell? (ad.add j) = some (.int .u8 x)) :
    Calls Try.prog 7 #[.slice A n c] w fun e w' => ∃ p s : ByteArray, e = .returned (.tuple #[.string p, .string s]) ∧ Below w.heap.size w w' := by
  have HC := Aside0.mk hc
  clear hc
  go_enter Try.func7, Try.ntmps7
  go_wp2_with fail
  refine (new_call A n c w hn HC.out).mono ?_
  rintro ex W0 ⟨g, rfl, hg, hcu, hb0⟩
  have fin : ∀ W', Bx W0.heap.size g W0 W' → Below w.heap.size w W' := fun W' h => hb0.trans (h.below hb0.size hg)
  have FIN := Aside0.mk fin
  have HB := Aside0.mk (And.intro hcu (Bx.refl W0.heap.size g W0))
  have hg0 := hcu.st.lt
  clear fin hg hcu hb0 HC
  go_wp2_with fail
  refine (pattern_draw HB.out.1).mono ?_
  rintro ex W1 ⟨p, rfl, -, hc, hb⟩
  have HB1 := Aside0.mk (And.intro hc (HB.out.2.step hb))
  clear hc hb HB
  go_wp2_with fail
  refine (once_call HB1.out.1 12 (by omega) (by omega)).mono ?_
  rintro ex W2 ⟨b, rfl, hc, hb⟩
  have HB2 := Aside0.mk (And.intro hc (HB1.out.2.step hb))
  clear hc hb HB1
  go_upto_if 13 with (fail)
  go_cut [5] (fun v5 wc => ∃ p, v5 = .string p ∧ Aside0 (Cu A n c g wc ∧ Bx W0.heap.size g W0 wc))
  case first =>
    cases b with
    | true =>
      go_wp2_with fail
      refine (faulty_draw HB2.out.1).mono ?_
      rintro ex W3 ⟨p2, rfl, hc, hb⟩
      have HB3 := Aside0.mk (And.intro hc (HB2.out.2.step hb))
      clear hc hb
      go_wp2_with fail
      go_meet
      case rel => exact ⟨p2, rfl, HB3⟩
    | false =>
      go_wp2_with fail
      go_meet
      case rel => exact ⟨p, rfl, HB2⟩
  case rest =>
  clear HB2
  obtain ⟨p3, rfl, HB3⟩ := hcut
  go_wp2_with fail
  refine (letters_call HB3.out.1 0 5 (by omega) (by omega)).mono ?_
  rintro ex W4 ⟨s, rfl, hz, hc, hb⟩
  have HB4 := Aside0.mk (And.intro hc (HB3.out.2.step hb))
  have HZ := Aside0.mk hz
  clear hc hb HB3 hz
  go_wp2_with fail
  refine (once_call HB4.out.1 50 (by omega) (by omega)).mono ?_
  rintro ex W5 ⟨b5, rfl, hc, hb⟩
  have HB5 := Aside0.mk (And.intro hc (HB4.out.2.step hb))
  clear hc hb HB4
  cases b5 with
  | true =>
    go_wp2_with fail
    refine (below_call HB5.out.1 2 (by omega) (by omega)).mono ?_
    rintro ex W6 ⟨x, rfl, hx, hc, hb⟩
    obtain ⟨m, rfl⟩ := Int.eq_ofNat_of_zero_le hx.1
    have HB6 := Aside0.mk (And.intro hc (HB5.out.2.step hb))
    have E2 := Aside0.mk (show (200 + (m : Int)) = ((200 + m : Nat) : Int) by omega)
    have hm : 200 + m ≤ 1000 := by omega
    clear hc hb
    go_wp2_with fail
    clear hx
    try rw [E2.out]
    refine (many_call ⟨#[97]⟩ rfl (200 + m) hm W6).mono ?_
    rintro ex W7 ⟨s7, rfl, -, hb⟩
    have HF := Aside0.mk (FIN.out _ (HB6.out.2.trans (.of (hb.mono HB6.out.2.size))))
    clear hb hm
    go_wp2
    go_ret2
    exact ⟨_, _, rfl, HF.out⟩
  | false =>
  go_wp2_with fail
  refine (once_call HB5.out.1 8 (by omega) (by omega)).mono ?_
  rintro ex W6 ⟨b6, rfl, hc, hb⟩
  have HB6 := Aside0.mk (And.intro hc (HB5.out.2.step hb))
  clear hc hb HB5
  cases b6 with
  | true =>
    have hgW : W6.heap.size ≠ g := by have := HB6.out.2.size; omega
    go_wp2_with fail
    refine (pick_call (HB6.out.1.keep (below_alloc (Below.refl _ _) _)) W6.heap.size 6 6 _ _ (heap_alloc_new W6 _) hgW rfl (by omega) (by omega) ?_).mono ?_
    · intro v hv
      simp at hv
      rcases hv with rfl | rfl | rfl | rfl | rfl | rfl <;> exact ⟨_, rfl, by decide⟩
    rintro ex W7 ⟨s2, rfl, hz, hc, hb⟩
    have HF := Aside0.mk (FIN.out _ ((keep_bx HB6.out.1 HB6.out.2 (below_alloc (Below.refl _ _) _)).2.step hb))
    have q1 : ¬ 9223372036854775807 < s.size + s2.size := by have := HZ.out; omega
    clear hz hc hb hgW
    go_wp2
    go_ret2
    exact ⟨_, _, rfl, HF.out⟩
  | false =>
    have HF := Aside0.mk (FIN.out _ HB6.out.2)
    go_wp2
    go_ret2
    exact ⟨_, _, rfl, HF.out⟩
end Go.Proofs.Ytcdpmmpdfdillaa.Q

namespace Go.Proofs.Ytcdpmmpdfdillaa.Q
open Go.RowKit Go.Proofs.YtcdpmmpdfdillaaW.PrintWords Go.Proofs.YtcdpmmpdfdillaaW.PrintLast
set_option linter.unusedVariables false
set_option linter.unusedSimpArgs false
theorem lw_ext {a b : ByteArray} (h : a.toList = b.toList) : a = b := by
  apply ByteArray.ext
  apply Array.ext'
  first | simpa using h | (rw [ByteArray.toList_eq, ByteArray.toList_eq] at h; exact h)
theorem eq_pfx (d : Nat) (t : ByteArray) (b : Bool) (W : World) : (Op.equalIn (d + 2) 27 (.agg #[.string t, .bool b]) (.agg #[.string t, .bool b])).run Try.prog W = .ok true W := by
  refine eqA_of Try.underlying27 (by kernel_rfl) ?_
  refine eqf_cons (a := .string t) (b := .string t) (r := true) (by kernel_rfl) (by kernel_rfl) (by kernel_rfl) ?_ (eqf_end (a := .bool b) (b := .bool b) (r := true) (by kernel_rfl) (by kernel_rfl) (by kernel_rfl) ?_ eqf_nil)
  · simp [Op.equalIn, run_underlying Try.underlying9]
    first | exact decide_eq_true rfl | (cases t; rename_i a; show (a == a) = true; exact beq_self_eq_true a)
  · simp [Op.equalIn, run_underlying Try.underlying4]
theorem eq_res (d : Nat) (a b : Int) (W : World) : (Op.equalIn (d + 2) 30 (.agg #[.int .i64 a, .int .i64 b]) (.agg #[.int .i64 a, .int .i64 b])).run Try.prog W = .ok true W := by
  refine eqA_of Try.underlying30 (by kernel_rfl) ?_
  refine eqf_cons (a := .int .i64 a) (b := .int .i64 a) (r := true) (by kernel_rfl) (by kernel_rfl) (by kernel_rfl) ?_ (eqf_end (a := .int .i64 b) (b := .int .i64 b) (r := true) (by kernel_rfl) (by kernel_rfl) (by kernel_rfl) ?_ eqf_nil)
  · simp [Op.equalIn, run_underlying Try.underlying2]
  · simp [Op.equalIn, run_underlying Try.underlying2]
/-- What the law answers: true, for all that may come in. -/
def laws_FnRegex.f (l : List Int) : Option Bool := if l.length ≤ maxLen then some true else none
set_option maxHeartbeats 8000000 in
set_option maxRecDepth 100000 in
theorem lawR_call (A : Option Addr) (c : Nat) (l : List Int) (w : World) (hr : Kd.C (Kd.int .u8) w A l.length l) (hc : l.length ≤ c) (hm : l.length ≤ maxLen) :
    Calls Try.prog 4 #[.slice A l.length c] w fun e w' => e = .returned (.bool true) ∧ Below w.heap.size w w' := by
  have kr : K0 (Below w.heap.size w w) := ⟨Below.refl _ _⟩
  by_cases hl : (l.length : Int) > 1048576
  · have d1 : decide ((l.length : Int) > 1048576) = true := decide_eq_true hl
    have d2 : decide ((1048576 : Int) < (l.length : Int)) = true := decide_eq_true hl
    clear hr
    go_enter Try.func4, Try.ntmps4
    go_wp2
    go_ret
    exact ⟨rfl, kk⟩
  have d1 : decide ((l.length : Int) > 1048576) = false := decide_eq_false hl
  have d2 : decide ((1048576 : Int) < (l.length : Int)) = false := decide_eq_false hl
  have hcode : ∀ j : Nat, j < l.length → ∃ ad x, A = some ad ∧ w.cell? (ad.add j) = some (.int .u8 x) := fun j hj => by
    obtain ⟨ad, e, hx⟩ := Kd.at_int hr (j : Int) (by omega) (by omega)
    exact ⟨ad, _, e, by rwa [Int.toNat_natCast] at hx⟩
  have HD := Aside0.mk (draw_call A l.length c w (by omega) hcode)
  clear hr hcode hl hm hc
  go_enter Try.func4, Try.ntmps4
  go_wp2_with fail
  refine HD.out.mono ?_
  rintro ex W1 ⟨p, s, rfl, hb⟩
  have k1 : K0 (Below w.heap.size w W1) := ⟨hb⟩
  obtain ⟨M, T, fl, e1, e2, c1, c2, c3, c4, c5, c6, f1, f2, f3⟩ := six p
  have HC1 := Aside0.mk c1
  have HC2 := Aside0.mk c2
  have HC3 := Aside0.mk c3
  have HC4 := Aside0.mk c4
  have HC5 := Aside0.mk c5
  have HC6 := Aside0.mk c6
  have HF := Aside0.mk (And.intro f1 (And.intro f2 f3))
  obtain ⟨want, hwant⟩ : ∃ want, M s = want := ⟨_, rfl⟩
  have HW := Aside0.mk hwant
  clear hb HD d1 d2 c1 c2 c3 c4 c5 c6 f1 f2 f3 hwant
  go_wp2_with fail
  refine (HC1.out s W1).mono ?_
  rw [HW.out]
  rintro ex W2 ⟨rfl, hb⟩
  have k2 : K0 (Below w.heap.size w W2) := ⟨k1.out.trans (hb.mono k1.out.size)⟩
  clear hb k1
  go_wp2_with fail
  refine (HC3.out W2).mono ?_
  rintro ex W3 ⟨rfl, hb⟩
  have k3 : K0 (Below w.heap.size w W3) := ⟨k2.out.trans (hb.mono k2.out.size)⟩
  clear hb k2
  obtain ⟨D, hD⟩ : ∃ D, D = W3.alloc (.cells #[.string T, .bool fl] 27) := ⟨_, rfl⟩
  have hbD : Below w.heap.size w D := hD ▸ kk
  have hD4 : D.heap[W3.heap.size]? = some (.cells #[.string T, .bool fl] 27 (0, 0)) := hD ▸ heap_alloc_new W3 _
  have y0 := clk ((blk_cell hD4 0).trans rfl : D.cell? ⟨W3.heap.size, 0, none⟩ = some (.string T))
  have y1 := clk ((blk_cell hD4 1).trans rfl : D.cell? ⟨W3.heap.size, 1, none⟩ = some (.bool fl))
  have HBD := Aside0.mk hbD
  have q1 := eq_pfx
  have q2 := eq_res
  have hfd := dr_field
  have kD : K0 (Below D.heap.size D D) := ⟨Below.refl _ _⟩
  clear hbD hD4
  go_upto_region 6 with (fail)
  rw [← hD]
  clear hD k3
  generalize W3.heap.size = pb at *
  have kd : K0 (Below D.heap.size D D.drew) := ⟨below_drew1 kD.out⟩
  refine sq_region (S := fun W' => K0 (Below D.heap.size D W')) [(0, false), (1, false), (3, false), (2, true), (4, false), (5, false), (6, false), (7, false), (8, true), (9, false), (10, false), (11, false), (12, false), (14, false), (13, true), (15, true), (16, false), (17, false)] (by kernel_rfl) (by kernel_rfl) kd (fun hS => ?_)
  repeat (first | (refine sq_n ?_ ?_ rfl ?_ ?_ ?_; rotate_left 2; (intro W hW; go_simp; first | done | with_reducible rfl); (simp only [List.setIfInBounds_toArray, List.set_cons_zero, List.set_cons_succ]; try rfl)) | (refine sq_g ?_ ?_ rfl rfl rfl ?_ ?_ ?_; rotate_left 2; (intro W hW; go_simp; first | done | with_reducible rfl); (simp only [List.setIfInBounds_toArray, List.set_cons_zero, List.set_cons_succ]; try rfl)) | (refine sq_f ?_ rfl rfl rfl ?_ ?_; rotate_left; (simp only [List.setIfInBounds_toArray, List.set_cons_zero, List.set_cons_succ]; try rfl)) | (refine sq_u ?_ rfl rfl rfl ?_ ?_; rotate_left; (simp only [List.setIfInBounds_toArray, List.set_cons_zero, List.set_cons_succ]; try rfl)))
  refine sq_1n rfl (fun hS KA hKA => ?_)
  go_simp
  go_at_call 6
  refine (HC2.out s _).mono ?_
  rw [HW.out]
  rintro ex W4 ⟨rfl, hb⟩
  have kA : K0 (Below D.heap.size D W4) := ⟨hS.out.trans (hb.mono hS.out.size)⟩
  clear hb
  refine hKA.out _ _ kA (fun hS => ?_)
  repeat (first | (refine sq_n ?_ ?_ rfl ?_ ?_ ?_; rotate_left 2; (intro W hW; go_simp; first | done | with_reducible rfl); (simp only [List.setIfInBounds_toArray, List.set_cons_zero, List.set_cons_succ]; try rfl)) | (refine sq_g ?_ ?_ rfl rfl rfl ?_ ?_ ?_; rotate_left 2; (intro W hW; go_simp; first | done | with_reducible rfl); (simp only [List.setIfInBounds_toArray, List.set_cons_zero, List.set_cons_succ]; try rfl)) | (refine sq_f ?_ rfl rfl rfl ?_ ?_; rotate_left; (simp only [List.setIfInBounds_toArray, List.set_cons_zero, List.set_cons_succ]; try rfl)) | (refine sq_u ?_ rfl rfl rfl ?_ ?_; rotate_left; (simp only [List.setIfInBounds_toArray, List.set_cons_zero, List.set_cons_succ]; try rfl)))
  refine sq_1g rfl rfl rfl (fun hS KB hKB => ?_)
  go_simp
  go_at_call 9
  refine (HC4.out _).mono ?_
  rintro ex W5 ⟨rfl, hb⟩
  have kB : K0 (Below D.heap.size D W5) := ⟨hS.out.trans (hb.mono hS.out.size)⟩
  clear hb
  refine hKB.out _ _ kB (fun hS => ?_)
  repeat (first | (refine sq_n ?_ ?_ rfl ?_ ?_ ?_; rotate_left 2; (intro W hW; go_simp; first | done | with_reducible rfl); (simp only [List.setIfInBounds_toArray, List.set_cons_zero, List.set_cons_succ]; try rfl)) | (refine sq_g ?_ ?_ rfl rfl rfl ?_ ?_ ?_; rotate_left 2; (intro W hW; go_simp; first | done | with_reducible rfl); (simp only [List.setIfInBounds_toArray, List.set_cons_zero, List.set_cons_succ]; try rfl)) | (refine sq_f ?_ rfl rfl rfl ?_ ?_; rotate_left; (simp only [List.setIfInBounds_toArray, List.set_cons_zero, List.set_cons_succ]; try rfl)) | (refine sq_u ?_ rfl rfl rfl ?_ ?_; rotate_left; (simp only [List.setIfInBounds_toArray, List.set_cons_zero, List.set_cons_succ]; try rfl)))
  refine sq_1g rfl rfl rfl (fun hS KC hKC => ?_)
  go_simp
  go_at_call 10
  refine (HC5.out _).mono ?_
  rintro ex W6 ⟨rfl, hb⟩
  have kC : K0 (Below D.heap.size D W6) := ⟨hS.out.trans (hb.mono hS.out.size)⟩
  clear hb
  refine hKC.out _ _ kC (fun hS => ?_)
  repeat (first | (refine sq_n ?_ ?_ rfl ?_ ?_ ?_; rotate_left 2; (intro W hW; go_simp; first | done | with_reducible rfl); (simp only [List.setIfInBounds_toArray, List.set_cons_zero, List.set_cons_succ]; try rfl)) | (refine sq_g ?_ ?_ rfl rfl rfl ?_ ?_ ?_; rotate_left 2; (intro W hW; go_simp; first | done | with_reducible rfl); (simp only [List.setIfInBounds_toArray, List.set_cons_zero, List.set_cons_succ]; try rfl)) | (refine sq_f ?_ rfl rfl rfl ?_ ?_; rotate_left; (simp only [List.setIfInBounds_toArray, List.set_cons_zero, List.set_cons_succ]; try rfl)) | (refine sq_u ?_ rfl rfl rfl ?_ ?_; rotate_left; (simp only [List.setIfInBounds_toArray, List.set_cons_zero, List.set_cons_succ]; try rfl)))
  refine sq_1g rfl rfl rfl (fun hS KE hKE => ?_)
  go_simp
  go_at_call 11
  refine (HC6.out _).mono ?_
  rintro ex W7 ⟨rfl, hb⟩
  have kE : K0 (Below D.heap.size D W7) := ⟨hS.out.trans (hb.mono hS.out.size)⟩
  clear hb
  refine hKE.out _ _ kE (fun hS => ?_)
  repeat (first | (refine sq_n ?_ ?_ rfl ?_ ?_ ?_; rotate_left 2; (intro W hW; go_simp; first | done | with_reducible rfl); (simp only [List.setIfInBounds_toArray, List.set_cons_zero, List.set_cons_succ]; try rfl)) | (refine sq_g ?_ ?_ rfl rfl rfl ?_ ?_ ?_; rotate_left 2; (intro W hW; go_simp; first | done | with_reducible rfl); (simp only [List.setIfInBounds_toArray, List.set_cons_zero, List.set_cons_succ]; try rfl)) | (refine sq_f ?_ rfl rfl rfl ?_ ?_; rotate_left; (simp only [List.setIfInBounds_toArray, List.set_cons_zero, List.set_cons_succ]; try rfl)) | (refine sq_u ?_ rfl rfl rfl ?_ ?_; rotate_left; (simp only [List.setIfInBounds_toArray, List.set_cons_zero, List.set_cons_succ]; try rfl)))
  refine sq_done (fun hS => ?_)
  clear kA kB kC
  go_wp2_with fail
  refine (HC6.out W7).mono ?_
  rintro ex W8 ⟨rfl, hb⟩
  have k8 : K0 (Below D.heap.size D W8) := ⟨kE.out.trans (hb.mono kE.out.size)⟩
  clear hb kE hS
  have fin : ∀ W [K0 (Below D.heap.size D W)], Below w.heap.size w W := fun W k => HBD.out.trans (k.out.mono HBD.out.size)
  have FIN := Aside0.mk fin
  clear fin
  cases he : e1 != 0 with
  | true =>
    obtain ⟨g1, rfl⟩ := HF.out.1 (by simpa using he)
    have hw0 := (HW.out.symm.trans (g1 s))
    subst hw0
    go_wp2
    go_ret
    exact ⟨rfl, FIN.out _⟩
  | false =>
  cases fl with
  | false =>
    cases want with
    | true =>
      obtain ⟨g1, g2⟩ := HF.out.2.1 s HW.out
      have h1 : (T.size : Int) ≤ (s.size : Int) := by omega
      have h0 : (0 : Int) ≤ (T.size : Int) := by omega
      have dl : decide ((s.size : Int) < (T.size : Int)) = false := decide_eq_false (by omega)
      go_upto_region 10 with (fail)
      go_quiet (fail)
      go_wp2_with fail
      go_ret
      exact ⟨rfl, FIN.out _⟩
    | false =>
      go_upto_region 10 with (fail)
      go_quiet (fail)
      go_wp2_with fail
      go_ret
      exact ⟨rfl, FIN.out _⟩
  | true =>
    obtain ⟨g3, g4⟩ := HF.out.2.2 rfl
    cases want with
    | true =>
      obtain rfl := (g4 s).1 HW.out
      obtain ⟨g1, g2⟩ := HF.out.2.1 s HW.out
      have h1 : (s.size : Int) ≤ (s.size : Int) := Int.le_refl _
      have h0 : (0 : Int) ≤ (s.size : Int) := by omega
      have dl : decide ((s.size : Int) < (s.size : Int)) = false := decide_eq_false (by omega)
      go_upto_region 10 with (fail)
      go_quiet (fail)
      go_wp2_with fail
      refine (HC2.out s _).mono ?_
      rw [g3]
      rintro ex W9 ⟨rfl, hb⟩
      have k9 : K0 (Below D.heap.size D W9) := ⟨(kk : Below D.heap.size D (W8.drewN _)).trans (hb.mono (kk : Below D.heap.size D (W8.drewN _)).size)⟩
      clear hb g1 g2 g3 g4 h1 h0 dl
      go_wp2
      go_ret
      exact ⟨rfl, FIN.out _⟩
    | false =>
      have hne : ¬ s.toList = T.toList := fun e => by
        have : s = T := lw_ext e
        rw [(g4 s).2 this] at HW
        exact absurd HW.out (by decide)
      have hne2 : (s.toList == T.toList) = false := beq_eq_false_iff_ne.mpr hne
      go_upto_region 10 with (fail)
      go_quiet (fail)
      go_wp2_with fail
      refine (HC2.out T _).mono ?_
      rw [g3]
      rintro ex W9 ⟨rfl, hb⟩
      have k9 : K0 (Below D.heap.size D W9) := ⟨(kk : Below D.heap.size D (W8.drewN _)).trans (hb.mono (kk : Below D.heap.size D (W8.drewN _)).size)⟩
      clear hb g3 g4
      go_wp2
      go_ret
      exact ⟨by first | rfl | (rw [hne2]; rfl) | simp [hne, hne2], FIN.out _⟩
theorem laws_FnRegex.calls (A : Option Addr) (c : Nat) (l : List Int) (r : Bool) (w : World) (hr : Kd.C (Kd.int .u8) w A l.length l) (hc : l.length ≤ c) (h : laws_FnRegex.f l = some r) :
    Calls Try.prog 4 #[.slice A l.length c] w fun e w' => e = .returned (.bool r) ∧ Below w.heap.size w w' := by
  unfold laws_FnRegex.f at h
  split at h
  · rename_i hx
    cases h
    exact lawR_call A c l w hr hc hx
  · cases h
end Go.Proofs.Ytcdpmmpdfdillaa.Q

namespace Go.Proofs.Ytcdpmmpdfdillaa.Q
open Go.RowKit Go.Proofs.YtcdpmmpdfdillaaW.PrintWords Go.Proofs.YtcdpmmpdfdillaaW.PrintLast
set_option linter.unusedVariables false

/-- The law over lists and numbers. -/
def laws_FnRegex.Pure : Prop := ∀ (l0 : List Int), (l0.length ≤ maxLen ∧ ∀ x_ ∈ l0, (Lit.int .u8 x_).wf = true) → laws_FnRegex.f l0 = some true
end Go.Proofs.Ytcdpmmpdfdillaa.Q

namespace Go.Proofs.Ytcdpmmpdfdillaa.Pr
open Q Go.Proofs.YtcdpmmpdfdillaaW.PrintWords
theorem FnRegex : laws_FnRegex.Pure := by
  intro xs h
  unfold laws_FnRegex.f
  exact if_pos h.1
end Go.Proofs.Ytcdpmmpdfdillaa.Pr

namespace Go.Proofs.Ytcdpmmpdfdillaa.fnRegex
open Go.ChangeShapes Go.WideShapes Go.ChangeAt Go.RowKit Go.Proofs.YtcdpmmpdfdillaaW.PrintWords Go.Proofs.Ytcdpmmpdfdillaa.RowK Go.Proofs.Ytcdpmmpdfdillaa.Q
open Go.ChangeMaps (open_string shut_string)
set_option linter.unusedVariables false
theorem own : ownKnob Try.prog.godebug = none := by kernel_rfl
theorem laidOut : laidOutB Try.prog = true := by kernel_rfl
set_option maxRecDepth 100000 in
theorem lifted (os : Os) (started : os.Started) (H : Type) (enc : TypeId × Value → H) :
    ReturnsInHanded {} Try.checked os 4 .any (Rows.fnRegexSpec.pre6 enc Try.prog Try.f4 Rows.fnRegexRow.domain false) (Rows.fnRegexSpec.post enc Try.prog Try.f4 false true false false) := by
  refine returnsInHanded_of_change_sized (C := Try.checked) own started (by kernel_rfl) Try.func4
    (ChangeSpec.witness6 (enc := enc) (C := Try.checked) false ⟨#[], #[.slice none 0 0], []⟩ 8 (by kernel_rfl) (by kernel_rfl) (by kernel_rfl) (by kernel_rfl)) ?_
  intro W base args ds gs before hval0 hW hcnd hsz0 _
  have hval : ∀ (j : Nat) t v, Try.f4.params[j]? = some t → args[j]? = some v → Value.okWide Try.prog W .any base t v := hval0
  have hW' := hW
  obtain ⟨p, q, hA0, hV, rfl, hfz, hnd⟩ := hW
  have hA : DataW.TrodAll enc Try.prog W 0 (fun _ => true) true Try.f4.params.toList args.toList ds p := hA0
  rw [Try.params4] at hA hval
  obtain ⟨v0, vs0, d0, ds0, p0, q0, hargs, rfl, rfl, h0, r0⟩ := trodAll_cons hA
  obtain ⟨rfl, rfl, rfl⟩ := trodAll_nil r0
  obtain rfl : args = #[v0] := by cases args; simp_all
  obtain ⟨rfl, rfl⟩ := trodVars_none hV
  obtain ⟨av0, len0, cap0, rfl⟩ := okWide_slice Try.underlying23 (hval 0 23 v0 rfl rfl)
  have k0 := h0
  have lt0 : ∀ x ∈ p0, x.block < W.heap.size := by obtain ⟨m, hm⟩ := k0; exact DataW.trod_lt m _ _ _ hm
  obtain ⟨l0, hK0, ok0_⟩ := Opens.arg (opens_imp (opens_slice Try.underlying23 (by kernel_rfl) (opens_int Try.underlying5)) (fun _ h => h)) h0
  obtain ⟨A0, c0, hcs0, hc0, hr0⟩ := hK0
  obtain ⟨rfl, rfl, rfl⟩ : av0 = A0 ∧ len0 = l0.length ∧ cap0 = c0 := by simpa [Value.cells] using hcs0
  have hp_ := Pr.FnRegex l0 ok0_
  clear hA0 hval0 hsz0
  have hc_ := Q.laws_FnRegex.calls _ _ l0 true W hr0 hc0 hp_
  refine hc_.mono fun e W' ⟨he, bel0⟩ => ?_
  subst he
  have bel : Below W.heap.size W W' := bel0
  exact ⟨_, rfl, _, _, _, [], _, [], hW', trodAll_mk1 (shut_bool Try.underlying4 _), (trodAll_cons_mk (Below.trod laidOut (by kernel_rfl) (of_decide_eq_true (by kernel_rfl)) k0 bel lt0) trodAll_mk0), rfl, bel.frame _, fun h => by cases h⟩
theorem over : Rows.fnRegexRow.holds Try.pinned (OpenSpec.ofChange Rows.fnRegexSpec) :=
  OpenClaim.holds_of_wide 4 Try.f4 rfl rfl rfl rfl rfl rfl rfl ⟨rfl, rfl, rfl, rfl, rfl⟩ rfl rfl rfl rfl rfl (by kernel_rfl) Try.func4 (by kernel_rfl)
    (of_decide_eq_true (by kernel_rfl)) (by unfold Func.isWrapper; first | (rw [if_pos (by decide +kernel)]; kernel_rfl) | (rw [if_neg (by decide +kernel)]; exact ⟨rfl, rfl⟩))
    (fun os started H enc _ => lifted os started H enc)
end Go.Proofs.Ytcdpmmpdfdillaa.fnRegex
namespace Go.Proofs.Ytcdpmmpdfdillaa
theorem fnRegex_holds : Rows.FnRegexSaid := fnRegex.over
#print axioms fnRegex_holds
end Go.Proofs.Ytcdpmmpdfdillaa
