/- FnRegex: the row of the law: its arguments opened, its walk, its statement over lists (PrFnRegex). No condition. -/
import Derived.Test.YtcdpmmpdfdillaaCFnRegex1
import Derived.Deep.RegionHeld
import Derived.Deep.DeepCutAuto
import Derived.Deep.QuietTactic
import Derived.BigQuiet

namespace Go.Proofs.Ytcdpmmpdfdillaa.Q
open Go.RowKit Go.Proofs.YtcdpmmpdfdillaaW.PrintWords Go.Proofs.YtcdpmmpdfdillaaW.PrintLast
set_option linter.unusedVariables false
set_option linter.unusedSimpArgs false
def patR (k : Nat) (p : ByteArray) : Option (Except (Int × Int) Rx) := if 200 < p.size then some (.error (1, 0)) else patF k p
def PatP (w : World) (r : Except (Int × Int) Rx) (e : Ending) (w' : World) : Prop :=
  RP r (fun x => ∃ v, e = .returned (.tuple #[v, .agg #[.int .i64 0, .int .i64 0]]) ∧ RepX w' (fun k => w.heap.size ≤ k) x v ∧ Below w.heap.size w w') (fun c a => ∃ v, e = .returned (.tuple #[v, .agg #[.int .i64 c, .int .i64 a]]) ∧ Below w.heap.size w w')
set_option maxHeartbeats 4000000 in
set_option maxRecDepth 100000 in
theorem pattern_calls (k : Nat) (p : ByteArray) (r : Except (Int × Int) Rx) (h : patR k p = some r) (w : World) :
    Calls Try.prog 13 #[.string p] w (PatP w r) := by
  have hmf : ∀ (fn : Fn) (first cap : Array Value) (w : World), (Instr.makeFunc fn first cap).run Try.prog w = .ok (.func fn first cap) w := fun _ _ _ _ => rfl
  unfold patR at h
  by_cases e1 : 200 < p.size
  · rw [if_pos e1] at h
    obtain rfl := Option.some.inj h
    have d1 : decide (200 < (p.size : Int)) = true := decide_eq_true (by omega)
    have d2 : decide (200 < p.size) = true := decide_eq_true e1
    clear h e1
    go_enter Try.func13, Try.ntmps13
    go_wp2
    have kr : K0 (Below w.heap.size w w) := ⟨Below.refl _ _⟩
    have h1 := old1 w (.cells #[.string p] 9) (.cells #[.nilIface] 37) (.cells #[.int .i64 1, .int .i64 0] 39)
    have h2 := new2 w (.cells #[.string p] 9) (.cells #[.nilIface] 37) (.cells #[.int .i64 1, .int .i64 0] 39)
    have c0 := bk_cell h1
    have c1 := cell_of_row _ (w.heap.size + 1 + 1) 0 _ 39 _ h2
    have c2 := cell_of_row _ (w.heap.size + 1 + 1) 1 _ 39 _ h2
    simp at c1 c2
    refine bodyPost_ret (v := .tuple #[.nilIface, .agg #[.int .i64 1, .int .i64 0]]) (by simp [results, Try.results13, go_sem, c0, c1, c2]) rfl ⟨_, rfl, kk⟩
  · rw [if_neg e1] at h
    have d1 : decide (200 < (p.size : Int)) = false := decide_eq_false (by omega)
    have d2 : decide (200 < p.size) = false := decide_eq_false e1
    have hp2 : p.size ≤ 200 := by omega
    clear e1
    go_enter Try.func13, Try.ntmps13
    go_wp2_with fail
    have h0 : (((w.alloc (.cells #[.string p] 9)).alloc (.cells #[.nilIface] 37)).alloc (.cells #[.int .i64 0, .int .i64 0] 39)).heap[w.heap.size]? = some (.cells #[.string p] 9) := by
      rw [heap_alloc_old ((w.alloc (.cells #[.string p] 9)).alloc (.cells #[.nilIface] 37)) _ (by rw [sz_al, sz_al]; omega), heap_alloc_old (w.alloc (.cells #[.string p] 9)) _ (by rw [sz_al]; omega)]
      exact heap_alloc_new w _
    have h1 := old1 w (.cells #[.string p] 9) (.cells #[.nilIface] 37) (.cells #[.int .i64 0, .int .i64 0] 39)
    have h2 := new2 w (.cells #[.string p] 9) (.cells #[.nilIface] 37) (.cells #[.int .i64 0, .int .i64 0] 39)
    have hsz : (((w.alloc (.cells #[.string p] 9)).alloc (.cells #[.nilIface] 37)).alloc (.cells #[.int .i64 0, .int .i64 0] 39)).heap.size = w.heap.size + 3 := by rw [sz_al, sz_al, sz_al]
    have hal : Below w.heap.size w (((w.alloc (.cells #[.string p] 9)).alloc (.cells #[.nilIface] 37)).alloc (.cells #[.int .i64 0, .int .i64 0] 39)) := by
      have kr : K0 (Below w.heap.size w w) := ⟨Below.refl _ _⟩
      exact kk
    generalize ((w.alloc (.cells #[.string p] 9)).alloc (.cells #[.nilIface] 37)).alloc (.cells #[.int .i64 0, .int .i64 0] 39) = wa at *
    go_at_call 33
    refine (caught_calls k p r h hp2 w.heap.size (w.heap.size + 1) .nilIface wa (bk_cell h0) h1 (by omega) (.inl rfl)).mono ?_
    rintro e w1 hch
    obtain ⟨c, a, v, rfl, hv, hbx, hvi, hpp⟩ : ∃ (c a : Int) (v : Value), e = .returned (.agg #[.int .i64 c, .int .i64 a]) ∧ VarX w1 (w.heap.size + 1) v ∧ Bx wa.heap.size (w.heap.size + 1) wa w1 ∧ IsI v ∧ ∀ w2 : World, Below w.heap.size w w2 → (∀ q, q ≠ w.heap.size + 1 + 1 → q ≠ w.heap.size + 1 → q < w1.heap.size → w2.heap[q]? = w1.heap[q]?) → PatP w r (.returned (.tuple #[v, .agg #[.int .i64 c, .int .i64 a]])) w2 := by
      rcases r with ⟨c, a⟩ | x
      · obtain ⟨v, he, hv, hb, hi⟩ := hch
        exact ⟨c, a, v, he, hv, hb, hi, fun w2 hb2 _ => ⟨v, rfl, hb2⟩⟩
      · obtain ⟨v, he, hv, hrep, hb⟩ := hch
        obtain ⟨T0, u0, rfl⟩ := RepX_iface hrep
        exact ⟨0, 0, _, he, hv, hb, .inr ⟨_, _, rfl⟩, fun w2 hb2 hm => ⟨_, rfl, RepX_move (fun q hq hl => ⟨by rw [hsz] at hq; omega, hm q (by rw [hsz] at hq; omega) (by rw [hsz] at hq; omega) hl⟩) _ _ hrep, hb2⟩⟩
    have hf : Fv w1 (w.heap.size + 1 + 1) 0 0 := (hbx.block _ (by rw [hsz]; omega) (by omega)).trans h2
    have g0 : w1.cell? ⟨w.heap.size + 1 + 1, 0, none⟩ = some (.int .i64 0) := cell_of_row _ (w.heap.size + 1 + 1) 0 _ 39 _ hf
    have g1 : w1.cell? ⟨w.heap.size + 1 + 1, 1, none⟩ = some (.int .i64 0) := cell_of_row _ (w.heap.size + 1 + 1) 1 _ 39 _ hf
    have f0 := bk_fr hf 0
    have f1 := bk_fr hf 1
    have hf2 : Fv ((w1.setCell ⟨w.heap.size + 1 + 1, 0, none⟩ (.int .i64 c)).setCell ⟨w.heap.size + 1 + 1, 1, none⟩ (.int .i64 a)) (w.heap.size + 1 + 1) c a := bk_put (j := 1) (bk_put (j := 0) hf (.int .i64 c)) (.int .i64 a)
    have hm2 : ∀ q, q ≠ w.heap.size + 1 + 1 → ((w1.setCell ⟨w.heap.size + 1 + 1, 0, none⟩ (.int .i64 c)).setCell ⟨w.heap.size + 1 + 1, 1, none⟩ (.int .i64 a)).heap[q]? = w1.heap[q]? := fun q hq => (Below.heap_setCell _ _ _ _ hq).trans (Below.heap_setCell _ _ _ _ hq)
    have hv2 : VarX ((w1.setCell ⟨w.heap.size + 1 + 1, 0, none⟩ (.int .i64 c)).setCell ⟨w.heap.size + 1 + 1, 1, none⟩ (.int .i64 a)) (w.heap.size + 1) v := (hm2 _ (by omega)).trans hv
    have hB2 : Below w.heap.size w ((w1.setCell ⟨w.heap.size + 1 + 1, 0, none⟩ (.int .i64 c)).setCell ⟨w.heap.size + 1 + 1, 1, none⟩ (.int .i64 a)) := (hal.trans (hbx.below (by rw [hsz]; omega) (by omega))).trans ((Below.setCell (Below.setCell (Below.refl _ _) (by show _ ≤ w.heap.size + 1 + 1; omega) _) (by show _ ≤ w.heap.size + 1 + 1; omega) _))
    have HV2 := Aside0.mk hv2
    have HF2 := Aside0.mk hf2
    have HM2 := Aside0.mk hm2
    have HB2 := Aside0.mk hB2
    have HPP := Aside0.mk hpp
    clear hv2 hf2 hm2 hB2 hpp hf hv hbx h0 h1 h2 hal hch h
    go_upto_region 4 with (fail)
    generalize (w1.setCell ⟨w.heap.size + 1 + 1, 0, none⟩ (.int .i64 c)).setCell ⟨w.heap.size + 1 + 1, 1, none⟩ (.int .i64 a) = w2 at *
    have s0 := bk_cell HV2.out
    have s1 : w2.cell? ⟨w.heap.size + 1 + 1, 0, none⟩ = some (.int .i64 c) := cell_of_row _ (w.heap.size + 1 + 1) 0 _ 39 _ HF2.out
    have s2 : w2.cell? ⟨w.heap.size + 1 + 1, 1, none⟩ = some (.int .i64 a) := cell_of_row _ (w.heap.size + 1 + 1) 1 _ 39 _ HF2.out
    have t0 := bk_fr HV2.out 0
    have t1 := bk_fr HF2.out 0
    have t2 := bk_fr HF2.out 1
    refine sz_region (S := fun W => W.cell? ⟨w.heap.size + 1, 0, none⟩ = some v ∧ W.cell? ⟨w.heap.size + 1 + 1, 0, none⟩ = some (.int .i64 c) ∧ W.cell? ⟨w.heap.size + 1 + 1, 1, none⟩ = some (.int .i64 a)) 4 [(0, false), (1, false), (2, true), (3, true)] (by intro d v c a w h; cases d <;> exact h) (by kernel_rfl) (by kernel_rfl) ⟨s0, s1, s2⟩ ?_
    refine sz_n ?_ ?_ rfl ?_ ?_ ?_; rotate_left 2; (intro W hW; obtain ⟨s0, s1, s2⟩ := hW; go_simp; first | done | with_reducible rfl); (simp only [List.setIfInBounds_toArray, List.set_cons_zero, List.set_cons_succ]; try rfl)
    refine sz_n ?_ ?_ rfl ?_ ?_ ?_; rotate_left 2; (intro W hW; obtain ⟨s0, s1, s2⟩ := hW; go_simp; first | done | with_reducible rfl); (simp only [List.setIfInBounds_toArray, List.set_cons_zero, List.set_cons_succ]; try rfl)
    refine sz_1n rfl (fun K hK => ?_)
    have hv3 : VarX ((w2.setCell ⟨w.heap.size + 1, 0, none⟩ v).drew) (w.heap.size + 1) v := bk_put (j := 0) HV2.out v
    have hm3 : ∀ q, q ≠ w.heap.size + 1 → ((w2.setCell ⟨w.heap.size + 1, 0, none⟩ v).drew).heap[q]? = w2.heap[q]? := fun q hq => Below.heap_setCell _ _ _ _ hq
    have hB3 : Below w.heap.size w ((w2.setCell ⟨w.heap.size + 1, 0, none⟩ v).drew) := (HB2.out.trans (Below.setCell (Below.refl _ _) (by show _ ≤ w.heap.size + 1; omega) v)).drew
    have HV3 := Aside0.mk hv3
    have HF3 := Aside0.mk ((hm3 _ (by omega)).trans HF2.out)
    have HB3 := Aside0.mk hB3
    have HM3 := Aside0.mk hm3
    clear hv3 hm3 hB3
    rcases hvi with rfl | ⟨T0, u0, rfl⟩
    all_goals
      go_simp
      refine hK.out _ _ (.inr ?_) ?_
      · exact ⟨bk_cell HV3.out, cell_of_row _ (w.heap.size + 1 + 1) 0 _ 39 _ HF3.out, cell_of_row _ (w.heap.size + 1 + 1) 1 _ 39 _ HF3.out⟩
      refine sz_1n rfl (fun K hK => ?_)
      clear s0 s1 s2 t0 t1 t2
      generalize (w2.setCell ⟨w.heap.size + 1, 0, none⟩ _).drew = w3 at *
      have q1 : w3.cell? ⟨w.heap.size + 1 + 1, 0, none⟩ = some (.int .i64 c) := cell_of_row _ (w.heap.size + 1 + 1) 0 _ 39 _ HF3.out
      have q2 : w3.cell? ⟨w.heap.size + 1 + 1, 1, none⟩ = some (.int .i64 a) := cell_of_row _ (w.heap.size + 1 + 1) 1 _ 39 _ HF3.out
      have q3 := bk_fr HF3.out 0
      have q4 := bk_fr HF3.out 1
      go_simp
      have hm4 : ∀ q, q ≠ w.heap.size + 1 + 1 → ((w3.setCell ⟨w.heap.size + 1 + 1, 0, none⟩ (.int .i64 c)).setCell ⟨w.heap.size + 1 + 1, 1, none⟩ (.int .i64 a)).heap[q]? = w3.heap[q]? := fun q hq => (Below.heap_setCell _ _ _ _ hq).trans (Below.heap_setCell _ _ _ _ hq)
      have hv4 := (hm4 _ (by omega)).trans HV3.out
      have hf4 : Fv ((w3.setCell ⟨w.heap.size + 1 + 1, 0, none⟩ (.int .i64 c)).setCell ⟨w.heap.size + 1 + 1, 1, none⟩ (.int .i64 a)) (w.heap.size + 1 + 1) c a := bk_put (j := 1) (bk_put (j := 0) HF3.out (.int .i64 c)) (.int .i64 a)
      have hB4 : Below w.heap.size w ((w3.setCell ⟨w.heap.size + 1 + 1, 0, none⟩ (.int .i64 c)).setCell ⟨w.heap.size + 1 + 1, 1, none⟩ (.int .i64 a)) := HB3.out.trans ((Below.setCell (Below.setCell (Below.refl _ _) (by show _ ≤ w.heap.size + 1 + 1; omega) _) (by show _ ≤ w.heap.size + 1 + 1; omega) _))
      have hP := HPP.out _ hB4 (fun q h1 h2 h3 => (hm4 q h1).trans ((HM3.out q h2).trans (HM2.out q h1)))
      have HV4 := Aside0.mk hv4
      have HF4 := Aside0.mk hf4
      have HP4 := Aside0.mk hP
      clear hv4 hf4 hB4 hP hm4
      generalize (w3.setCell ⟨w.heap.size + 1 + 1, 0, none⟩ (.int .i64 c)).setCell ⟨w.heap.size + 1 + 1, 1, none⟩ (.int .i64 a) = w4 at *
      have p0 := bk_cell HV4.out
      have p1 : w4.cell? ⟨w.heap.size + 1 + 1, 0, none⟩ = some (.int .i64 c) := cell_of_row _ (w.heap.size + 1 + 1) 0 _ 39 _ HF4.out
      have p2 : w4.cell? ⟨w.heap.size + 1 + 1, 1, none⟩ = some (.int .i64 a) := cell_of_row _ (w.heap.size + 1 + 1) 1 _ 39 _ HF4.out
      refine hK.out _ _ (.inr ⟨p0, p1, p2⟩) ?_
      refine sz_done ?_
      go_wp2
      exact bodyPost_ret (by simp [results, Try.results13, go_sem, p0, p1, p2]) rfl HP4.out
end Go.Proofs.Ytcdpmmpdfdillaa.Q

namespace Go.Proofs.Ytcdpmmpdfdillaa.Q
open Go.RowKit Go.Proofs.YtcdpmmpdfdillaaW.PrintWords Go.Proofs.YtcdpmmpdfdillaaW.PrintLast
set_option linter.unusedVariables false
set_option linter.unusedSimpArgs false
theorem leo_obind {α β : Type} {x x' : Option (Except (Int × Int) α)} {f f' : α → Option (Except (Int × Int) β)} (h : LeO x x') (k : ∀ a, LeO (f a) (f' a)) : LeO (obind x f) (obind x' f') := by
  intro r hr
  rcases x with _ | (e | a)
  · cases hr
  · rw [h _ rfl]; exact hr
  · rw [h _ rfl]; exact k a r hr
theorem leo_cls : ∀ k p i f s, LeO (clsF k p i f s) (clsF (k + 1) p i f s)
  | 0, _, _, _, _ => fun r h => by cases h
  | k + 1, p, i, f, s => by
    simp only [clsF]
    refine LeO.ite ?_ (LeO.refl _)
    rcases hc : chF p i with e | ⟨lo, j⟩
    · exact LeO.refl _
    · simp only []
      refine LeO.ite ?_ (leo_cls k _ _ _ _)
      rcases hc2 : chF p (j + 1) with e | ⟨hi, m⟩
      · exact LeO.refl _
      · exact LeO.ite (LeO.refl _) (leo_cls k _ _ _ _)
theorem leo_cla (k : Nat) (p : ByteArray) (i : Int) : LeO (claF k p i) (claF (k + 1) p i) := LeO.map _ (leo_cls _ _ _ _ _)
theorem leo_ops : ∀ k p i x, LeO (opsF k p i x) (opsF (k + 1) p i x)
  | 0, _, _, _ => fun r h => by cases h
  | k + 1, p, i, x => by
    simp only [opsF]
    exact LeO.ite (leo_ops k _ _ _) (LeO.refl _)
theorem altL_s (k : Nat) (p : ByteArray) (i o : Int) (acc : List Rx) : altL (k + 1) p i o acc = obind (seqL k p i o []) fun x => if x.2 = p.size ∨ bt p x.2 ≠ 124 then some (.ok (.alt (acc ++ [x.1]), x.2)) else altL k p (x.2 + 1) o (acc ++ [x.1]) := by rw [altL]
theorem seqL_s (k : Nat) (p : ByteArray) (i o : Int) (acc : List Rx) : seqL (k + 1) p i o acc = if i < p.size ∧ (bt p i ≠ 124 ∧ bt p i ≠ 41) then obind (atomF k p i o) fun x => (opsF k p x.2 x.1).bind fun y => seqL k p y.2 o (acc ++ [y.1]) else some (.ok (.seq acc, i)) := by rw [seqL]
theorem atomF_s (k : Nat) (p : ByteArray) (i o : Int) : atomF (k + 1) p i o =
    if bt p i = 40 then (if o = 20 then some (.error (3, i)) else obind (altL k p (i + 1) (o + 1) []) fun x => if x.2 = p.size then some (.error (2, x.2)) else some (.ok (x.1, x.2 + 1)))
    else if bt p i = 91 then obind (claF k p (i + 1)) fun x => some (.ok (.one x.1 0 false, x.2))
    else if bt p i = 46 then some (.ok (.one (List.replicate 256 true) 0 false, i + 1))
    else if isOp (bt p i) = true ∨ bt p i = 93 then some (.error (2, i))
    else if bt p i = 92 then (if i + 1 = p.size then some (.error (2, i + 1)) else some (.ok (sgl (bt p (i + 1)), i + 2)))
    else some (.ok (sgl (bt p i), i + 1)) := by rw [atomF]
theorem leo_par : ∀ k, (∀ p i o acc, LeO (altL k p i o acc) (altL (k + 1) p i o acc)) ∧ (∀ p i o acc, LeO (seqL k p i o acc) (seqL (k + 1) p i o acc)) ∧ (∀ p i o, LeO (atomF k p i o) (atomF (k + 1) p i o))
  | 0 => ⟨fun _ _ _ _ r h => (by cases h), fun _ _ _ _ r h => (by cases h), fun _ _ _ r h => (by cases h)⟩
  | k + 1 => by
    obtain ⟨ia, is, im⟩ := leo_par k
    refine ⟨fun p i o acc => ?_, fun p i o acc => ?_, fun p i o => ?_⟩
    · rw [altL_s k, altL_s (k + 1)]
      exact leo_obind (is _ _ _ _) fun x => LeO.ite (LeO.refl _) (ia _ _ _ _)
    · rw [seqL_s k, seqL_s (k + 1)]
      exact LeO.ite (leo_obind (im _ _ _) fun x => LeO.bind (leo_ops _ _ _ _) fun y => is _ _ _ _) (LeO.refl _)
    · rw [atomF_s k, atomF_s (k + 1)]
      exact LeO.ite (LeO.ite (LeO.refl _) (leo_obind (ia _ _ _ _) fun x => LeO.refl _)) (LeO.ite (leo_obind (leo_cla _ _ _) fun x => LeO.refl _) (LeO.refl _))
theorem leo_patR (k : Nat) (p : ByteArray) : LeO (patR k p) (patR (k + 1) p) := LeO.ite (LeO.refl _) (leo_obind ((leo_par k).1 _ _ _ _) fun x => LeO.refl _)
def impl_CheckRegex.f (k : Nat) (a0 : ByteArray) : Option (Int × Int) := (patR k a0).map fun r => match r with | .ok _ => (0, 0) | .error x => x
set_option maxHeartbeats 4000000 in
set_option maxRecDepth 100000 in
theorem impl_CheckRegex.calls (k : Nat) (a0 : ByteArray) (r1 : Int) (r2 : Int) (w : World) (h : impl_CheckRegex.f k a0 = some (r1, r2)) :
    Calls Try.prog 10 #[.string a0] w fun e w' => e = .returned (.agg #[.int .i64 r1, .int .i64 r2]) ∧ Below w.heap.size w w' := by
  obtain ⟨q, hq, hr⟩ := Option.map_eq_some_iff.mp h
  have kr : K0 (Below w.heap.size w w) := ⟨Below.refl _ _⟩
  have ha : Below w.heap.size w (w.alloc (.cells #[.int .i64 0, .int .i64 0] 30)) := kk
  have hx := heap_alloc_new w (.cells #[.int .i64 0, .int .i64 0] 30)
  have HQ := Aside0.mk hq
  have HA := Aside0.mk ha
  have HX := Aside0.mk hx
  have hsz := sz_al w (.cells #[.int .i64 0, .int .i64 0] 30)
  have HSZ := Aside0.mk hsz
  clear h hq ha hx hsz kr
  go_enter Try.func10, Try.ntmps10
  go_wp2_with fail
  generalize w.alloc (.cells #[.int .i64 0, .int .i64 0] 30) = wa at *
  go_at_call 13
  refine (pattern_calls k a0 q HQ.out _).mono ?_
  rintro e w1 hp
  obtain ⟨v, rfl, hb⟩ : ∃ v, e = .returned (.tuple #[v, .agg #[.int .i64 r1, .int .i64 r2]]) ∧ Below wa.heap.size wa w1 := by
    rcases q with ⟨c, a⟩ | x
    · obtain ⟨v, he, hb⟩ := hp
      cases hr
      exact ⟨v, he, hb⟩
    · obtain ⟨v, he, -, hb⟩ := hp
      cases hr
      exact ⟨v, he, hb⟩
  have h1 : w1.heap[w.heap.size]? = some (.cells #[.int .i64 0, .int .i64 0] 30) := (hb.block _ (by rw [HSZ.out]; omega)).trans HX.out
  have hb2 : Below w.heap.size w w1 := HA.out.trans (hb.mono (by rw [HSZ.out]; omega))
  have hc0 : w1.cell? ⟨w.heap.size, 0, none⟩ = some (.int .i64 0) := cell_of_row _ w.heap.size 0 _ 30 _ h1
  have hc1 : w1.cell? ⟨w.heap.size, 1, none⟩ = some (.int .i64 0) := cell_of_row _ w.heap.size 1 _ 30 _ h1
  have f0 := bk_fr h1 0
  have f1 := bk_fr h1 1
  have hl := lt_of_some h1
  have H1 := Aside0.mk h1
  have HB2 := Aside0.mk hb2
  clear hp hr hb h1 hb2 HA HX HQ
  go_wp2
  have h2 : ((w1.setCell ⟨w.heap.size, 0, none⟩ (.int .i64 r1)).setCell ⟨w.heap.size, 1, none⟩ (.int .i64 r2)).heap[w.heap.size]? = some (.cells #[.int .i64 r1, .int .i64 r2] 30) := bk_put (j := 1) (bk_put (j := 0) H1.out (.int .i64 r1)) (.int .i64 r2)
  have h3 := blk_alloc h2 (.cells #[.int .i64 r1, .int .i64 r2] 39)
  refine bodyPost_ret (results_cell_row rfl _ _ w.heap.size 30 _ (0, 0) _ rfl h3 Try.underlying30 rfl (by kernel_rfl)) rfl ⟨rfl, ?_⟩
  have kr : K0 (Below w.heap.size w w1) := ⟨HB2.out⟩
  have kx : K0 (w.heap.size ≤ w.heap.size) := ⟨Nat.le_refl _⟩
  exact kk
end Go.Proofs.Ytcdpmmpdfdillaa.Q

namespace Go.Proofs.Ytcdpmmpdfdillaa.Q
set_option linter.unusedVariables false
set_option linter.unusedSimpArgs false
/-- One step or more. -/
inductive Plus (R : Nat → Nat → Prop) : Nat → Nat → Prop
  | one {i j : Nat} (h : R i j) : Plus R i j
  | step {i k j : Nat} (h : R i k) (t : Plus R k j) : Plus R i j
mutual
/-- What a pattern matches: from place i to place j of n bytes. -/
def Mx (n : Nat) (b : Nat → Int) : Rx → Nat → Nat → Prop
  | .one s _ _, i, j => i < n ∧ s.getD (b i).toNat false = true ∧ j = i + 1
  | .seq xs, i, j => MxS n b xs i j
  | .alt xs, i, j => MxA n b xs i j
  | .rep x op, i, j => (op ≠ 43 ∧ i = j) ∨ (if op = 63 then Mx n b x i j else Plus (Mx n b x) i j)
def MxS (n : Nat) (b : Nat → Int) : List Rx → Nat → Nat → Prop
  | [], i, j => i = j
  | x :: xs, i, j => ∃ k, Mx n b x i k ∧ MxS n b xs k j
def MxA (n : Nat) (b : Nat → Int) : List Rx → Nat → Nat → Prop
  | [], i, j => False
  | x :: xs, i, j => Mx n b x i j ∨ MxA n b xs i j
end
/-- States: a set and where it goes on to, or none and all ways. -/
abbrev Sts := List (Option (List Bool) × List Nat)
mutual
def bld : Rx → Nat → Sts → Nat × Sts
  | .one s _ _, nx, m => (m.length, m ++ [(some s, [nx])])
  | .seq xs, nx, m => bldS xs nx m
  | .alt xs, nx, m => ((bldA xs nx m).2.length, (bldA xs nx m).2 ++ [(none, (bldA xs nx m).1)])
  | .rep x op, nx, m =>
    if op = 63 then ((bld x nx m).2.length, (bld x nx m).2 ++ [(none, [(bld x nx m).1, nx])])
    else (if op = 43 then (bld x m.length (m ++ [(none, [])])).1 else m.length, (bld x m.length (m ++ [(none, [])])).2.set m.length (none, [(bld x m.length (m ++ [(none, [])])).1, nx]))
def bldS : List Rx → Nat → Sts → Nat × Sts
  | [], nx, m => (nx, m)
  | x :: xs, nx, m => bld x (bldS xs nx m).1 (bldS xs nx m).2
def bldA : List Rx → Nat → Sts → List Nat × Sts
  | [], nx, m => ([], m)
  | x :: xs, nx, m => ((bld x nx m).1 :: (bldA xs nx (bld x nx m).2).1, (bldA xs nx (bld x nx m).2).2)
end
/-- Nothing that was there is changed. -/
def Ext (m m' : Sts) : Prop := m.length ≤ m'.length ∧ ∀ q, q < m.length → m'[q]? = m[q]?
theorem Ext.refl (m : Sts) : Ext m m := ⟨Nat.le_refl _, fun _ _ => rfl⟩
theorem Ext.trans {a b c : Sts} (h : Ext a b) (k : Ext b c) : Ext a c := ⟨Nat.le_trans h.1 k.1, fun q hq => (k.2 q (Nat.lt_of_lt_of_le hq h.1)).trans (h.2 q hq)⟩
theorem Ext.snoc (m : Sts) (x : Option (List Bool) × List Nat) : Ext m (m ++ [x]) := ⟨by simp, fun q hq => by rw [List.getElem?_append_left hq]⟩
mutual
theorem bld_ext : ∀ (x : Rx) (nx : Nat) (m : Sts), Ext m (bld x nx m).2
  | .one s _ _, nx, m => by unfold bld; exact Ext.snoc _ _
  | .seq xs, nx, m => by unfold bld; exact bldS_ext xs nx m
  | .alt xs, nx, m => by unfold bld; exact (bldA_ext xs nx m).trans (Ext.snoc _ _)
  | .rep x op, nx, m => by
    unfold bld
    split
    · exact (bld_ext x nx m).trans (Ext.snoc _ _)
    · have h := bld_ext x m.length (m ++ [(none, [])])
      refine ⟨?_, fun q hq => ?_⟩
      · show m.length ≤ (List.set _ _ _).length
        rw [List.length_set]
        exact Nat.le_trans (Ext.snoc m _).1 h.1
      · show (List.set _ _ _)[q]? = _
        rw [List.getElem?_set_ne (by omega)]
        exact ((Ext.snoc m _).trans h).2 q hq
theorem bldS_ext : ∀ (xs : List Rx) (nx : Nat) (m : Sts), Ext m (bldS xs nx m).2
  | [], nx, m => by unfold bldS; exact Ext.refl _
  | x :: xs, nx, m => by unfold bldS; exact (bldS_ext xs nx m).trans (bld_ext x _ _)
theorem bldA_ext : ∀ (xs : List Rx) (nx : Nat) (m : Sts), Ext m (bldA xs nx m).2
  | [], nx, m => by unfold bldA; exact Ext.refl _
  | x :: xs, nx, m => by unfold bldA; exact (bld_ext x nx m).trans (bldA_ext xs nx _)
end
/-- A run of at most k steps from state s at place i to the end. -/
inductive AccN (m : Sts) (n : Nat) (b : Nat → Int) (e : Nat) : Nat → Nat → Nat → Prop
  | fin (k : Nat) : AccN m n b e k e n
  | eps {k s i w : Nat} {ws : List Nat} (h : m[s]? = some (none, ws)) (hw : w ∈ ws) (r : AccN m n b e k w i) : AccN m n b e (k + 1) s i
  | chr {k s i w : Nat} {st : List Bool} {ws : List Nat} (h : m[s]? = some (some st, w :: ws)) (hi : i < n) (hs : st.getD (b i).toNat false = true) (r : AccN m n b e k w (i + 1)) : AccN m n b e (k + 1) s i
/-- The great machine has these states, from m on. -/
def Has (G m m' : Sts) : Prop := ∀ q, m.length ≤ q → q < m'.length → G[q]? = m'[q]?
theorem Has.left {G m a b : Sts} (h : Has G m b) (e : Ext a b) : Has G m a := fun q h1 h2 => (h q h1 (Nat.lt_of_lt_of_le h2 e.1)).trans (e.2 q h2)
theorem Has.right {G m a b : Sts} (h : Has G m b) (e : Ext m a) : Has G a b := fun q h1 h2 => h q (Nat.le_trans e.1 h1) h2
section
variable {G : Sts} {n : Nat} {b : Nat → Int} {e : Nat}
mutual
theorem acc_sound : ∀ (x : Rx) (nx : Nat) (m : Sts), Has G m (bld x nx m).2 → e < m.length → ∀ k i, AccN G n b e k (bld x nx m).1 i → ∃ j k', k' ≤ k ∧ Mx n b x i j ∧ AccN G n b e k' nx j
  | .one s _ _, nx, m, hG, he, k, i, h => by
    unfold bld at h hG
    have h0 : G[m.length]? = some (some s, [nx]) := by rw [hG m.length (Nat.le_refl _) (by simp)]; simp
    generalize hq : m.length = q at h h0
    cases h with
    | fin k => omega
    | eps h1 hw r => rw [h0] at h1; simp at h1
    | chr h1 hi hs r =>
      rw [h0] at h1
      simp only [Option.some.injEq, Prod.mk.injEq, List.cons.injEq] at h1
      obtain ⟨rfl, rfl, -⟩ := h1
      exact ⟨i + 1, _, by omega, by unfold Mx; exact ⟨hi, hs, rfl⟩, r⟩
  | .seq xs, nx, m, hG, he, k, i, h => by
    unfold bld at h hG
    obtain ⟨j, k', h1, h2, h3⟩ := accS_sound xs nx m hG he k i h
    exact ⟨j, k', h1, by unfold Mx; exact h2, h3⟩
  | .alt xs, nx, m, hG, he, k, i, h => by
    unfold bld at h hG
    have h0 : G[(bldA xs nx m).2.length]? = some (none, (bldA xs nx m).1) := by rw [hG _ (bldA_ext xs nx m).1 (by simp)]; simp
    have hl := (bldA_ext xs nx m).1
    have hG2 := hG.left (Ext.snoc _ _)
    generalize hq : (bldA xs nx m).2.length = q at h h0 hl
    cases h with
    | fin k => omega
    | eps h1 hw r =>
      rw [h0] at h1
      simp only [Option.some.injEq, Prod.mk.injEq, true_and] at h1
      subst h1
      obtain ⟨j, k', h1, h2, h3⟩ := accA_sound xs nx m hG2 he _ i _ hw r
      exact ⟨j, k', by omega, by unfold Mx; exact h2, h3⟩
    | chr h1 hi hs r => rw [h0] at h1; simp at h1
  | .rep x op, nx, m, hG, he, k, i, h => by
    unfold bld at h hG
    by_cases hop : op = 63
    · rw [if_pos hop] at h hG
      have h0 : G[(bld x nx m).2.length]? = some (none, [(bld x nx m).1, nx]) := by rw [hG _ (bld_ext x nx m).1 (by simp)]; simp
      have hl := (bld_ext x nx m).1
      have hG2 := hG.left (Ext.snoc _ _)
      simp only at h
      generalize hq : (bld x nx m).2.length = q at h h0 hl
      cases h with
      | fin k => omega
      | eps h1 hw r =>
        rw [h0] at h1
        simp only [Option.some.injEq, Prod.mk.injEq, true_and] at h1
        subst h1
        simp only [List.mem_cons, List.not_mem_nil, or_false] at hw
        rcases hw with rfl | rfl
        · obtain ⟨j, k', h1, h2, h3⟩ := acc_sound x nx m hG2 he _ i r
          exact ⟨j, k', by omega, by unfold Mx; rw [if_pos hop]; exact .inr h2, h3⟩
        · exact ⟨i, _, by omega, by unfold Mx; exact .inl ⟨by omega, rfl⟩, r⟩
      | chr h1 hi hs r => rw [h0] at h1; simp at h1
    · rw [if_neg hop] at h hG
      have hx := bld_ext x m.length (m ++ [(none, [])])
      have hl : m.length + 1 ≤ (bld x m.length (m ++ [(none, [])])).2.length := by have := hx.1; simpa using this
      have h0 : G[m.length]? = some (none, [(bld x m.length (m ++ [(none, [])])).1, nx]) := by
        rw [hG m.length (Nat.le_refl _) (by simp only [List.length_set]; omega)]
        exact List.getElem?_set_self (by omega)
      have hG2 : Has G (m ++ [(none, [])]) (bld x m.length (m ++ [(none, [])])).2 := fun q h1 h2 => by
        rw [hG q (by simp at h1; omega) (by simp only [List.length_set]; exact h2)]
        exact List.getElem?_set_ne (by simp at h1; omega)
      have hin := acc_sound x m.length (m ++ [(none, [])]) hG2 (by simp; omega)
      generalize hf : (bld x m.length (m ++ [(none, [])])).1 = f at h h0 hin
      -- from the loop's head
      have loop : ∀ k i, AccN G n b e k m.length i → ∃ j k', k' ≤ k ∧ (i = j ∨ Plus (Mx n b x) i j) ∧ AccN G n b e k' nx j := by
        intro k
        induction k using Nat.strongRecOn with
        | _ k ih =>
          intro i h
          generalize hq : m.length = q at h h0 hin ih
          cases h with
          | fin k => omega
          | eps h1 hw r =>
            rw [h0] at h1
            simp only [Option.some.injEq, Prod.mk.injEq, true_and] at h1
            subst h1
            simp only [List.mem_cons, List.not_mem_nil, or_false] at hw
            rcases hw with rfl | rfl
            · obtain ⟨j, k', h1, h2, h3⟩ := hin _ i r
              obtain ⟨j2, k2, g1, g2, g3⟩ := ih k' (by omega) j h3
              refine ⟨j2, k2, by omega, .inr ?_, g3⟩
              rcases g2 with rfl | g2
              · exact .one h2
              · exact .step h2 g2
            · exact ⟨i, _, by omega, .inl rfl, r⟩
          | chr h1 hi hs r => rw [h0] at h1; simp at h1
      by_cases h43 : op = 43
      · rw [if_pos h43] at h
        obtain ⟨j, k', h1, h2, h3⟩ := hin k i h
        obtain ⟨j2, k2, g1, g2, g3⟩ := loop k' j h3
        refine ⟨j2, k2, by omega, ?_, g3⟩
        unfold Mx
        rw [if_neg hop]
        rcases g2 with rfl | g2
        · exact .inr (.one h2)
        · exact .inr (.step h2 g2)
      · rw [if_neg h43] at h
        obtain ⟨j, k', h1, h2, h3⟩ := loop k i h
        refine ⟨j, k', h1, ?_, h3⟩
        unfold Mx
        rw [if_neg hop]
        exact h2.imp (fun h => ⟨h43, h⟩) id
theorem accS_sound : ∀ (xs : List Rx) (nx : Nat) (m : Sts), Has G m (bldS xs nx m).2 → e < m.length → ∀ k i, AccN G n b e k (bldS xs nx m).1 i → ∃ j k', k' ≤ k ∧ MxS n b xs i j ∧ AccN G n b e k' nx j
  | [], nx, m, hG, he, k, i, h => by unfold bldS at h; exact ⟨i, k, Nat.le_refl _, by unfold MxS; rfl, h⟩
  | x :: xs, nx, m, hG, he, k, i, h => by
    unfold bldS at h hG
    have e1 := bldS_ext xs nx m
    have e2 := bld_ext x (bldS xs nx m).1 (bldS xs nx m).2
    obtain ⟨j, k', h1, h2, h3⟩ := acc_sound x _ _ (hG.right e1) (by have := e1.1; omega) k i h
    obtain ⟨j2, k2, g1, g2, g3⟩ := accS_sound xs nx m (hG.left e2) he k' j h3
    exact ⟨j2, k2, by omega, by unfold MxS; exact ⟨j, h2, g2⟩, g3⟩
theorem accA_sound : ∀ (xs : List Rx) (nx : Nat) (m : Sts), Has G m (bldA xs nx m).2 → e < m.length → ∀ k i w, w ∈ (bldA xs nx m).1 → AccN G n b e k w i → ∃ j k', k' ≤ k ∧ MxA n b xs i j ∧ AccN G n b e k' nx j
  | [], nx, m, hG, he, k, i, w, hw, h => by unfold bldA at hw; simp at hw
  | x :: xs, nx, m, hG, he, k, i, w, hw, h => by
    unfold bldA at hw hG
    have e1 := bld_ext x nx m
    have e2 := bldA_ext xs nx (bld x nx m).2
    simp only [List.mem_cons] at hw
    rcases hw with rfl | hw
    · obtain ⟨j, k', h1, h2, h3⟩ := acc_sound x nx m (hG.left e2) he k i h
      exact ⟨j, k', h1, by unfold MxA; exact .inl h2, h3⟩
    · obtain ⟨j, k', h1, h2, h3⟩ := accA_sound xs nx _ (hG.right e1) (by have := e1.1; omega) k i w hw h
      exact ⟨j, k', h1, by unfold MxA; exact .inr h2, h3⟩
end
mutual
theorem acc_full : ∀ (x : Rx) (nx : Nat) (m : Sts), Has G m (bld x nx m).2 → ∀ i j k, Mx n b x i j → AccN G n b e k nx j → ∃ k', AccN G n b e k' (bld x nx m).1 i
  | .one s _ _, nx, m, hG, i, j, k, hM, h => by
    unfold bld at hG ⊢
    unfold Mx at hM
    obtain ⟨h1, h2, rfl⟩ := hM
    have h0 : G[m.length]? = some (some s, [nx]) := by rw [hG m.length (Nat.le_refl _) (by simp)]; simp
    exact ⟨_, .chr h0 h1 h2 h⟩
  | .seq xs, nx, m, hG, i, j, k, hM, h => by
    unfold bld at hG ⊢
    unfold Mx at hM
    exact accS_full xs nx m hG i j k hM h
  | .alt xs, nx, m, hG, i, j, k, hM, h => by
    unfold bld at hG ⊢
    unfold Mx at hM
    have h0 : G[(bldA xs nx m).2.length]? = some (none, (bldA xs nx m).1) := by rw [hG _ (bldA_ext xs nx m).1 (by simp)]; simp
    obtain ⟨w, hw, k', h1⟩ := accA_full xs nx m (hG.left (Ext.snoc _ _)) i j k hM h
    exact ⟨_, .eps h0 hw h1⟩
  | .rep x op, nx, m, hG, i, j, k, hM, h => by
    unfold bld at hG ⊢
    unfold Mx at hM
    by_cases hop : op = 63
    · rw [if_pos hop] at hG hM ⊢
      have h0 : G[(bld x nx m).2.length]? = some (none, [(bld x nx m).1, nx]) := by rw [hG _ (bld_ext x nx m).1 (by simp)]; simp
      rcases hM with ⟨-, rfl⟩ | hM
      · exact ⟨_, .eps h0 (by simp) h⟩
      · obtain ⟨k', h1⟩ := acc_full x nx m (hG.left (Ext.snoc _ _)) i j k hM h
        exact ⟨_, .eps h0 (by simp) h1⟩
    · rw [if_neg hop] at hG hM ⊢
      have hx := bld_ext x m.length (m ++ [(none, [])])
      have hl : m.length + 1 ≤ (bld x m.length (m ++ [(none, [])])).2.length := by have := hx.1; simpa using this
      have h0 : G[m.length]? = some (none, [(bld x m.length (m ++ [(none, [])])).1, nx]) := by
        rw [hG m.length (Nat.le_refl _) (by simp only [List.length_set]; omega)]
        exact List.getElem?_set_self (by omega)
      have hG2 : Has G (m ++ [(none, [])]) (bld x m.length (m ++ [(none, [])])).2 := fun q h1 h2 => by
        rw [hG q (by simp at h1; omega) (by simp only [List.length_set]; exact h2)]
        exact List.getElem?_set_ne (by simp at h1; omega)
      have hin := acc_full x m.length (m ++ [(none, [])]) hG2
      have first : ∀ (i' j' : Nat), Plus (Mx n b x) i' j' → AccN G n b e k nx j' → ∃ k', AccN G n b e k' (bld x m.length (m ++ [(none, [])])).1 i' := by
        clear hM h
        intro i' j' hp h
        induction hp with
        | one h1 => exact hin _ _ _ h1 (.eps h0 (by simp) h)
        | step h1 t ih => obtain ⟨k', h2⟩ := ih h; exact hin _ _ _ h1 (.eps h0 (by simp) h2)
      by_cases h43 : op = 43
      · simp only [if_pos h43]
        rcases hM with ⟨h1, -⟩ | hM
        · exact absurd h43 h1
        · exact first _ _ hM h
      · simp only [if_neg h43]
        rcases hM with ⟨-, rfl⟩ | hM
        · exact ⟨_, .eps h0 (by simp) h⟩
        · obtain ⟨k', h1⟩ := first _ _ hM h
          exact ⟨_, .eps h0 (by simp) h1⟩
theorem accS_full : ∀ (xs : List Rx) (nx : Nat) (m : Sts), Has G m (bldS xs nx m).2 → ∀ i j k, MxS n b xs i j → AccN G n b e k nx j → ∃ k', AccN G n b e k' (bldS xs nx m).1 i
  | [], nx, m, hG, i, j, k, hM, h => by unfold MxS at hM; subst hM; unfold bldS; exact ⟨k, h⟩
  | x :: xs, nx, m, hG, i, j, k, hM, h => by
    unfold bldS at hG ⊢
    unfold MxS at hM
    obtain ⟨l, h1, h2⟩ := hM
    obtain ⟨k', h3⟩ := accS_full xs nx m (hG.left (bld_ext x _ _)) l j k h2 h
    exact acc_full x _ _ (hG.right (bldS_ext xs nx m)) i l k' h1 h3
theorem accA_full : ∀ (xs : List Rx) (nx : Nat) (m : Sts), Has G m (bldA xs nx m).2 → ∀ i j k, MxA n b xs i j → AccN G n b e k nx j → ∃ w, w ∈ (bldA xs nx m).1 ∧ ∃ k', AccN G n b e k' w i
  | [], nx, m, hG, i, j, k, hM, h => by unfold MxA at hM; exact hM.elim
  | x :: xs, nx, m, hG, i, j, k, hM, h => by
    unfold bldA at hG ⊢
    unfold MxA at hM
    rcases hM with hM | hM
    · obtain ⟨k', h1⟩ := acc_full x nx m (hG.left (bldA_ext xs nx _)) i j k hM h
      exact ⟨_, by simp, k', h1⟩
    · obtain ⟨w, hw, k', h1⟩ := accA_full xs nx _ (hG.right (bld_ext x nx m)) i j k hM h
      exact ⟨w, by simp [hw], k', h1⟩
end
end
/-! the states that are reached -/
def unm : List Bool → Nat
  | [] => 0
  | x :: xs => (if x then 0 else 1) + unm xs
theorem unm_set : ∀ (v : List Bool) (s : Nat), s < v.length → v.getD s false = false → unm (v.set s true) + 1 = unm v
  | [], s, h, _ => by simp at h
  | x :: xs, 0, h, h0 => by
    simp at h0
    subst h0
    simp [unm]
    omega
  | x :: xs, s + 1, h, h0 => by
    have := unm_set xs s (by simpa using h) (by simpa using h0)
    simp [unm]
    omega
/-- Marks are kept. -/
def Le (v v' : List Bool) : Prop := v'.length = v.length ∧ ∀ t, v.getD t false = true → v'.getD t false = true
theorem Le.refl (v : List Bool) : Le v v := ⟨rfl, fun _ h => h⟩
theorem Le.trans {a b c : List Bool} (h : Le a b) (k : Le b c) : Le a c := ⟨k.1.trans h.1, fun t ht => k.2 t (h.2 t ht)⟩
theorem unm_le : ∀ {v v' : List Bool}, Le v v' → unm v' ≤ unm v
  | [], v', h => by have := h.1; simp at this; subst this; exact Nat.le_refl _
  | x :: xs, [], h => by have := h.1; simp at this
  | x :: xs, y :: ys, h => by
    have ih := unm_le (v := xs) (v' := ys) ⟨by have := h.1; simpa using this, fun t ht => by have := h.2 (t + 1) (by simpa using ht); simpa using this⟩
    have h0 := h.2 0
    simp at h0
    simp only [unm]
    cases x <;> cases y <;> simp_all <;> omega
theorem getD_set (v : List Bool) (s t : Nat) (hs : s < v.length) : (v.set s true).getD t false = if t = s then true else v.getD t false := by
  simp only [List.getD_eq_getElem?_getD]
  by_cases h : t = s
  · subst h; rw [if_pos rfl, List.getElem?_set_self hs]; rfl
  · rw [if_neg h, List.getElem?_set_ne (Ne.symm h)]
theorem Le.set (v : List Bool) (s : Nat) : Le v (v.set s true) := by
  refine ⟨by simp, fun t ht => ?_⟩
  by_cases hs : s < v.length
  · rw [getD_set v s t hs]; split
    · rfl
    · exact ht
  · rw [List.set_eq_of_length_le (by omega)]; exact ht
def rch (m : Sts) : Nat → List Bool → Nat → List Bool
  | 0, v, s => v
  | k + 1, v, s => if v.getD s false = true then v else match m[s]? with
    | some (none, ws) => ws.foldl (fun v w => rch m k v w) (v.set s true)
    | _ => v.set s true
inductive Eps (m : Sts) : Nat → Nat → Prop
  | refl (s : Nat) : Eps m s s
  | step {s w t : Nat} {ws : List Nat} (h : m[s]? = some (none, ws)) (hw : w ∈ ws) (r : Eps m w t) : Eps m s t
theorem Eps.trans {m : Sts} {a b c : Nat} (h : Eps m a b) (k : Eps m b c) : Eps m a c := by
  induction h with
  | refl => exact k
  | step h hw r ih => exact .step h hw (ih k)
/-- What is new is led to, and leads on to what is marked. -/
structure New (m : Sts) (v v' : List Bool) (S : Nat → Prop) : Prop where
  le : Le v v'
  led : ∀ t, v'.getD t false = true → v.getD t false = true ∨ ∃ s, S s ∧ Eps m s t
  on : ∀ t ws w, v'.getD t false = true → v.getD t false = false → m[t]? = some (none, ws) → w ∈ ws → v'.getD w false = true
/-- All ways lead to states. -/
def Good (m : Sts) : Prop := ∀ (q : Nat) (st : Option (List Bool)) (ws : List Nat) (w : Nat), m[q]? = some (st, ws) → w ∈ ws → w < m.length
theorem foldl_new (m : Sts) (k : Nat) (ih : ∀ v s, v.length = m.length → s < m.length → unm v < k → New m v (rch m k v s) (· = s) ∧ (rch m k v s).getD s false = true) :
    ∀ (ws : List Nat) (v : List Bool), v.length = m.length → (∀ w ∈ ws, w < m.length) → unm v < k → New m v (ws.foldl (fun v w => rch m k v w) v) (· ∈ ws) ∧ ∀ w ∈ ws, (ws.foldl (fun v w => rch m k v w) v).getD w false = true
  | [], v, hv, hw, hk => ⟨⟨Le.refl _, fun t h => .inl h, fun t ws w h1 h2 => by simp only [List.foldl_nil] at h1; rw [h1] at h2; cases h2⟩, fun w h => by simp at h⟩
  | a :: ws, v, hv, hw, hk => by
    obtain ⟨h1, h2⟩ := ih v a hv (hw a (by simp)) hk
    have hl : (rch m k v a).length = m.length := h1.le.1.trans hv
    obtain ⟨h3, h4⟩ := foldl_new m k ih ws (rch m k v a) hl (fun w h => hw w (by simp [h])) (Nat.lt_of_le_of_lt (unm_le h1.le) hk)
    refine ⟨⟨h1.le.trans h3.le, fun t ht => ?_, fun t us w g1 g2 g3 g4 => ?_⟩, fun w hw' => ?_⟩
    · rcases h3.led t ht with h | ⟨s, hs, h⟩
      · rcases h1.led t h with h | ⟨s, hs, h'⟩
        · exact .inl h
        · exact .inr ⟨s, by simp [hs], h'⟩
      · exact .inr ⟨s, by simp [hs], h⟩
    · by_cases hm : (rch m k v a).getD t false = true
      · exact h3.le.2 w (h1.on t us w hm g2 g3 g4)
      · exact h3.on t us w g1 (by simpa using hm) g3 g4
    · rcases List.mem_cons.1 hw' with rfl | h
      · exact h3.le.2 _ h2
      · exact h4 w h
theorem rch_new (m : Sts) (hg : Good m) : ∀ (k : Nat) (v : List Bool) (s : Nat), v.length = m.length → s < m.length → unm v < k → New m v (rch m k v s) (· = s) ∧ (rch m k v s).getD s false = true
  | 0, v, s, hv, hs, hk => absurd hk (Nat.not_lt_zero _)
  | k + 1, v, s, hv, hs, hk => by
    unfold rch
    by_cases h0 : v.getD s false = true
    · rw [if_pos h0]
      exact ⟨⟨Le.refl _, fun t h => .inl h, fun t ws w h1 h2 => by rw [h1] at h2; cases h2⟩, h0⟩
    · rw [if_neg h0]
      have h0' : v.getD s false = false := by simpa using h0
      have hsl : s < v.length := by omega
      have hu := unm_set v s hsl h0'
      have hgs := fun t => getD_set v s t hsl
      have plain : ∀ st ws, m[s]? = some (some st, ws) → New m v (v.set s true) (· = s) ∧ (v.set s true).getD s false = true := fun st ws hm => by
        refine ⟨⟨Le.set v s, fun t ht => ?_, fun t us w g1 g2 g3 g4 => ?_⟩, by rw [hgs, if_pos rfl]⟩
        · rw [hgs] at ht
          split at ht
          · rename_i h; subst h; exact .inr ⟨t, rfl, .refl _⟩
          · exact .inl ht
        · rw [hgs] at g1
          split at g1
          · rename_i h; subst h; rw [hm] at g3; simp at g3
          · rw [g1] at g2; cases g2
      cases hm : m[s]? with
      | none => rw [List.getElem?_eq_getElem hs] at hm; cases hm
      | some q =>
        obtain ⟨o, ws⟩ := q
        cases o with
        | some st => exact plain st ws hm
        | none =>
          have hws : ∀ w ∈ ws, w < m.length := fun w hw => hg s none ws w hm hw
          obtain ⟨h1, h2⟩ := foldl_new m k (fun v s => rch_new m hg k v s) ws (v.set s true) (by simpa using hv) hws (by omega)
          refine ⟨⟨(Le.set v s).trans h1.le, fun t ht => ?_, fun t us w g1 g2 g3 g4 => ?_⟩, h1.le.2 s (by rw [hgs, if_pos rfl])⟩
          · rcases h1.led t ht with h | ⟨w, hw, h⟩
            · rw [hgs] at h
              split at h
              · rename_i h'; subst h'; exact .inr ⟨t, rfl, .refl _⟩
              · exact .inl h
            · exact .inr ⟨s, rfl, .step hm hw h⟩
          · by_cases hts : t = s
            · subst hts
              rw [hm] at g3
              simp only [Option.some.injEq, Prod.mk.injEq, true_and] at g3
              subst g3
              exact h2 w g4
            · exact h1.on t us w g1 (by rw [hgs, if_neg hts]; exact g2) g3 g4
/-- Closed under the steps without a byte. -/
def Closed (m : Sts) (v : List Bool) : Prop := ∀ t ws w, v.getD t false = true → m[t]? = some (none, ws) → w ∈ ws → v.getD w false = true
theorem Closed.eps {m : Sts} {v : List Bool} (h : Closed m v) {s t : Nat} (hs : v.getD s false = true) (e : Eps m s t) : v.getD t false = true := by
  induction e with
  | refl => exact hs
  | step h1 hw r ih => exact ih (h _ _ _ hs h1 hw)
theorem rch_closed (m : Sts) (hg : Good m) (k : Nat) (v : List Bool) (s : Nat) (hv : v.length = m.length) (hs : s < m.length) (hk : unm v < k) (hc : Closed m v) :
    Closed m (rch m k v s) ∧ (rch m k v s).length = m.length ∧ ∀ t, (rch m k v s).getD t false = true ↔ v.getD t false = true ∨ Eps m s t := by
  obtain ⟨h, h0⟩ := rch_new m hg k v s hv hs hk
  have hcl : Closed m (rch m k v s) := fun t ws w h1 h2 h3 => by
    by_cases hvt : v.getD t false = true
    · exact h.le.2 w (hc t ws w hvt h2 h3)
    · exact h.on t ws w h1 (by simpa using hvt) h2 h3
  refine ⟨hcl, h.le.1.trans hv, fun t => ⟨fun ht => ?_, fun ht => ?_⟩⟩
  · rcases h.led t ht with h' | ⟨s', hs', h'⟩
    · exact .inl h'
    · exact .inr (hs' ▸ h')
  · rcases ht with ht | ht
    · exact h.le.2 t ht
    · exact hcl.eps h0 ht
/-- One byte on. -/
def stepTo (m : Sts) (K : Nat) (now : List Bool) (c : Nat) : Nat → List Bool → List Bool
  | 0, th => th
  | q + 1, th =>
    let th' := stepTo m K now c q th
    match m[q]? with
    | some (some st, w :: _) => if now.getD q false = true ∧ st.getD c false = true then rch m K th' w else th'
    | _ => th'
def Moves (m : Sts) (now : List Bool) (c : Nat) (q w : Nat) : Prop := now.getD q false = true ∧ ∃ st ws, m[q]? = some (some st, w :: ws) ∧ st.getD c false = true
theorem stepTo_is (m : Sts) (hg : Good m) (K : Nat) (hK : m.length < K) (now : List Bool) (c : Nat) : ∀ (q : Nat) (th : List Bool), th.length = m.length → Closed m th → unm th ≤ m.length →
    Closed m (stepTo m K now c q th) ∧ (stepTo m K now c q th).length = m.length ∧ unm (stepTo m K now c q th) ≤ m.length ∧ ∀ t, (stepTo m K now c q th).getD t false = true ↔ th.getD t false = true ∨ ∃ q' w, q' < q ∧ Moves m now c q' w ∧ Eps m w t
  | 0, th, hl, hc, hu => ⟨hc, hl, hu, fun t => ⟨fun h => .inl h, fun h => h.elim id (fun ⟨q', w, h, _⟩ => absurd h (Nat.not_lt_zero _))⟩⟩
  | q + 1, th, hl, hc, hu => by
    obtain ⟨h1, h2, h3, h4⟩ := stepTo_is m hg K hK now c q th hl hc hu
    have idle : (∀ w, ¬ Moves m now c q w) → Closed m (stepTo m K now c q th) ∧ (stepTo m K now c q th).length = m.length ∧ unm (stepTo m K now c q th) ≤ m.length ∧ ∀ t, (stepTo m K now c q th).getD t false = true ↔ th.getD t false = true ∨ ∃ q' w, q' < q + 1 ∧ Moves m now c q' w ∧ Eps m w t := fun hno =>
      ⟨h1, h2, h3, fun t => (h4 t).trans ⟨fun h => h.imp id (fun ⟨q', w, a, b, e⟩ => ⟨q', w, by omega, b, e⟩), fun h => h.imp id (fun ⟨q', w, a, b, e⟩ => ⟨q', w, by
        rcases Nat.lt_or_eq_of_le (Nat.le_of_lt_succ a) with h | h
        · exact h
        · subst h; exact absurd b (hno w), b, e⟩)⟩⟩
    unfold stepTo
    cases hm : m[q]? with
    | none => exact idle (fun w ⟨_, st, ws, h, _⟩ => by rw [hm] at h; cases h)
    | some p =>
      obtain ⟨o, ws⟩ := p
      cases o with
      | none => exact idle (fun w ⟨_, st, ws, h, _⟩ => by rw [hm] at h; simp at h)
      | some st =>
        cases ws with
        | nil => exact idle (fun w ⟨_, st, ws, h, _⟩ => by rw [hm] at h; simp at h)
        | cons w ws =>
          by_cases hc2 : now.getD q false = true ∧ st.getD c false = true
          · simp only [if_pos hc2]
            have hw : w < m.length := hg q (some st) (w :: ws) w hm (by simp)
            obtain ⟨g1, g2, g3⟩ := rch_closed m hg K _ w h2 hw (by omega) h1
            have hle := (rch_new m hg K _ w h2 hw (by omega)).1.le
            refine ⟨g1, g2, Nat.le_trans (unm_le hle) h3, fun t => (g3 t).trans ⟨fun h => ?_, fun h => ?_⟩⟩
            · rcases h with h | h
              · exact ((h4 t).1 h).imp id (fun ⟨q', w, a, b, e⟩ => ⟨q', w, by omega, b, e⟩)
              · exact .inr ⟨q, w, by omega, ⟨hc2.1, st, ws, hm, hc2.2⟩, h⟩
            · rcases h with h | ⟨q', w', a, b, e⟩
              · exact .inl ((h4 t).2 (.inl h))
              · rcases Nat.lt_or_eq_of_le (Nat.le_of_lt_succ a) with h | h
                · exact .inl ((h4 t).2 (.inr ⟨q', w', h, b, e⟩))
                · subst h
                  obtain ⟨_, st', ws', h', _⟩ := b
                  rw [hm] at h'
                  simp only [Option.some.injEq, Prod.mk.injEq, List.cons.injEq] at h'
                  obtain ⟨-, rfl, -⟩ := h'
                  exact .inr e
          · simp only [if_neg hc2]
            exact idle (fun w' ⟨h1, st', ws', h, h2⟩ => by
              rw [hm] at h
              simp only [Option.some.injEq, Prod.mk.injEq] at h
              obtain ⟨rfl, -⟩ := h
              exact hc2 ⟨h1, h2⟩)
/-- The states after i bytes. -/
def simN (m : Sts) (K : Nat) (b : Nat → Int) (s0 : Nat) : Nat → List Bool
  | 0 => rch m K (List.replicate m.length false) s0
  | i + 1 => stepTo m K (simN m K b s0 i) (b i).toNat m.length (List.replicate m.length false)
inductive Rc (m : Sts) (b : Nat → Int) (s0 : Nat) : Nat → Nat → Prop
  | start : Rc m b s0 s0 0
  | eps {s i w : Nat} {ws : List Nat} (r : Rc m b s0 s i) (h : m[s]? = some (none, ws)) (hw : w ∈ ws) : Rc m b s0 w i
  | chr {s i w : Nat} {st : List Bool} {ws : List Nat} (r : Rc m b s0 s i) (h : m[s]? = some (some st, w :: ws)) (hs : st.getD (b i).toNat false = true) : Rc m b s0 w (i + 1)
theorem Rc.epss {m : Sts} {b : Nat → Int} {s0 s t i : Nat} (h : Rc m b s0 s i) (e : Eps m s t) : Rc m b s0 t i := by
  induction e with
  | refl => exact h
  | step h1 hw r ih => exact ih (.eps h h1 hw)
theorem unm_rep : ∀ n, unm (List.replicate n false) = n
  | 0 => rfl
  | n + 1 => by rw [List.replicate_succ]; simp [unm, unm_rep n]; omega
theorem getD_rep (n t : Nat) : (List.replicate n false).getD t false = false := by
  rw [List.getD_eq_getElem?_getD, List.getElem?_replicate]
  split <;> rfl
theorem closed_rep (m : Sts) (n : Nat) : Closed m (List.replicate n false) := fun t ws w h => by rw [getD_rep] at h; cases h
theorem simN_is (m : Sts) (hg : Good m) (K : Nat) (hK : m.length < K) (b : Nat → Int) (s0 : Nat) (h0 : s0 < m.length) : ∀ i, Closed m (simN m K b s0 i) ∧ (simN m K b s0 i).length = m.length ∧ ∀ t, (simN m K b s0 i).getD t false = true ↔ Rc m b s0 t i
  | 0 => by
    obtain ⟨h1, h2, h3⟩ := rch_closed m hg K (List.replicate m.length false) s0 (by simp) h0 (by rw [unm_rep]; exact hK) (closed_rep m _)
    refine ⟨h1, h2, fun t => (h3 t).trans ⟨fun h => ?_, fun h => ?_⟩⟩
    · rcases h with h | h
      · rw [getD_rep] at h; cases h
      · exact Rc.start.epss h
    · refine .inr ?_
      generalize hi : 0 = i at h
      induction h with
      | start => exact .refl _
      | eps r h hw ih => exact (ih hi).trans (.step h hw (.refl _))
      | chr r h hs ih => omega
  | i + 1 => by
    obtain ⟨h1, h2, h3⟩ := simN_is m hg K hK b s0 h0 i
    obtain ⟨g1, g2, -, g3⟩ := stepTo_is m hg K hK (simN m K b s0 i) (b i).toNat m.length (List.replicate m.length false) (by simp) (closed_rep m _) (by rw [unm_rep]; exact Nat.le_refl _)
    refine ⟨g1, g2, fun t => (g3 t).trans ⟨fun h => ?_, fun h => ?_⟩⟩
    · rcases h with h | ⟨q, w, hq, ⟨hn, st, ws, hm, hs⟩, he⟩
      · rw [getD_rep] at h; cases h
      · exact (Rc.chr ((h3 q).1 hn) hm hs).epss he
    · refine .inr ?_
      generalize hj : i + 1 = j at h
      induction h with
      | start => omega
      | eps r h hw ih =>
        obtain ⟨q, w, hq, hmv, he⟩ := ih hj
        exact ⟨q, w, hq, hmv, he.trans (.step h hw (.refl _))⟩
      | chr r h hs ih =>
        rename_i s i' w st ws
        obtain rfl : i = i' := by omega
        exact ⟨s, w, by rw [List.getElem?_eq_some_iff] at h; exact h.1, ⟨(h3 s).2 r, st, ws, h, hs⟩, .refl _⟩
theorem rc_acc {m : Sts} {n : Nat} {b : Nat → Int} {e s0 : Nat} : (Rc m b s0 e n) ↔ ∃ k, AccN m n b e k s0 0 := by
  constructor
  · intro h
    have key : ∀ t j, Rc m b s0 t j → j ≤ n → (∃ k, AccN m n b e k t j) → ∃ k, AccN m n b e k s0 0 := by
      intro t j h
      induction h with
      | start => intro _ h; exact h
      | eps r h hw ih => intro hj ⟨k, hk⟩; exact ih hj ⟨k + 1, .eps h hw hk⟩
      | chr r h hs ih => intro hj ⟨k, hk⟩; exact ih (by omega) ⟨k + 1, .chr h (by omega) hs hk⟩
    exact key e n h (Nat.le_refl _) ⟨0, .fin 0⟩
  · rintro ⟨k, h⟩
    have key : ∀ k s i, AccN m n b e k s i → Rc m b s0 s i → Rc m b s0 e n := by
      intro k s i h
      induction h with
      | fin => intro h; exact h
      | eps h hw r ih => intro h'; exact ih (.eps h' h hw)
      | chr h hi hs r ih => intro h'; exact ih (.chr h' h hs)
    exact key k s0 0 h .start
/-! the whole machine of a pattern -/
def noS : List Bool := List.replicate 256 false
def mach (x : Rx) : Nat × Sts := bld x 0 [(some noS, [])]
mutual
theorem bld_good : ∀ (x : Rx) (nx : Nat) (m : Sts), Good m → nx < m.length → Good (bld x nx m).2 ∧ (bld x nx m).1 < (bld x nx m).2.length
  | .one s _ _, nx, m, hg, hn => by
    unfold bld
    refine ⟨fun q st ws w h hw => ?_, by simp⟩
    rw [List.getElem?_append] at h
    split at h
    · have := hg q st ws w h hw; simp; omega
    · rename_i hq
      have hq0 : q - m.length = 0 := by
        have := (List.getElem?_eq_some_iff.1 h).1
        simpa using this
      rw [hq0] at h
      simp at h
      obtain ⟨-, rfl⟩ := h
      simp at hw
      subst hw
      simp; omega
  | .seq xs, nx, m, hg, hn => by unfold bld; exact bldS_good xs nx m hg hn
  | .alt xs, nx, m, hg, hn => by
    unfold bld
    obtain ⟨h1, h2⟩ := bldA_good xs nx m hg hn
    refine ⟨good_snoc h1 h2, by simp⟩
  | .rep x op, nx, m, hg, hn => by
    unfold bld
    split
    · obtain ⟨h1, h2⟩ := bld_good x nx m hg hn
      have := (bld_ext x nx m).1
      exact ⟨good_snoc h1 (fun w hw => by simp at hw; rcases hw with rfl | rfl <;> omega), by simp⟩
    · obtain ⟨h1, h2⟩ := bld_good x m.length (m ++ [(none, [])]) (good_snoc hg (fun w hw => by simp at hw)) (by simp)
      have he := (bld_ext x m.length (m ++ [(none, [])])).1
      simp at he
      refine ⟨fun q st ws w h hw => ?_, ?_⟩
      · simp only [List.length_set]
        by_cases hq : q = m.length
        · subst hq
          have h : (List.set _ _ _)[m.length]? = some (st, ws) := h
          rw [List.getElem?_set_self (by omega)] at h
          simp at h
          obtain ⟨-, rfl⟩ := h
          simp at hw
          rcases hw with rfl | rfl <;> omega
        · have h : (List.set _ _ _)[q]? = some (st, ws) := h
          rw [List.getElem?_set_ne (Ne.symm hq)] at h
          exact h1 q st ws w h hw
      · simp only [List.length_set]
        split <;> omega
theorem bldS_good : ∀ (xs : List Rx) (nx : Nat) (m : Sts), Good m → nx < m.length → Good (bldS xs nx m).2 ∧ (bldS xs nx m).1 < (bldS xs nx m).2.length
  | [], nx, m, hg, hn => by unfold bldS; exact ⟨hg, hn⟩
  | x :: xs, nx, m, hg, hn => by
    unfold bldS
    obtain ⟨h1, h2⟩ := bldS_good xs nx m hg hn
    exact bld_good x _ _ h1 h2
theorem bldA_good : ∀ (xs : List Rx) (nx : Nat) (m : Sts), Good m → nx < m.length → Good (bldA xs nx m).2 ∧ ∀ w ∈ (bldA xs nx m).1, w < (bldA xs nx m).2.length
  | [], nx, m, hg, hn => by unfold bldA; exact ⟨hg, fun w h => by simp at h⟩
  | x :: xs, nx, m, hg, hn => by
    unfold bldA
    obtain ⟨h1, h2⟩ := bld_good x nx m hg hn
    have e1 := (bld_ext x nx m).1
    obtain ⟨h3, h4⟩ := bldA_good xs nx _ h1 (by omega)
    have e2 := (bldA_ext xs nx (bld x nx m).2).1
    refine ⟨h3, fun w hw => ?_⟩
    show w < (bldA xs nx (bld x nx m).2).2.length
    rcases List.mem_cons.1 hw with rfl | h
    · omega
    · exact h4 w h
theorem good_snoc {m : Sts} {ws : List Nat} (hg : Good m) (hw : ∀ w ∈ ws, w < m.length) : Good (m ++ [(none, ws)]) := by
  intro q st us w h hu
  rw [List.getElem?_append] at h
  split at h
  · have := hg q st us w h hu; simp; omega
  · have hq0 : q - m.length = 0 := by
      have := (List.getElem?_eq_some_iff.1 h).1
      simpa using this
    rw [hq0] at h
    simp at h
    obtain ⟨-, rfl⟩ := h
    have := hw w hu
    simp; omega
end
/-- The machine tells what the pattern matches. -/
theorem mach_is (x : Rx) (n : Nat) (b : Nat → Int) (K : Nat) (hK : (mach x).2.length < K) : (simN (mach x).2 K b (mach x).1 n).getD 0 false = true ↔ Mx n b x 0 n := by
  have hg0 : Good [(some noS, ([] : List Nat))] := fun q st ws w h hw => by
    have hq := (List.getElem?_eq_some_iff.1 h).1
    simp at hq
    subst hq
    simp at h
    obtain ⟨-, rfl⟩ := h
    simp at hw
  obtain ⟨hg, hs⟩ := bld_good x 0 [(some noS, [])] hg0 (by simp)
  have he := bld_ext x 0 [(some noS, [])]
  rw [(simN_is (mach x).2 hg K hK b (mach x).1 hs n).2.2 0, rc_acc]
  have h0 : (mach x).2[0]? = some (some noS, []) := (he.2 0 (by simp)).trans (by simp)
  have hG : Has (mach x).2 [(some noS, [])] (bld x 0 [(some noS, [])]).2 := fun q _ _ => rfl
  constructor
  · rintro ⟨k, h⟩
    obtain ⟨j, k', -, h2, h3⟩ := acc_sound x 0 [(some noS, [])] hG (by simp) k 0 h
    generalize hq : (0 : Nat) = q at h3 h0
    cases h3 with
    | fin => exact hq ▸ h2
    | eps h hw r => rw [← hq, hq, h0] at h; simp at h
    | chr h hi hs r => rw [← hq, hq, h0] at h; simp at h
  · intro h
    exact acc_full x 0 [(some noS, [])] hG 0 n 0 h (.fin 0)
/-- Paths whose places between are below K. -/
inductive PathK (R : Nat → Nat → Prop) (K : Nat) : Nat → Nat → Prop
  | one {i j : Nat} (h : R i j) : PathK R K i j
  | step {i k j : Nat} (h : R i k) (hk : k < K) (t : PathK R K k j) : PathK R K i j
theorem PathK.up {R : Nat → Nat → Prop} {K L i j : Nat} (h : PathK R K i j) (hl : K ≤ L) : PathK R L i j := by
  induction h with
  | one h => exact .one h
  | step h hk t ih => exact .step h (by omega) ih
theorem PathK.cat {R : Nat → Nat → Prop} {K L i j : Nat} (h : PathK R L i K) (hl : L ≤ K + 1) (t : PathK R (K + 1) K j) : PathK R (K + 1) i j := by
  generalize hq : K = q at h
  induction h with
  | one h => subst hq; exact .step h (by omega) t
  | step h hk t' ih => exact .step h (by omega) (ih hq)
theorem PathK.next {R : Nat → Nat → Prop} {K i j : Nat} : PathK R (K + 1) i j ↔ PathK R K i j ∨ (PathK R K i K ∧ PathK R K K j) := by
  constructor
  · intro h
    induction h with
    | one h => exact .inl (.one h)
    | step h hk t ih =>
      rename_i i k j
      by_cases hkK : k < K
      · rcases ih with ih | ⟨h1, h2⟩
        · exact .inl (.step h hkK ih)
        · exact .inr ⟨.step h hkK h1, h2⟩
      · obtain rfl : k = K := by omega
        rcases ih with ih | ⟨h1, h2⟩
        · exact .inr ⟨.one h, ih⟩
        · exact .inr ⟨.one h, h2⟩
  · rintro (h | ⟨h1, h2⟩)
    · exact h.up (by omega)
    · exact h1.cat (by omega) (h2.up (by omega))
theorem PathK.zero {R : Nat → Nat → Prop} {i j : Nat} : PathK R 0 i j ↔ R i j := by
  constructor
  · intro h
    cases h with
    | one h => exact h
    | step h hk t => omega
  · exact .one
theorem plus_path {R : Nat → Nat → Prop} {N : Nat} (hN : ∀ i k, R i k → k < N) {i j : Nat} : Plus R i j ↔ PathK R N i j := by
  constructor
  · intro h
    induction h with
    | one h => exact .one h
    | step h t ih => exact .step h (hN _ _ h) ih
  · intro h
    induction h with
    | one h => exact .one h
    | step h hk t ih => exact .step h ih
theorem PathK.rise {R : Nat → Nat → Prop} (hR : ∀ i k, R i k → i ≤ k) {K i j : Nat} (h : PathK R K i j) : i ≤ j := by
  induction h with
  | one h => exact hR _ _ h
  | step h hk t ih => exact Nat.le_trans (hR _ _ h) ih
theorem Plus.rise {R : Nat → Nat → Prop} (hR : ∀ i k, R i k → i ≤ k) {i j : Nat} (h : Plus R i j) : i ≤ j := by
  induction h with
  | one h => exact hR _ _ h
  | step h t ih => exact Nat.le_trans (hR _ _ h) ih
mutual
/-- What is matched goes on, and ends within. -/
theorem Mx_rise (n : Nat) (b : Nat → Int) : ∀ (x : Rx) (i j : Nat), i ≤ n → Mx n b x i j → i ≤ j ∧ j ≤ n
  | .one s _ _, i, j, hi, h => by unfold Mx at h; omega
  | .seq xs, i, j, hi, h => by unfold Mx at h; exact MxS_rise n b xs i j hi h
  | .alt xs, i, j, hi, h => by unfold Mx at h; exact MxA_rise n b xs i j hi h
  | .rep x op, i, j, hi, h => by
    unfold Mx at h
    rcases h with ⟨-, rfl⟩ | h
    · exact ⟨Nat.le_refl _, hi⟩
    · split at h
      · exact Mx_rise n b x i j hi h
      · induction h with
        | one h => exact Mx_rise n b x _ _ hi h
        | step h t ih =>
          obtain ⟨h1, h2⟩ := Mx_rise n b x _ _ hi h
          obtain ⟨h3, h4⟩ := ih h2
          exact ⟨Nat.le_trans h1 h3, h4⟩
theorem MxS_rise (n : Nat) (b : Nat → Int) : ∀ (xs : List Rx) (i j : Nat), i ≤ n → MxS n b xs i j → i ≤ j ∧ j ≤ n
  | [], i, j, hi, h => by unfold MxS at h; omega
  | x :: xs, i, j, hi, h => by
    unfold MxS at h
    obtain ⟨k, h1, h2⟩ := h
    obtain ⟨g1, g2⟩ := Mx_rise n b x i k hi h1
    obtain ⟨g3, g4⟩ := MxS_rise n b xs k j g2 h2
    exact ⟨Nat.le_trans g1 g3, g4⟩
theorem MxA_rise (n : Nat) (b : Nat → Int) : ∀ (xs : List Rx) (i j : Nat), i ≤ n → MxA n b xs i j → i ≤ j ∧ j ≤ n
  | [], i, j, hi, h => by unfold MxA at h; exact h.elim
  | x :: xs, i, j, hi, h => by
    unfold MxA at h
    rcases h with h | h
    · exact Mx_rise n b x i j hi h
    · exact MxA_rise n b xs i j hi h
end
end Go.Proofs.Ytcdpmmpdfdillaa.Q

namespace Go.Proofs.Ytcdpmmpdfdillaa.Q
open Go.RowKit Go.Proofs.YtcdpmmpdfdillaaW.PrintWords Go.Proofs.YtcdpmmpdfdillaaW.PrintLast
set_option linter.unusedVariables false
set_option linter.unusedSimpArgs false
/-- q is p from a to b. -/
structure Win (p q : ByteArray) (a b : Int) : Prop where
  a0 : 0 ≤ a
  ab : a ≤ b
  bp : b ≤ p.size
  sz : (q.size : Int) = b - a
  bt : ∀ i : Int, a ≤ i → i < b → bt q (i - a) = bt p i
section
variable {p q : ByteArray} {a b : Int} (hw : Win p q a b)
include hw
theorem sh_ch {i : Int} {r : Int × Int} (h : chF p i = .ok r) (h0 : a ≤ i) (h1 : r.2 ≤ b) (h2 : i < r.2) : chF q (i - a) = .ok (r.1, r.2 - a) := by
  have hs := hw.sz; have hbp := hw.bp
  have hb0 := hw.bt i h0 (by omega)
  unfold chF at h ⊢
  by_cases hc : i < p.size ∧ bt p i = 92
  · rw [if_pos hc] at h
    by_cases he : i + 1 = p.size
    · rw [if_pos he] at h; cases h
    · rw [if_neg he] at h
      cases h
      have hb1 := hw.bt (i + 1) (by omega) (by simp only at h1; omega)
      simp only at h1
      rw [if_pos ⟨by omega, by rw [hb0]; exact hc.2⟩, if_neg (by omega)]
      rw [show i - a + 1 = i + 1 - a by omega, hb1, show i - a + 2 = i + 2 - a by omega]
  · rw [if_neg hc] at h
    split at h
    · cases h
    · rename_i hn
      cases h
      simp only at h1 h2
      have h92 : bt p i ≠ 92 := fun e => hc ⟨by omega, e⟩
      rw [if_neg (fun e => h92 (by rw [← hb0]; exact e.2)), if_neg (by rw [hb0]; rintro (e | e | e) <;> first | exact absurd e (by omega) | exact hn (.inr (.inl e)) | exact hn (.inr (.inr e)))]
      rw [hb0, show i - a + 1 = i + 1 - a by omega]
theorem sh_cls : ∀ (k : Nat) (i : Int) (f : Bool) (s : List Bool) (r : List Bool × Int), clsF k p i f s = some (.ok r) → a ≤ i → i ≤ p.size → s.length = 256 → r.2 < b → clsF k q (i - a) f s = some (.ok (r.1, r.2 - a))
  | 0, _, _, _, _, h, _, _, _, _ => by cases h
  | k + 1, i, f, s, r, h, h0, h1, hl, hr => by
    have hs := hw.sz; have hbp := hw.bp; have ha0 := hw.a0
    obtain ⟨g1, g2, -⟩ := clsF_ok (k + 1) p i f s r h (by omega) h1 hl
    have hb0 := hw.bt i h0 (by omega)
    simp only [clsF] at h ⊢
    by_cases hc : f = true ∨ i = p.size ∨ bt p i ≠ 93
    · rw [if_pos hc] at h
      rw [if_pos (by rw [hb0]; rcases hc with e | e | e <;> first | exact .inl e | exact absurd e (by omega) | exact .inr (.inr e))]
      cases hch : chF p i with
      | error x => rw [hch] at h; cases h
      | ok y =>
        obtain ⟨lo, j⟩ := y
        rw [hch] at h
        simp only at h
        obtain ⟨c0, c1, c2, c3⟩ := chF_ok hch (by omega) h1
        by_cases hd : j < p.size ∧ bt p j = 45
        · rw [if_pos hd] at h
          cases hch2 : chF p (j + 1) with
          | error x => rw [hch2] at h; cases h
          | ok y2 =>
            obtain ⟨hi, m⟩ := y2
            rw [hch2] at h
            simp only at h
            obtain ⟨d0, d1, d2, d3⟩ := chF_ok hch2 (by omega) (by omega)
            by_cases hlh : lo > hi
            · rw [if_pos hlh] at h; cases h
            · rw [if_neg hlh] at h
              have hsl : (setR s lo hi).length = 256 := by unfold setR; rw [setN_len]; exact hl
              have g3 := clsF_ok k p m false _ r h (by omega) d3 hsl
              have ih := sh_cls k m false _ r h (by omega) d3 hsl hr
              rw [sh_ch hw hch h0 (by simp only; omega) (by simp only; omega)]
              have hbj := hw.bt j (by omega) (by omega)
              simp only
              rw [if_pos ⟨by omega, by rw [hbj]; exact hd.2⟩, show j - a + 1 = j + 1 - a by omega, sh_ch hw hch2 (by omega) (by simp only; omega) (by simp only; omega)]
              simp only
              rw [if_neg hlh]
              exact ih
        · rw [if_neg hd] at h
          have hsl : (setR s lo lo).length = 256 := by unfold setR; rw [setN_len]; exact hl
          have g3 := clsF_ok k p j false _ r h (by omega) c3 hsl
          have ih := sh_cls k j false _ r h (by omega) c3 hsl hr
          rw [sh_ch hw hch h0 (by simp only; omega) (by simp only; omega)]
          have hbj := hw.bt j (by omega) (by omega)
          simp only
          rw [if_neg (by rw [hbj]; exact fun e => hd ⟨by omega, e.2⟩)]
          exact ih
    · rw [if_neg hc] at h
      cases h
      rw [if_neg (by rw [hb0]; rintro (e | e | e) <;> first | exact hc (.inl e) | exact absurd e (by omega) | exact hc (.inr (.inr e)))]
theorem sh_cla {k : Nat} {i : Int} {r : List Bool × Int} (h : claF k p i = some (.ok r)) (h0 : a ≤ i) (h1 : i < p.size) (hr : r.2 ≤ b) : claF k q (i - a) = some (.ok (r.1, r.2 - a)) := by
  have hs := hw.sz; have hbp := hw.bp; have ha0 := hw.a0
  obtain ⟨g1, -, -⟩ := claF_ok h (by omega) (by omega)
  have hb0 := hw.bt i h0 (by omega)
  have hnq : notQ q (i - a) = notQ p i := by
    unfold notQ
    rw [hb0, decide_eq_true (show i - a < (q.size : Int) by omega), decide_eq_true h1]
  have hni : notI q (i - a) = notI p i - a := by unfold notI; rw [hnq]; split <;> omega
  unfold claF at h ⊢
  rw [hni, hnq]
  cases hc : clsF k p (notI p i) true noB with
  | none => rw [hc] at h; cases h
  | some x =>
    rw [hc] at h
    cases x with
    | error e => cases h
    | ok y =>
      have hle : a ≤ notI p i := by unfold notI; split <;> omega
      have hle2 : notI p i ≤ p.size := by unfold notI; split <;> omega
      have he : r = (if notQ p i = true then y.1.map (!·) else y.1, y.2 + 1) := by
        simp only [Option.map_some, Except.map, Option.some.injEq, Except.ok.injEq] at h
        exact h.symm
      have hy2 : y.2 < b := by rw [he] at hr; simp only at hr; omega
      rw [sh_cls hw k _ true noB y hc hle hle2 noB_len hy2, he]
      simp only [Option.map_some, Except.map]
      rw [show y.2 - a + 1 = y.2 + 1 - a by omega]
theorem sh_ops : ∀ (k : Nat) (i : Int) (x : Rx) (r : Rx × Int), opsF k p i x = some r → a ≤ i → i ≤ p.size → r.2 ≤ b → opsF k q (i - a) x = some (r.1, r.2 - a)
  | 0, _, _, _, h, _, _, _ => by cases h
  | k + 1, i, x, r, h, h0, h1, hr => by
    have hs := hw.sz; have hbp := hw.bp
    obtain ⟨g1, g2⟩ := opsF_ok (k + 1) p i x r h h1
    simp only [opsF] at h ⊢
    by_cases hc : i < p.size ∧ isOp (bt p i) = true
    · rw [if_pos hc] at h
      obtain ⟨g3, g4⟩ := opsF_ok k p (i + 1) _ r h (by omega)
      have hb0 := hw.bt i h0 (by omega)
      rw [if_pos ⟨by omega, by rw [hb0]; exact hc.2⟩, hb0, show i - a + 1 = i + 1 - a by omega]
      exact sh_ops k (i + 1) _ r h (by omega) (by omega) hr
    · rw [if_neg hc] at h
      cases h
      rw [if_neg]
      rintro ⟨e1, e2⟩
      have hb0 := hw.bt i h0 (by omega)
      rw [hb0] at e2
      exact hc ⟨by omega, e2⟩
theorem sh_par : ∀ (k : Nat), (∀ i o acc r, altL k p i o acc = some (.ok r) → a ≤ i → i ≤ (p.size : Int) → r.2 ≤ b → ∀ o', o' ≤ o → o ≤ 20 → altL k q (i - a) o' acc = some (.ok (r.1, r.2 - a))) ∧
    (∀ i o acc r, seqL k p i o acc = some (.ok r) → a ≤ i → i ≤ (p.size : Int) → r.2 ≤ b → ∀ o', o' ≤ o → o ≤ 20 → seqL k q (i - a) o' acc = some (.ok (r.1, r.2 - a))) ∧
    (∀ i o r, atomF k p i o = some (.ok r) → a ≤ i → i < (p.size : Int) → r.2 ≤ b → ∀ o', o' ≤ o → o ≤ 20 → atomF k q (i - a) o' = some (.ok (r.1, r.2 - a)))
  | 0 => ⟨(fun _ _ _ _ h => by cases h), (fun _ _ _ _ h => by cases h), (fun _ _ _ h => by cases h)⟩
  | k + 1 => by
    obtain ⟨ihA, ihS, ihT⟩ := sh_par k
    have hs := hw.sz; have hbp := hw.bp; have ha0 := hw.a0
    refine ⟨fun i o acc r h h0 h1 hr o' ho ho2 => ?_, fun i o acc r h h0 h1 hr o' ho ho2 => ?_, fun i o r h h0 h1 hr o' ho ho2 => ?_⟩
    · rw [altL_s] at h ⊢
      obtain ⟨x, hx, h⟩ := obind_ok h
      have hb := (par_ok k).2.1 _ _ _ _ _ hx (by omega) h1
      split at h
      · rename_i hc
        cases h
        simp only at hr
        rw [ihS i o [] x hx h0 h1 hr o' ho ho2]
        simp only [obind]
        rw [if_pos]
        by_cases he : x.2 = b
        · left; omega
        · right
          rw [hw.bt x.2 (by omega) (by omega)]
          rcases hc with e | e
          · omega
          · exact e
      · rename_i hc
        have e1 : ¬ x.2 = (p.size : Int) := fun e => hc (.inl e)
        have e2 : bt p x.2 = 124 := Classical.not_not.mp fun e => hc (.inr e)
        have hb2 := (par_ok k).1 _ _ _ _ _ h (by omega) (by omega)
        rw [ihS i o [] x hx h0 h1 (by omega) o' ho ho2]
        simp only [obind]
        rw [if_neg (by rw [hw.bt x.2 (by omega) (by omega)]; rintro (e | e) <;> first | exact absurd e (by omega) | exact e e2), show x.2 - a + 1 = x.2 + 1 - a by omega]
        exact ihA (x.2 + 1) o _ r h (by omega) (by omega) hr o' ho ho2
    · rw [seqL_s] at h ⊢
      split at h
      · rename_i hc
        obtain ⟨x, hx, h⟩ := obind_ok h
        have hb := (par_ok k).2.2 _ _ _ _ hx (by omega) hc.1
        obtain ⟨y, hy, h⟩ := Option.bind_eq_some_iff.mp h
        have hb2 := opsF_ok _ _ _ _ _ hy hb.2
        have hb3 := (par_ok k).2.1 _ _ _ _ _ h (by omega) hb2.2
        have hb0 := hw.bt i h0 (by omega)
        rw [if_pos ⟨by omega, by rw [hb0]; exact hc.2⟩, ihT i o x hx h0 hc.1 (by omega) o' ho ho2]
        simp only [obind]
        rw [sh_ops hw k x.2 x.1 y hy (by omega) hb.2 (by omega)]
        simp only [Option.bind_some]
        exact ihS y.2 o _ r h (by omega) hb2.2 hr o' ho ho2
      · rename_i hc
        cases h
        simp only at hr
        rw [if_neg]
        rintro ⟨e1, e2⟩
        rw [hw.bt i h0 (by omega)] at e2
        exact hc ⟨by omega, e2⟩
    · have hb := (par_ok (k + 1)).2.2 _ _ _ _ h (by omega) h1
      have hb0 := hw.bt i h0 (by omega)
      rw [atomF_s] at h ⊢
      rw [hb0]
      by_cases c1 : bt p i = 40
      · rw [if_pos c1] at h ⊢
        split at h
        · cases h
        · rename_i ho3
          obtain ⟨x, hx, h⟩ := obind_ok h
          have hbx := (par_ok k).1 _ _ _ _ _ hx (by omega) (by omega)
          split at h
          · cases h
          · rename_i hx2
            cases h
            simp only at hr
            rw [if_neg (by omega), show i - a + 1 = i + 1 - a by omega, ihA (i + 1) (o + 1) [] x hx (by omega) (by omega) (by omega) (o' + 1) (by omega) (by omega)]
            simp only [obind]
            rw [if_neg (by omega), show x.2 - a + 1 = x.2 + 1 - a by omega]
      · rw [if_neg c1] at h ⊢
        by_cases c2 : bt p i = 91
        · rw [if_pos c2] at h ⊢
          obtain ⟨x, hx, h⟩ := obind_ok h
          cases h
          simp only at hr hb
          have hi1 : i + 1 < p.size := by
            have := claF_ok hx (by omega) (by omega)
            omega
          rw [show i - a + 1 = i + 1 - a by omega, sh_cla hw hx (by omega) hi1 hr]
          rfl
        · rw [if_neg c2] at h ⊢
          by_cases c3 : bt p i = 46
          · rw [if_pos c3] at h ⊢
            cases h
            rw [show i - a + 1 = i + 1 - a by omega]
          · rw [if_neg c3] at h ⊢
            split at h
            · cases h
            · rename_i c4
              rw [if_neg c4]
              by_cases c5 : bt p i = 92
              · rw [if_pos c5] at h ⊢
                split at h
                · cases h
                · rename_i he
                  cases h
                  simp only at hr
                  have hb1 := hw.bt (i + 1) (by omega) (by omega)
                  rw [if_neg (by omega), show i - a + 1 = i + 1 - a by omega, hb1, show i - a + 2 = i + 2 - a by omega]
              · rw [if_neg c5] at h ⊢
                cases h
                rw [show i - a + 1 = i + 1 - a by omega]
end
end Go.Proofs.Ytcdpmmpdfdillaa.Q

namespace Go.Proofs.Ytcdpmmpdfdillaa.Q
open Go.RowKit Go.Proofs.YtcdpmmpdfdillaaW.PrintWords Go.Proofs.YtcdpmmpdfdillaaW.PrintLast Go.Proofs.YtcdpmmpdfdillaaW.PrintMore
set_option linter.unusedVariables false
set_option linter.unusedSimpArgs false

/-! ### spec_l4Op: function 28 -/
def spec_l4Op.f (a0 : Int) : Option (Bool) := if a0 = 42 then (some true) else (if a0 = 43 then (some true) else (some (a0 == 63)))
set_option maxHeartbeats 8000000 in
set_option maxRecDepth 100000 in
theorem spec_l4Op.calls (a0 : Int) (r : Bool) (w : World) (h : spec_l4Op.f a0 = some r) :
  Calls Try.prog 28 #[.int .u8 a0] w fun e w' => e = .returned (.bool r) ∧ Drawn0 w w' := by
 have H : (if a0 = 42 then (some true) else (if a0 = 43 then (some true) else (some (a0 == 63)))) = some r := h
 clear h
 by_cases c2 : a0 = 42
 ·rw [if_pos c2] at H
  have c2b0 : (a0 == 42) = true := beq_iff_eq.mpr c2
  have c2b1 : (a0 != 42) = false := bne_eq_false_iff_eq.mpr c2
  clear c2
  obtain rfl := Option.some.inj H
  go_enter Try.func28, Try.ntmps28
  go_wp2
  go_ret
  exact ⟨by first | rfl | (simp; done) | (simp [*]; done), by repeat (first | exact Drawn0.refl _ | apply Drawn0.step)⟩
 ·rw [if_neg c2] at H
  have c2b0 : (a0 == 42) = false := beq_eq_false_iff_ne.mpr c2
  have c2b1 : (a0 != 42) = true := bne_iff_ne.mpr c2
  by_cases c3 : a0 = 43
  ·rw [if_pos c3] at H
   have c3b0 : (a0 == 43) = true := beq_iff_eq.mpr c3
   have c3b1 : (a0 != 43) = false := bne_eq_false_iff_eq.mpr c3
   clear c3
   obtain rfl := Option.some.inj H
   go_enter Try.func28, Try.ntmps28
   go_wp2
   go_ret
   exact ⟨by first | rfl | (simp; done) | (simp [*]; done), by repeat (first | exact Drawn0.refl _ | apply Drawn0.step)⟩
  ·rw [if_neg c3] at H
   have c3b0 : (a0 == 43) = false := beq_eq_false_iff_ne.mpr c3
   have c3b1 : (a0 != 43) = true := bne_iff_ne.mpr c3
   obtain rfl := Option.some.inj H
   go_enter Try.func28, Try.ntmps28
   go_wp2
   go_ret
   exact ⟨by first | rfl | (simp; done) | (simp [*]; done), by repeat (first | exact Drawn0.refl _ | apply Drawn0.step)⟩

end Go.Proofs.Ytcdpmmpdfdillaa.Q

namespace Go.Proofs.Ytcdpmmpdfdillaa.Q
open Go.RowKit Go.Proofs.YtcdpmmpdfdillaaW.PrintWords Go.Proofs.YtcdpmmpdfdillaaW.PrintLast Go.Proofs.YtcdpmmpdfdillaaW.PrintMore
set_option linter.unusedVariables false
set_option linter.unusedSimpArgs false

/-! ### spec_l4Ch: function 39 -/
def spec_l4Ch.j0 : Nat → ByteArray → Int → Bool → Option (Int × Int × Bool)
 | 0, _, _, _ => none
 | k + 1, x0, x1, x22 => if x22 = true then (some (0, x1, false)) else (if 0 ≤ x1 then (if x1 < (x0.size : Int) then (if (bt x0 x1) = 92 then (if (wrap64 (x1 + 1)) ≥ (x0.size : Int) then (some (0, wrap64 (x1 + 1), false)) else (if 0 ≤ (wrap64 (x1 + 1)) then (if (wrap64 (x1 + 1)) < (x0.size : Int) then (some (bt x0 (wrap64 (x1 + 1)), wrap64 (x1 + 2), true)) else (none)) else (none))) else (some (bt x0 x1, wrap64 (x1 + 1), true))) else (none)) else (none))
def spec_l4Ch.f (k : Nat) (a0 : ByteArray) (a1 : Int) : Option (Int × Int × Bool) := if a1 ≥ (a0.size : Int) then (spec_l4Ch.j0 k a0 a1 true) else (if 0 ≤ a1 then (if a1 < (a0.size : Int) then (if (bt a0 a1) = 93 then (spec_l4Ch.j0 k a0 a1 true) else (spec_l4Ch.j0 k a0 a1 ((bt a0 a1) == 45))) else (none)) else (none))
set_option maxHeartbeats 8000000 in
set_option maxRecDepth 100000 in
theorem spec_l4Ch.calls (k : Nat) (a0 : ByteArray) (a1 : Int) (r1 : Int) (r2 : Int) (r3 : Bool) (w : World) (h : spec_l4Ch.f k a0 a1 = some (r1, r2, r3)) :
  Calls Try.prog 39 #[.string a0, .int .i64 a1] w fun e w' => e = .returned (.tuple #[.int .u8 r1, .int .i64 r2, .bool r3]) ∧ Drawn0 w w' := by
 have H : (if a1 ≥ (a0.size : Int) then (spec_l4Ch.j0 k a0 a1 true) else (if 0 ≤ a1 then (if a1 < (a0.size : Int) then (if (bt a0 a1) = 93 then (spec_l4Ch.j0 k a0 a1 true) else (spec_l4Ch.j0 k a0 a1 ((bt a0 a1) == 45))) else (none)) else (none))) = some (r1, r2, r3) := h
 clear h
 have HC3 := Aside0.mk H
 clear H
 go_enter Try.func39, Try.ntmps39
 go_upto_region 1 with (fail)
 go_cut [22] (fun v22 wc => ∃ (kq : Nat) (x22_2 : Bool), v22 = .bool x22_2 ∧ Aside0 (spec_l4Ch.j0 kq a0 a1 x22_2 = some (r1, r2, r3)) ∧ Aside0 (kq ≤ k) ∧ Drawn0 w wc)
 case first =>
  have H := HC3.out
  clear HC3
  by_cases c4 : a1 ≥ (a0.size : Int)
  ·rw [if_pos c4] at H
   have c4b0 : decide ((a0.size : Int) ≤ a1) = true := decide_eq_true c4
   clear c4
   (first | rw [c4b0] | (simp only [i64_w, i32_w]; rw [c4b0]) | skip)
   have H' := Aside0.mk H
   clear H
   go_wp2
   go_meet
   case rel => exact ⟨_, (true), (by first | rfl | (simp; done) | (simp [*]; done)), H', ⟨by first | omega | exact Nat.le_refl _⟩, by repeat (first | exact Drawn0.refl _ | apply Drawn0.step)⟩
  ·rw [if_neg c4] at H
   have c4b0 : decide ((a0.size : Int) ≤ a1) = false := decide_eq_false c4
   clear c4
   (first | rw [c4b0] | (simp only [i64_w, i32_w]; rw [c4b0]) | skip)
   by_cases c5 : 0 ≤ a1
   ·rw [if_pos c5] at H
    have c5b0 : decide (0 ≤ a1) = true := decide_eq_true c5
    clear c5
    by_cases c6 : a1 < (a0.size : Int)
    ·rw [if_pos c6] at H
     have c6b0 : decide (a1 < (a0.size : Int)) = true := decide_eq_true c6
     clear c6
     by_cases c8 : (bt a0 a1) = 93
     ·rw [if_pos c8] at H
      have c8b0 : ((bt a0 a1) == 93) = true := beq_iff_eq.mpr c8
      have c8b1 : ((bt a0 a1) != 93) = false := bne_eq_false_iff_eq.mpr c8
      clear c8
      have H' := Aside0.mk H
      clear H
      have p7 : 0 ≤ (a1 : Int) := of_decide_eq_true (by first | (with_reducible assumption) | assumption)
      have q7 : a1 < (a0.size : Int) := of_decide_eq_true (by first | (with_reducible assumption) | assumption)
      have hx7 := bt_at a0 a1
      replace p7 := eq_true p7
      replace q7 := eq_true q7
      go_wp2
      go_meet
      case rel => exact ⟨_, (true), (by first | rfl | (simp; done) | (simp [*]; done)), H', ⟨by first | omega | exact Nat.le_refl _⟩, by repeat (first | exact Drawn0.refl _ | apply Drawn0.step)⟩
     ·rw [if_neg c8] at H
      have c8b0 : ((bt a0 a1) == 93) = false := beq_eq_false_iff_ne.mpr c8
      have c8b1 : ((bt a0 a1) != 93) = true := bne_iff_ne.mpr c8
      have H' := Aside0.mk H
      clear H
      have p7 : 0 ≤ (a1 : Int) := of_decide_eq_true (by first | (with_reducible assumption) | assumption)
      have q7 : a1 < (a0.size : Int) := of_decide_eq_true (by first | (with_reducible assumption) | assumption)
      have hx7 := bt_at a0 a1
      replace p7 := eq_true p7
      replace q7 := eq_true q7
      have p9 : 0 ≤ (a1 : Int) := of_decide_eq_true (by first | (with_reducible assumption) | assumption)
      have q9 : a1 < (a0.size : Int) := of_decide_eq_true (by first | (with_reducible assumption) | assumption)
      have hx9 := bt_at a0 a1
      replace p9 := eq_true p9
      replace q9 := eq_true q9
      go_wp2
      go_meet
      case rel => exact ⟨_, (((bt a0 a1) == 45)), (by first | rfl | (simp; done) | (simp [*]; done)), H', ⟨by first | omega | exact Nat.le_refl _⟩, by repeat (first | exact Drawn0.refl _ | apply Drawn0.step)⟩
    ·rw [if_neg c6] at H
     exact absurd H (by simp)
   ·rw [if_neg c5] at H
    exact absurd H (by simp)
 case rest =>
  clear HC3
  try clear p2
  try clear c3
  try clear c4
  try clear c4b0
  try clear c5
  try clear c5b0
  try clear c6
  try clear c6b0
  try clear p7
  try clear q7
  try clear hx7
  try clear c8
  try clear c8b0
  try clear c8b1
  try clear p9
  try clear q9
  try clear hx9
  try clear p7
  try clear p9
  try clear q7
  try clear q9
  obtain ⟨kq, x22_2, rfl, HA, HJ2, ⟨mc2, rfl⟩⟩ := hcut
  cases kq with
  | zero => exact absurd HA.out (by simp [spec_l4Ch.j0])
  | succ kj2 =>
   have H := HA.out
   clear HA
   simp only [spec_l4Ch.j0] at H
   by_cases c10 : x22_2 = true
   ·subst c10
    have H1 : (some (0, a1, false)) = some (r1, r2, r3) := by rw [if_pos rfl] at H; exact H
    clear H
    have H := H1
    clear H1
    simp only [Option.some.injEq, Prod.mk.injEq] at H
    obtain ⟨rfl, rfl, rfl⟩ := H
    go_wp2
    go_ret3
    exact ⟨by first | rfl | (simp; done) | (simp [*]; done), by repeat (first | exact Drawn0.refl _ | apply Drawn0.step)⟩
   ·replace c10 := Bool.eq_false_iff.mpr c10
    subst c10
    have H1 : (if 0 ≤ a1 then (if a1 < (a0.size : Int) then (if (bt a0 a1) = 92 then (if (wrap64 (a1 + 1)) ≥ (a0.size : Int) then (some (0, wrap64 (a1 + 1), false)) else (if 0 ≤ (wrap64 (a1 + 1)) then (if (wrap64 (a1 + 1)) < (a0.size : Int) then (some (bt a0 (wrap64 (a1 + 1)), wrap64 (a1 + 2), true)) else (none)) else (none))) else (some (bt a0 a1, wrap64 (a1 + 1), true))) else (none)) else (none)) = some (r1, r2, r3) := by rw [if_neg (show ¬ (false = true) by decide)] at H; exact H
    clear H
    have H := H1
    clear H1
    by_cases c11 : 0 ≤ a1
    ·rw [if_pos c11] at H
     have c11b0 : decide (0 ≤ a1) = true := decide_eq_true c11
     clear c11
     by_cases c12 : a1 < (a0.size : Int)
     ·rw [if_pos c12] at H
      have c12b0 : decide (a1 < (a0.size : Int)) = true := decide_eq_true c12
      clear c12
      by_cases c14 : (bt a0 a1) = 92
      ·rw [if_pos c14] at H
       have c14b0 : ((bt a0 a1) == 92) = true := beq_iff_eq.mpr c14
       have c14b1 : ((bt a0 a1) != 92) = false := bne_eq_false_iff_eq.mpr c14
       clear c14
       by_cases c15 : (wrap64 (a1 + 1)) ≥ (a0.size : Int)
       ·rw [if_pos c15] at H
        have c15b0 : decide ((a0.size : Int) ≤ (wrap64 (a1 + 1))) = true := decide_eq_true c15
        clear c15
        simp only [Option.some.injEq, Prod.mk.injEq] at H
        obtain ⟨rfl, rfl, rfl⟩ := H
        have p13 : 0 ≤ (a1 : Int) := of_decide_eq_true (by first | (with_reducible assumption) | assumption)
        have q13 : a1 < (a0.size : Int) := of_decide_eq_true (by first | (with_reducible assumption) | assumption)
        have hx13 := bt_at a0 a1
        replace p13 := eq_true p13
        replace q13 := eq_true q13
        go_wp2
        go_ret3
        exact ⟨by first | rfl | (simp; done) | (simp [*]; done), by repeat (first | exact Drawn0.refl _ | apply Drawn0.step)⟩
       ·rw [if_neg c15] at H
        have c15b0 : decide ((a0.size : Int) ≤ (wrap64 (a1 + 1))) = false := decide_eq_false c15
        clear c15
        obtain ⟨ji16, hji16⟩ : ∃ j_ : Int, (wrap64 (a1 + 1)) = j_ := ⟨_, rfl⟩
        replace H : (if 0 ≤ (ji16) then (if (ji16) < (a0.size : Int) then (some (bt a0 (ji16), wrap64 (a1 + 2), true)) else (none)) else (none)) = some (r1, r2, r3) := by first | (rw [hji16] at H; exact H) | (simp only [hji16] at H ⊢; exact H)
        (try rw [hji16] at c15b0)
        have hji16w : (IntKind.i64.wrap (a1 + 1)) = ji16 := (i64_w _).trans hji16
        by_cases c17 : 0 ≤ (ji16)
        ·rw [if_pos c17] at H
         have c17b0 : decide (0 ≤ (ji16)) = true := decide_eq_true c17
         clear c17
         by_cases c18 : (ji16) < (a0.size : Int)
         ·rw [if_pos c18] at H
          have c18b0 : decide ((ji16) < (a0.size : Int)) = true := decide_eq_true c18
          clear c18
          simp only [Option.some.injEq, Prod.mk.injEq] at H
          obtain ⟨rfl, rfl, rfl⟩ := H
          have p13 : 0 ≤ (a1 : Int) := of_decide_eq_true (by first | (with_reducible assumption) | assumption)
          have q13 : a1 < (a0.size : Int) := of_decide_eq_true (by first | (with_reducible assumption) | assumption)
          have hx13 := bt_at a0 a1
          replace p13 := eq_true p13
          replace q13 := eq_true q13
          have p19 : 0 ≤ ((ji16) : Int) := of_decide_eq_true (by first | (with_reducible assumption) | assumption)
          have q19 : (ji16) < (a0.size : Int) := of_decide_eq_true (by first | (with_reducible assumption) | assumption)
          have hx19 := bt_at a0 (ji16)
          replace p19 := eq_true p19
          replace q19 := eq_true q19
          go_wp2
          go_ret3
          exact ⟨by first | rfl | (simp; done) | (simp only [← hji16] <;> (first | rfl | simp)) | (simp [*]; done), by repeat (first | exact Drawn0.refl _ | apply Drawn0.step)⟩
         ·rw [if_neg c18] at H
          exact absurd H (by simp)
        ·rw [if_neg c17] at H
         exact absurd H (by simp)
      ·rw [if_neg c14] at H
       have c14b0 : ((bt a0 a1) == 92) = false := beq_eq_false_iff_ne.mpr c14
       have c14b1 : ((bt a0 a1) != 92) = true := bne_iff_ne.mpr c14
       simp only [Option.some.injEq, Prod.mk.injEq] at H
       obtain ⟨rfl, rfl, rfl⟩ := H
       have p13 : 0 ≤ (a1 : Int) := of_decide_eq_true (by first | (with_reducible assumption) | assumption)
       have q13 : a1 < (a0.size : Int) := of_decide_eq_true (by first | (with_reducible assumption) | assumption)
       have hx13 := bt_at a0 a1
       replace p13 := eq_true p13
       replace q13 := eq_true q13
       have p20 : 0 ≤ (a1 : Int) := of_decide_eq_true (by first | (with_reducible assumption) | assumption)
       have q20 : a1 < (a0.size : Int) := of_decide_eq_true (by first | (with_reducible assumption) | assumption)
       have hx20 := bt_at a0 a1
       replace p20 := eq_true p20
       replace q20 := eq_true q20
       go_wp2
       go_ret3
       exact ⟨by first | rfl | (simp; done) | (simp [*]; done), by repeat (first | exact Drawn0.refl _ | apply Drawn0.step)⟩
     ·rw [if_neg c12] at H
      exact absurd H (by simp)
    ·rw [if_neg c11] at H
     exact absurd H (by simp)

end Go.Proofs.Ytcdpmmpdfdillaa.Q

namespace Go.Proofs.Ytcdpmmpdfdillaa.Q
open Go.RowKit
theorem at_fn {P : Program} {ops : Array Oper} {rest : List Oper} {o : Oper} {a : Act} {Q : Exit → Act → World → Prop} {W : World} {f : FuncId} {xs : Array Operand} {ts : Array TypeId}
    (_is : o.op = .call { callee := .value (.func f), args := xs, argTypes := ts }) (go : wpList P ops Q (o :: rest) a W) : wpList P ops Q (o :: rest) a W := go
end Go.Proofs.Ytcdpmmpdfdillaa.Q

namespace Go.Proofs.Ytcdpmmpdfdillaa.Q
open Go.RowKit Go.Proofs.YtcdpmmpdfdillaaW.PrintWords Go.Proofs.YtcdpmmpdfdillaaW.PrintLast Go.Proofs.YtcdpmmpdfdillaaW.PrintMore
set_option linter.unusedVariables false
set_option linter.unusedSimpArgs false

/-! ### spec_l4Class: function 29 -/
mutual
def spec_l4Class.j0 : Nat → ByteArray → Int → Bool → Option (Int × Int × Int)
 | 0, _, _, _ => none
 | k + 1, x0, x6, x25 => if x25 = true then (spec_l4Class.j1 k x0 (wrap64 (x6 + 1))) else (spec_l4Class.j1 k x0 x6)
def spec_l4Class.j1 : Nat → ByteArray → Int → Option (Int × Int × Int)
 | 0, _, _ => none
 | k + 1, x0, x6 => spec_l4Class.l0 k x0 x6 0
def spec_l4Class.l0 : Nat → ByteArray → Int → Int → Option (Int × Int × Int)
 | 0, _, _, _ => none
 | k + 1, x0, x6, x7 => if x6 < (x0.size : Int) then (if 0 ≤ x6 then (if (bt x0 x6) = 93 then (spec_l4Class.j3 k x0 x6 x7 (decide (x7 > 0))) else (spec_l4Class.j3 k x0 x6 x7 false)) else (none)) else (some (0, 2, (x0.size : Int)))
def spec_l4Class.j3 : Nat → ByteArray → Int → Int → Bool → Option (Int × Int × Int)
 | 0, _, _, _, _ => none
 | k + 1, x0, x6, x7, x39 => if x39 = true then (some (wrap64 (x6 + 1), 0, 0)) else ((spec_l4Ch.f k x0 x6).bind fun bt102 => (if bt102.2.2 = true then (if bt102.2.1 < (x0.size : Int) then (if 0 ≤ bt102.2.1 then (spec_l4Class.j4 k x0 x6 x7 bt102.1 bt102.2.1 ((bt x0 bt102.2.1) == 45)) else (none)) else (spec_l4Class.j4 k x0 x6 x7 bt102.1 bt102.2.1 false)) else (some (0, 2, bt102.2.1))))
def spec_l4Class.j4 : Nat → ByteArray → Int → Int → Int → Int → Bool → Option (Int × Int × Int)
 | 0, _, _, _, _, _, _ => none
 | k + 1, x0, x6, x7, x8, x9, x63 => if x63 = true then ((spec_l4Ch.f k x0 (wrap64 (x9 + 1))).bind fun bt105 => (if bt105.2.2 = true then (if x8 > bt105.1 then (some (0, 4, x6)) else (spec_l4Class.l0 k x0 bt105.2.1 (wrap64 (x7 + 1)))) else (some (0, 2, bt105.2.1)))) else (spec_l4Class.l0 k x0 x9 (wrap64 (x7 + 1)))
end
def spec_l4Class.f (k : Nat) (a0 : ByteArray) (a1 : Int) : Option (Int × Int × Int) := if (wrap64 (a1 + 1)) < (a0.size : Int) then (if 0 ≤ (wrap64 (a1 + 1)) then (spec_l4Class.j0 k a0 (wrap64 (a1 + 1)) ((bt a0 (wrap64 (a1 + 1))) == 94)) else (none)) else (spec_l4Class.j0 k a0 (wrap64 (a1 + 1)) false)
set_option maxHeartbeats 8000000 in
set_option maxRecDepth 100000 in
theorem spec_l4Class.calls (k : Nat) (a0 : ByteArray) (a1 : Int) (r1 : Int) (r2 : Int) (r3 : Int) (w : World) (h : spec_l4Class.f k a0 a1 = some (r1, r2, r3)) :
  Calls Try.prog 29 #[.string a0, .int .i64 a1] w fun e w' => e = .returned (.tuple #[.int .i64 r1, .agg #[.int .i64 r2, .int .i64 r3]]) ∧ Below w.heap.size w w' := by
 have hu30 := Try.underlying30
 have HB := Aside0.mk (Below.refl w.heap.size w)
 have H : (if (wrap64 (a1 + 1)) < (a0.size : Int) then (if 0 ≤ (wrap64 (a1 + 1)) then (spec_l4Class.j0 k a0 (wrap64 (a1 + 1)) ((bt a0 (wrap64 (a1 + 1))) == 94)) else (none)) else (spec_l4Class.j0 k a0 (wrap64 (a1 + 1)) false)) = some (r1, r2, r3) := h
 clear h
 have HC3 := Aside0.mk H
 clear H
 go_enter Try.func29, Try.ntmps29
 go_upto_region 2 with (first | ((with_reducible refine gate_dst (N := 5) rfl ?_); refine box_event ?hg (N := 5) ?hd (cs := #[.int .i64 0, .int .i64 0]) (t := 30) ?hr ?_; (case hd => rfl); (case hg => rfl); (case hr => first | (go_simp; done) | (go_simp; rfl)); intro gb101 hg w4 hbox hb; have n0_ := Aside0.mk (below_step bw hb); have n1_ := Aside0.mk (hbox); have n2_ := Aside0.mk ((by rw [hg]; exact (below_size bw) : w.heap.size ≤ gb101)); have n3_ := Aside0.mk ((by rw [hg]; exact (below_size bw) : w.heap.size ≤ gb101)); clear HB; have HB := n0_; have BK101 := n1_; have GW101 := n2_; have GE101 := n3_; clear n0_ n1_ n2_ n3_; clear hb hbox hg))
 (try simp only [Act.put, List.setIfInBounds_toArray, List.set_cons_zero, List.set_cons_succ])
 go_cut [25] (fun v25 wc => ∃ (kq : Nat) (x25_2 : Bool), v25 = .bool x25_2 ∧ Aside0 (spec_l4Class.j0 kq a0 (wrap64 (a1 + 1)) x25_2 = some (r1, r2, r3)) ∧ Aside0 (kq ≤ k) ∧ Aside0 (wc.heap[gb101]? = some (.cells #[.int .i64 0, .int .i64 0] 30 (0, 0))) ∧ Aside0 (Below w.heap.size w wc))
 case first =>
  have H := HC3.out
  clear HC3
  by_cases c5 : (wrap64 (a1 + 1)) < (a0.size : Int)
  ·rw [if_pos c5] at H
   have c5b0 : decide ((wrap64 (a1 + 1)) < (a0.size : Int)) = true := decide_eq_true c5
   clear c5
   (first | rw [c5b0] | (simp only [i64_w, i32_w]; rw [c5b0]) | skip)
   obtain ⟨ji6, hji6⟩ : ∃ j_ : Int, (wrap64 (a1 + 1)) = j_ := ⟨_, rfl⟩
   replace H : (if 0 ≤ (ji6) then (spec_l4Class.j0 k a0 ji6 ((bt a0 (ji6)) == 94)) else (none)) = some (r1, r2, r3) := by first | (rw [hji6] at H; exact H) | (simp only [hji6] at H ⊢; exact H)
   (try rw [hji6] at c5b0)
   have hji6w : (IntKind.i64.wrap (a1 + 1)) = ji6 := (i64_w _).trans hji6
   by_cases c7 : 0 ≤ (ji6)
   ·rw [if_pos c7] at H
    have c7b0 : decide (0 ≤ (ji6)) = true := decide_eq_true c7
    clear c7
    have H' := Aside0.mk H
    clear H
    have p8 : 0 ≤ ((ji6) : Int) := of_decide_eq_true (by first | (with_reducible assumption) | assumption)
    have q8 : (ji6) < (a0.size : Int) := of_decide_eq_true (by first | (with_reducible assumption) | assumption)
    have hx8 := bt_at a0 (ji6)
    replace p8 := eq_true p8
    replace q8 := eq_true q8
    go_wp2
    go_meet
    case rel => exact ⟨_, (((bt a0 (ji6)) == 94)), (by first | rfl | (simp; done) | (simp only [← hji6] <;> (first | rfl | simp)) | (simp [*]; done)), (by first | exact H' | (rw [hji6]; exact H') | (rw [← hji6]; exact H')), ⟨by first | omega | exact Nat.le_refl _⟩, ⟨lb BK101⟩, ⟨bw⟩⟩
   ·rw [if_neg c7] at H
    exact absurd H (by simp)
  ·rw [if_neg c5] at H
   have c5b0 : decide ((wrap64 (a1 + 1)) < (a0.size : Int)) = false := decide_eq_false c5
   clear c5
   (first | rw [c5b0] | (simp only [i64_w, i32_w]; rw [c5b0]) | skip)
   have H' := Aside0.mk H
   clear H
   go_wp2
   go_meet
   case rel => exact ⟨_, (false), (by first | rfl | (simp; done) | (simp [*]; done)), (by first | exact H' | (rw [hji6]; exact H') | (rw [← hji6]; exact H')), ⟨by first | omega | exact Nat.le_refl _⟩, ⟨lb BK101⟩, ⟨bw⟩⟩
 case rest =>
  clear HC3
  try clear c2
  try clear p2
  try clear c5
  try clear c5b0
  try clear p6
  try clear c7
  try clear c7b0
  try clear p8
  try clear q8
  try clear hx8
  try clear p8
  try clear q8
  obtain ⟨kq, x25_2, rfl, HA, HJ2, BK101, HB⟩ := hcut
  cases kq with
  | zero => exact absurd HA.out (by simp [spec_l4Class.j0])
  | succ kj2 =>
   have H := HA.out
   clear HA
   simp only [spec_l4Class.j0] at H
   have HC9 := Aside0.mk H
   clear H
   go_upto_if 25 with (fail)
   go_cut [6] (fun v6 wc => ∃ (kq : Nat) (x6_8 : Int), v6 = .int .i64 x6_8 ∧ Aside0 (spec_l4Class.j1 kq a0 x6_8 = some (r1, r2, r3)) ∧ Aside0 (kq ≤ kj2) ∧ Aside0 (wc.heap[gb101]? = some (.cells #[.int .i64 0, .int .i64 0] 30 (0, 0))) ∧ Aside0 (Below w.heap.size w wc))
   case first =>
    have H := HC9.out
    clear HC9
    by_cases c10 : x25_2 = true
    ·subst c10
     have H1 : (spec_l4Class.j1 kj2 a0 (wrap64 ((wrap64 (a1 + 1)) + 1))) = some (r1, r2, r3) := by rw [if_pos rfl] at H; exact H
     clear H
     have H := H1
     clear H1
     have H' := Aside0.mk H
     clear H
     go_wp2
     go_meet
     case rel => exact ⟨_, (wrap64 ((wrap64 (a1 + 1)) + 1)), (by first | rfl | (simp; done) | (simp [*]; done)), H', ⟨by have := HJ2.out; first | omega | exact Nat.le_refl _⟩, ⟨lb BK101⟩, ⟨bw⟩⟩
    ·replace c10 := Bool.eq_false_iff.mpr c10
     subst c10
     have H1 : (spec_l4Class.j1 kj2 a0 (wrap64 (a1 + 1))) = some (r1, r2, r3) := by rw [if_neg (show ¬ (false = true) by decide)] at H; exact H
     clear H
     have H := H1
     clear H1
     have H' := Aside0.mk H
     clear H
     go_wp2
     go_meet
     case rel => exact ⟨_, ((wrap64 (a1 + 1))), (by first | rfl | (simp; done) | (simp [*]; done)), H', ⟨by have := HJ2.out; first | omega | exact Nat.le_refl _⟩, ⟨lb BK101⟩, ⟨bw⟩⟩
   case rest =>
    clear HC9
    try clear c1
    try clear c2
    try clear p2
    try clear c5
    try clear c5b0
    try clear p6
    try clear c7
    try clear c7b0
    try clear p8
    try clear q8
    try clear hx8
    try clear c10
    try clear p2
    try clear p6
    try clear p8
    try clear q8
    obtain ⟨kq, x6_8, rfl, HA, HJ8, BK101, HB⟩ := hcut
    cases kq with
    | zero => exact absurd HA.out (by simp [spec_l4Class.j1])
    | succ kj8 =>
     have H := HA.out
     clear HA
     simp only [spec_l4Class.j1] at H
     have H' := Aside0.mk H
     clear H
     go_wp2
     go_loopg [6, 7] kj8 (fun kq v6 v7 w' => ∃ (x6_3 : Int) (x7_3 : Int) (x102000_3 : Int) (x102001_3 : Int), v6 = .int .i64 x6_3 ∧ v7 = .int .i64 x7_3 ∧ Aside0 (spec_l4Class.l0 kq a0 x6_3 x7_3 = some (r1, r2, r3)) ∧ Aside0 (kq ≤ kj8) ∧ Aside0 (w'.heap[gb101]? = some (.cells #[.int .i64 x102000_3, .int .i64 x102001_3] 30 (0, 0))) ∧ Aside0 (Below w.heap.size w w'))
     case atStart => exact ⟨(x6_8), (0), (0), (0), (by first | rfl | (simp; done) | (simp [*]; done)), (by first | rfl | (simp; done) | (simp [*]; done)), H', ⟨Nat.le_refl _⟩, ⟨lb BK101⟩, ⟨bw⟩⟩
     case round =>
      clear H'
      try clear c1
      try clear c2
      try clear p2
      try clear c5
      try clear c5b0
      try clear p6
      try clear c7
      try clear c7b0
      try clear p8
      try clear q8
      try clear hx8
      try clear c10
      try clear p2
      try clear p6
      try clear p8
      try clear q8
      obtain ⟨x6_3, x7_3, x102000_3, x102001_3, rfl, rfl, HA, HK3, BK101, HB⟩ := hrel
      cases gk with
      | zero => exact absurd HA.out (by simp [spec_l4Class.l0])
      | succ k3 =>
       have H := HA.out
       clear HA
       simp only [spec_l4Class.l0] at H
       by_cases c11 : x6_3 < (a0.size : Int)
       ·rw [if_pos c11] at H
        have c11b0 : decide (x6_3 < (a0.size : Int)) = true := decide_eq_true c11
        clear c11
        have HC12 := Aside0.mk H
        clear H
        go_upto_region 6 with (fail)
        go_cut [39] (fun v39 wc => ∃ (kq : Nat) (x39_11 : Bool), v39 = .bool x39_11 ∧ Aside0 (spec_l4Class.j3 kq a0 x6_3 x7_3 x39_11 = some (r1, r2, r3)) ∧ Aside0 (kq ≤ k3) ∧ Aside0 (wc.heap[gb101]? = some (.cells #[.int .i64 x102000_3, .int .i64 x102001_3] 30 (0, 0))) ∧ Aside0 (Below w.heap.size w wc))
        case first =>
         have H := HC12.out
         clear HC12
         by_cases c13 : 0 ≤ x6_3
         ·rw [if_pos c13] at H
          have c13b0 : decide (0 ≤ x6_3) = true := decide_eq_true c13
          clear c13
          (first | rw [c13b0] | (simp only [i64_w, i32_w]; rw [c13b0]) | skip)
          by_cases c15 : (bt a0 x6_3) = 93
          ·rw [if_pos c15] at H
           have c15b0 : ((bt a0 x6_3) == 93) = true := beq_iff_eq.mpr c15
           have c15b1 : ((bt a0 x6_3) != 93) = false := bne_eq_false_iff_eq.mpr c15
           clear c15
           have H' := Aside0.mk H
           clear H
           have p14 : 0 ≤ (x6_3 : Int) := of_decide_eq_true (by first | (with_reducible assumption) | assumption)
           have q14 : x6_3 < (a0.size : Int) := of_decide_eq_true (by first | (with_reducible assumption) | assumption)
           have hx14 := bt_at a0 x6_3
           replace p14 := eq_true p14
           replace q14 := eq_true q14
           go_wp2
           go_meet
           case rel => exact ⟨_, (decide (x7_3 > 0)), (by first | rfl | (simp; done) | (simp [*]; done)), H', ⟨by have := HJ2.out; have := HJ8.out; have := HK3.out; first | omega | exact Nat.le_refl _⟩, ⟨lb BK101⟩, ⟨bw⟩⟩
          ·rw [if_neg c15] at H
           have c15b0 : ((bt a0 x6_3) == 93) = false := beq_eq_false_iff_ne.mpr c15
           have c15b1 : ((bt a0 x6_3) != 93) = true := bne_iff_ne.mpr c15
           have H' := Aside0.mk H
           clear H
           have p14 : 0 ≤ (x6_3 : Int) := of_decide_eq_true (by first | (with_reducible assumption) | assumption)
           have q14 : x6_3 < (a0.size : Int) := of_decide_eq_true (by first | (with_reducible assumption) | assumption)
           have hx14 := bt_at a0 x6_3
           replace p14 := eq_true p14
           replace q14 := eq_true q14
           go_wp2
           go_meet
           case rel => exact ⟨_, (false), (by first | rfl | (simp; done) | (simp [*]; done)), H', ⟨by have := HJ2.out; have := HJ8.out; have := HK3.out; first | omega | exact Nat.le_refl _⟩, ⟨lb BK101⟩, ⟨bw⟩⟩
         ·rw [if_neg c13] at H
          exact absurd H (by simp)
        case rest =>
         clear HC12
         try clear c1
         try clear p1
         try clear q1
         try clear hx1
         try clear c2
         try clear p2
         try clear c5
         try clear c5b0
         try clear p6
         try clear c7
         try clear c7b0
         try clear p8
         try clear q8
         try clear hx8
         try clear c10
         try clear c11
         try clear c11b0
         try clear c13
         try clear c13b0
         try clear p14
         try clear q14
         try clear hx14
         try clear c15
         try clear c15b0
         try clear c15b1
         try clear p14
         try clear p2
         try clear p6
         try clear p8
         try clear q14
         try clear q8
         obtain ⟨kq, x39_11, rfl, HA, HJ11, BK101, HB⟩ := hcut
         cases kq with
         | zero => exact absurd HA.out (by simp [spec_l4Class.j3])
         | succ kj11 =>
          have H := HA.out
          clear HA
          simp only [spec_l4Class.j3] at H
          by_cases c16 : x39_11 = true
          ·subst c16
           have H1 : (some (wrap64 (x6_3 + 1), 0, 0)) = some (r1, r2, r3) := by rw [if_pos rfl] at H; exact H
           clear H
           have H := H1
           clear H1
           simp only [Option.some.injEq, Prod.mk.injEq] at H
           obtain ⟨rfl, rfl, rfl⟩ := H
           have hcz17_0 : wc.cell? ⟨gb101, 0, none⟩ = some (.int .i64 x102000_3) := (blk_cell BK101.out 0).trans rfl
           have hcz17_1 : wc.cell? ⟨gb101, 1, none⟩ = some (.int .i64 x102001_3) := (blk_cell BK101.out 1).trans rfl
           have hfz17_0 := blk_frozen BK101.out 0
           have hfz17_1 := blk_frozen BK101.out 1
           go_wp2
           refine bodyPost_ret (results_tc rfl _ _ gb101 30 #[.int .i64 0, .int .i64 0] (0, 0) _ rfl (by (with_reducible repeat (first | refine blk_drewN ?_ _ | refine blk_drew ?_ | refine blk_alloc ?_ _)); refine blk_put (cs := #[.int .i64 0, .int .i64 x102001_3]) ?_ 1 _ rfl; (with_reducible repeat (first | refine blk_drewN ?_ _ | refine blk_drew ?_ | refine blk_alloc ?_ _)); refine blk_put (cs := #[.int .i64 x102000_3, .int .i64 x102001_3]) ?_ 0 _ rfl; (with_reducible repeat (first | refine blk_drewN ?_ _ | refine blk_drew ?_ | refine blk_alloc ?_ _)); exact BK101.out) Try.underlying30 rfl (by kernel_rfl)) rfl ?_
           exact ⟨by first | rfl | (simp [errW_none, errW_some] <;> rfl) | (simp [*, errW_none, errW_some] <;> rfl), bw⟩
          ·replace c16 := Bool.eq_false_iff.mpr c16
           subst c16
           have H1 : ((spec_l4Ch.f kj11 a0 x6_3).bind fun bt102 => (if bt102.2.2 = true then (if bt102.2.1 < (a0.size : Int) then (if 0 ≤ bt102.2.1 then (spec_l4Class.j4 kj11 a0 x6_3 x7_3 bt102.1 bt102.2.1 ((bt a0 bt102.2.1) == 45)) else (none)) else (spec_l4Class.j4 kj11 a0 x6_3 x7_3 bt102.1 bt102.2.1 false)) else (some (0, 2, bt102.2.1)))) = some (r1, r2, r3) := by rw [if_neg (show ¬ (false = true) by decide)] at H; exact H
           clear H
           have H := H1
           clear H1
           replace H := Option.bind_eq_some_iff.mp H
           obtain ⟨⟨t102, t103, t104⟩, A180, H⟩ := H
           replace H : (if t104 = true then (if t103 < (a0.size : Int) then (if 0 ≤ t103 then (spec_l4Class.j4 kj11 a0 x6_3 x7_3 t102 t103 ((bt a0 t103) == 45)) else (none)) else (spec_l4Class.j4 kj11 a0 x6_3 x7_3 t102 t103 false)) else (some (0, 2, t103))) = some (r1, r2, r3) := H
           have A18 := Aside0.mk A180
           clear A180
           by_cases c19 : t104 = true
           ·subst c19
            have H1 : (if t103 < (a0.size : Int) then (if 0 ≤ t103 then (spec_l4Class.j4 kj11 a0 x6_3 x7_3 t102 t103 ((bt a0 t103) == 45)) else (none)) else (spec_l4Class.j4 kj11 a0 x6_3 x7_3 t102 t103 false)) = some (r1, r2, r3) := by rw [if_pos rfl] at H; exact H
            clear H
            have H := H1
            clear H1
            have HC20 := Aside0.mk H
            clear H
            go_upto_region 11 with (first | ((with_reducible refine at_fn (f := 39) rfl ?_); refine goesL_ (some 46) rfl rfl Try.func39 (by kernel_rfl) rfl #[.string a0, .int .i64 x6_3] rfl (by (try simp only [List.map_toArray, List.map_cons, List.map_nil]); first | done | rfl | (simp only [List.length_drop, List.length_take]; rfl)) ?_; (with_reducible refine (spec_l4Ch.calls kj11 a0 x6_3 t102 t103 true _ A18.out).mono ?_); rintro e w' ⟨rfl, ⟨nd, rfl⟩⟩; refine ⟨_, rfl, ?_⟩))
            (try simp only [Act.put, List.setIfInBounds_toArray, List.set_cons_zero, List.set_cons_succ])
            go_cut [63] (fun v63 wc => ∃ (kq : Nat) (x63_19 : Bool), v63 = .bool x63_19 ∧ Aside0 (spec_l4Class.j4 kq a0 x6_3 x7_3 t102 t103 x63_19 = some (r1, r2, r3)) ∧ Aside0 (kq ≤ kj11) ∧ Aside0 (wc.heap[gb101]? = some (.cells #[.int .i64 x102000_3, .int .i64 x102001_3] 30 (0, 0))) ∧ Aside0 (Below w.heap.size w wc))
            case first =>
             have H := HC20.out
             clear HC20
             by_cases c21 : t103 < (a0.size : Int)
             ·rw [if_pos c21] at H
              have c21b0 : decide (t103 < (a0.size : Int)) = true := decide_eq_true c21
              clear c21
              (first | rw [c21b0] | (simp only [i64_w, i32_w]; rw [c21b0]) | skip)
              by_cases c22 : 0 ≤ t103
              ·rw [if_pos c22] at H
               have c22b0 : decide (0 ≤ t103) = true := decide_eq_true c22
               clear c22
               have H' := Aside0.mk H
               clear H
               have p23 : 0 ≤ (t103 : Int) := of_decide_eq_true (by first | (with_reducible assumption) | assumption)
               have q23 : t103 < (a0.size : Int) := of_decide_eq_true (by first | (with_reducible assumption) | assumption)
               have hx23 := bt_at a0 t103
               replace p23 := eq_true p23
               replace q23 := eq_true q23
               go_wp2
               go_meet
               case rel => exact ⟨_, (((bt a0 t103) == 45)), (by first | rfl | (simp; done) | (simp [*]; done)), H', ⟨by have := HJ2.out; have := HJ8.out; have := HK3.out; have := HJ11.out; first | omega | exact Nat.le_refl _⟩, ⟨lb BK101⟩, ⟨bw⟩⟩
              ·rw [if_neg c22] at H
               exact absurd H (by simp)
             ·rw [if_neg c21] at H
              have c21b0 : decide (t103 < (a0.size : Int)) = false := decide_eq_false c21
              clear c21
              (first | rw [c21b0] | (simp only [i64_w, i32_w]; rw [c21b0]) | skip)
              have H' := Aside0.mk H
              clear H
              go_wp2
              go_meet
              case rel => exact ⟨_, (false), (by first | rfl | (simp; done) | (simp [*]; done)), H', ⟨by have := HJ2.out; have := HJ8.out; have := HK3.out; have := HJ11.out; first | omega | exact Nat.le_refl _⟩, ⟨lb BK101⟩, ⟨bw⟩⟩
            case rest =>
             clear HC20
             try clear c1
             try clear p1
             try clear q1
             try clear hx1
             try clear c2
             try clear p2
             try clear q2
             try clear hx2
             try clear c3
             try clear c5
             try clear c5b0
             try clear p6
             try clear c7
             try clear c7b0
             try clear p8
             try clear q8
             try clear hx8
             try clear c10
             try clear c11
             try clear c11b0
             try clear c13
             try clear c13b0
             try clear p14
             try clear q14
             try clear hx14
             try clear c15
             try clear c15b0
             try clear c15b1
             try clear c16
             try clear c19
             try clear c21
             try clear c21b0
             try clear c22
             try clear c22b0
             try clear p23
             try clear q23
             try clear hx23
             try clear hcz17_0
             try clear hcz17_1
             try clear hfz17_0
             try clear hfz17_1
             try clear p1
             try clear p14
             try clear p2
             try clear p23
             try clear p6
             try clear p8
             try clear q1
             try clear q14
             try clear q23
             try clear q8
             obtain ⟨kq, x63_19, rfl, HA, HJ19, BK101, HB⟩ := hcut
             cases kq with
             | zero => exact absurd HA.out (by simp [spec_l4Class.j4])
             | succ kj19 =>
              have H := HA.out
              clear HA
              simp only [spec_l4Class.j4] at H
              by_cases c24 : x63_19 = true
              ·subst c24
               have H1 : ((spec_l4Ch.f kj19 a0 (wrap64 (t103 + 1))).bind fun bt105 => (if bt105.2.2 = true then (if t102 > bt105.1 then (some (0, 4, x6_3)) else (spec_l4Class.l0 kj19 a0 bt105.2.1 (wrap64 (x7_3 + 1)))) else (some (0, 2, bt105.2.1)))) = some (r1, r2, r3) := by rw [if_pos rfl] at H; exact H
               clear H
               have H := H1
               clear H1
               replace H := Option.bind_eq_some_iff.mp H
               obtain ⟨⟨t105, t106, t107⟩, A250, H⟩ := H
               replace H : (if t107 = true then (if t102 > t105 then (some (0, 4, x6_3)) else (spec_l4Class.l0 kj19 a0 t106 (wrap64 (x7_3 + 1)))) else (some (0, 2, t106))) = some (r1, r2, r3) := H
               have A25 := Aside0.mk A250
               clear A250
               by_cases c26 : t107 = true
               ·subst c26
                have H1 : (if t102 > t105 then (some (0, 4, x6_3)) else (spec_l4Class.l0 kj19 a0 t106 (wrap64 (x7_3 + 1)))) = some (r1, r2, r3) := by rw [if_pos rfl] at H; exact H
                clear H
                have H := H1
                clear H1
                by_cases c27 : t102 > t105
                ·rw [if_pos c27] at H
                 have c27b0 : decide (t105 < t102) = true := decide_eq_true c27
                 clear c27
                 simp only [Option.some.injEq, Prod.mk.injEq] at H
                 obtain ⟨rfl, rfl, rfl⟩ := H
                 go_wp2_with (first | ((with_reducible refine at_fn (f := 39) rfl ?_); refine goesL_ (some 68) rfl rfl Try.func39 (by kernel_rfl) rfl #[.string a0, .int .i64 (wrap64 (t103 + 1))] rfl (by (try simp only [List.map_toArray, List.map_cons, List.map_nil]); first | done | rfl | (simp only [List.length_drop, List.length_take]; rfl)) ?_; (with_reducible refine (spec_l4Ch.calls kj19 a0 (wrap64 (t103 + 1)) t105 t106 true _ A25.out).mono ?_); rintro e w' ⟨rfl, ⟨nd, rfl⟩⟩; refine ⟨_, rfl, ?_⟩; (try (rw [drewN_self wc]; generalize hq_ : World.drewN wc _ = wc; have n0_ : Aside0 (wc.heap[gb101]? = some (.cells #[.int .i64 x102000_3, .int .i64 x102001_3] 30 (0, 0))) := ⟨by rw [← hq_]; exact (lb BK101)⟩; have n1_ : Aside0 (Below w.heap.size w wc) := ⟨by rw [← hq_]; exact bw⟩; clear BK101 HB hq_; have BK101 := n0_; have HB := n1_; clear n0_ n1_)); have hcz28_0 : wc.cell? ⟨gb101, 0, none⟩ = some (.int .i64 x102000_3) := (blk_cell BK101.out 0).trans rfl; have hcz28_1 : wc.cell? ⟨gb101, 1, none⟩ = some (.int .i64 x102001_3) := (blk_cell BK101.out 1).trans rfl; have hfz28_0 := blk_frozen BK101.out 0; have hfz28_1 := blk_frozen BK101.out 1))
                 refine bodyPost_ret (results_tc rfl _ _ gb101 30 #[.int .i64 4, .int .i64 x6_3] (0, 0) _ rfl (by (with_reducible repeat (first | refine blk_drewN ?_ _ | refine blk_drew ?_ | refine blk_alloc ?_ _)); refine blk_put (cs := #[.int .i64 4, .int .i64 x102001_3]) ?_ 1 _ rfl; (with_reducible repeat (first | refine blk_drewN ?_ _ | refine blk_drew ?_ | refine blk_alloc ?_ _)); refine blk_put (cs := #[.int .i64 x102000_3, .int .i64 x102001_3]) ?_ 0 _ rfl; (with_reducible repeat (first | refine blk_drewN ?_ _ | refine blk_drew ?_ | refine blk_alloc ?_ _)); exact BK101.out) Try.underlying30 rfl (by kernel_rfl)) rfl ?_
                 exact ⟨by first | rfl | (simp [errW_none, errW_some] <;> rfl) | (simp [*, errW_none, errW_some] <;> rfl), bw⟩
                ·rw [if_neg c27] at H
                 have c27b0 : decide (t105 < t102) = false := decide_eq_false c27
                 clear c27
                 have H' := Aside0.mk H
                 clear H
                 go_wp2_with (first | ((with_reducible refine at_fn (f := 39) rfl ?_); refine goesL_ (some 68) rfl rfl Try.func39 (by kernel_rfl) rfl #[.string a0, .int .i64 (wrap64 (t103 + 1))] rfl (by (try simp only [List.map_toArray, List.map_cons, List.map_nil]); first | done | rfl | (simp only [List.length_drop, List.length_take]; rfl)) ?_; (with_reducible refine (spec_l4Ch.calls kj19 a0 (wrap64 (t103 + 1)) t105 t106 true _ A25.out).mono ?_); rintro e w' ⟨rfl, ⟨nd, rfl⟩⟩; refine ⟨_, rfl, ?_⟩))
                 go_roundg kj19
                 case measure => have := HJ2.out; have := HJ8.out; have := HK3.out; have := HJ11.out; have := HJ19.out; omega
                 case rel => exact ⟨(t106), (wrap64 (x7_3 + 1)), (x102000_3), (x102001_3), (by first | rfl | (simp; done) | (simp [*]; done)), (by first | rfl | (simp; done) | (simp [*]; done)), H', ⟨by have := HJ2.out; have := HJ8.out; have := HK3.out; have := HJ11.out; have := HJ19.out; omega⟩, ⟨lb BK101⟩, ⟨bw⟩⟩
               ·replace c26 := Bool.eq_false_iff.mpr c26
                subst c26
                have H1 : (some (0, 2, t106)) = some (r1, r2, r3) := by rw [if_neg (show ¬ (false = true) by decide)] at H; exact H
                clear H
                have H := H1
                clear H1
                simp only [Option.some.injEq, Prod.mk.injEq] at H
                obtain ⟨rfl, rfl, rfl⟩ := H
                go_wp2_with (first | ((with_reducible refine at_fn (f := 39) rfl ?_); refine goesL_ (some 68) rfl rfl Try.func39 (by kernel_rfl) rfl #[.string a0, .int .i64 (wrap64 (t103 + 1))] rfl (by (try simp only [List.map_toArray, List.map_cons, List.map_nil]); first | done | rfl | (simp only [List.length_drop, List.length_take]; rfl)) ?_; (with_reducible refine (spec_l4Ch.calls kj19 a0 (wrap64 (t103 + 1)) t105 t106 false _ A25.out).mono ?_); rintro e w' ⟨rfl, ⟨nd, rfl⟩⟩; refine ⟨_, rfl, ?_⟩; (try (rw [drewN_self wc]; generalize hq_ : World.drewN wc _ = wc; have n0_ : Aside0 (wc.heap[gb101]? = some (.cells #[.int .i64 x102000_3, .int .i64 x102001_3] 30 (0, 0))) := ⟨by rw [← hq_]; exact (lb BK101)⟩; have n1_ : Aside0 (Below w.heap.size w wc) := ⟨by rw [← hq_]; exact bw⟩; clear BK101 HB hq_; have BK101 := n0_; have HB := n1_; clear n0_ n1_)); have hcz29_0 : wc.cell? ⟨gb101, 0, none⟩ = some (.int .i64 x102000_3) := (blk_cell BK101.out 0).trans rfl; have hcz29_1 : wc.cell? ⟨gb101, 1, none⟩ = some (.int .i64 x102001_3) := (blk_cell BK101.out 1).trans rfl; have hfz29_0 := blk_frozen BK101.out 0; have hfz29_1 := blk_frozen BK101.out 1))
                refine bodyPost_ret (results_tc rfl _ _ gb101 30 #[.int .i64 2, .int .i64 t106] (0, 0) _ rfl (by (with_reducible repeat (first | refine blk_drewN ?_ _ | refine blk_drew ?_ | refine blk_alloc ?_ _)); refine blk_put (cs := #[.int .i64 2, .int .i64 x102001_3]) ?_ 1 _ rfl; (with_reducible repeat (first | refine blk_drewN ?_ _ | refine blk_drew ?_ | refine blk_alloc ?_ _)); refine blk_put (cs := #[.int .i64 x102000_3, .int .i64 x102001_3]) ?_ 0 _ rfl; (with_reducible repeat (first | refine blk_drewN ?_ _ | refine blk_drew ?_ | refine blk_alloc ?_ _)); exact BK101.out) Try.underlying30 rfl (by kernel_rfl)) rfl ?_
                exact ⟨by first | rfl | (simp [errW_none, errW_some] <;> rfl) | (simp [*, errW_none, errW_some] <;> rfl), bw⟩
              ·replace c24 := Bool.eq_false_iff.mpr c24
               subst c24
               have H1 : (spec_l4Class.l0 kj19 a0 t103 (wrap64 (x7_3 + 1))) = some (r1, r2, r3) := by rw [if_neg (show ¬ (false = true) by decide)] at H; exact H
               clear H
               have H := H1
               clear H1
               have H' := Aside0.mk H
               clear H
               go_wp2
               go_roundg kj19
               case measure => have := HJ2.out; have := HJ8.out; have := HK3.out; have := HJ11.out; have := HJ19.out; omega
               case rel => exact ⟨(t103), (wrap64 (x7_3 + 1)), (x102000_3), (x102001_3), (by first | rfl | (simp; done) | (simp [*]; done)), (by first | rfl | (simp; done) | (simp [*]; done)), H', ⟨by have := HJ2.out; have := HJ8.out; have := HK3.out; have := HJ11.out; have := HJ19.out; omega⟩, ⟨lb BK101⟩, ⟨bw⟩⟩
           ·replace c19 := Bool.eq_false_iff.mpr c19
            subst c19
            have H1 : (some (0, 2, t103)) = some (r1, r2, r3) := by rw [if_neg (show ¬ (false = true) by decide)] at H; exact H
            clear H
            have H := H1
            clear H1
            simp only [Option.some.injEq, Prod.mk.injEq] at H
            obtain ⟨rfl, rfl, rfl⟩ := H
            go_wp2_with (first | ((with_reducible refine at_fn (f := 39) rfl ?_); refine goesL_ (some 46) rfl rfl Try.func39 (by kernel_rfl) rfl #[.string a0, .int .i64 x6_3] rfl (by (try simp only [List.map_toArray, List.map_cons, List.map_nil]); first | done | rfl | (simp only [List.length_drop, List.length_take]; rfl)) ?_; (with_reducible refine (spec_l4Ch.calls kj11 a0 x6_3 t102 t103 false _ A18.out).mono ?_); rintro e w' ⟨rfl, ⟨nd, rfl⟩⟩; refine ⟨_, rfl, ?_⟩; (try (rw [drewN_self wc]; generalize hq_ : World.drewN wc _ = wc; have n0_ : Aside0 (wc.heap[gb101]? = some (.cells #[.int .i64 x102000_3, .int .i64 x102001_3] 30 (0, 0))) := ⟨by rw [← hq_]; exact (lb BK101)⟩; have n1_ : Aside0 (Below w.heap.size w wc) := ⟨by rw [← hq_]; exact bw⟩; clear BK101 HB hq_; have BK101 := n0_; have HB := n1_; clear n0_ n1_)); have hcz30_0 : wc.cell? ⟨gb101, 0, none⟩ = some (.int .i64 x102000_3) := (blk_cell BK101.out 0).trans rfl; have hcz30_1 : wc.cell? ⟨gb101, 1, none⟩ = some (.int .i64 x102001_3) := (blk_cell BK101.out 1).trans rfl; have hfz30_0 := blk_frozen BK101.out 0; have hfz30_1 := blk_frozen BK101.out 1))
            refine bodyPost_ret (results_tc rfl _ _ gb101 30 #[.int .i64 2, .int .i64 t103] (0, 0) _ rfl (by (with_reducible repeat (first | refine blk_drewN ?_ _ | refine blk_drew ?_ | refine blk_alloc ?_ _)); refine blk_put (cs := #[.int .i64 2, .int .i64 x102001_3]) ?_ 1 _ rfl; (with_reducible repeat (first | refine blk_drewN ?_ _ | refine blk_drew ?_ | refine blk_alloc ?_ _)); refine blk_put (cs := #[.int .i64 x102000_3, .int .i64 x102001_3]) ?_ 0 _ rfl; (with_reducible repeat (first | refine blk_drewN ?_ _ | refine blk_drew ?_ | refine blk_alloc ?_ _)); exact BK101.out) Try.underlying30 rfl (by kernel_rfl)) rfl ?_
            exact ⟨by first | rfl | (simp [errW_none, errW_some] <;> rfl) | (simp [*, errW_none, errW_some] <;> rfl), bw⟩
       ·rw [if_neg c11] at H
        have c11b0 : decide (x6_3 < (a0.size : Int)) = false := decide_eq_false c11
        clear c11
        simp only [Option.some.injEq, Prod.mk.injEq] at H
        obtain ⟨rfl, rfl, rfl⟩ := H
        have hcz31_0 : wr.cell? ⟨gb101, 0, none⟩ = some (.int .i64 x102000_3) := (blk_cell BK101.out 0).trans rfl
        have hcz31_1 : wr.cell? ⟨gb101, 1, none⟩ = some (.int .i64 x102001_3) := (blk_cell BK101.out 1).trans rfl
        have hfz31_0 := blk_frozen BK101.out 0
        have hfz31_1 := blk_frozen BK101.out 1
        go_wp2
        refine bodyPost_ret (results_tc rfl _ _ gb101 30 #[.int .i64 2, .int .i64 (a0.size : Int)] (0, 0) _ rfl (by (with_reducible repeat (first | refine blk_drewN ?_ _ | refine blk_drew ?_ | refine blk_alloc ?_ _)); refine blk_put (cs := #[.int .i64 2, .int .i64 x102001_3]) ?_ 1 _ rfl; (with_reducible repeat (first | refine blk_drewN ?_ _ | refine blk_drew ?_ | refine blk_alloc ?_ _)); refine blk_put (cs := #[.int .i64 x102000_3, .int .i64 x102001_3]) ?_ 0 _ rfl; (with_reducible repeat (first | refine blk_drewN ?_ _ | refine blk_drew ?_ | refine blk_alloc ?_ _)); exact BK101.out) Try.underlying30 rfl (by kernel_rfl)) rfl ?_
        exact ⟨by first | rfl | (simp [errW_none, errW_some] <;> rfl) | (simp [*, errW_none, errW_some] <;> rfl), bw⟩

end Go.Proofs.Ytcdpmmpdfdillaa.Q

namespace Go.Proofs.Ytcdpmmpdfdillaa.Q
open Go.RowKit Go.Proofs.YtcdpmmpdfdillaaW.PrintWords Go.Proofs.YtcdpmmpdfdillaaW.PrintLast Go.Proofs.YtcdpmmpdfdillaaW.PrintMore
set_option linter.unusedVariables false
set_option linter.unusedSimpArgs false

/-! ### spec_CheckRegex: function 11 -/
def spec_CheckRegex.l0 : Nat → ByteArray → Int → Bool → Int → Option (Int × Int)
 | 0, _, _, _, _ => none
 | k + 1, x0, x3, x4, x5 => if x5 < (x0.size : Int) then (if 0 ≤ x5 then (if (bt x0 x5) = 40 then (if x3 = 20 then (some (3, x5)) else (spec_CheckRegex.l0 k x0 (wrap64 (x3 + 1)) false (wrap64 (x5 + 1)))) else (if (bt x0 x5) = 41 then (if x3 = 0 then (some (2, x5)) else (spec_CheckRegex.l0 k x0 (wrap64 (x3 - 1)) true (wrap64 (x5 + 1)))) else (if (bt x0 x5) = 124 then (spec_CheckRegex.l0 k x0 x3 false (wrap64 (x5 + 1))) else ((spec_l4Op.f (bt x0 x5)).bind fun t109 => (if t109 = true then (if x4 = true then (spec_CheckRegex.l0 k x0 x3 x4 (wrap64 (x5 + 1))) else (some (2, x5))) else (if (bt x0 x5) = 91 then ((spec_l4Class.f k x0 x5).bind fun bt110 => (if bt110.2.1 = 0 then (spec_CheckRegex.l0 k x0 x3 true bt110.1) else (some (bt110.2.1, bt110.2.2)))) else (if (bt x0 x5) = 93 then (some (2, x5)) else (if (bt x0 x5) = 92 then (if (wrap64 (x5 + 1)) = (x0.size : Int) then (some (2, (x0.size : Int))) else (spec_CheckRegex.l0 k x0 x3 true (wrap64 (x5 + 2)))) else (spec_CheckRegex.l0 k x0 x3 true (wrap64 (x5 + 1))))))))))) else (none)) else (if x3 > 0 then (some (2, (x0.size : Int))) else (some (0, 0)))
def spec_CheckRegex.f (k : Nat) (a0 : ByteArray) : Option (Int × Int) := if (a0.size : Int) > 200 then (some (1, 0)) else (spec_CheckRegex.l0 k a0 0 false 0)
set_option maxHeartbeats 8000000 in
set_option maxRecDepth 100000 in
theorem spec_CheckRegex.calls (k : Nat) (a0 : ByteArray) (r1 : Int) (r2 : Int) (w : World) (h : spec_CheckRegex.f k a0 = some (r1, r2)) :
  Calls Try.prog 11 #[.string a0] w fun e w' => e = .returned (.agg #[.int .i64 r1, .int .i64 r2]) ∧ Below w.heap.size w w' := by
 have hu30 := Try.underlying30
 have HB := Aside0.mk (Below.refl w.heap.size w)
 have H : (if (a0.size : Int) > 200 then (some (1, 0)) else (spec_CheckRegex.l0 k a0 0 false 0)) = some (r1, r2) := h
 clear h
 by_cases c2 : (a0.size : Int) > 200
 ·rw [if_pos c2] at H
  have c2b0 : decide (200 < (a0.size : Int)) = true := decide_eq_true c2
  have c2b1 : decide (200 < a0.size) = true := decide_eq_true (by omega)
  clear c2
  simp only [Option.some.injEq, Prod.mk.injEq] at H
  obtain ⟨rfl, rfl⟩ := H
  go_enter Try.func11, Try.ntmps11
  go_wp2_with (first | ((with_reducible refine gate_dst (N := 2) rfl ?_); refine box_event ?hg (N := 2) ?hd (cs := #[.int .i64 0, .int .i64 0]) (t := 30) ?hr ?_; (case hd => rfl); (case hg => rfl); (case hr => first | (go_simp; done) | (go_simp; rfl)); intro gb108 hg w3 hbox hb; have n0_ := Aside0.mk (below_step bw hb); have n1_ := Aside0.mk (hbox); have n2_ := Aside0.mk ((by rw [hg]; exact (below_size bw) : w.heap.size ≤ gb108)); have n3_ := Aside0.mk ((by rw [hg]; exact (below_size bw) : w.heap.size ≤ gb108)); clear HB; have HB := n0_; have BK108 := n1_; have GW108 := n2_; have GE108 := n3_; clear n0_ n1_ n2_ n3_; clear hb hbox hg; have hcz4_0 : w3.cell? ⟨gb108, 0, none⟩ = some (.int .i64 0) := (blk_cell BK108.out 0).trans rfl; have hcz4_1 : w3.cell? ⟨gb108, 1, none⟩ = some (.int .i64 0) := (blk_cell BK108.out 1).trans rfl; have hfz4_0 := blk_frozen BK108.out 0; have hfz4_1 := blk_frozen BK108.out 1))
  refine bodyPost_ret (results_cell_row rfl _ _ gb108 30 #[.int .i64 1, .int .i64 0] (0, 0) _ rfl (by (with_reducible repeat (first | refine blk_drewN ?_ _ | refine blk_drew ?_ | refine blk_alloc ?_ _)); refine blk_put (cs := #[.int .i64 1, .int .i64 0]) ?_ 1 _ rfl; (with_reducible repeat (first | refine blk_drewN ?_ _ | refine blk_drew ?_ | refine blk_alloc ?_ _)); refine blk_put (cs := #[.int .i64 0, .int .i64 0]) ?_ 0 _ rfl; (with_reducible repeat (first | refine blk_drewN ?_ _ | refine blk_drew ?_ | refine blk_alloc ?_ _)); exact BK108.out) Try.underlying30 rfl (by kernel_rfl)) rfl ?_
  exact ⟨by first | rfl | (simp [errW_none, errW_some] <;> rfl) | (simp [*, errW_none, errW_some] <;> rfl), bw⟩
 ·rw [if_neg c2] at H
  have c2b0 : decide (200 < (a0.size : Int)) = false := decide_eq_false c2
  have c2b1 : decide (200 < a0.size) = false := decide_eq_false (by omega)
  clear c2
  have H' := Aside0.mk H
  clear H
  go_enter Try.func11, Try.ntmps11
  go_wp2_with (first | ((with_reducible refine gate_dst (N := 2) rfl ?_); refine box_event ?hg (N := 2) ?hd (cs := #[.int .i64 0, .int .i64 0]) (t := 30) ?hr ?_; (case hd => rfl); (case hg => rfl); (case hr => first | (go_simp; done) | (go_simp; rfl)); intro gb108 hg w5 hbox hb; have n0_ := Aside0.mk (below_step bw hb); have n1_ := Aside0.mk (hbox); have n2_ := Aside0.mk ((by rw [hg]; exact (below_size bw) : w.heap.size ≤ gb108)); have n3_ := Aside0.mk ((by rw [hg]; exact (below_size bw) : w.heap.size ≤ gb108)); clear HB; have HB := n0_; have BK108 := n1_; have GW108 := n2_; have GE108 := n3_; clear n0_ n1_ n2_ n3_; clear hb hbox hg))
  go_loopg [3, 4, 5] k (fun kq v3 v4 v5 w' => ∃ (x3_1 : Int) (x4_1 : Bool) (x5_1 : Int) (x109000_1 : Int) (x109001_1 : Int), v3 = .int .i64 x3_1 ∧ v4 = .bool x4_1 ∧ v5 = .int .i64 x5_1 ∧ Aside0 (spec_CheckRegex.l0 kq a0 x3_1 x4_1 x5_1 = some (r1, r2)) ∧ Aside0 (kq ≤ k) ∧ Aside0 (w'.heap[gb108]? = some (.cells #[.int .i64 x109000_1, .int .i64 x109001_1] 30 (0, 0))) ∧ Aside0 (Below w.heap.size w w'))
  case atStart => exact ⟨(0), (false), (0), (0), (0), (by first | rfl | (simp; done) | (simp [*]; done)), (by first | rfl | (simp; done) | (simp [*]; done)), (by first | rfl | (simp; done) | (simp [*]; done)), H', ⟨Nat.le_refl _⟩, ⟨lb BK108⟩, ⟨bw⟩⟩
  case round =>
   clear H'
   try clear c1
   try clear c2
   try clear c2b0
   try clear c2b1
   try clear p2
   try clear hcz4_0
   try clear hcz4_1
   try clear hfz4_0
   try clear hfz4_1
   obtain ⟨x3_1, x4_1, x5_1, x109000_1, x109001_1, rfl, rfl, rfl, HA, HK1, BK108, HB⟩ := hrel
   cases gk with
   | zero => exact absurd HA.out (by simp [spec_CheckRegex.l0])
   | succ k1 =>
    have H := HA.out
    clear HA
    simp only [spec_CheckRegex.l0] at H
    by_cases c6 : x5_1 < (a0.size : Int)
    ·rw [if_pos c6] at H
     have c6b0 : decide (x5_1 < (a0.size : Int)) = true := decide_eq_true c6
     clear c6
     by_cases c7 : 0 ≤ x5_1
     ·rw [if_pos c7] at H
      have c7b0 : decide (0 ≤ x5_1) = true := decide_eq_true c7
      clear c7
      by_cases c9 : (bt a0 x5_1) = 40
      ·rw [if_pos c9] at H
       have c9b0 : ((bt a0 x5_1) == 40) = true := beq_iff_eq.mpr c9
       have c9b1 : ((bt a0 x5_1) != 40) = false := bne_eq_false_iff_eq.mpr c9
       clear c9
       by_cases c10 : x3_1 = 20
       ·rw [if_pos c10] at H
        have c10b0 : (x3_1 == 20) = true := beq_iff_eq.mpr c10
        have c10b1 : (x3_1 != 20) = false := bne_eq_false_iff_eq.mpr c10
        clear c10
        simp only [Option.some.injEq, Prod.mk.injEq] at H
        obtain ⟨rfl, rfl⟩ := H
        have p8 : 0 ≤ (x5_1 : Int) := of_decide_eq_true (by first | (with_reducible assumption) | assumption)
        have q8 : x5_1 < (a0.size : Int) := of_decide_eq_true (by first | (with_reducible assumption) | assumption)
        have hx8 := bt_at a0 x5_1
        replace p8 := eq_true p8
        replace q8 := eq_true q8
        have hcz11_0 : wr.cell? ⟨gb108, 0, none⟩ = some (.int .i64 x109000_1) := (blk_cell BK108.out 0).trans rfl
        have hcz11_1 : wr.cell? ⟨gb108, 1, none⟩ = some (.int .i64 x109001_1) := (blk_cell BK108.out 1).trans rfl
        have hfz11_0 := blk_frozen BK108.out 0
        have hfz11_1 := blk_frozen BK108.out 1
        go_wp2
        refine bodyPost_ret (results_cell_row rfl _ _ gb108 30 #[.int .i64 3, .int .i64 x5_1] (0, 0) _ rfl (by (with_reducible repeat (first | refine blk_drewN ?_ _ | refine blk_drew ?_ | refine blk_alloc ?_ _)); refine blk_put (cs := #[.int .i64 3, .int .i64 x109001_1]) ?_ 1 _ rfl; (with_reducible repeat (first | refine blk_drewN ?_ _ | refine blk_drew ?_ | refine blk_alloc ?_ _)); refine blk_put (cs := #[.int .i64 x109000_1, .int .i64 x109001_1]) ?_ 0 _ rfl; (with_reducible repeat (first | refine blk_drewN ?_ _ | refine blk_drew ?_ | refine blk_alloc ?_ _)); exact BK108.out) Try.underlying30 rfl (by kernel_rfl)) rfl ?_
        exact ⟨by first | rfl | (simp [errW_none, errW_some] <;> rfl) | (simp [*, errW_none, errW_some] <;> rfl), bw⟩
       ·rw [if_neg c10] at H
        have c10b0 : (x3_1 == 20) = false := beq_eq_false_iff_ne.mpr c10
        have c10b1 : (x3_1 != 20) = true := bne_iff_ne.mpr c10
        have H' := Aside0.mk H
        clear H
        have p8 : 0 ≤ (x5_1 : Int) := of_decide_eq_true (by first | (with_reducible assumption) | assumption)
        have q8 : x5_1 < (a0.size : Int) := of_decide_eq_true (by first | (with_reducible assumption) | assumption)
        have hx8 := bt_at a0 x5_1
        replace p8 := eq_true p8
        replace q8 := eq_true q8
        go_wp2
        go_roundg k1
        case measure => have := HK1.out; omega
        case rel => exact ⟨(wrap64 (x3_1 + 1)), (false), (wrap64 (x5_1 + 1)), (x109000_1), (x109001_1), (by first | rfl | (simp; done) | (simp [*]; done)), (by first | rfl | (simp; done) | (simp [*]; done)), (by first | rfl | (simp; done) | (simp [*]; done)), H', ⟨by have := HK1.out; omega⟩, ⟨lb BK108⟩, ⟨bw⟩⟩
      ·rw [if_neg c9] at H
       have c9b0 : ((bt a0 x5_1) == 40) = false := beq_eq_false_iff_ne.mpr c9
       have c9b1 : ((bt a0 x5_1) != 40) = true := bne_iff_ne.mpr c9
       by_cases c12 : (bt a0 x5_1) = 41
       ·rw [if_pos c12] at H
        have c12b0 : ((bt a0 x5_1) == 41) = true := beq_iff_eq.mpr c12
        have c12b1 : ((bt a0 x5_1) != 41) = false := bne_eq_false_iff_eq.mpr c12
        clear c12
        by_cases c13 : x3_1 = 0
        ·rw [if_pos c13] at H
         have c13b0 : (x3_1 == 0) = true := beq_iff_eq.mpr c13
         have c13b1 : (x3_1 != 0) = false := bne_eq_false_iff_eq.mpr c13
         clear c13
         simp only [Option.some.injEq, Prod.mk.injEq] at H
         obtain ⟨rfl, rfl⟩ := H
         have p8 : 0 ≤ (x5_1 : Int) := of_decide_eq_true (by first | (with_reducible assumption) | assumption)
         have q8 : x5_1 < (a0.size : Int) := of_decide_eq_true (by first | (with_reducible assumption) | assumption)
         have hx8 := bt_at a0 x5_1
         replace p8 := eq_true p8
         replace q8 := eq_true q8
         have hcz14_0 : wr.cell? ⟨gb108, 0, none⟩ = some (.int .i64 x109000_1) := (blk_cell BK108.out 0).trans rfl
         have hcz14_1 : wr.cell? ⟨gb108, 1, none⟩ = some (.int .i64 x109001_1) := (blk_cell BK108.out 1).trans rfl
         have hfz14_0 := blk_frozen BK108.out 0
         have hfz14_1 := blk_frozen BK108.out 1
         go_wp2
         refine bodyPost_ret (results_cell_row rfl _ _ gb108 30 #[.int .i64 2, .int .i64 x5_1] (0, 0) _ rfl (by (with_reducible repeat (first | refine blk_drewN ?_ _ | refine blk_drew ?_ | refine blk_alloc ?_ _)); refine blk_put (cs := #[.int .i64 2, .int .i64 x109001_1]) ?_ 1 _ rfl; (with_reducible repeat (first | refine blk_drewN ?_ _ | refine blk_drew ?_ | refine blk_alloc ?_ _)); refine blk_put (cs := #[.int .i64 x109000_1, .int .i64 x109001_1]) ?_ 0 _ rfl; (with_reducible repeat (first | refine blk_drewN ?_ _ | refine blk_drew ?_ | refine blk_alloc ?_ _)); exact BK108.out) Try.underlying30 rfl (by kernel_rfl)) rfl ?_
         exact ⟨by first | rfl | (simp [errW_none, errW_some] <;> rfl) | (simp [*, errW_none, errW_some] <;> rfl), bw⟩
        ·rw [if_neg c13] at H
         have c13b0 : (x3_1 == 0) = false := beq_eq_false_iff_ne.mpr c13
         have c13b1 : (x3_1 != 0) = true := bne_iff_ne.mpr c13
         have H' := Aside0.mk H
         clear H
         have p8 : 0 ≤ (x5_1 : Int) := of_decide_eq_true (by first | (with_reducible assumption) | assumption)
         have q8 : x5_1 < (a0.size : Int) := of_decide_eq_true (by first | (with_reducible assumption) | assumption)
         have hx8 := bt_at a0 x5_1
         replace p8 := eq_true p8
         replace q8 := eq_true q8
         go_wp2
         go_roundg k1
         case measure => have := HK1.out; omega
         case rel => exact ⟨(wrap64 (x3_1 - 1)), (true), (wrap64 (x5_1 + 1)), (x109000_1), (x109001_1), (by first | rfl | (simp; done) | (simp [*]; done)), (by first | rfl | (simp; done) | (simp [*]; done)), (by first | rfl | (simp; done) | (simp [*]; done)), H', ⟨by have := HK1.out; omega⟩, ⟨lb BK108⟩, ⟨bw⟩⟩
       ·rw [if_neg c12] at H
        have c12b0 : ((bt a0 x5_1) == 41) = false := beq_eq_false_iff_ne.mpr c12
        have c12b1 : ((bt a0 x5_1) != 41) = true := bne_iff_ne.mpr c12
        by_cases c15 : (bt a0 x5_1) = 124
        ·rw [if_pos c15] at H
         have c15b0 : ((bt a0 x5_1) == 124) = true := beq_iff_eq.mpr c15
         have c15b1 : ((bt a0 x5_1) != 124) = false := bne_eq_false_iff_eq.mpr c15
         clear c15
         have H' := Aside0.mk H
         clear H
         have p8 : 0 ≤ (x5_1 : Int) := of_decide_eq_true (by first | (with_reducible assumption) | assumption)
         have q8 : x5_1 < (a0.size : Int) := of_decide_eq_true (by first | (with_reducible assumption) | assumption)
         have hx8 := bt_at a0 x5_1
         replace p8 := eq_true p8
         replace q8 := eq_true q8
         go_wp2
         go_roundg k1
         case measure => have := HK1.out; omega
         case rel => exact ⟨(x3_1), (false), (wrap64 (x5_1 + 1)), (x109000_1), (x109001_1), (by first | rfl | (simp; done) | (simp [*]; done)), (by first | rfl | (simp; done) | (simp [*]; done)), (by first | rfl | (simp; done) | (simp [*]; done)), H', ⟨by have := HK1.out; omega⟩, ⟨lb BK108⟩, ⟨bw⟩⟩
        ·rw [if_neg c15] at H
         have c15b0 : ((bt a0 x5_1) == 124) = false := beq_eq_false_iff_ne.mpr c15
         have c15b1 : ((bt a0 x5_1) != 124) = true := bne_iff_ne.mpr c15
         replace H := Option.bind_eq_some_iff.mp H
         obtain ⟨t109, A160, H⟩ := H
         replace H : (if t109 = true then (if x4_1 = true then (spec_CheckRegex.l0 k1 a0 x3_1 x4_1 (wrap64 (x5_1 + 1))) else (some (2, x5_1))) else (if (bt a0 x5_1) = 91 then ((spec_l4Class.f k1 a0 x5_1).bind fun bt110 => (if bt110.2.1 = 0 then (spec_CheckRegex.l0 k1 a0 x3_1 true bt110.1) else (some (bt110.2.1, bt110.2.2)))) else (if (bt a0 x5_1) = 93 then (some (2, x5_1)) else (if (bt a0 x5_1) = 92 then (if (wrap64 (x5_1 + 1)) = (a0.size : Int) then (some (2, (a0.size : Int))) else (spec_CheckRegex.l0 k1 a0 x3_1 true (wrap64 (x5_1 + 2)))) else (spec_CheckRegex.l0 k1 a0 x3_1 true (wrap64 (x5_1 + 1))))))) = some (r1, r2) := H
         have A16 := Aside0.mk A160
         clear A160
         by_cases c17 : t109 = true
         ·subst c17
          have H1 : (if x4_1 = true then (spec_CheckRegex.l0 k1 a0 x3_1 x4_1 (wrap64 (x5_1 + 1))) else (some (2, x5_1))) = some (r1, r2) := by rw [if_pos rfl] at H; exact H
          clear H
          have H := H1
          clear H1
          by_cases c18 : x4_1 = true
          ·subst c18
           have H1 : (spec_CheckRegex.l0 k1 a0 x3_1 true (wrap64 (x5_1 + 1))) = some (r1, r2) := by rw [if_pos rfl] at H; exact H
           clear H
           have H := H1
           clear H1
           have H' := Aside0.mk H
           clear H
           have p8 : 0 ≤ (x5_1 : Int) := of_decide_eq_true (by first | (with_reducible assumption) | assumption)
           have q8 : x5_1 < (a0.size : Int) := of_decide_eq_true (by first | (with_reducible assumption) | assumption)
           have hx8 := bt_at a0 x5_1
           replace p8 := eq_true p8
           replace q8 := eq_true q8
           go_wp2_with (first | ((with_reducible refine at_fn (f := 28) rfl ?_); refine goesL_ (some 45) rfl rfl Try.func28 (by kernel_rfl) rfl #[.int .u8 (bt a0 x5_1)] rfl (by (try simp only [List.map_toArray, List.map_cons, List.map_nil]); first | done | rfl | (simp only [List.length_drop, List.length_take]; rfl)) ?_; (with_reducible refine (spec_l4Op.calls (bt a0 x5_1) true _ A16.out).mono ?_); rintro e w' ⟨rfl, ⟨nd, rfl⟩⟩; refine ⟨_, rfl, ?_⟩))
           go_roundg k1
           case measure => have := HK1.out; omega
           case rel => exact ⟨(x3_1), (true), (wrap64 (x5_1 + 1)), (x109000_1), (x109001_1), (by first | rfl | (simp; done) | (simp [*]; done)), (by first | rfl | (simp; done) | (simp [*]; done)), (by first | rfl | (simp; done) | (simp [*]; done)), H', ⟨by have := HK1.out; omega⟩, ⟨lb BK108⟩, ⟨bw⟩⟩
          ·replace c18 := Bool.eq_false_iff.mpr c18
           subst c18
           have H1 : (some (2, x5_1)) = some (r1, r2) := by rw [if_neg (show ¬ (false = true) by decide)] at H; exact H
           clear H
           have H := H1
           clear H1
           simp only [Option.some.injEq, Prod.mk.injEq] at H
           obtain ⟨rfl, rfl⟩ := H
           have p8 : 0 ≤ (x5_1 : Int) := of_decide_eq_true (by first | (with_reducible assumption) | assumption)
           have q8 : x5_1 < (a0.size : Int) := of_decide_eq_true (by first | (with_reducible assumption) | assumption)
           have hx8 := bt_at a0 x5_1
           replace p8 := eq_true p8
           replace q8 := eq_true q8
           go_wp2_with (first | ((with_reducible refine at_fn (f := 28) rfl ?_); refine goesL_ (some 45) rfl rfl Try.func28 (by kernel_rfl) rfl #[.int .u8 (bt a0 x5_1)] rfl (by (try simp only [List.map_toArray, List.map_cons, List.map_nil]); first | done | rfl | (simp only [List.length_drop, List.length_take]; rfl)) ?_; (with_reducible refine (spec_l4Op.calls (bt a0 x5_1) true _ A16.out).mono ?_); rintro e w' ⟨rfl, ⟨nd, rfl⟩⟩; refine ⟨_, rfl, ?_⟩; (try (rw [drewN_self wr]; generalize hq_ : World.drewN wr _ = wr; have n0_ : Aside0 (wr.heap[gb108]? = some (.cells #[.int .i64 x109000_1, .int .i64 x109001_1] 30 (0, 0))) := ⟨by rw [← hq_]; exact (lb BK108)⟩; have n1_ : Aside0 (Below w.heap.size w wr) := ⟨by rw [← hq_]; exact bw⟩; clear BK108 HB hq_; have BK108 := n0_; have HB := n1_; clear n0_ n1_)); have hcz19_0 : wr.cell? ⟨gb108, 0, none⟩ = some (.int .i64 x109000_1) := (blk_cell BK108.out 0).trans rfl; have hcz19_1 : wr.cell? ⟨gb108, 1, none⟩ = some (.int .i64 x109001_1) := (blk_cell BK108.out 1).trans rfl; have hfz19_0 := blk_frozen BK108.out 0; have hfz19_1 := blk_frozen BK108.out 1))
           refine bodyPost_ret (results_cell_row rfl _ _ gb108 30 #[.int .i64 2, .int .i64 x5_1] (0, 0) _ rfl (by (with_reducible repeat (first | refine blk_drewN ?_ _ | refine blk_drew ?_ | refine blk_alloc ?_ _)); refine blk_put (cs := #[.int .i64 2, .int .i64 x109001_1]) ?_ 1 _ rfl; (with_reducible repeat (first | refine blk_drewN ?_ _ | refine blk_drew ?_ | refine blk_alloc ?_ _)); refine blk_put (cs := #[.int .i64 x109000_1, .int .i64 x109001_1]) ?_ 0 _ rfl; (with_reducible repeat (first | refine blk_drewN ?_ _ | refine blk_drew ?_ | refine blk_alloc ?_ _)); exact BK108.out) Try.underlying30 rfl (by kernel_rfl)) rfl ?_
           exact ⟨by first | rfl | (simp [errW_none, errW_some] <;> rfl) | (simp [*, errW_none, errW_some] <;> rfl), bw⟩
         ·replace c17 := Bool.eq_false_iff.mpr c17
          subst c17
          have H1 : (if (bt a0 x5_1) = 91 then ((spec_l4Class.f k1 a0 x5_1).bind fun bt110 => (if bt110.2.1 = 0 then (spec_CheckRegex.l0 k1 a0 x3_1 true bt110.1) else (some (bt110.2.1, bt110.2.2)))) else (if (bt a0 x5_1) = 93 then (some (2, x5_1)) else (if (bt a0 x5_1) = 92 then (if (wrap64 (x5_1 + 1)) = (a0.size : Int) then (some (2, (a0.size : Int))) else (spec_CheckRegex.l0 k1 a0 x3_1 true (wrap64 (x5_1 + 2)))) else (spec_CheckRegex.l0 k1 a0 x3_1 true (wrap64 (x5_1 + 1)))))) = some (r1, r2) := by rw [if_neg (show ¬ (false = true) by decide)] at H; exact H
          clear H
          have H := H1
          clear H1
          by_cases c20 : (bt a0 x5_1) = 91
          ·rw [if_pos c20] at H
           have c20b0 : ((bt a0 x5_1) == 91) = true := beq_iff_eq.mpr c20
           have c20b1 : ((bt a0 x5_1) != 91) = false := bne_eq_false_iff_eq.mpr c20
           clear c20
           replace H := Option.bind_eq_some_iff.mp H
           obtain ⟨⟨t110, t111, t112⟩, A210, H⟩ := H
           replace H : (if t111 = 0 then (spec_CheckRegex.l0 k1 a0 x3_1 true t110) else (some (t111, t112))) = some (r1, r2) := H
           have A21 := Aside0.mk A210
           clear A210
           by_cases c22 : t111 = 0
           ·rw [if_pos c22] at H
            have c22b0 : (t111 == 0) = true := beq_iff_eq.mpr c22
            have c22b1 : (t111 != 0) = false := bne_eq_false_iff_eq.mpr c22
            clear c22
            have H' := Aside0.mk H
            clear H
            have p8 : 0 ≤ (x5_1 : Int) := of_decide_eq_true (by first | (with_reducible assumption) | assumption)
            have q8 : x5_1 < (a0.size : Int) := of_decide_eq_true (by first | (with_reducible assumption) | assumption)
            have hx8 := bt_at a0 x5_1
            replace p8 := eq_true p8
            replace q8 := eq_true q8
            go_wp2_with (first | ((with_reducible refine at_fn (f := 28) rfl ?_); refine goesL_ (some 45) rfl rfl Try.func28 (by kernel_rfl) rfl #[.int .u8 (bt a0 x5_1)] rfl (by (try simp only [List.map_toArray, List.map_cons, List.map_nil]); first | done | rfl | (simp only [List.length_drop, List.length_take]; rfl)) ?_; (with_reducible refine (spec_l4Op.calls (bt a0 x5_1) false _ A16.out).mono ?_); rintro e w' ⟨rfl, ⟨nd, rfl⟩⟩; refine ⟨_, rfl, ?_⟩; (try (rw [drewN_self wr]; generalize hq_ : World.drewN wr _ = wr; have n0_ : Aside0 (wr.heap[gb108]? = some (.cells #[.int .i64 x109000_1, .int .i64 x109001_1] 30 (0, 0))) := ⟨by rw [← hq_]; exact (lb BK108)⟩; have n1_ : Aside0 (Below w.heap.size w wr) := ⟨by rw [← hq_]; exact bw⟩; clear BK108 HB hq_; have BK108 := n0_; have HB := n1_; clear n0_ n1_))) | ((with_reducible refine at_fn (f := 29) rfl ?_); refine goesL_ (some 57) rfl rfl Try.func29 (by kernel_rfl) rfl #[.string a0, .int .i64 x5_1] rfl (by (try simp only [List.map_toArray, List.map_cons, List.map_nil]); first | done | rfl | (simp only [List.length_drop, List.length_take]; rfl)) ?_; (with_reducible refine (spec_l4Class.calls k1 a0 x5_1 t110 t111 t112 _ A21.out).mono ?_); rintro e w23 ⟨rfl, hb⟩; refine ⟨_, rfl, ?_⟩; have n0_ := Aside0.mk (blk_below (g := gb108) (o := .cells #[.int .i64 x109000_1, .int .i64 x109001_1] 30 (0, 0)) (lb BK108) hb); have n1_ := Aside0.mk (below_step bw hb); clear BK108; clear HB; have BK108 := n0_; have HB := n1_; clear n0_ n1_; (try clear hb); (try clear hb2); (try clear hk); (try clear hi)) | ((with_reducible refine gate_dst (N := 8) rfl ?_); refine box_event ?hg (N := 8) ?hd (cs := #[.int .i64 0, .int .i64 0]) (t := 30) ?hr ?_; (case hd => rfl); (case hg => rfl); (case hr => first | (go_simp; done) | (go_simp; rfl)); intro gb113 hg w24 hbox hb; have n0_ := Aside0.mk (blk_below (g := gb108) (o := .cells #[.int .i64 x109000_1, .int .i64 x109001_1] 30 (0, 0)) (lb BK108) hb); have n1_ := Aside0.mk (below_step bw hb); have n2_ := Aside0.mk (hbox); have n3_ := Aside0.mk ((by rw [hg]; exact (below_size bw) : w.heap.size ≤ gb113)); have n4_ := Aside0.mk ((by rw [hg]; exact (below_size bw) : w.heap.size ≤ gb113)); have n5_ := Aside0.mk ((by rw [hg]; exact Nat.ne_of_lt (blk_lt (g := gb108) (o := .cells #[.int .i64 x109000_1, .int .i64 x109001_1] 30 (0, 0)) (lb BK108)) : gb108 ≠ gb113)); have n6_ := Aside0.mk ((by rw [hg]; exact Nat.ne_of_gt (blk_lt (g := gb108) (o := .cells #[.int .i64 x109000_1, .int .i64 x109001_1] 30 (0, 0)) (lb BK108)) : gb113 ≠ gb108)); clear BK108; clear HB; have BK108 := n0_; have HB := n1_; have BK113 := n2_; have GW113 := n3_; have GE113 := n4_; have NB108_113 := n5_; have NB113_108 := n6_; clear n0_ n1_ n2_ n3_ n4_ n5_ n6_; clear hb hbox hg; have hnb25 := NB113_108.out; have hnc25 := NB108_113.out; have hcz26_0 : w24.cell? ⟨gb113, 0, none⟩ = some (.int .i64 0) := (blk_cell BK113.out 0).trans rfl; have hcz26_1 : w24.cell? ⟨gb113, 1, none⟩ = some (.int .i64 0) := (blk_cell BK113.out 1).trans rfl; have hfz26_0 := blk_frozen BK113.out 0; have hfz26_1 := blk_frozen BK113.out 1))
            go_roundg k1
            case measure => have := HK1.out; omega
            case rel => exact ⟨(x3_1), (true), (t110), (x109000_1), (x109001_1), (by first | rfl | (simp; done) | (simp [*]; done)), (by first | rfl | (simp; done) | (simp [*]; done)), (by first | rfl | (simp; done) | (simp [*]; done)), H', ⟨by have := HK1.out; omega⟩, ⟨by (with_reducible repeat (first | refine blk_drewN ?_ _ | refine blk_drew ?_ | refine blk_alloc ?_ _)); refine blk_far ?_ NB108_113.out _; (with_reducible repeat (first | refine blk_drewN ?_ _ | refine blk_drew ?_ | refine blk_alloc ?_ _)); refine blk_far ?_ NB108_113.out _; (with_reducible repeat (first | refine blk_drewN ?_ _ | refine blk_drew ?_ | refine blk_alloc ?_ _)); exact BK108.out⟩, ⟨bw⟩⟩
           ·rw [if_neg c22] at H
            have c22b0 : (t111 == 0) = false := beq_eq_false_iff_ne.mpr c22
            have c22b1 : (t111 != 0) = true := bne_iff_ne.mpr c22
            simp only [Option.some.injEq, Prod.mk.injEq] at H
            obtain ⟨rfl, rfl⟩ := H
            have p8 : 0 ≤ (x5_1 : Int) := of_decide_eq_true (by first | (with_reducible assumption) | assumption)
            have q8 : x5_1 < (a0.size : Int) := of_decide_eq_true (by first | (with_reducible assumption) | assumption)
            have hx8 := bt_at a0 x5_1
            replace p8 := eq_true p8
            replace q8 := eq_true q8
            go_wp2_with (first | ((with_reducible refine at_fn (f := 28) rfl ?_); refine goesL_ (some 45) rfl rfl Try.func28 (by kernel_rfl) rfl #[.int .u8 (bt a0 x5_1)] rfl (by (try simp only [List.map_toArray, List.map_cons, List.map_nil]); first | done | rfl | (simp only [List.length_drop, List.length_take]; rfl)) ?_; (with_reducible refine (spec_l4Op.calls (bt a0 x5_1) false _ A16.out).mono ?_); rintro e w' ⟨rfl, ⟨nd, rfl⟩⟩; refine ⟨_, rfl, ?_⟩; (try (rw [drewN_self wr]; generalize hq_ : World.drewN wr _ = wr; have n0_ : Aside0 (wr.heap[gb108]? = some (.cells #[.int .i64 x109000_1, .int .i64 x109001_1] 30 (0, 0))) := ⟨by rw [← hq_]; exact (lb BK108)⟩; have n1_ : Aside0 (Below w.heap.size w wr) := ⟨by rw [← hq_]; exact bw⟩; clear BK108 HB hq_; have BK108 := n0_; have HB := n1_; clear n0_ n1_))) | ((with_reducible refine at_fn (f := 29) rfl ?_); refine goesL_ (some 57) rfl rfl Try.func29 (by kernel_rfl) rfl #[.string a0, .int .i64 x5_1] rfl (by (try simp only [List.map_toArray, List.map_cons, List.map_nil]); first | done | rfl | (simp only [List.length_drop, List.length_take]; rfl)) ?_; (with_reducible refine (spec_l4Class.calls k1 a0 x5_1 t110 t111 t112 _ A21.out).mono ?_); rintro e w27 ⟨rfl, hb⟩; refine ⟨_, rfl, ?_⟩; have n0_ := Aside0.mk (blk_below (g := gb108) (o := .cells #[.int .i64 x109000_1, .int .i64 x109001_1] 30 (0, 0)) (lb BK108) hb); have n1_ := Aside0.mk (below_step bw hb); clear BK108; clear HB; have BK108 := n0_; have HB := n1_; clear n0_ n1_; (try clear hb); (try clear hb2); (try clear hk); (try clear hi)) | ((with_reducible refine gate_dst (N := 8) rfl ?_); refine box_event ?hg (N := 8) ?hd (cs := #[.int .i64 0, .int .i64 0]) (t := 30) ?hr ?_; (case hd => rfl); (case hg => rfl); (case hr => first | (go_simp; done) | (go_simp; rfl)); intro gb113 hg w28 hbox hb; have n0_ := Aside0.mk (blk_below (g := gb108) (o := .cells #[.int .i64 x109000_1, .int .i64 x109001_1] 30 (0, 0)) (lb BK108) hb); have n1_ := Aside0.mk (below_step bw hb); have n2_ := Aside0.mk (hbox); have n3_ := Aside0.mk ((by rw [hg]; exact (below_size bw) : w.heap.size ≤ gb113)); have n4_ := Aside0.mk ((by rw [hg]; exact (below_size bw) : w.heap.size ≤ gb113)); have n5_ := Aside0.mk ((by rw [hg]; exact Nat.ne_of_lt (blk_lt (g := gb108) (o := .cells #[.int .i64 x109000_1, .int .i64 x109001_1] 30 (0, 0)) (lb BK108)) : gb108 ≠ gb113)); have n6_ := Aside0.mk ((by rw [hg]; exact Nat.ne_of_gt (blk_lt (g := gb108) (o := .cells #[.int .i64 x109000_1, .int .i64 x109001_1] 30 (0, 0)) (lb BK108)) : gb113 ≠ gb108)); clear BK108; clear HB; have BK108 := n0_; have HB := n1_; have BK113 := n2_; have GW113 := n3_; have GE113 := n4_; have NB108_113 := n5_; have NB113_108 := n6_; clear n0_ n1_ n2_ n3_ n4_ n5_ n6_; clear hb hbox hg; have hnb29 := NB113_108.out; have hnc29 := NB108_113.out; have hcz30_0 : w28.cell? ⟨gb113, 0, none⟩ = some (.int .i64 0) := (blk_cell BK113.out 0).trans rfl; have hcz30_1 : w28.cell? ⟨gb113, 1, none⟩ = some (.int .i64 0) := (blk_cell BK113.out 1).trans rfl; have hfz30_0 := blk_frozen BK113.out 0; have hfz30_1 := blk_frozen BK113.out 1; have hcz31_0 : w28.cell? ⟨gb108, 0, none⟩ = some (.int .i64 x109000_1) := (blk_cell BK108.out 0).trans rfl; have hcz31_1 : w28.cell? ⟨gb108, 1, none⟩ = some (.int .i64 x109001_1) := (blk_cell BK108.out 1).trans rfl; have hfz31_0 := blk_frozen BK108.out 0; have hfz31_1 := blk_frozen BK108.out 1))
            refine bodyPost_ret (results_cell_row rfl _ _ gb108 30 #[.int .i64 t111, .int .i64 t112] (0, 0) _ rfl (by (with_reducible repeat (first | refine blk_drewN ?_ _ | refine blk_drew ?_ | refine blk_alloc ?_ _)); refine blk_put (cs := #[.int .i64 t111, .int .i64 x109001_1]) ?_ 1 _ rfl; (with_reducible repeat (first | refine blk_drewN ?_ _ | refine blk_drew ?_ | refine blk_alloc ?_ _)); refine blk_put (cs := #[.int .i64 x109000_1, .int .i64 x109001_1]) ?_ 0 _ rfl; (with_reducible repeat (first | refine blk_drewN ?_ _ | refine blk_drew ?_ | refine blk_alloc ?_ _)); refine blk_far ?_ NB108_113.out _; (with_reducible repeat (first | refine blk_drewN ?_ _ | refine blk_drew ?_ | refine blk_alloc ?_ _)); refine blk_far ?_ NB108_113.out _; (with_reducible repeat (first | refine blk_drewN ?_ _ | refine blk_drew ?_ | refine blk_alloc ?_ _)); exact BK108.out) Try.underlying30 rfl (by kernel_rfl)) rfl ?_
            exact ⟨by first | rfl | (simp [errW_none, errW_some] <;> rfl) | (simp [*, errW_none, errW_some] <;> rfl), bw⟩
          ·rw [if_neg c20] at H
           have c20b0 : ((bt a0 x5_1) == 91) = false := beq_eq_false_iff_ne.mpr c20
           have c20b1 : ((bt a0 x5_1) != 91) = true := bne_iff_ne.mpr c20
           by_cases c32 : (bt a0 x5_1) = 93
           ·rw [if_pos c32] at H
            have c32b0 : ((bt a0 x5_1) == 93) = true := beq_iff_eq.mpr c32
            have c32b1 : ((bt a0 x5_1) != 93) = false := bne_eq_false_iff_eq.mpr c32
            clear c32
            simp only [Option.some.injEq, Prod.mk.injEq] at H
            obtain ⟨rfl, rfl⟩ := H
            have p8 : 0 ≤ (x5_1 : Int) := of_decide_eq_true (by first | (with_reducible assumption) | assumption)
            have q8 : x5_1 < (a0.size : Int) := of_decide_eq_true (by first | (with_reducible assumption) | assumption)
            have hx8 := bt_at a0 x5_1
            replace p8 := eq_true p8
            replace q8 := eq_true q8
            go_wp2_with (first | ((with_reducible refine at_fn (f := 28) rfl ?_); refine goesL_ (some 45) rfl rfl Try.func28 (by kernel_rfl) rfl #[.int .u8 (bt a0 x5_1)] rfl (by (try simp only [List.map_toArray, List.map_cons, List.map_nil]); first | done | rfl | (simp only [List.length_drop, List.length_take]; rfl)) ?_; (with_reducible refine (spec_l4Op.calls (bt a0 x5_1) false _ A16.out).mono ?_); rintro e w' ⟨rfl, ⟨nd, rfl⟩⟩; refine ⟨_, rfl, ?_⟩; (try (rw [drewN_self wr]; generalize hq_ : World.drewN wr _ = wr; have n0_ : Aside0 (wr.heap[gb108]? = some (.cells #[.int .i64 x109000_1, .int .i64 x109001_1] 30 (0, 0))) := ⟨by rw [← hq_]; exact (lb BK108)⟩; have n1_ : Aside0 (Below w.heap.size w wr) := ⟨by rw [← hq_]; exact bw⟩; clear BK108 HB hq_; have BK108 := n0_; have HB := n1_; clear n0_ n1_)); have hcz33_0 : wr.cell? ⟨gb108, 0, none⟩ = some (.int .i64 x109000_1) := (blk_cell BK108.out 0).trans rfl; have hcz33_1 : wr.cell? ⟨gb108, 1, none⟩ = some (.int .i64 x109001_1) := (blk_cell BK108.out 1).trans rfl; have hfz33_0 := blk_frozen BK108.out 0; have hfz33_1 := blk_frozen BK108.out 1))
            refine bodyPost_ret (results_cell_row rfl _ _ gb108 30 #[.int .i64 2, .int .i64 x5_1] (0, 0) _ rfl (by (with_reducible repeat (first | refine blk_drewN ?_ _ | refine blk_drew ?_ | refine blk_alloc ?_ _)); refine blk_put (cs := #[.int .i64 2, .int .i64 x109001_1]) ?_ 1 _ rfl; (with_reducible repeat (first | refine blk_drewN ?_ _ | refine blk_drew ?_ | refine blk_alloc ?_ _)); refine blk_put (cs := #[.int .i64 x109000_1, .int .i64 x109001_1]) ?_ 0 _ rfl; (with_reducible repeat (first | refine blk_drewN ?_ _ | refine blk_drew ?_ | refine blk_alloc ?_ _)); exact BK108.out) Try.underlying30 rfl (by kernel_rfl)) rfl ?_
            exact ⟨by first | rfl | (simp [errW_none, errW_some] <;> rfl) | (simp [*, errW_none, errW_some] <;> rfl), bw⟩
           ·rw [if_neg c32] at H
            have c32b0 : ((bt a0 x5_1) == 93) = false := beq_eq_false_iff_ne.mpr c32
            have c32b1 : ((bt a0 x5_1) != 93) = true := bne_iff_ne.mpr c32
            by_cases c34 : (bt a0 x5_1) = 92
            ·rw [if_pos c34] at H
             have c34b0 : ((bt a0 x5_1) == 92) = true := beq_iff_eq.mpr c34
             have c34b1 : ((bt a0 x5_1) != 92) = false := bne_eq_false_iff_eq.mpr c34
             clear c34
             by_cases c35 : (wrap64 (x5_1 + 1)) = (a0.size : Int)
             ·rw [if_pos c35] at H
              have c35b0 : ((wrap64 (x5_1 + 1)) == (a0.size : Int)) = true := beq_iff_eq.mpr c35
              have c35b1 : ((wrap64 (x5_1 + 1)) != (a0.size : Int)) = false := bne_eq_false_iff_eq.mpr c35
              clear c35
              simp only [Option.some.injEq, Prod.mk.injEq] at H
              obtain ⟨rfl, rfl⟩ := H
              have p8 : 0 ≤ (x5_1 : Int) := of_decide_eq_true (by first | (with_reducible assumption) | assumption)
              have q8 : x5_1 < (a0.size : Int) := of_decide_eq_true (by first | (with_reducible assumption) | assumption)
              have hx8 := bt_at a0 x5_1
              replace p8 := eq_true p8
              replace q8 := eq_true q8
              go_wp2_with (first | ((with_reducible refine at_fn (f := 28) rfl ?_); refine goesL_ (some 45) rfl rfl Try.func28 (by kernel_rfl) rfl #[.int .u8 (bt a0 x5_1)] rfl (by (try simp only [List.map_toArray, List.map_cons, List.map_nil]); first | done | rfl | (simp only [List.length_drop, List.length_take]; rfl)) ?_; (with_reducible refine (spec_l4Op.calls (bt a0 x5_1) false _ A16.out).mono ?_); rintro e w' ⟨rfl, ⟨nd, rfl⟩⟩; refine ⟨_, rfl, ?_⟩; (try (rw [drewN_self wr]; generalize hq_ : World.drewN wr _ = wr; have n0_ : Aside0 (wr.heap[gb108]? = some (.cells #[.int .i64 x109000_1, .int .i64 x109001_1] 30 (0, 0))) := ⟨by rw [← hq_]; exact (lb BK108)⟩; have n1_ : Aside0 (Below w.heap.size w wr) := ⟨by rw [← hq_]; exact bw⟩; clear BK108 HB hq_; have BK108 := n0_; have HB := n1_; clear n0_ n1_)); have hcz36_0 : wr.cell? ⟨gb108, 0, none⟩ = some (.int .i64 x109000_1) := (blk_cell BK108.out 0).trans rfl; have hcz36_1 : wr.cell? ⟨gb108, 1, none⟩ = some (.int .i64 x109001_1) := (blk_cell BK108.out 1).trans rfl; have hfz36_0 := blk_frozen BK108.out 0; have hfz36_1 := blk_frozen BK108.out 1))
              refine bodyPost_ret (results_cell_row rfl _ _ gb108 30 #[.int .i64 2, .int .i64 (a0.size : Int)] (0, 0) _ rfl (by (with_reducible repeat (first | refine blk_drewN ?_ _ | refine blk_drew ?_ | refine blk_alloc ?_ _)); refine blk_put (cs := #[.int .i64 2, .int .i64 x109001_1]) ?_ 1 _ rfl; (with_reducible repeat (first | refine blk_drewN ?_ _ | refine blk_drew ?_ | refine blk_alloc ?_ _)); refine blk_put (cs := #[.int .i64 x109000_1, .int .i64 x109001_1]) ?_ 0 _ rfl; (with_reducible repeat (first | refine blk_drewN ?_ _ | refine blk_drew ?_ | refine blk_alloc ?_ _)); exact BK108.out) Try.underlying30 rfl (by kernel_rfl)) rfl ?_
              exact ⟨by first | rfl | (simp [errW_none, errW_some] <;> rfl) | (simp [*, errW_none, errW_some] <;> rfl), bw⟩
             ·rw [if_neg c35] at H
              have c35b0 : ((wrap64 (x5_1 + 1)) == (a0.size : Int)) = false := beq_eq_false_iff_ne.mpr c35
              have c35b1 : ((wrap64 (x5_1 + 1)) != (a0.size : Int)) = true := bne_iff_ne.mpr c35
              have H' := Aside0.mk H
              clear H
              have p8 : 0 ≤ (x5_1 : Int) := of_decide_eq_true (by first | (with_reducible assumption) | assumption)
              have q8 : x5_1 < (a0.size : Int) := of_decide_eq_true (by first | (with_reducible assumption) | assumption)
              have hx8 := bt_at a0 x5_1
              replace p8 := eq_true p8
              replace q8 := eq_true q8
              go_wp2_with (first | ((with_reducible refine at_fn (f := 28) rfl ?_); refine goesL_ (some 45) rfl rfl Try.func28 (by kernel_rfl) rfl #[.int .u8 (bt a0 x5_1)] rfl (by (try simp only [List.map_toArray, List.map_cons, List.map_nil]); first | done | rfl | (simp only [List.length_drop, List.length_take]; rfl)) ?_; (with_reducible refine (spec_l4Op.calls (bt a0 x5_1) false _ A16.out).mono ?_); rintro e w' ⟨rfl, ⟨nd, rfl⟩⟩; refine ⟨_, rfl, ?_⟩))
              go_roundg k1
              case measure => have := HK1.out; omega
              case rel => exact ⟨(x3_1), (true), (wrap64 (x5_1 + 2)), (x109000_1), (x109001_1), (by first | rfl | (simp; done) | (simp [*]; done)), (by first | rfl | (simp; done) | (simp [*]; done)), (by first | rfl | (simp; done) | (simp [*]; done)), H', ⟨by have := HK1.out; omega⟩, ⟨lb BK108⟩, ⟨bw⟩⟩
            ·rw [if_neg c34] at H
             have c34b0 : ((bt a0 x5_1) == 92) = false := beq_eq_false_iff_ne.mpr c34
             have c34b1 : ((bt a0 x5_1) != 92) = true := bne_iff_ne.mpr c34
             have H' := Aside0.mk H
             clear H
             have p8 : 0 ≤ (x5_1 : Int) := of_decide_eq_true (by first | (with_reducible assumption) | assumption)
             have q8 : x5_1 < (a0.size : Int) := of_decide_eq_true (by first | (with_reducible assumption) | assumption)
             have hx8 := bt_at a0 x5_1
             replace p8 := eq_true p8
             replace q8 := eq_true q8
             go_wp2_with (first | ((with_reducible refine at_fn (f := 28) rfl ?_); refine goesL_ (some 45) rfl rfl Try.func28 (by kernel_rfl) rfl #[.int .u8 (bt a0 x5_1)] rfl (by (try simp only [List.map_toArray, List.map_cons, List.map_nil]); first | done | rfl | (simp only [List.length_drop, List.length_take]; rfl)) ?_; (with_reducible refine (spec_l4Op.calls (bt a0 x5_1) false _ A16.out).mono ?_); rintro e w' ⟨rfl, ⟨nd, rfl⟩⟩; refine ⟨_, rfl, ?_⟩))
             go_roundg k1
             case measure => have := HK1.out; omega
             case rel => exact ⟨(x3_1), (true), (wrap64 (x5_1 + 1)), (x109000_1), (x109001_1), (by first | rfl | (simp; done) | (simp [*]; done)), (by first | rfl | (simp; done) | (simp [*]; done)), (by first | rfl | (simp; done) | (simp [*]; done)), H', ⟨by have := HK1.out; omega⟩, ⟨lb BK108⟩, ⟨bw⟩⟩
     ·rw [if_neg c7] at H
      exact absurd H (by simp)
    ·rw [if_neg c6] at H
     have c6b0 : decide (x5_1 < (a0.size : Int)) = false := decide_eq_false c6
     clear c6
     by_cases c37 : x3_1 > 0
     ·rw [if_pos c37] at H
      have c37b0 : decide (0 < x3_1) = true := decide_eq_true c37
      clear c37
      simp only [Option.some.injEq, Prod.mk.injEq] at H
      obtain ⟨rfl, rfl⟩ := H
      have hcz38_0 : wr.cell? ⟨gb108, 0, none⟩ = some (.int .i64 x109000_1) := (blk_cell BK108.out 0).trans rfl
      have hcz38_1 : wr.cell? ⟨gb108, 1, none⟩ = some (.int .i64 x109001_1) := (blk_cell BK108.out 1).trans rfl
      have hfz38_0 := blk_frozen BK108.out 0
      have hfz38_1 := blk_frozen BK108.out 1
      go_wp2
      refine bodyPost_ret (results_cell_row rfl _ _ gb108 30 #[.int .i64 2, .int .i64 (a0.size : Int)] (0, 0) _ rfl (by (with_reducible repeat (first | refine blk_drewN ?_ _ | refine blk_drew ?_ | refine blk_alloc ?_ _)); refine blk_put (cs := #[.int .i64 2, .int .i64 x109001_1]) ?_ 1 _ rfl; (with_reducible repeat (first | refine blk_drewN ?_ _ | refine blk_drew ?_ | refine blk_alloc ?_ _)); refine blk_put (cs := #[.int .i64 x109000_1, .int .i64 x109001_1]) ?_ 0 _ rfl; (with_reducible repeat (first | refine blk_drewN ?_ _ | refine blk_drew ?_ | refine blk_alloc ?_ _)); exact BK108.out) Try.underlying30 rfl (by kernel_rfl)) rfl ?_
      exact ⟨by first | rfl | (simp [errW_none, errW_some] <;> rfl) | (simp [*, errW_none, errW_some] <;> rfl), bw⟩
     ·rw [if_neg c37] at H
      have c37b0 : decide (0 < x3_1) = false := decide_eq_false c37
      clear c37
      simp only [Option.some.injEq, Prod.mk.injEq] at H
      obtain ⟨rfl, rfl⟩ := H
      have hcz39_0 : wr.cell? ⟨gb108, 0, none⟩ = some (.int .i64 x109000_1) := (blk_cell BK108.out 0).trans rfl
      have hcz39_1 : wr.cell? ⟨gb108, 1, none⟩ = some (.int .i64 x109001_1) := (blk_cell BK108.out 1).trans rfl
      have hfz39_0 := blk_frozen BK108.out 0
      have hfz39_1 := blk_frozen BK108.out 1
      go_wp2
      refine bodyPost_ret (results_cell_row rfl _ _ gb108 30 #[.int .i64 0, .int .i64 0] (0, 0) _ rfl (by (with_reducible repeat (first | refine blk_drewN ?_ _ | refine blk_drew ?_ | refine blk_alloc ?_ _)); refine blk_put (cs := #[.int .i64 0, .int .i64 x109001_1]) ?_ 1 _ rfl; (with_reducible repeat (first | refine blk_drewN ?_ _ | refine blk_drew ?_ | refine blk_alloc ?_ _)); refine blk_put (cs := #[.int .i64 x109000_1, .int .i64 x109001_1]) ?_ 0 _ rfl; (with_reducible repeat (first | refine blk_drewN ?_ _ | refine blk_drew ?_ | refine blk_alloc ?_ _)); exact BK108.out) Try.underlying30 rfl (by kernel_rfl)) rfl ?_
      exact ⟨by first | rfl | (simp [errW_none, errW_some] <;> rfl) | (simp [*, errW_none, errW_some] <;> rfl), bw⟩

end Go.Proofs.Ytcdpmmpdfdillaa.Q

namespace Go.Proofs.Ytcdpmmpdfdillaa.Q
open Go.RowKit Go.Proofs.YtcdpmmpdfdillaaW.PrintWords Go.Proofs.YtcdpmmpdfdillaaW.PrintLast
set_option linter.unusedVariables false
set_option linter.unusedSimpArgs false
set_option linter.unusedSectionVars false
theorem Ev.obind {α β : Type} {x : Nat → Option (Except (Int × Int) α)} {f : Nat → α → Option (Except (Int × Int) β)} {a : α} {r : Except (Int × Int) β} (h : Ev x (.ok a)) (k : Ev (fun n => f n a) r) : Ev (fun n => Q.obind (x n) (f n)) r := by
  obtain ⟨K, h⟩ := h
  obtain ⟨K', k⟩ := k
  refine ⟨max K K', fun n hn => ?_⟩
  simp only []
  rw [h n (by omega)]
  exact k n (by omega)
theorem Ev.obind_err {α β : Type} {x : Nat → Option (Except (Int × Int) α)} {f : Nat → α → Option (Except (Int × Int) β)} {e : Int × Int} (h : Ev x (.error e)) : Ev (fun n => Q.obind (x n) (f n)) (.error e) := by
  obtain ⟨K, h⟩ := h
  refine ⟨K, fun n hn => ?_⟩
  simp only []
  rw [h n hn]
  rfl
section
variable {p : ByteArray} (hp : p.size ≤ 200)
include hp
theorem wr1 {i : Int} (h0 : 0 ≤ i) (h1 : i ≤ p.size) : wrap64 (i + 1) = i + 1 := wrap_id _ (by omega) (by omega)
theorem wr2 {i : Int} (h0 : 0 ≤ i) (h1 : i ≤ p.size) : wrap64 (i + 2) = i + 2 := wrap_id _ (by omega) (by omega)
/-- One ch: what the reference says. -/
def chS : Except (Int × Int) (Int × Int) → Int × Int × Bool
  | .ok (c, j) => (c, j, true)
  | .error (_, a) => (0, a, false)
theorem ch_code {i c a : Int} (h : chF p i = .error (c, a)) : c = 2 := by
  unfold chF at h
  split at h
  · split at h
    · cases h; rfl
    · cases h
  · split at h
    · cases h; rfl
    · cases h
theorem ch_spec {i : Int} (h0 : 0 ≤ i) (h1 : i ≤ p.size) : Ev (fun k => spec_l4Ch.f k p i) (chS (chF p i)) := by
  have hw1 := wr1 hp h0 h1
  have hw2 := wr2 hp h0 h1
  refine ⟨1, fun k hk => ?_⟩
  obtain ⟨k, rfl⟩ : ∃ m, k = m + 1 := ⟨k - 1, by omega⟩
  show spec_l4Ch.f (k + 1) p i = some (chS (chF p i))
  unfold spec_l4Ch.f chF
  by_cases e0 : i = p.size
  · rw [if_pos (by omega), if_neg (by omega), if_pos (.inl e0)]
    simp [spec_l4Ch.j0, chS]
  · rw [if_neg (by omega), if_pos h0, if_pos (by omega)]
    by_cases e93 : bt p i = 93
    · rw [if_pos e93, if_neg (by omega), if_pos (.inr (.inl e93))]
      simp [spec_l4Ch.j0, chS]
    · rw [if_neg e93]
      by_cases e45 : bt p i = 45
      · rw [if_neg (by omega), if_pos (.inr (.inr e45)), e45]
        simp [spec_l4Ch.j0, chS]
      · have hb : (bt p i == 45) = false := beq_eq_false_iff_ne.mpr e45
        rw [hb]
        simp only [spec_l4Ch.j0, Bool.false_eq_true, if_false]
        rw [hw1, hw2]
        have hlt : i < (p.size : Int) := by omega
        by_cases e92 : bt p i = 92
        · by_cases e1 : i + 1 = p.size
          · simp only [h0, hlt, e92, e1, if_true, and_self, ge_iff_le, Int.le_refl]; rfl
          · have e2 : ¬ (p.size : Int) ≤ i + 1 := by omega
            have e3 : 0 ≤ i + 1 := by omega
            have e4 : i + 1 < (p.size : Int) := by omega
            simp only [h0, hlt, e92, e1, e2, e3, e4, if_true, if_false, and_self, ge_iff_le]; rfl
        · have e5 : ¬ (i = p.size ∨ bt p i = 93 ∨ bt p i = 45) := by omega
          simp only [h0, hlt, e92, e5, if_true, if_false, and_false]; rfl
def clS : Except (Int × Int) (List Bool × Int) → Int × Int × Int
  | .ok (_, j) => (j + 1, 0, 0)
  | .error (c, a) => (0, c, a)
theorem cls_spec : ∀ (d : Nat) (i n : Int) (s : List Bool), 0 ≤ i → i ≤ p.size → (p.size : Int) - i = d → 0 ≤ n → n ≤ i →
    ∃ q, Ev (fun k => clsF k p i (decide (n = 0)) s) q ∧ Ev (fun k => spec_l4Class.l0 k p i n) (clS q) ∧ (∀ c a, q = .error (c, a) → c ≠ 0) := by
  intro d
  induction d using Nat.strongRecOn with
  | _ d ih =>
  intro i n s h0 h1 hd n0 n1
  have hcs := ch_spec hp h0 h1
  by_cases ee : i = p.size
  · have hch : chF p i = .error (2, i) := by unfold chF; rw [if_neg (by omega), if_pos (.inl ee)]
    refine ⟨.error (2, i), ⟨1, fun k hk => ?_⟩, ⟨1, fun k hk => ?_⟩, fun c a h => by cases h; decide⟩
    · obtain ⟨k, rfl⟩ : ∃ m, k = m + 1 := ⟨k - 1, by omega⟩
      show clsF (k + 1) p i _ s = _
      simp only [clsF]
      rw [if_pos (.inr (.inl ee)), hch]
    · obtain ⟨k, rfl⟩ : ∃ m, k = m + 1 := ⟨k - 1, by omega⟩
      show spec_l4Class.l0 (k + 1) p i n = _
      simp only [spec_l4Class.l0]
      rw [if_neg (by omega), ee]; rfl
  have hlt : i < p.size := by omega
  have hw1 := wr1 hp h0 h1
  by_cases ec : n = 0 ∨ bt p i ≠ 93
  · -- an item
    have hl0 : ∀ k, spec_l4Class.l0 (k + 1) p i n = spec_l4Class.j3 k p i n false := by
      intro k
      simp only [spec_l4Class.l0]
      rw [if_pos hlt, if_pos h0]
      by_cases e93 : bt p i = 93
      · rw [if_pos e93]
        have : n = 0 := by rcases ec with h | h
                           · exact h
                           · exact absurd e93 h
        rw [this]; rfl
      · rw [if_neg e93]
    have hcl : ∀ k, clsF (k + 1) p i (decide (n = 0)) s = (match chF p i with
      | .error x => some (.error x)
      | .ok (lo, j) =>
        if j < p.size ∧ bt p j = 45 then
          match chF p (j + 1) with
          | .error x => some (.error x)
          | .ok (hi, m) => if lo > hi then some (.error (4, i)) else clsF k p m false (setR s lo hi)
        else clsF k p j false (setR s lo lo)) := by
      intro k
      simp only [clsF]
      rw [if_pos (by rcases ec with h | h
                     · exact .inl (by simp [h])
                     · exact .inr (.inr h))]
      try rfl
    cases hch : chF p i with
    | error x =>
      obtain ⟨c, a⟩ := x
      have hc2 := ch_code hp hch
      subst hc2
      rw [hch] at hcs
      refine ⟨.error (2, a), Ev.step (fun k => by rw [hcl, hch]) (Ev.now _), Ev.step hl0 (Ev.step (fun k => by simp only [spec_l4Class.j3]; rw [if_neg Bool.false_ne_true]) (Ev.bind hcs ?_)), fun c a h => by cases h; decide⟩
      exact Ev.if_neg (by simp [chS]) (Ev.now _)
    | ok x =>
      obtain ⟨lo, j⟩ := x
      obtain ⟨l0, l1, l2, l3⟩ := chF_ok hch h0 h1
      rw [hch] at hcs
      have hw : wrap64 (n + 1) = n + 1 := wrap_id _ (by omega) (by omega)
      have hdn : decide (n + 1 = 0) = false := decide_eq_false (by omega)
      by_cases ed : j < p.size ∧ bt p j = 45
      · have hcs2 := ch_spec hp (i := j + 1) (by omega) (by omega)
        have hwj : wrap64 (j + 1) = j + 1 := wr1 hp (by omega) l3
        cases hch2 : chF p (j + 1) with
        | error x =>
          obtain ⟨c, a⟩ := x
          have hc2 := ch_code hp hch2
          subst hc2
          rw [hch2] at hcs2
          refine ⟨.error (2, a), Ev.step (fun k => by rw [hcl, hch]; simp only []; rw [if_pos ed, hch2]) (Ev.now _), Ev.step hl0 (Ev.step (fun k => by simp only [spec_l4Class.j3]; rw [if_neg Bool.false_ne_true]) (Ev.bind hcs ?_)), fun c a h => by cases h; decide⟩
          simp only [chS, if_true]
          refine Ev.if_pos ed.1 (Ev.if_pos (show 0 ≤ j by omega) ?_)
          rw [ed.2]
          refine Ev.step (fun k => by simp only [spec_l4Class.j4]; rw [if_pos (show ((45 : Int) == 45) = true by decide), hwj]) (Ev.bind hcs2 ?_)
          exact Ev.if_neg (by simp [chS]) (Ev.now _)
        | ok x =>
          obtain ⟨hi, m⟩ := x
          obtain ⟨q0, q1, q2, q3⟩ := chF_ok hch2 (by omega) (by omega)
          rw [hch2] at hcs2
          by_cases elh : lo > hi
          · refine ⟨.error (4, i), Ev.step (fun k => by rw [hcl, hch]; simp only []; rw [if_pos ed, hch2]; simp only []; rw [if_pos elh]) (Ev.now _), Ev.step hl0 (Ev.step (fun k => by simp only [spec_l4Class.j3]; rw [if_neg Bool.false_ne_true]) (Ev.bind hcs ?_)), fun c a h => by cases h; decide⟩
            simp only [chS, if_true]
            refine Ev.if_pos ed.1 (Ev.if_pos (show 0 ≤ j by omega) ?_)
            rw [ed.2]
            refine Ev.step (fun k => by simp only [spec_l4Class.j4]; rw [if_pos (show ((45 : Int) == 45) = true by decide), hwj]) (Ev.bind hcs2 ?_)
            simp only [chS, if_true]
            exact Ev.if_pos elh (Ev.now _)
          · obtain ⟨q, hq1, hq2, hq3⟩ := ih ((p.size : Int) - m).toNat (by omega) m (n + 1) (setR s lo hi) (by omega) q3 (by omega) (by omega) (by omega)
            rw [hdn] at hq1
            refine ⟨q, Ev.step (fun k => by rw [hcl, hch]; simp only []; rw [if_pos ed, hch2]; simp only []; rw [if_neg elh]) hq1, Ev.step hl0 (Ev.step (fun k => by simp only [spec_l4Class.j3]; rw [if_neg Bool.false_ne_true]) (Ev.bind hcs ?_)), hq3⟩
            simp only [chS, if_true]
            refine Ev.if_pos ed.1 (Ev.if_pos (show 0 ≤ j by omega) ?_)
            rw [ed.2]
            refine Ev.step (fun k => by simp only [spec_l4Class.j4]; rw [if_pos (show ((45 : Int) == 45) = true by decide), hwj]) (Ev.bind hcs2 ?_)
            simp only [chS, if_true]
            refine Ev.if_neg elh ?_
            rw [hw]; exact hq2
      · obtain ⟨q, hq1, hq2, hq3⟩ := ih ((p.size : Int) - j).toNat (by omega) j (n + 1) (setR s lo lo) (by omega) l3 (by omega) (by omega) (by omega)
        rw [hdn] at hq1
        refine ⟨q, Ev.step (fun k => by rw [hcl, hch]; simp only []; rw [if_neg ed]) hq1, Ev.step hl0 (Ev.step (fun k => by simp only [spec_l4Class.j3]; rw [if_neg Bool.false_ne_true]) (Ev.bind hcs ?_)), hq3⟩
        simp only [chS, if_true]
        by_cases ej : j < p.size
        · have hb : (bt p j == 45) = false := beq_eq_false_iff_ne.mpr (fun h => ed ⟨ej, h⟩)
          refine Ev.if_pos ej (Ev.if_pos (show 0 ≤ j by omega) ?_)
          rw [hb]
          refine Ev.step (fun k => by simp only [spec_l4Class.j4]; rw [if_neg Bool.false_ne_true, hw]) hq2
        · refine Ev.if_neg ej ?_
          refine Ev.step (fun k => by simp only [spec_l4Class.j4]; rw [if_neg Bool.false_ne_true, hw]) hq2
  · have hn : ¬ n = 0 := fun h => ec (.inl h)
    have h93 : bt p i = 93 := Classical.not_not.mp fun h => ec (.inr h)
    refine ⟨.ok (s, i), Ev.step (f := fun _ => some (.ok (s, i))) (fun k => ?_) (Ev.now _), Ev.step (f := fun k => spec_l4Class.j3 k p i n true) (fun k => ?_) (Ev.step (f := fun _ => some (i + 1, 0, 0)) (fun k => ?_) (Ev.now _)), fun c a h => by cases h⟩
    · simp only [clsF]
      rw [if_neg (by simp [hn, ee, h93])]
    · simp only [spec_l4Class.l0]
      rw [if_pos hlt, if_pos h0, if_pos h93, decide_eq_true (by omega)]
    · simp only [spec_l4Class.j3, if_true, hw1]
theorem class_spec {i : Int} (h0 : 0 ≤ i) (h1 : i < p.size) : ∃ q, Ev (fun k => claF k p (i + 1)) q ∧ ((∃ s j, q = .ok (s, j) ∧ Ev (fun k => spec_l4Class.f k p i) (j, 0, 0)) ∨ (∃ c a, q = .error (c, a) ∧ c ≠ 0 ∧ Ev (fun k => spec_l4Class.f k p i) (0, c, a))) := by
  have hw1 := wr1 hp h0 (Int.le_of_lt h1)
  have hn : 0 ≤ notI p (i + 1) ∧ notI p (i + 1) ≤ p.size := by
    unfold notI; split
    · rename_i hh; unfold notQ at hh; simp at hh; omega
    · omega
  obtain ⟨q, hq1, hq2, hq3⟩ := cls_spec hp ((p.size : Int) - notI p (i + 1)).toNat (notI p (i + 1)) 0 noB hn.1 hn.2 (by omega) (Int.le_refl _) hn.1
  have hs : Ev (fun k => spec_l4Class.f k p i) (clS q) := by
    unfold spec_l4Class.f
    rw [hw1]
    by_cases e : i + 1 < p.size
    · refine Ev.if_pos e (Ev.if_pos (show 0 ≤ i + 1 by omega) ?_)
      have hnq : notQ p (i + 1) = (bt p (i + 1) == 94) := by unfold notQ; rw [decide_eq_true e]; rfl
      have hw2 := wr1 hp (i := i + 1) (by omega) (by omega)
      refine Ev.step (f := fun k => spec_l4Class.j1 k p (notI p (i + 1))) (fun k => ?_) (Ev.step (fun k => by simp only [spec_l4Class.j1]) hq2)
      simp only [spec_l4Class.j0]
      unfold notI
      rw [hnq, hw2]
      split <;> rfl
    · refine Ev.if_neg e ?_
      have hnq : notQ p (i + 1) = false := by unfold notQ; rw [decide_eq_false e]; rfl
      refine Ev.step (f := fun k => spec_l4Class.j1 k p (notI p (i + 1))) (fun k => ?_) (Ev.step (fun k => by simp only [spec_l4Class.j1]) hq2)
      simp only [spec_l4Class.j0]
      unfold notI
      rw [hnq]
      rfl
  have hc : Ev (fun k => claF k p (i + 1)) (q.map fun x => (if notQ p (i + 1) then x.1.map (!·) else x.1, x.2 + 1)) := by
    obtain ⟨K, hK⟩ := hq1
    refine ⟨K, fun k hk => ?_⟩
    have := hK k hk
    simp only [decide_true] at this
    show (clsF k p (notI p (i + 1)) true noB).map _ = _
    rw [this]; rfl
  refine ⟨_, hc, ?_⟩
  rcases q with ⟨c, a⟩ | ⟨s, j⟩
  · exact .inr ⟨c, a, rfl, hq3 c a rfl, hs⟩
  · exact .inl ⟨_, _, rfl, hs⟩
theorem l4Op_is (c : Int) : spec_l4Op.f c = some (isOp c) := by
  unfold spec_l4Op.f isOp
  by_cases h1 : c = 42
  · simp [h1]
  · by_cases h2 : c = 43
    · simp [h2]
    · simp [h1, h2, beq_eq_false_iff_ne.mpr h1, beq_eq_false_iff_ne.mpr h2]
/-- The reference comes to r from this state. -/
def SL (p : ByteArray) (o : Int) (at_ : Bool) (i : Int) (r : Int × Int) : Prop := Ev (fun k => spec_CheckRegex.l0 k p o at_ i) r
theorem sl_s (k : Nat) (o : Int) (at_ : Bool) (i : Int) (h0 : 0 ≤ i) (h1 : i < p.size) (ho : 0 ≤ o) (ho2 : o ≤ 20) : spec_CheckRegex.l0 (k + 1) p o at_ i =
    (if bt p i = 40 then (if o = 20 then some (3, i) else spec_CheckRegex.l0 k p (o + 1) false (i + 1))
    else if bt p i = 41 then (if o = 0 then some (2, i) else spec_CheckRegex.l0 k p (o - 1) true (i + 1))
    else if bt p i = 124 then spec_CheckRegex.l0 k p o false (i + 1)
    else if isOp (bt p i) = true then (if at_ = true then spec_CheckRegex.l0 k p o at_ (i + 1) else some (2, i))
    else if bt p i = 91 then ((spec_l4Class.f k p i).bind fun b => if b.2.1 = 0 then spec_CheckRegex.l0 k p o true b.1 else some (b.2.1, b.2.2))
    else if bt p i = 93 then some (2, i)
    else if bt p i = 92 then (if i + 1 = p.size then some (2, (p.size : Int)) else spec_CheckRegex.l0 k p o true (i + 2))
    else spec_CheckRegex.l0 k p o true (i + 1)) := by
  have hw1 := wr1 hp h0 (Int.le_of_lt h1)
  have hw2 := wr2 hp h0 (Int.le_of_lt h1)
  have hw3 : wrap64 (o + 1) = o + 1 := wrap_id _ (by omega) (by omega)
  have hw4 : wrap64 (o - 1) = o - 1 := wrap_id _ (by omega) (by omega)
  rw [spec_CheckRegex.l0, if_pos h1, if_pos h0, hw1, hw2, hw3, hw4, l4Op_is hp]
  rfl
theorem sl_end (o : Int) (at_ : Bool) (ho : 0 ≤ o) : SL p o at_ p.size (if o > 0 then (2, (p.size : Int)) else (0, 0)) := by
  refine Ev.step (f := fun _ => some (if o > 0 then (2, (p.size : Int)) else (0, 0))) (fun k => ?_) (Ev.now _)
  rw [spec_CheckRegex.l0, if_neg (by omega)]
  split <;> rfl
/-- Operators behind an atom. -/
theorem ops_spec : ∀ (d : Nat) (j : Int) (x : Rx) (o : Int), 0 ≤ o → o ≤ 20 → 0 ≤ j → j ≤ p.size → (p.size : Int) - j = d →
    ∃ x' j', Ev (fun k => opsF k p j x) (x', j') ∧ j ≤ j' ∧ j' ≤ p.size ∧ (j' < p.size → isOp (bt p j') = false) ∧ ∀ r, SL p o true j' r → SL p o true j r := by
  intro d
  induction d with
  | zero =>
    intro j x o o0 o1 h0 h1 hd
    refine ⟨x, j, Ev.step (f := fun _ => some (x, j)) (fun k => ?_) (Ev.now _), Int.le_refl _, h1, fun h => by omega, fun r h => h⟩
    simp only [opsF]
    rw [if_neg (by omega)]
  | succ d ih =>
    intro j x o o0 o1 h0 h1 hd
    have hlt : j < p.size := by omega
    by_cases hop : isOp (bt p j) = true
    · obtain ⟨x', j', he, a, b, c, hs⟩ := ih (j + 1) (.rep x (bt p j)) o o0 o1 (by omega) (by omega) (by omega)
      refine ⟨x', j', Ev.step (fun k => by simp only [opsF]; rw [if_pos ⟨hlt, hop⟩]) he, by omega, b, c, fun r h => Ev.step (fun k => ?_) (hs r h)⟩
      have hn : bt p j ≠ 40 ∧ bt p j ≠ 41 ∧ bt p j ≠ 124 := by
        refine ⟨fun e => ?_, fun e => ?_, fun e => ?_⟩ <;> (rw [e] at hop; revert hop; decide)
      rw [sl_s hp k o true j h0 hlt o0 o1, if_neg hn.1, if_neg hn.2.1, if_neg hn.2.2, if_pos hop, if_pos rfl]
    · refine ⟨x, j, Ev.step (f := fun _ => some (x, j)) (fun k => ?_) (Ev.now _), Int.le_refl _, h1, fun _ => by simpa using hop, fun r h => h⟩
      simp only [opsF]
      rw [if_neg (fun h => hop h.2)]
def AtomS (p : ByteArray) (i o : Int) (at_ : Bool) : Prop :=
  (∃ c a, Ev (fun k => atomF k p i o) (.error (c, a)) ∧ SL p o at_ i (c, a)) ∨
  (∃ x j, Ev (fun k => atomF k p i o) (.ok (x, j)) ∧ i < j ∧ j ≤ p.size ∧ ∀ r, SL p o true j r → SL p o at_ i r)
def SeqS (p : ByteArray) (i o : Int) (at_ : Bool) : Prop :=
  (∃ c a, (∀ acc, Ev (fun k => seqL k p i o acc) (.error (c, a))) ∧ SL p o at_ i (c, a)) ∨
  (∃ xs j, (∀ acc, Ev (fun k => seqL k p i o acc) (.ok (.seq (acc ++ xs), j))) ∧ i ≤ j ∧ j ≤ p.size ∧ (j < p.size → bt p j = 124 ∨ bt p j = 41) ∧ ∀ r, (∀ b, SL p o b j r) → SL p o at_ i r)
def AltS (p : ByteArray) (i o : Int) : Prop :=
  (∃ c a, (∀ acc, Ev (fun k => altL k p i o acc) (.error (c, a))) ∧ SL p o false i (c, a)) ∨
  (∃ xs j, (∀ acc, Ev (fun k => altL k p i o acc) (.ok (.alt (acc ++ xs), j))) ∧ i ≤ j ∧ j ≤ p.size ∧ (j < p.size → bt p j = 41) ∧ ∀ r, (∀ b, SL p o b j r) → SL p o false i r)
theorem atom_spec (i o : Int) (at_ : Bool) (h0 : 0 ≤ i) (h1 : i < p.size) (o0 : 0 ≤ o) (o1 : o ≤ 20) (hat : at_ = true → isOp (bt p i) = false) (n124 : bt p i ≠ 124) (n41 : bt p i ≠ 41)
    (IH : o < 20 → AltS p (i + 1) (o + 1)) : AtomS p i o at_ := by
  have hsl := fun k b => sl_s hp k o b i h0 h1 o0 o1
  by_cases n40 : bt p i = 40
  · by_cases e20 : o = 20
    · refine .inl ⟨3, i, Ev.step (f := fun _ => some (.error (3, i))) (fun k => by rw [atomF_s, if_pos n40, if_pos e20]) (Ev.now _), Ev.step (f := fun _ => some (3, i)) (fun k => by rw [hsl, if_pos n40, if_pos e20]) (Ev.now _)⟩
    · have ho : o < 20 := by omega
      rcases IH ho with ⟨c, a, ha, hs⟩ | ⟨xs, j, ha, a, b, hj, hs⟩
      · refine .inl ⟨c, a, Ev.step (fun k => by rw [atomF_s, if_pos n40, if_neg e20]) (Ev.obind_err (ha [])), Ev.step (fun k => by rw [hsl, if_pos n40, if_neg e20]) hs⟩
      · by_cases ej : j = p.size
        · refine .inl ⟨2, j, Ev.step (fun k => by rw [atomF_s, if_pos n40, if_neg e20]) (Ev.obind (ha []) (Ev.if_pos ej (Ev.now _))), Ev.step (fun k => by rw [hsl, if_pos n40, if_neg e20]) (hs _ fun b => ?_)⟩
          have := sl_end hp (o + 1) b (by omega)
          rw [if_pos (by omega)] at this
          rw [ej]; exact this
        · have hlt : j < p.size := by omega
          refine .inr ⟨_, j + 1, Ev.step (fun k => by rw [atomF_s, if_pos n40, if_neg e20]) (Ev.obind (ha []) (Ev.if_neg ej (Ev.now _))), by omega, by omega, fun r h => Ev.step (fun k => by rw [hsl, if_pos n40, if_neg e20]) (hs _ fun b => ?_)⟩
          have h41 := hj hlt
          refine Ev.step (fun k => ?_) h
          rw [sl_s hp k (o + 1) b j (by omega) hlt (by omega) (by omega), if_neg (by omega), if_pos h41, if_neg (by omega), show o + 1 - 1 = o by omega]
  · by_cases n91 : bt p i = 91
    · have hop : ¬ isOp (bt p i) = true := by rw [n91]; decide
      obtain ⟨q, hq, h⟩ := class_spec hp h0 h1
      have hA : ∀ k, atomF (k + 1) p i o = obind (claF k p (i + 1)) fun x => some (.ok (.one x.1 0 false, x.2)) := fun k => by rw [atomF_s, if_neg n40, if_pos n91]
      have hS : ∀ k, spec_CheckRegex.l0 (k + 1) p o at_ i = ((spec_l4Class.f k p i).bind fun b => if b.2.1 = 0 then spec_CheckRegex.l0 k p o true b.1 else some (b.2.1, b.2.2)) := fun k => by rw [hsl, if_neg n40, if_neg n41, if_neg n124, if_neg hop, if_pos n91]
      rcases h with ⟨s, j, rfl, hs⟩ | ⟨c, a, rfl, hc, hs⟩
      · obtain ⟨K, hK⟩ := hq
        obtain ⟨a, b, -⟩ := claF_ok (hK K (Nat.le_refl _)) (by omega) (by omega)
        have a' : i + 1 < j := a
        refine .inr ⟨_, j, Ev.step hA (Ev.obind ⟨K, hK⟩ (Ev.now _)), by omega, b, fun r h => Ev.step hS (Ev.bind hs (Ev.if_pos rfl h))⟩
      · refine .inl ⟨c, a, Ev.step hA (Ev.obind_err hq), Ev.step hS (Ev.bind hs (Ev.if_neg hc (Ev.now _)))⟩
    · by_cases n46 : bt p i = 46
      · have hop : ¬ isOp (bt p i) = true := by rw [n46]; decide
        refine .inr ⟨_, i + 1, Ev.step (fun k => by rw [atomF_s, if_neg n40, if_neg n91, if_pos n46]) (Ev.now _), by omega, by omega, fun r h => Ev.step (fun k => ?_) h⟩
        rw [hsl, if_neg n40, if_neg n41, if_neg n124, if_neg hop, if_neg n91, if_neg (by omega), if_neg (by omega)]
      · by_cases hop : isOp (bt p i) = true
        · have hb : at_ = false := by
            cases at_
            · rfl
            · have := hat rfl; rw [hop] at this; cases this
          subst hb
          refine .inl ⟨2, i, Ev.step (fun k => by rw [atomF_s, if_neg n40, if_neg n91, if_neg n46, if_pos (.inl hop)]) (Ev.now _), Ev.step (fun k => ?_) (Ev.now _)⟩
          rw [hsl, if_neg n40, if_neg n41, if_neg n124, if_pos hop, if_neg Bool.false_ne_true]
        · by_cases n93 : bt p i = 93
          · refine .inl ⟨2, i, Ev.step (fun k => by rw [atomF_s, if_neg n40, if_neg n91, if_neg n46, if_pos (.inr n93)]) (Ev.now _), Ev.step (fun k => ?_) (Ev.now _)⟩
            rw [hsl, if_neg n40, if_neg n41, if_neg n124, if_neg hop, if_neg n91, if_pos n93]
          · have hno : ¬ (isOp (bt p i) = true ∨ bt p i = 93) := fun h => h.elim hop n93
            by_cases n92 : bt p i = 92
            · by_cases e1 : i + 1 = p.size
              · refine .inl ⟨2, i + 1, Ev.step (fun k => by rw [atomF_s, if_neg n40, if_neg n91, if_neg n46, if_neg hno, if_pos n92, if_pos e1]) (Ev.now _), Ev.step (fun k => ?_) (Ev.now _)⟩
                rw [hsl, if_neg n40, if_neg n41, if_neg n124, if_neg hop, if_neg n91, if_neg n93, if_pos n92, if_pos e1, e1]
              · refine .inr ⟨_, i + 2, Ev.step (fun k => by rw [atomF_s, if_neg n40, if_neg n91, if_neg n46, if_neg hno, if_pos n92, if_neg e1]) (Ev.now _), by omega, by omega, fun r h => Ev.step (fun k => ?_) h⟩
                rw [hsl, if_neg n40, if_neg n41, if_neg n124, if_neg hop, if_neg n91, if_neg n93, if_pos n92, if_neg e1]
            · refine .inr ⟨_, i + 1, Ev.step (fun k => by rw [atomF_s, if_neg n40, if_neg n91, if_neg n46, if_neg hno, if_neg n92]) (Ev.now _), by omega, by omega, fun r h => Ev.step (fun k => ?_) h⟩
              rw [hsl, if_neg n40, if_neg n41, if_neg n124, if_neg hop, if_neg n91, if_neg n93, if_neg n92]
theorem par_spec : ∀ (d : Nat) (i : Int), 0 ≤ i → i ≤ p.size → (p.size : Int) - i = d → (∀ o at_, 0 ≤ o → o ≤ 20 → (at_ = true → i < p.size → isOp (bt p i) = false) → SeqS p i o at_) ∧ (∀ o, 0 ≤ o → o ≤ 20 → AltS p i o) := by
  intro d
  induction d using Nat.strongRecOn with
  | _ d ih =>
  intro i h0 h1 hd
  have hseq : ∀ o at_, 0 ≤ o → o ≤ 20 → (at_ = true → i < p.size → isOp (bt p i) = false) → SeqS p i o at_ := by
    intro o at_ o0 o1 hat
    by_cases hc : i < p.size ∧ (bt p i ≠ 124 ∧ bt p i ≠ 41)
    · have hS : ∀ k acc, seqL (k + 1) p i o acc = obind (atomF k p i o) fun x => (opsF k p x.2 x.1).bind fun y => seqL k p y.2 o (acc ++ [y.1]) := fun k acc => by rw [seqL_s, if_pos hc]
      rcases atom_spec hp i o at_ h0 hc.1 o0 o1 (fun h => hat h hc.1) hc.2.1 hc.2.2 (fun h20 => (ih ((p.size : Int) - (i + 1)).toNat (by omega) (i + 1) (by omega) (by omega) (by omega)).2 (o + 1) (by omega) (by omega)) with ⟨c, a, ha, hs⟩ | ⟨x, j, ha, a, b, hs⟩
      · exact .inl ⟨c, a, fun acc => Ev.step (fun k => hS k acc) (Ev.obind_err ha), hs⟩
      · obtain ⟨x', j', ho, a2, b2, c2, hs2⟩ := ops_spec hp ((p.size : Int) - j).toNat j x o o0 o1 (by omega) b (by omega)
        rcases (ih ((p.size : Int) - j').toNat (by omega) j' (by omega) b2 (by omega)).1 o true o0 o1 (fun _ h => c2 h) with ⟨c, e, hq, hs3⟩ | ⟨xs, j3, hq, a3, b3, c3, hs3⟩
        · exact .inl ⟨c, e, fun acc => Ev.step (fun k => hS k acc) (Ev.obind ha (Ev.bind ho (hq _))), hs _ (hs2 _ hs3)⟩
        · refine .inr ⟨x' :: xs, j3, fun acc => ?_, by omega, b3, c3, fun r h => hs _ (hs2 _ (hs3 r h))⟩
          have := hq (acc ++ [x'])
          rw [List.append_assoc] at this
          exact Ev.step (fun k => hS k acc) (Ev.obind ha (Ev.bind ho this))
    · refine .inr ⟨[], i, fun acc => ?_, Int.le_refl _, h1, fun hlt => ?_, fun r h => h _⟩
      · rw [List.append_nil]
        exact Ev.step (fun k => by rw [seqL_s, if_neg hc]) (Ev.now _)
      · by_cases e : bt p i = 124
        · exact .inl e
        · by_cases e2 : bt p i = 41
          · exact .inr e2
          · exact absurd ⟨hlt, e, e2⟩ hc
  refine ⟨hseq, fun o o0 o1 => ?_⟩
  rcases hseq o false o0 o1 (fun h => by cases h) with ⟨c, a, hq, hs⟩ | ⟨xs, j, hq, a, b, hj, hs⟩
  · exact .inl ⟨c, a, fun acc => Ev.step (fun k => altL_s k p i o acc) (Ev.obind_err (hq [])), hs⟩
  · by_cases hb : j = p.size ∨ bt p j ≠ 124
    · refine .inr ⟨[.seq xs], j, fun acc => Ev.step (fun k => altL_s k p i o acc) (Ev.obind (hq []) (Ev.if_pos hb (Ev.now _))), a, b, fun hlt => ?_, hs⟩
      rcases hj hlt with h | h
      · rcases hb with h' | h'
        · omega
        · exact absurd h h'
      · exact h
    · have e1 : j < p.size := by
        have : ¬ j = p.size := fun h => hb (.inl h)
        omega
      have e2 : bt p j = 124 := Classical.not_not.mp fun h => hb (.inr h)
      have hbar : ∀ r, SL p o false (j + 1) r → ∀ b, SL p o b j r := fun r h b => Ev.step (fun k => by rw [sl_s hp k o b j (by omega) e1 o0 o1, if_neg (by omega), if_neg (by omega), if_pos e2]) h
      rcases (ih ((p.size : Int) - (j + 1)).toNat (by omega) (j + 1) (by omega) (by omega) (by omega)).2 o o0 o1 with ⟨c, e, ha, hs3⟩ | ⟨ys, j3, ha, a3, b3, c3, hs3⟩
      · exact .inl ⟨c, e, fun acc => Ev.step (fun k => altL_s k p i o acc) (Ev.obind (hq []) (Ev.if_neg hb (ha _))), hs _ (hbar _ hs3)⟩
      · refine .inr ⟨.seq xs :: ys, j3, fun acc => ?_, by omega, b3, c3, fun r h => hs _ (hbar _ (hs3 r h))⟩
        have := ha (acc ++ [.seq xs])
        rw [List.append_assoc] at this
        exact Ev.step (fun k => altL_s k p i o acc) (Ev.obind (hq []) (Ev.if_neg hb this))
end
/-- The program's reading of a pattern and the reference's check tell the same fault. -/
theorem check_spec (p : ByteArray) : ∃ q, Ev (fun k => patR k p) q ∧ Ev (fun k => spec_CheckRegex.f k p) (match q with | .ok _ => (0, 0) | .error x => x) := by
  by_cases hb : 200 < p.size
  · refine ⟨.error (1, 0), ⟨0, fun k _ => ?_⟩, ⟨0, fun k _ => ?_⟩⟩
    · show patR k p = _
      unfold patR; rw [if_pos hb]
    · show spec_CheckRegex.f k p = _
      unfold spec_CheckRegex.f; rw [if_pos (by omega)]
  · have hp : p.size ≤ 200 := by omega
    have hR : ∀ k, patR k p = patF k p := fun k => by unfold patR; rw [if_neg hb]
    have hF : ∀ k, spec_CheckRegex.f k p = spec_CheckRegex.l0 k p 0 false 0 := fun k => by unfold spec_CheckRegex.f; rw [if_neg (by omega)]
    simp only [hR, hF]
    rcases (par_spec hp p.size 0 (Int.le_refl _) (by omega) (by omega)).2 0 (Int.le_refl _) (by omega) with ⟨c, a, ha, hs⟩ | ⟨xs, j, ha, a, b, hj, hs⟩
    · exact ⟨.error (c, a), Ev.obind_err (ha []), hs⟩
    · by_cases e : j < p.size
      · refine ⟨.error (2, j), Ev.obind (ha []) (Ev.if_pos e (Ev.now _)), hs _ fun b => Ev.step (fun k => ?_) (Ev.now _)⟩
        rw [sl_s hp k 0 b j a e (Int.le_refl _) (by omega), if_neg (by have := hj e; omega), if_pos (hj e), if_pos rfl]
      · refine ⟨.ok (.alt ([] ++ xs)), Ev.obind (ha []) (Ev.if_neg e (Ev.now _)), hs _ fun b => ?_⟩
        have := sl_end hp 0 b (Int.le_refl _)
        rw [if_neg (by omega)] at this
        rw [show j = p.size by omega]; exact this
end Go.Proofs.Ytcdpmmpdfdillaa.Q

namespace Go.Proofs.Ytcdpmmpdfdillaa.Q
open Go.RowKit Go.Proofs.YtcdpmmpdfdillaaW.PrintWords Go.Proofs.YtcdpmmpdfdillaaW.PrintLast Go.Proofs.YtcdpmmpdfdillaaW.PrintMore
set_option linter.unusedVariables false
set_option linter.unusedSimpArgs false

/-! ### spec_l4AtomEnd: function 26 -/
mutual
def spec_l4AtomEnd.l0 : Nat → ByteArray → Int → Option (Int)
 | 0, _, _ => none
 | k + 1, x0, x7 => if 0 ≤ x7 then (if x7 < (x0.size : Int) then (if (bt x0 x7) = 41 then (some (wrap64 (x7 + 1))) else (if (bt x0 x7) = 124 then (spec_l4AtomEnd.l0 k x0 (wrap64 (x7 + 1))) else ((spec_l4Op.f (bt x0 x7)).bind fun t118 => (if t118 = true then (spec_l4AtomEnd.l0 k x0 (wrap64 (x7 + 1))) else ((spec_l4AtomEnd.f k x0 x7).bind fun t119 => (spec_l4AtomEnd.l0 k x0 t119)))))) else (none)) else (none)
def spec_l4AtomEnd.f : Nat → ByteArray → Int → Option (Int)
 | 0, _, _ => none
 | k + 1, a0, a1 => if 0 ≤ a1 then (if a1 < (a0.size : Int) then (if (bt a0 a1) = 92 then (some (wrap64 (a1 + 2))) else (if (bt a0 a1) = 91 then ((spec_l4Class.f k a0 a1).bind fun bt114 => (some bt114.1)) else (if (bt a0 a1) = 40 then (spec_l4AtomEnd.l0 k a0 (wrap64 (a1 + 1))) else (some (wrap64 (a1 + 1)))))) else (none)) else (none)
end
set_option maxHeartbeats 8000000 in
set_option maxRecDepth 100000 in
theorem spec_l4AtomEnd.calls (k : Nat) : ∀ (a0 : ByteArray) (a1 : Int) (r : Int) (w : World) (h : spec_l4AtomEnd.f k a0 a1 = some r),
  Calls Try.prog 26 #[.string a0, .int .i64 a1] w fun e w' => e = .returned (.int .i64 r) ∧ Below w.heap.size w w' := by
 induction k using Nat.strongRecOn with
 | _ k ih =>
 intro a0 a1 r w h
 cases k with
 | zero => exact absurd h (by simp [spec_l4AtomEnd.f])
 | succ k =>
 simp only [spec_l4AtomEnd.f] at h
 have hu30 := Try.underlying30
 have HB := Aside0.mk (Below.refl w.heap.size w)
 have H : (if 0 ≤ a1 then (if a1 < (a0.size : Int) then (if (bt a0 a1) = 92 then (some (wrap64 (a1 + 2))) else (if (bt a0 a1) = 91 then ((spec_l4Class.f k a0 a1).bind fun bt114 => (some bt114.1)) else (if (bt a0 a1) = 40 then (spec_l4AtomEnd.l0 k a0 (wrap64 (a1 + 1))) else (some (wrap64 (a1 + 1)))))) else (none)) else (none)) = some r := h
 clear h
 by_cases c3 : 0 ≤ a1
 ·rw [if_pos c3] at H
  have c3b0 : decide (0 ≤ a1) = true := decide_eq_true c3
  clear c3
  by_cases c4 : a1 < (a0.size : Int)
  ·rw [if_pos c4] at H
   have c4b0 : decide (a1 < (a0.size : Int)) = true := decide_eq_true c4
   clear c4
   by_cases c6 : (bt a0 a1) = 92
   ·rw [if_pos c6] at H
    have c6b0 : ((bt a0 a1) == 92) = true := beq_iff_eq.mpr c6
    have c6b1 : ((bt a0 a1) != 92) = false := bne_eq_false_iff_eq.mpr c6
    clear c6
    obtain rfl := Option.some.inj H
    have p5 : 0 ≤ (a1 : Int) := of_decide_eq_true (by first | (with_reducible assumption) | assumption)
    have q5 : a1 < (a0.size : Int) := of_decide_eq_true (by first | (with_reducible assumption) | assumption)
    have hx5 := bt_at a0 a1
    replace p5 := eq_true p5
    replace q5 := eq_true q5
    go_enter Try.func26, Try.ntmps26
    go_wp2
    go_ret
    exact ⟨by first | rfl | (simp [errW_none, errW_some] <;> rfl) | (simp [*, errW_none, errW_some] <;> rfl), bw⟩
   ·rw [if_neg c6] at H
    have c6b0 : ((bt a0 a1) == 92) = false := beq_eq_false_iff_ne.mpr c6
    have c6b1 : ((bt a0 a1) != 92) = true := bne_iff_ne.mpr c6
    by_cases c8 : (bt a0 a1) = 91
    ·rw [if_pos c8] at H
     have c8b0 : ((bt a0 a1) == 91) = true := beq_iff_eq.mpr c8
     have c8b1 : ((bt a0 a1) != 91) = false := bne_eq_false_iff_eq.mpr c8
     clear c8
     replace H := Option.bind_eq_some_iff.mp H
     obtain ⟨⟨t114, t115, t116⟩, A90, H⟩ := H
     replace H : (some t114) = some r := H
     have A9 := Aside0.mk A90
     clear A90
     obtain rfl := Option.some.inj H
     have p5 : 0 ≤ (a1 : Int) := of_decide_eq_true (by first | (with_reducible assumption) | assumption)
     have q5 : a1 < (a0.size : Int) := of_decide_eq_true (by first | (with_reducible assumption) | assumption)
     have hx5 := bt_at a0 a1
     replace p5 := eq_true p5
     replace q5 := eq_true q5
     have p7 : 0 ≤ (a1 : Int) := of_decide_eq_true (by first | (with_reducible assumption) | assumption)
     have q7 : a1 < (a0.size : Int) := of_decide_eq_true (by first | (with_reducible assumption) | assumption)
     have hx7 := bt_at a0 a1
     replace p7 := eq_true p7
     replace q7 := eq_true q7
     go_enter Try.func26, Try.ntmps26
     go_wp2_with (first | ((with_reducible refine at_fn (f := 29) rfl ?_); refine goesL_ (some 21) rfl rfl Try.func29 (by kernel_rfl) rfl #[.string a0, .int .i64 a1] rfl (by (try simp only [List.map_toArray, List.map_cons, List.map_nil]); first | done | rfl | (simp only [List.length_drop, List.length_take]; rfl)) ?_; (with_reducible refine (spec_l4Class.calls k a0 a1 t114 t115 t116 _ A9.out).mono ?_); rintro e w10 ⟨rfl, hb⟩; refine ⟨_, rfl, ?_⟩; have n0_ := Aside0.mk (below_step bw hb); clear HB; have HB := n0_; clear n0_; (try clear hb); (try clear hb2); (try clear hk); (try clear hi)) | ((with_reducible refine gate_dst (N := 6) rfl ?_); refine box_event ?hg (N := 6) ?hd (cs := #[.int .i64 0, .int .i64 0]) (t := 30) ?hr ?_; (case hd => rfl); (case hg => rfl); (case hr => first | (go_simp; done) | (go_simp; rfl)); intro gb117 hg w11 hbox hb; have n0_ := Aside0.mk (below_step bw hb); have n1_ := Aside0.mk (hbox); have n2_ := Aside0.mk ((by rw [hg]; exact (below_size bw) : w.heap.size ≤ gb117)); have n3_ := Aside0.mk ((by rw [hg]; exact (below_size bw) : w.heap.size ≤ gb117)); clear HB; have HB := n0_; have BK117 := n1_; have GW117 := n2_; have GE117 := n3_; clear n0_ n1_ n2_ n3_; clear hb hbox hg; have hcz12_0 : w11.cell? ⟨gb117, 0, none⟩ = some (.int .i64 0) := (blk_cell BK117.out 0).trans rfl; have hcz12_1 : w11.cell? ⟨gb117, 1, none⟩ = some (.int .i64 0) := (blk_cell BK117.out 1).trans rfl; have hfz12_0 := blk_frozen BK117.out 0; have hfz12_1 := blk_frozen BK117.out 1))
     go_ret
     exact ⟨by first | rfl | (simp [errW_none, errW_some] <;> rfl) | (simp [*, errW_none, errW_some] <;> rfl), bw⟩
    ·rw [if_neg c8] at H
     have c8b0 : ((bt a0 a1) == 91) = false := beq_eq_false_iff_ne.mpr c8
     have c8b1 : ((bt a0 a1) != 91) = true := bne_iff_ne.mpr c8
     by_cases c14 : (bt a0 a1) = 40
     ·rw [if_pos c14] at H
      have c14b0 : ((bt a0 a1) == 40) = true := beq_iff_eq.mpr c14
      have c14b1 : ((bt a0 a1) != 40) = false := bne_eq_false_iff_eq.mpr c14
      clear c14
      have H' := Aside0.mk H
      clear H
      have p5 : 0 ≤ (a1 : Int) := of_decide_eq_true (by first | (with_reducible assumption) | assumption)
      have q5 : a1 < (a0.size : Int) := of_decide_eq_true (by first | (with_reducible assumption) | assumption)
      have hx5 := bt_at a0 a1
      replace p5 := eq_true p5
      replace q5 := eq_true q5
      have p7 : 0 ≤ (a1 : Int) := of_decide_eq_true (by first | (with_reducible assumption) | assumption)
      have q7 : a1 < (a0.size : Int) := of_decide_eq_true (by first | (with_reducible assumption) | assumption)
      have hx7 := bt_at a0 a1
      replace p7 := eq_true p7
      replace q7 := eq_true q7
      have p13 : 0 ≤ (a1 : Int) := of_decide_eq_true (by first | (with_reducible assumption) | assumption)
      have q13 : a1 < (a0.size : Int) := of_decide_eq_true (by first | (with_reducible assumption) | assumption)
      have hx13 := bt_at a0 a1
      replace p13 := eq_true p13
      replace q13 := eq_true q13
      go_enter Try.func26, Try.ntmps26
      go_wp2
      go_loopg [7] k (fun kq v7 w' => ∃ (x7_1 : Int), v7 = .int .i64 x7_1 ∧ Aside0 (spec_l4AtomEnd.l0 kq a0 x7_1 = some r) ∧ Aside0 (kq ≤ k) ∧ Aside0 (Below w.heap.size w w'))
      case atStart => exact ⟨(wrap64 (a1 + 1)), (by first | rfl | (simp; done) | (simp [*]; done)), H', ⟨Nat.le_refl _⟩, ⟨bw⟩⟩
      case round =>
       clear H'
       try clear c1
       try clear p1
       try clear q1
       try clear hx1
       try clear c2
       try clear p2
       try clear c3
       try clear c3b0
       try clear c4
       try clear c4b0
       try clear p5
       try clear q5
       try clear hx5
       try clear c6
       try clear c6b0
       try clear c6b1
       try clear p6
       try clear p7
       try clear q7
       try clear hx7
       try clear c8
       try clear c8b0
       try clear c8b1
       try clear p13
       try clear q13
       try clear hx13
       try clear c14
       try clear c14b0
       try clear c14b1
       try clear hcz12_0
       try clear hcz12_1
       try clear hfz12_0
       try clear hfz12_1
       try clear p13
       try clear p5
       try clear p7
       try clear q13
       try clear q5
       try clear q7
       obtain ⟨x7_1, rfl, HA, HK1, HB⟩ := hrel
       cases gk with
       | zero => exact absurd HA.out (by simp [spec_l4AtomEnd.l0])
       | succ k1 =>
        have H := HA.out
        clear HA
        simp only [spec_l4AtomEnd.l0] at H
        by_cases c15 : 0 ≤ x7_1
        ·rw [if_pos c15] at H
         have c15b0 : decide (0 ≤ x7_1) = true := decide_eq_true c15
         clear c15
         by_cases c16 : x7_1 < (a0.size : Int)
         ·rw [if_pos c16] at H
          have c16b0 : decide (x7_1 < (a0.size : Int)) = true := decide_eq_true c16
          clear c16
          by_cases c18 : (bt a0 x7_1) = 41
          ·rw [if_pos c18] at H
           have c18b0 : ((bt a0 x7_1) == 41) = true := beq_iff_eq.mpr c18
           have c18b1 : ((bt a0 x7_1) != 41) = false := bne_eq_false_iff_eq.mpr c18
           clear c18
           obtain rfl := Option.some.inj H
           have p17 : 0 ≤ (x7_1 : Int) := of_decide_eq_true (by first | (with_reducible assumption) | assumption)
           have q17 : x7_1 < (a0.size : Int) := of_decide_eq_true (by first | (with_reducible assumption) | assumption)
           have hx17 := bt_at a0 x7_1
           replace p17 := eq_true p17
           replace q17 := eq_true q17
           go_wp2
           go_ret
           exact ⟨by first | rfl | (simp [errW_none, errW_some] <;> rfl) | (simp [*, errW_none, errW_some] <;> rfl), bw⟩
          ·rw [if_neg c18] at H
           have c18b0 : ((bt a0 x7_1) == 41) = false := beq_eq_false_iff_ne.mpr c18
           have c18b1 : ((bt a0 x7_1) != 41) = true := bne_iff_ne.mpr c18
           by_cases c20 : (bt a0 x7_1) = 124
           ·rw [if_pos c20] at H
            have c20b0 : ((bt a0 x7_1) == 124) = true := beq_iff_eq.mpr c20
            have c20b1 : ((bt a0 x7_1) != 124) = false := bne_eq_false_iff_eq.mpr c20
            clear c20
            have H' := Aside0.mk H
            clear H
            have p17 : 0 ≤ (x7_1 : Int) := of_decide_eq_true (by first | (with_reducible assumption) | assumption)
            have q17 : x7_1 < (a0.size : Int) := of_decide_eq_true (by first | (with_reducible assumption) | assumption)
            have hx17 := bt_at a0 x7_1
            replace p17 := eq_true p17
            replace q17 := eq_true q17
            have p19 : 0 ≤ (x7_1 : Int) := of_decide_eq_true (by first | (with_reducible assumption) | assumption)
            have q19 : x7_1 < (a0.size : Int) := of_decide_eq_true (by first | (with_reducible assumption) | assumption)
            have hx19 := bt_at a0 x7_1
            replace p19 := eq_true p19
            replace q19 := eq_true q19
            go_wp2
            go_roundg k1
            case measure => have := HK1.out; omega
            case rel => exact ⟨(wrap64 (x7_1 + 1)), (by first | rfl | (simp; done) | (simp [*]; done)), H', ⟨by have := HK1.out; omega⟩, ⟨bw⟩⟩
           ·rw [if_neg c20] at H
            have c20b0 : ((bt a0 x7_1) == 124) = false := beq_eq_false_iff_ne.mpr c20
            have c20b1 : ((bt a0 x7_1) != 124) = true := bne_iff_ne.mpr c20
            replace H := Option.bind_eq_some_iff.mp H
            obtain ⟨t118, A220, H⟩ := H
            replace H : (if t118 = true then (spec_l4AtomEnd.l0 k1 a0 (wrap64 (x7_1 + 1))) else ((spec_l4AtomEnd.f k1 a0 x7_1).bind fun t119 => (spec_l4AtomEnd.l0 k1 a0 t119))) = some r := H
            have A22 := Aside0.mk A220
            clear A220
            by_cases c23 : t118 = true
            ·subst c23
             have H1 : (spec_l4AtomEnd.l0 k1 a0 (wrap64 (x7_1 + 1))) = some r := by rw [if_pos rfl] at H; exact H
             clear H
             have H := H1
             clear H1
             have H' := Aside0.mk H
             clear H
             have p17 : 0 ≤ (x7_1 : Int) := of_decide_eq_true (by first | (with_reducible assumption) | assumption)
             have q17 : x7_1 < (a0.size : Int) := of_decide_eq_true (by first | (with_reducible assumption) | assumption)
             have hx17 := bt_at a0 x7_1
             replace p17 := eq_true p17
             replace q17 := eq_true q17
             have p19 : 0 ≤ (x7_1 : Int) := of_decide_eq_true (by first | (with_reducible assumption) | assumption)
             have q19 : x7_1 < (a0.size : Int) := of_decide_eq_true (by first | (with_reducible assumption) | assumption)
             have hx19 := bt_at a0 x7_1
             replace p19 := eq_true p19
             replace q19 := eq_true q19
             have p21 : 0 ≤ (x7_1 : Int) := of_decide_eq_true (by first | (with_reducible assumption) | assumption)
             have q21 : x7_1 < (a0.size : Int) := of_decide_eq_true (by first | (with_reducible assumption) | assumption)
             have hx21 := bt_at a0 x7_1
             replace p21 := eq_true p21
             replace q21 := eq_true q21
             go_wp2_with (first | (go_at_call 28; (with_reducible refine (spec_l4Op.calls (bt a0 x7_1) true _ A22.out).mono ?_); rintro e w' ⟨rfl, ⟨nd, rfl⟩⟩))
             go_roundg k1
             case measure => have := HK1.out; omega
             case rel => exact ⟨(wrap64 (x7_1 + 1)), (by first | rfl | (simp; done) | (simp [*]; done)), H', ⟨by have := HK1.out; omega⟩, ⟨bw⟩⟩
            ·replace c23 := Bool.eq_false_iff.mpr c23
             subst c23
             have H1 : ((spec_l4AtomEnd.f k1 a0 x7_1).bind fun t119 => (spec_l4AtomEnd.l0 k1 a0 t119)) = some r := by rw [if_neg (show ¬ (false = true) by decide)] at H; exact H
             clear H
             have H := H1
             clear H1
             replace H := Option.bind_eq_some_iff.mp H
             obtain ⟨t119, A240, H⟩ := H
             replace H : (spec_l4AtomEnd.l0 k1 a0 t119) = some r := H
             have A24 := Aside0.mk A240
             clear A240
             have H' := Aside0.mk H
             clear H
             have p17 : 0 ≤ (x7_1 : Int) := of_decide_eq_true (by first | (with_reducible assumption) | assumption)
             have q17 : x7_1 < (a0.size : Int) := of_decide_eq_true (by first | (with_reducible assumption) | assumption)
             have hx17 := bt_at a0 x7_1
             replace p17 := eq_true p17
             replace q17 := eq_true q17
             have p19 : 0 ≤ (x7_1 : Int) := of_decide_eq_true (by first | (with_reducible assumption) | assumption)
             have q19 : x7_1 < (a0.size : Int) := of_decide_eq_true (by first | (with_reducible assumption) | assumption)
             have hx19 := bt_at a0 x7_1
             replace p19 := eq_true p19
             replace q19 := eq_true q19
             have p21 : 0 ≤ (x7_1 : Int) := of_decide_eq_true (by first | (with_reducible assumption) | assumption)
             have q21 : x7_1 < (a0.size : Int) := of_decide_eq_true (by first | (with_reducible assumption) | assumption)
             have hx21 := bt_at a0 x7_1
             replace p21 := eq_true p21
             replace q21 := eq_true q21
             go_wp2_with (first | (go_at_call 28; (with_reducible refine (spec_l4Op.calls (bt a0 x7_1) false _ A22.out).mono ?_); rintro e w' ⟨rfl, ⟨nd, rfl⟩⟩) | ((with_reducible refine at_fn (f := 26) rfl ?_); refine goesL_ (some 51) rfl rfl Try.func26 (by kernel_rfl) rfl #[.string a0, .int .i64 x7_1] rfl (by (try simp only [List.map_toArray, List.map_cons, List.map_nil]); first | done | rfl | (simp only [List.length_drop, List.length_take]; rfl)) ?_; (with_reducible refine (ih k1 (by have := HK1.out; omega) a0 x7_1 t119 _ A24.out).mono ?_); rintro e w25 ⟨rfl, hb⟩; refine ⟨_, rfl, ?_⟩; have n0_ := Aside0.mk (below_step bw hb); clear HB; have HB := n0_; clear n0_; (try clear hb); (try clear hb2); (try clear hk); (try clear hi)))
             go_roundg k1
             case measure => have := HK1.out; omega
             case rel => exact ⟨(t119), (by first | rfl | (simp; done) | (simp [*]; done)), H', ⟨by have := HK1.out; omega⟩, ⟨bw⟩⟩
         ·rw [if_neg c16] at H
          exact absurd H (by simp)
        ·rw [if_neg c15] at H
         exact absurd H (by simp)
     ·rw [if_neg c14] at H
      have c14b0 : ((bt a0 a1) == 40) = false := beq_eq_false_iff_ne.mpr c14
      have c14b1 : ((bt a0 a1) != 40) = true := bne_iff_ne.mpr c14
      obtain rfl := Option.some.inj H
      have p5 : 0 ≤ (a1 : Int) := of_decide_eq_true (by first | (with_reducible assumption) | assumption)
      have q5 : a1 < (a0.size : Int) := of_decide_eq_true (by first | (with_reducible assumption) | assumption)
      have hx5 := bt_at a0 a1
      replace p5 := eq_true p5
      replace q5 := eq_true q5
      have p7 : 0 ≤ (a1 : Int) := of_decide_eq_true (by first | (with_reducible assumption) | assumption)
      have q7 : a1 < (a0.size : Int) := of_decide_eq_true (by first | (with_reducible assumption) | assumption)
      have hx7 := bt_at a0 a1
      replace p7 := eq_true p7
      replace q7 := eq_true q7
      have p13 : 0 ≤ (a1 : Int) := of_decide_eq_true (by first | (with_reducible assumption) | assumption)
      have q13 : a1 < (a0.size : Int) := of_decide_eq_true (by first | (with_reducible assumption) | assumption)
      have hx13 := bt_at a0 a1
      replace p13 := eq_true p13
      replace q13 := eq_true q13
      go_enter Try.func26, Try.ntmps26
      go_wp2
      go_ret
      exact ⟨by first | rfl | (simp [errW_none, errW_some] <;> rfl) | (simp [*, errW_none, errW_some] <;> rfl), bw⟩
  ·rw [if_neg c4] at H
   exact absurd H (by simp)
 ·rw [if_neg c3] at H
  exact absurd H (by simp)

end Go.Proofs.Ytcdpmmpdfdillaa.Q

namespace Go.Proofs.Ytcdpmmpdfdillaa.Q
open Go.RowKit Go.Proofs.YtcdpmmpdfdillaaW.PrintWords Go.Proofs.YtcdpmmpdfdillaaW.PrintLast Go.Proofs.YtcdpmmpdfdillaaW.PrintMore
set_option linter.unusedVariables false
set_option linter.unusedSimpArgs false

/-! ### spec_l4Parts: function 25 -/
def spec_l4Parts.l0 : Nat → ByteArray → List ByteArray → Int → Int → Option (List ByteArray)
 | 0, _, _, _, _ => none
 | k + 1, x0, x3, x4, x5 => if x5 < (x0.size : Int) then (if 0 ≤ x5 then (if (bt x0 x5) = 124 then (if 0 ≤ x4 then (if x4 ≤ x5 then (if x5 ≤ (x0.size : Int) then (if x3.length < 8796093022208 then (spec_l4Parts.l0 k x0 (x3 ++ [x0.extract (x4 : Int).toNat (x5 : Int).toNat]) (wrap64 (x5 + 1)) (wrap64 (x5 + 1))) else (none)) else (none)) else (none)) else (none)) else ((spec_l4Op.f (bt x0 x5)).bind fun t129 => (if t129 = true then (spec_l4Parts.l0 k x0 x3 x4 (wrap64 (x5 + 1))) else ((spec_l4AtomEnd.f k x0 x5).bind fun t130 => (spec_l4Parts.l0 k x0 x3 x4 t130))))) else (none)) else (if 0 ≤ x4 then (if x4 ≤ (x0.size : Int) then (if x3.length < 8796093022208 then (some (x3 ++ [x0.extract (x4 : Int).toNat x0.size])) else (none)) else (none)) else (none))
def spec_l4Parts.f (k : Nat) (a0 : ByteArray) : Option (List ByteArray) := spec_l4Parts.l0 k a0 (([] : List ByteArray)) 0 0
set_option maxHeartbeats 8000000 in
set_option maxRecDepth 100000 in
theorem spec_l4Parts.calls (k : Nat) (a0 : ByteArray) (r : List ByteArray) (w : World) (h : spec_l4Parts.f k a0 = some r) :
  Calls Try.prog 25 #[.string a0] w fun e w' => ∃ v0_ : Value, e = .returned (v0_) ∧ Kd.R Kd.string 9 w' w.heap.size (fun _ => True) v0_ r ∧ Below w.heap.size w w' := by
 have HB := Aside0.mk (Below.refl w.heap.size w)
 have H : (spec_l4Parts.l0 k a0 (([] : List ByteArray)) 0 0) = some r := h
 clear h
 obtain ⟨y120, hy120⟩ : ∃ y_ : List ByteArray, y_ = (([] : List ByteArray)) := ⟨_, rfl⟩
 replace H : (spec_l4Parts.l0 k a0 y120 0 0) = some r := by first | (rw [hy120]; with_reducible exact H) | (have H2_ := (Option.bind_some _ _).symm.trans H; rw [hy120]; with_reducible exact H2_) | (have H2_ := (Option.bind_some _ _).symm.trans H; with_reducible exact H2_) | with_reducible exact H | (rw [hy120]; exact H) | exact H
 have Ny120 := Aside0.mk hy120
 clear hy120
 have H' := Aside0.mk H
 clear H
 go_enter Try.func25, Try.ntmps25
 go_wp2_with (first | ((with_reducible refine gate_dst (N := 6) rfl ?_); refine Kd.R_lit Kd.string _ 9 ?hg (N := 6) ?hd (xs := ([] : List ByteArray)) (inner := []) (ok := fun _ => True) (okp := fun _ => True) ?hr ?hp (fun _ hk => hk) trivial (Below.refl _ _) (Nat.le_refl _) (by simp) ?_; (case hd => rfl); (case hg => rfl); (case hr => first | (go_simp; done) | (go_simp; rfl)); (case hp => exact (Reps.none _ _)); intro v121 w2 ho3 hb hg_ hnew_; clear hg_ hnew_; (first | rw [← Ny120.out] at ho3 | (simp only [Int.reduceToNat] at ho3; rw [← Ny120.out] at ho3)); have n0_ := Aside0.mk (Kd.R_lower ho3 (below_size bw)); have n1_ := Aside0.mk (below_step bw hb); clear HB; have HO122 := n0_; have HB := n1_; clear n0_ n1_; clear hb ho3))
 go_loopg [3, 4, 5] k (fun kq v3 v4 v5 w' => ∃ (x3_1 : List ByteArray) (x4_1 : Int) (x5_1 : Int), v4 = .int .i64 x4_1 ∧ v5 = .int .i64 x5_1 ∧ Aside0 (spec_l4Parts.l0 kq a0 x3_1 x4_1 x5_1 = some r) ∧ Aside0 (kq ≤ k) ∧ Aside0 (Kd.R Kd.string 9 w' w.heap.size (fun _ => True) v3 x3_1) ∧ Aside0 (Below w.heap.size w w'))
 case atStart => exact ⟨(y120), (0), (0), (by first | rfl | (simp; done) | (simp [*]; done)), (by first | rfl | (simp; done) | (simp [*]; done)), H', ⟨Nat.le_refl _⟩, ⟨lf HO122⟩, ⟨bw⟩⟩
 case round =>
  clear H'
  try clear c2
  try clear p2
  obtain ⟨x3_1, x4_1, x5_1, rfl, rfl, HA, HK1, HO_3, HB⟩ := hrel
  cases gk with
  | zero => exact absurd HA.out (by simp [spec_l4Parts.l0])
  | succ k1 =>
   have H := HA.out
   clear HA
   simp only [spec_l4Parts.l0] at H
   by_cases c4 : x5_1 < (a0.size : Int)
   ·rw [if_pos c4] at H
    have c4b0 : decide (x5_1 < (a0.size : Int)) = true := decide_eq_true c4
    clear c4
    by_cases c5 : 0 ≤ x5_1
    ·rw [if_pos c5] at H
     have c5b0 : decide (0 ≤ x5_1) = true := decide_eq_true c5
     clear c5
     by_cases c7 : (bt a0 x5_1) = 124
     ·rw [if_pos c7] at H
      have c7b0 : ((bt a0 x5_1) == 124) = true := beq_iff_eq.mpr c7
      have c7b1 : ((bt a0 x5_1) != 124) = false := bne_eq_false_iff_eq.mpr c7
      clear c7
      by_cases c8 : 0 ≤ x4_1
      ·rw [if_pos c8] at H
       have c8b0 := eq_true c8
       have c8b1 : decide (0 ≤ x4_1) = true := decide_eq_true c8
       clear c8
       by_cases c9 : x4_1 ≤ x5_1
       ·rw [if_pos c9] at H
        have c9b0 := eq_true c9
        have c9b1 : decide (x4_1 ≤ x5_1) = true := decide_eq_true c9
        clear c9
        by_cases c10 : x5_1 ≤ (a0.size : Int)
        ·rw [if_pos c10] at H
         have c10b0 := eq_true c10
         have c10b1 : decide (x5_1 ≤ (a0.size : Int)) = true := decide_eq_true c10
         clear c10
         by_cases c11 : x3_1.length < 8796093022208
         ·rw [if_pos c11] at H
          have LMc11 := Aside0.mk c11
          clear c11
          obtain ⟨y126, hy126⟩ : ∃ y_ : List ByteArray, y_ = (x3_1 ++ [a0.extract (x4_1 : Int).toNat (x5_1 : Int).toNat]) := ⟨_, rfl⟩
          replace H : (spec_l4Parts.l0 k1 a0 y126 (wrap64 (x5_1 + 1)) (wrap64 (x5_1 + 1))) = some r := by first | (rw [hy126]; with_reducible exact H) | (have H2_ := (Option.bind_some _ _).symm.trans H; rw [hy126]; with_reducible exact H2_) | (have H2_ := (Option.bind_some _ _).symm.trans H; with_reducible exact H2_) | with_reducible exact H | (rw [hy126]; exact H) | exact H
          have Ny126 := Aside0.mk hy126
          clear hy126
          have H' := Aside0.mk H
          clear H
          have p6 : 0 ≤ (x5_1 : Int) := of_decide_eq_true (by first | (with_reducible assumption) | assumption)
          have q6 : x5_1 < (a0.size : Int) := of_decide_eq_true (by first | (with_reducible assumption) | assumption)
          have hx6 := bt_at a0 x5_1
          replace p6 := eq_true p6
          replace q6 := eq_true q6
          go_wp2_with (first | ((with_reducible refine gate_builtin (b := .append) (xs := #[.tmp 15, .tmp 20]) rfl ?_); at_builtin; refine Kd.R_append Kd.string (w0 := w) w.heap.size rfl (.tmp 15) (.tmp 20) 61 9 (.string ⟨#[]⟩) 16 rfl Try.underlying61 info9 rfl (by decide) (by omega) u3 x3_1 (a0.extract (x4_1 : Int).toNat (x5_1 : Int).toNat) [.string (a0.extract (x4_1 : Int).toNat (x5_1 : Int).toNat)] (fun _ => True) (fun _ => False) rfl rfl ?aP (fun _ hk => hk.elim) ?aF ?aO ?aB ?aS ?aL ?_; (case aP => exact rfl); (case aB => exact bw); (case aF => exact (fun _ _ => trivial)); (case aO => exact (lf HO_3)); (case aS => exact (below_size bw)); (case aL => have := LMc11.out; omega); intro v127 w12 ho hb hg hat; rw [← Ny126.out] at ho; have n0_ := Aside0.mk (hb); have n1_ := Aside0.mk (ho); clear HB; clear HO_3; have HB := n0_; have HO128 := n1_; clear n0_ n1_; clear ho hb hg hat))
          go_roundg k1
          case measure => have := HK1.out; omega
          case rel => exact ⟨(y126), (wrap64 (x5_1 + 1)), (wrap64 (x5_1 + 1)), (by first | rfl | (simp; done) | (simp [*]; done)), (by first | rfl | (simp; done) | (simp [*]; done)), H', ⟨by have := HK1.out; omega⟩, ⟨lf HO128⟩, ⟨bw⟩⟩
         ·rw [if_neg c11] at H
          exact absurd H (by simp)
        ·rw [if_neg c10] at H
         exact absurd H (by simp)
       ·rw [if_neg c9] at H
        exact absurd H (by simp)
      ·rw [if_neg c8] at H
       exact absurd H (by simp)
     ·rw [if_neg c7] at H
      have c7b0 : ((bt a0 x5_1) == 124) = false := beq_eq_false_iff_ne.mpr c7
      have c7b1 : ((bt a0 x5_1) != 124) = true := bne_iff_ne.mpr c7
      replace H := Option.bind_eq_some_iff.mp H
      obtain ⟨t129, A140, H⟩ := H
      replace H : (if t129 = true then (spec_l4Parts.l0 k1 a0 x3_1 x4_1 (wrap64 (x5_1 + 1))) else ((spec_l4AtomEnd.f k1 a0 x5_1).bind fun t130 => (spec_l4Parts.l0 k1 a0 x3_1 x4_1 t130))) = some r := H
      have A14 := Aside0.mk A140
      clear A140
      by_cases c15 : t129 = true
      ·subst c15
       have H1 : (spec_l4Parts.l0 k1 a0 x3_1 x4_1 (wrap64 (x5_1 + 1))) = some r := by rw [if_pos rfl] at H; exact H
       clear H
       have H := H1
       clear H1
       have H' := Aside0.mk H
       clear H
       have p6 : 0 ≤ (x5_1 : Int) := of_decide_eq_true (by first | (with_reducible assumption) | assumption)
       have q6 : x5_1 < (a0.size : Int) := of_decide_eq_true (by first | (with_reducible assumption) | assumption)
       have hx6 := bt_at a0 x5_1
       replace p6 := eq_true p6
       replace q6 := eq_true q6
       have p13 : 0 ≤ (x5_1 : Int) := of_decide_eq_true (by first | (with_reducible assumption) | assumption)
       have q13 : x5_1 < (a0.size : Int) := of_decide_eq_true (by first | (with_reducible assumption) | assumption)
       have hx13 := bt_at a0 x5_1
       replace p13 := eq_true p13
       replace q13 := eq_true q13
       go_wp2_with (first | ((with_reducible refine at_fn (f := 28) rfl ?_); refine goesL_ (some 28) rfl rfl Try.func28 (by kernel_rfl) rfl #[.int .u8 (bt a0 x5_1)] rfl (by (try simp only [List.map_toArray, List.map_cons, List.map_nil]); first | done | rfl | (simp only [List.length_drop, List.length_take]; rfl)) ?_; (with_reducible refine (spec_l4Op.calls (bt a0 x5_1) true _ A14.out).mono ?_); rintro e w' ⟨rfl, ⟨nd, rfl⟩⟩; refine ⟨_, rfl, ?_⟩))
       go_roundg k1
       case measure => have := HK1.out; omega
       case rel => exact ⟨(x3_1), (x4_1), (wrap64 (x5_1 + 1)), (by first | rfl | (simp; done) | (simp [*]; done)), (by first | rfl | (simp; done) | (simp [*]; done)), H', ⟨by have := HK1.out; omega⟩, ⟨lf HO_3⟩, ⟨bw⟩⟩
      ·replace c15 := Bool.eq_false_iff.mpr c15
       subst c15
       have H1 : ((spec_l4AtomEnd.f k1 a0 x5_1).bind fun t130 => (spec_l4Parts.l0 k1 a0 x3_1 x4_1 t130)) = some r := by rw [if_neg (show ¬ (false = true) by decide)] at H; exact H
       clear H
       have H := H1
       clear H1
       replace H := Option.bind_eq_some_iff.mp H
       obtain ⟨t130, A160, H⟩ := H
       replace H : (spec_l4Parts.l0 k1 a0 x3_1 x4_1 t130) = some r := H
       have A16 := Aside0.mk A160
       clear A160
       have H' := Aside0.mk H
       clear H
       have p6 : 0 ≤ (x5_1 : Int) := of_decide_eq_true (by first | (with_reducible assumption) | assumption)
       have q6 : x5_1 < (a0.size : Int) := of_decide_eq_true (by first | (with_reducible assumption) | assumption)
       have hx6 := bt_at a0 x5_1
       replace p6 := eq_true p6
       replace q6 := eq_true q6
       have p13 : 0 ≤ (x5_1 : Int) := of_decide_eq_true (by first | (with_reducible assumption) | assumption)
       have q13 : x5_1 < (a0.size : Int) := of_decide_eq_true (by first | (with_reducible assumption) | assumption)
       have hx13 := bt_at a0 x5_1
       replace p13 := eq_true p13
       replace q13 := eq_true q13
       go_wp2_with (first | ((with_reducible refine at_fn (f := 28) rfl ?_); refine goesL_ (some 28) rfl rfl Try.func28 (by kernel_rfl) rfl #[.int .u8 (bt a0 x5_1)] rfl (by (try simp only [List.map_toArray, List.map_cons, List.map_nil]); first | done | rfl | (simp only [List.length_drop, List.length_take]; rfl)) ?_; (with_reducible refine (spec_l4Op.calls (bt a0 x5_1) false _ A14.out).mono ?_); rintro e w' ⟨rfl, ⟨nd, rfl⟩⟩; refine ⟨_, rfl, ?_⟩) | ((with_reducible refine at_fn (f := 26) rfl ?_); refine goesL_ (some 33) rfl rfl Try.func26 (by kernel_rfl) rfl #[.string a0, .int .i64 x5_1] rfl (by (try simp only [List.map_toArray, List.map_cons, List.map_nil]); first | done | rfl | (simp only [List.length_drop, List.length_take]; rfl)) ?_; (with_reducible refine (spec_l4AtomEnd.calls k1 a0 x5_1 t130 _ A16.out).mono ?_); rintro e w17 ⟨rfl, hb⟩; refine ⟨_, rfl, ?_⟩; have n0_ := Aside0.mk (Kd.R_below (lf HO_3) hb); have n1_ := Aside0.mk (below_step bw hb); clear HO_3; clear HB; have HO_3 := n0_; have HB := n1_; clear n0_ n1_; (try clear hb); (try clear hb2); (try clear hk); (try clear hi)))
       go_roundg k1
       case measure => have := HK1.out; omega
       case rel => exact ⟨(x3_1), (x4_1), (t130), (by first | rfl | (simp; done) | (simp [*]; done)), (by first | rfl | (simp; done) | (simp [*]; done)), H', ⟨by have := HK1.out; omega⟩, ⟨lf HO_3⟩, ⟨bw⟩⟩
    ·rw [if_neg c5] at H
     exact absurd H (by simp)
   ·rw [if_neg c4] at H
    have c4b0 : decide (x5_1 < (a0.size : Int)) = false := decide_eq_false c4
    clear c4
    by_cases c18 : 0 ≤ x4_1
    ·rw [if_pos c18] at H
     have c18b0 := eq_true c18
     have c18b1 : decide (0 ≤ x4_1) = true := decide_eq_true c18
     clear c18
     by_cases c19 : x4_1 ≤ (a0.size : Int)
     ·rw [if_pos c19] at H
      have c19b0 := eq_true c19
      have c19b1 : decide (x4_1 ≤ (a0.size : Int)) = true := decide_eq_true c19
      clear c19
      by_cases c20 : x3_1.length < 8796093022208
      ·rw [if_pos c20] at H
       have LMc20 := Aside0.mk c20
       clear c20
       obtain ⟨y123, hy123⟩ : ∃ y_ : List ByteArray, y_ = (x3_1 ++ [a0.extract (x4_1 : Int).toNat a0.size]) := ⟨_, rfl⟩
       replace H : (some y123) = some r := by first | (rw [hy123]; with_reducible exact H) | (have H2_ := (Option.bind_some _ _).symm.trans H; rw [hy123]; with_reducible exact H2_) | (have H2_ := (Option.bind_some _ _).symm.trans H; with_reducible exact H2_) | with_reducible exact H | (rw [hy123]; exact H) | exact H
       have Ny123 := Aside0.mk hy123
       clear hy123
       obtain rfl := Option.some.inj H
       go_wp2_with (first | ((with_reducible refine gate_builtin (b := .append) (xs := #[.tmp 34, .tmp 38]) rfl ?_); at_builtin; refine Kd.R_append Kd.string (w0 := w) w.heap.size rfl (.tmp 34) (.tmp 38) 61 9 (.string ⟨#[]⟩) 16 rfl Try.underlying61 info9 rfl (by decide) (by omega) u3 x3_1 (a0.extract (x4_1 : Int).toNat a0.size) [.string (a0.extract (x4_1 : Int).toNat a0.size)] (fun _ => True) (fun _ => False) rfl rfl ?aP (fun _ hk => hk.elim) ?aF ?aO ?aB ?aS ?aL ?_; (case aP => exact rfl); (case aB => exact bw); (case aF => exact (fun _ _ => trivial)); (case aO => exact (lf HO_3)); (case aS => exact (below_size bw)); (case aL => have := LMc20.out; omega); intro v124 w21 ho hb hg hat; rw [← Ny123.out] at ho; have n0_ := Aside0.mk (hb); have n1_ := Aside0.mk (ho); clear HB; clear HO_3; have HB := n0_; have HO125 := n1_; clear n0_ n1_; clear ho hb hg hat))
       go_ret
       exact ⟨_, by first | rfl | (simp [errW_none, errW_some] <;> rfl) | (simp [*, errW_none, errW_some] <;> rfl), lf HO125, bw⟩
      ·rw [if_neg c20] at H
       exact absurd H (by simp)
     ·rw [if_neg c19] at H
      exact absurd H (by simp)
    ·rw [if_neg c18] at H
     exact absurd H (by simp)

end Go.Proofs.Ytcdpmmpdfdillaa.Q

namespace Go.Proofs.Ytcdpmmpdfdillaa.Q
open Go.RowKit Go.Proofs.YtcdpmmpdfdillaaW.PrintWords Go.Proofs.YtcdpmmpdfdillaaW.PrintLast
set_option linter.unusedVariables false
set_option linter.unusedSimpArgs false
set_option linter.unusedSectionVars false
theorem par_end : ∀ k, (∀ p i o acc r, altL k p i o acc = some (.ok r) → r.2 = p.size ∨ bt p r.2 ≠ 124) ∧ (∀ p i o acc r, seqL k p i o acc = some (.ok r) → ¬ (r.2 < p.size ∧ (bt p r.2 ≠ 124 ∧ bt p r.2 ≠ 41)))
  | 0 => ⟨fun _ _ _ _ _ h => (by cases h), fun _ _ _ _ _ h => (by cases h)⟩
  | k + 1 => by
    obtain ⟨ia, is⟩ := par_end k
    refine ⟨fun p i o acc r h => ?_, fun p i o acc r h => ?_⟩
    · rw [altL_s] at h
      obtain ⟨x, hx, h⟩ := obind_ok h
      split at h
      · rename_i hc; cases h; exact hc
      · exact ia _ _ _ _ _ h
    · rw [seqL_s] at h
      split at h
      · obtain ⟨x, hx, h⟩ := obind_ok h
        obtain ⟨y, hy, h⟩ := Option.bind_eq_some_iff.mp h
        exact is _ _ _ _ _ h
      · rename_i hc; cases h; exact hc
theorem alt_end : ∀ k p i o acc r, altL k p i o acc = some (.ok r) → 0 ≤ i → i ≤ (p.size : Int) → r.2 < p.size → bt p r.2 = 41
  | 0, _, _, _, _, _, h, _, _, _ => by cases h
  | k + 1, p, i, o, acc, r, h, h0, h1, hl => by
    rw [altL_s] at h
    obtain ⟨x, hx, h⟩ := obind_ok h
    have hb := (par_ok k).2.1 _ _ _ _ _ hx h0 h1
    have he := (par_end k).2 _ _ _ _ _ hx
    split at h
    · rename_i hc
      cases h
      have hl' : x.2 < (p.size : Int) := hl
      show bt p x.2 = 41
      rcases hc with hc | hc
      · omega
      · exact Classical.not_not.mp fun h41 => he ⟨hl', hc, h41⟩
    · rename_i hc
      have : ¬ x.2 = (p.size : Int) := fun e => hc (.inl e)
      exact alt_end k _ _ _ _ _ h (by omega) (by omega) hl
theorem atom_noop {k : Nat} {p : ByteArray} {i o : Int} {r : Rx × Int} (h : atomF k p i o = some (.ok r)) : isOp (bt p i) = false := by
  cases k with
  | zero => cases h
  | succ k =>
    rw [atomF_s] at h
    by_cases hop : isOp (bt p i) = true
    · have n : bt p i ≠ 40 ∧ bt p i ≠ 91 ∧ bt p i ≠ 46 := by
        refine ⟨fun e => ?_, fun e => ?_, fun e => ?_⟩ <;> (rw [e] at hop; revert hop; decide)
      rw [if_neg n.1, if_neg n.2.1, if_neg n.2.2, if_pos (.inl hop)] at h
      cases h
    · simpa using hop
section
variable {p : ByteArray} (hp : p.size ≤ 200)
include hp
theorem ae_s (k : Nat) (i : Int) (h0 : 0 ≤ i) (h1 : i < p.size) : spec_l4AtomEnd.f (k + 1) p i = if bt p i = 92 then some (i + 2) else if bt p i = 91 then ((spec_l4Class.f k p i).bind fun b => some b.1) else if bt p i = 40 then spec_l4AtomEnd.l0 k p (i + 1) else some (i + 1) := by
  rw [spec_l4AtomEnd.f, if_pos h0, if_pos h1, wr1 hp h0 (Int.le_of_lt h1), wr2 hp h0 (Int.le_of_lt h1)]
theorem al_s (k : Nat) (i : Int) (h0 : 0 ≤ i) (h1 : i < p.size) : spec_l4AtomEnd.l0 (k + 1) p i = if bt p i = 41 then some (i + 1) else if bt p i = 124 then spec_l4AtomEnd.l0 k p (i + 1) else if isOp (bt p i) = true then spec_l4AtomEnd.l0 k p (i + 1) else (spec_l4AtomEnd.f k p i).bind fun t => spec_l4AtomEnd.l0 k p t := by
  rw [spec_l4AtomEnd.l0, if_pos h0, if_pos h1, wr1 hp h0 (Int.le_of_lt h1), l4Op_is hp]
  rfl
theorem op_ne {c : Int} (h : isOp c = true) : c ≠ 41 ∧ c ≠ 124 := by
  refine ⟨fun e => ?_, fun e => ?_⟩ <;> (rw [e] at h; revert h; decide)
theorem ops_end : ∀ (k : Nat) (i : Int) (x : Rx) (r : Rx × Int), opsF k p i x = some r → 0 ≤ i → i ≤ p.size → ∀ q, Ev (fun n => spec_l4AtomEnd.l0 n p r.2) q → Ev (fun n => spec_l4AtomEnd.l0 n p i) q
  | 0, _, _, _, h, _, _ => by cases h
  | k + 1, i, x, r, h, h0, h1 => by
    intro q hq
    simp only [opsF] at h
    split at h
    · rename_i hc
      have hn := op_ne hp hc.2
      refine Ev.step (fun n => ?_) (ops_end k (i + 1) _ r h (by omega) (by omega) q hq)
      rw [al_s hp n i h0 hc.1, if_neg hn.1, if_neg hn.2, if_pos hc.2]
    · cases h; exact hq
theorem par_ends : ∀ k, (∀ i o acc r, altL k p i o acc = some (.ok r) → 0 ≤ i → i ≤ (p.size : Int) → ∀ q, Ev (fun n => spec_l4AtomEnd.l0 n p r.2) q → Ev (fun n => spec_l4AtomEnd.l0 n p i) q) ∧
    (∀ i o acc r, seqL k p i o acc = some (.ok r) → 0 ≤ i → i ≤ (p.size : Int) → ∀ q, Ev (fun n => spec_l4AtomEnd.l0 n p r.2) q → Ev (fun n => spec_l4AtomEnd.l0 n p i) q) ∧
    (∀ i o r, atomF k p i o = some (.ok r) → 0 ≤ i → i < (p.size : Int) → Ev (fun n => spec_l4AtomEnd.f n p i) r.2)
  | 0 => ⟨fun _ _ _ _ h => (by cases h), fun _ _ _ _ h => (by cases h), fun _ _ _ h => (by cases h)⟩
  | k + 1 => by
    obtain ⟨ia, is, im⟩ := par_ends k
    refine ⟨fun i o acc r h h0 h1 q hq => ?_, fun i o acc r h h0 h1 q hq => ?_, fun i o r h h0 h1 => ?_⟩
    · rw [altL_s] at h
      obtain ⟨x, hx, h⟩ := obind_ok h
      have hb := (par_ok k).2.1 _ _ _ _ _ hx h0 h1
      split at h
      · cases h; exact is _ _ _ _ hx h0 h1 q hq
      · rename_i hc
        have e1 : ¬ x.2 = (p.size : Int) := fun e => hc (.inl e)
        have e2 : bt p x.2 = 124 := Classical.not_not.mp fun e => hc (.inr e)
        refine is _ _ _ _ hx h0 h1 q (Ev.step (fun n => ?_) (ia _ _ _ _ h (by omega) (by omega) q hq))
        rw [al_s hp n x.2 (by omega) (by omega), if_neg (by omega), if_pos e2]
    · rw [seqL_s] at h
      split at h
      · rename_i hc
        obtain ⟨x, hx, h⟩ := obind_ok h
        have hb := (par_ok k).2.2 _ _ _ _ hx h0 hc.1
        obtain ⟨y, hy, h⟩ := Option.bind_eq_some_iff.mp h
        have hb2 := opsF_ok _ _ _ _ _ hy hb.2
        have hno := atom_noop hx
        refine Ev.step (fun n => ?_) (Ev.bind (im _ _ _ hx h0 hc.1) (ops_end hp k x.2 x.1 y hy (by omega) hb.2 q (is _ _ _ _ h (by omega) hb2.2 q hq)))
        rw [al_s hp n i h0 hc.1, if_neg hc.2.2, if_neg hc.2.1, if_neg (by rw [hno]; decide)]
      · cases h; exact hq
    · have hs := fun n => ae_s hp n i h0 h1
      rw [atomF_s] at h
      by_cases n40 : bt p i = 40
      · rw [if_pos n40] at h
        split at h
        · cases h
        · obtain ⟨x, hx, h⟩ := obind_ok h
          have hb := (par_ok k).1 _ _ _ _ _ hx (by omega) (by omega)
          split at h
          · cases h
          · rename_i e1
            cases h
            have hlt : x.2 < (p.size : Int) := by omega
            have h41 := alt_end k _ _ _ _ _ hx (by omega) (by omega) hlt
            refine Ev.step (fun n => ?_) (ia _ _ _ _ hx (by omega) (by omega) (x.2 + 1) (Ev.step (f := fun _ => some (x.2 + 1)) (fun n => ?_) (Ev.now _)))
            · rw [hs, if_neg (by omega), if_neg (by omega), if_pos n40]
            · rw [al_s hp n x.2 (by omega) hlt, if_pos h41]
      · rw [if_neg n40] at h
        by_cases n91 : bt p i = 91
        · rw [if_pos n91] at h
          obtain ⟨x, hx, h⟩ := obind_ok h
          cases h
          obtain ⟨q, hq, hc⟩ := class_spec hp h0 h1
          have e := Ev.same (Ev.of (leo_cla · p (i + 1)) hx) hq
          subst e
          rcases hc with ⟨s, j, e, hc⟩ | ⟨c, a, e, _⟩
          · cases e
            exact Ev.step (fun n => by rw [hs, if_neg (by omega), if_pos n91]) (Ev.bind hc (Ev.now _))
          · cases e
        · rw [if_neg n91] at h
          split at h
          · rename_i n46
            cases h
            exact Ev.step (f := fun _ => some (i + 1)) (fun n => by rw [hs, if_neg (by omega), if_neg n91, if_neg n40]) (Ev.now _)
          · split at h
            · cases h
            · split at h
              · rename_i n92
                split at h
                · cases h
                · cases h
                  exact Ev.step (f := fun _ => some (i + 2)) (fun n => by rw [hs, if_pos n92]) (Ev.now _)
              · rename_i n92
                cases h
                exact Ev.step (f := fun _ => some (i + 1)) (fun n => by rw [hs, if_neg n92, if_neg n91, if_neg n40]) (Ev.now _)
/-! The parts. -/
theorem pt_s (k : Nat) (out : List ByteArray) (f i : Int) (h0 : 0 ≤ i) (h1 : i < p.size) (f0 : 0 ≤ f) (f1 : f ≤ i) (ho : out.length < 8796093022208) : spec_l4Parts.l0 (k + 1) p out f i = if bt p i = 124 then spec_l4Parts.l0 k p (out ++ [p.extract f.toNat i.toNat]) (i + 1) (i + 1) else if isOp (bt p i) = true then spec_l4Parts.l0 k p out f (i + 1) else (spec_l4AtomEnd.f k p i).bind fun t => spec_l4Parts.l0 k p out f t := by
  rw [spec_l4Parts.l0, if_pos h1, if_pos h0, wr1 hp h0 (Int.le_of_lt h1), l4Op_is hp, if_pos f0, if_pos f1, if_pos (show i ≤ (p.size : Int) by omega), if_pos ho]
  rfl
theorem parts_ops : ∀ (k : Nat) (i : Int) (x : Rx) (r : Rx × Int), opsF k p i x = some r → 0 ≤ i → i ≤ p.size → ∀ out f q, 0 ≤ f → f ≤ i → out.length < 8796093022208 → Ev (fun n => spec_l4Parts.l0 n p out f r.2) q → Ev (fun n => spec_l4Parts.l0 n p out f i) q
  | 0, _, _, _, h, _, _ => by cases h
  | k + 1, i, x, r, h, h0, h1 => by
    intro out f q f0 f1 ho hq
    simp only [opsF] at h
    split at h
    · rename_i hc
      have hn := op_ne hp hc.2
      refine Ev.step (fun n => ?_) (parts_ops k (i + 1) _ r h (by omega) (by omega) out f q f0 (by omega) ho hq)
      rw [pt_s hp n out f i h0 hc.1 f0 f1 ho, if_neg hn.2, if_pos hc.2]
    · cases h; exact hq
theorem parts_seq : ∀ (k : Nat) (i o : Int) (acc : List Rx) (r : Rx × Int), seqL k p i o acc = some (.ok r) → 0 ≤ i → i ≤ (p.size : Int) → ∀ out f q, 0 ≤ f → f ≤ i → out.length < 8796093022208 → Ev (fun n => spec_l4Parts.l0 n p out f r.2) q → Ev (fun n => spec_l4Parts.l0 n p out f i) q
  | 0, _, _, _, _, h, _, _ => by cases h
  | k + 1, i, o, acc, r, h, h0, h1 => by
    intro out f q f0 f1 ho hq
    rw [seqL_s] at h
    split at h
    · rename_i hc
      obtain ⟨x, hx, h⟩ := obind_ok h
      have hb := (par_ok k).2.2 _ _ _ _ hx h0 hc.1
      obtain ⟨y, hy, h⟩ := Option.bind_eq_some_iff.mp h
      have hb2 := opsF_ok _ _ _ _ _ hy hb.2
      have hno := atom_noop hx
      refine Ev.step (fun n => ?_) (Ev.bind ((par_ends hp k).2.2 _ _ _ hx h0 hc.1) (parts_ops hp k x.2 x.1 y hy (by omega) hb.2 out f q f0 (by omega) ho (parts_seq k _ _ _ _ h (by omega) hb2.2 out f q f0 (by omega) ho hq)))
      rw [pt_s hp n out f i h0 hc.1 f0 f1 ho, if_neg hc.2.1, if_neg (by rw [hno]; decide)]
    · cases h; exact hq
theorem parts_alt : ∀ (k : Nat) (i o : Int) (acc : List Rx) (r : Rx × Int), altL k p i o acc = some (.ok r) → 0 ≤ i → i ≤ (p.size : Int) → r.2 = p.size → ∀ (out : List ByteArray), (out.length : Int) ≤ i → ∃ zs ps, r.1 = .alt (acc ++ zs) ∧ ps.length = zs.length ∧ Ev (fun n => spec_l4Parts.l0 n p out i i) (out ++ ps)
  | 0, _, _, _, _, h, _, _, _ => by cases h
  | k + 1, i, o, acc, r, h, h0, h1, hr => by
    intro out ho
    have ho2 : out.length < 8796093022208 := by omega
    rw [altL_s] at h
    obtain ⟨x, hx, h⟩ := obind_ok h
    have hb := (par_ok k).2.1 _ _ _ _ _ hx h0 h1
    split at h
    · cases h
      have hr' : x.2 = (p.size : Int) := hr
      refine ⟨[x.1], [p.extract i.toNat p.size], rfl, rfl, parts_seq hp k _ _ _ _ hx h0 h1 out i _ h0 (Int.le_refl _) ho2 (Ev.step (f := fun _ => some (out ++ [p.extract i.toNat p.size])) (fun n => ?_) (Ev.now _))⟩
      rw [spec_l4Parts.l0, if_neg (by omega), if_pos h0, if_pos h1, if_pos ho2]
    · rename_i hc
      have e1 : ¬ x.2 = (p.size : Int) := fun e => hc (.inl e)
      have e2 : bt p x.2 = 124 := Classical.not_not.mp fun e => hc (.inr e)
      obtain ⟨zs, ps, ez, el, hv⟩ := parts_alt k (x.2 + 1) o (acc ++ [x.1]) r h (by omega) (by omega) hr (out ++ [p.extract i.toNat x.2.toNat]) (by rw [List.length_append]; simp only [List.length_cons, List.length_nil]; omega)
      refine ⟨x.1 :: zs, p.extract i.toNat x.2.toNat :: ps, by rw [ez, List.append_assoc]; rfl, by simp [el], parts_seq hp k _ _ _ _ hx h0 h1 out i _ h0 (Int.le_refl _) ho2 (Ev.step (fun n => ?_) (by rw [List.append_assoc] at hv; exact hv))⟩
      rw [pt_s hp n out i x.2 (by omega) (by omega) h0 (by omega) ho2, if_pos e2]
end
end Go.Proofs.Ytcdpmmpdfdillaa.Q

namespace Go.Proofs.Ytcdpmmpdfdillaa.Q
open Go.RowKit Go.Proofs.YtcdpmmpdfdillaaW.PrintWords Go.Proofs.YtcdpmmpdfdillaaW.PrintLast Go.Proofs.YtcdpmmpdfdillaaW.PrintMore
set_option linter.unusedVariables false
set_option linter.unusedSimpArgs false

/-! ### spec_l4None: function 30 -/
mutual
def spec_l4None.l0 : Nat → Int → List (List Bool) → Int → Option ((List (List Bool)))
 | 0, _, _, _ => none
 | k + 1, x0, x3, x4 => if x4 ≤ x0 then (spec_l4None.l1 k x0 x3 x4 (([] : List Bool)) 0) else (some x3)
def spec_l4None.l1 : Nat → Int → List (List Bool) → Int → List Bool → Int → Option ((List (List Bool)))
 | 0, _, _, _, _, _ => none
 | k + 1, x0, x3, x4, x5, x6 => if x6 ≤ x0 then (if x5.length < 140737488355328 then (spec_l4None.l1 k x0 x3 x4 (x5 ++ [false]) (wrap64 (x6 + 1))) else (none)) else (if x3.length < 5864062014805 then (spec_l4None.l0 k x0 (x3 ++ [x5]) (wrap64 (x4 + 1))) else (none))
end
def spec_l4None.f (k : Nat) (a0 : Int) : Option ((List (List Bool))) := spec_l4None.l0 k a0 (([] : List (List Bool))) 0
set_option maxHeartbeats 8000000 in
set_option maxRecDepth 100000 in
theorem spec_l4None.calls (k : Nat) (a0 : Int) (r : List (List Bool)) (w : World) (h : spec_l4None.f k a0 = some r) :
  Calls Try.prog 30 #[.int .i64 a0] w fun e w' => ∃ v0_ : Value, e = .returned (v0_) ∧ Kd.S (Kd.slice 4 Kd.bool) 33 w' w.heap.size (fun _ => True) v0_ r ∧ Below w.heap.size w w' := by
 have HB := Aside0.mk (Below.refl w.heap.size w)
 have H : (spec_l4None.l0 k a0 (([] : List (List Bool))) 0) = some r := h
 clear h
 obtain ⟨y131, hy131⟩ : ∃ y_ : List (List Bool), y_ = (([] : List (List Bool))) := ⟨_, rfl⟩
 replace H : (spec_l4None.l0 k a0 y131 0) = some r := by first | (rw [hy131]; with_reducible exact H) | (have H2_ := (Option.bind_some _ _).symm.trans H; rw [hy131]; with_reducible exact H2_) | (have H2_ := (Option.bind_some _ _).symm.trans H; with_reducible exact H2_) | with_reducible exact H | (rw [hy131]; exact H) | exact H
 have Ny131 := Aside0.mk hy131
 clear hy131
 have H' := Aside0.mk H
 clear H
 go_enter Try.func30, Try.ntmps30
 go_wp2_with (first | ((with_reducible refine gate_dst (N := 7) rfl ?_); refine Kd.S_lit (Kd.slice 4 Kd.bool) _ 33 ?hg (N := 7) ?hd (xs := ([] : List (List Bool))) (inner := []) (ok := fun _ => True) (okp := fun _ => True) ?hr ?hp (fun _ hk => hk) trivial (Below.refl _ _) (Nat.le_refl _) (by simp) ?_; (case hd => rfl); (case hg => rfl); (case hr => first | (go_simp; done) | (go_simp; rfl)); (case hp => exact (Reps.none _ _)); intro v132 w2 ho3 hb hg_ hnew_; clear hg_ hnew_; (first | rw [← Ny131.out] at ho3 | (simp only [Int.reduceToNat] at ho3; rw [← Ny131.out] at ho3)); have n0_ := Aside0.mk (Kd.S_lower ho3 (below_size bw)); have n1_ := Aside0.mk (below_step bw hb); clear HB; have HO133 := n0_; have HB := n1_; clear n0_ n1_; clear hb ho3))
 go_loopg [3, 4] k (fun kq v3 v4 w' => ∃ (x3_1 : List (List Bool)) (x4_1 : Int), v4 = .int .i64 x4_1 ∧ Aside0 (spec_l4None.l0 kq a0 x3_1 x4_1 = some r) ∧ Aside0 (kq ≤ k) ∧ Aside0 (Kd.S (Kd.slice 4 Kd.bool) 33 w' w.heap.size (fun _ => True) v3 x3_1) ∧ Aside0 (Below w.heap.size w w'))
 case atStart => exact ⟨(y131), (0), (by first | rfl | (simp; done) | (simp [*]; done)), H', ⟨Nat.le_refl _⟩, ⟨by (with_reducible repeat (first | apply Kd.S_alloc | apply Kd.S_drewN | apply Kd.S_drew)); exact HO133.out⟩, ⟨bw⟩⟩
 case round =>
  clear H'
  try clear p2
  try clear c3
  obtain ⟨x3_1, x4_1, rfl, HA, HK1, HO_3, HB⟩ := hrel
  cases gk with
  | zero => exact absurd HA.out (by simp [spec_l4None.l0])
  | succ k1 =>
   have H := HA.out
   clear HA
   simp only [spec_l4None.l0] at H
   by_cases c4 : x4_1 ≤ a0
   ·rw [if_pos c4] at H
    have c4b0 : decide (x4_1 ≤ a0) = true := decide_eq_true c4
    clear c4
    obtain ⟨y134, hy134⟩ : ∃ y_ : List Bool, y_ = (([] : List Bool)) := ⟨_, rfl⟩
    replace H : (spec_l4None.l1 k1 a0 x3_1 x4_1 y134 0) = some r := by first | (rw [hy134]; with_reducible exact H) | (have H2_ := (Option.bind_some _ _).symm.trans H; rw [hy134]; with_reducible exact H2_) | (have H2_ := (Option.bind_some _ _).symm.trans H; with_reducible exact H2_) | with_reducible exact H | (rw [hy134]; exact H) | exact H
    have Ny134 := Aside0.mk hy134
    clear hy134
    have H' := Aside0.mk H
    clear H
    go_wp2_with (first | ((with_reducible refine gate_dst (N := 13) rfl ?_); refine Kd.R_lit Kd.bool _ 4 ?hg (N := 13) ?hd (xs := ([] : List Bool)) (inner := []) (ok := fun _ => True) (okp := fun _ => True) ?hr ?hp (fun _ hk => hk) trivial (Below.refl _ _) (Nat.le_refl _) (by simp) ?_; (case hd => rfl); (case hg => rfl); (case hr => first | (go_simp; done) | (go_simp; rfl)); (case hp => exact (Reps.none _ _)); intro v135 w5 ho6 hb hg_ hnew_; clear hg_ hnew_; (first | rw [← Ny134.out] at ho6 | (simp only [Int.reduceToNat] at ho6; rw [← Ny134.out] at ho6)); have n0_ := Aside0.mk (Kd.S_elder' (by (with_reducible repeat (first | apply Kd.S_alloc | apply Kd.S_drewN | apply Kd.S_drew)); exact HO_3.out) (Kd.R_base ho6) hb); have n1_ := Aside0.mk (Kd.R_lower ho6 (below_size bw)); have n2_ := Aside0.mk (below_step bw hb); clear HO_3; clear HB; have HO_3 := n0_; have HO136 := n1_; have HB := n2_; clear n0_ n1_ n2_; clear hb ho6))
    go_loopg [5, 6] k1 (fun kq v5 v6 w' => ∃ (x5_2 : List Bool) (x6_2 : Int), v6 = .int .i64 x6_2 ∧ Aside0 (spec_l4None.l1 kq a0 x3_1 x4_1 x5_2 x6_2 = some r) ∧ Aside0 (kq ≤ k1) ∧ Aside0 (Kd.S (Kd.slice 4 Kd.bool) 33 w' w.heap.size (fun k_ => some k_ ≠ (v5 : Value).ownBlock) u3 x3_1) ∧ Aside0 (Kd.R Kd.bool 4 w' w.heap.size (fun _ => True) v5 x5_2) ∧ Aside0 (Below w.heap.size w w'))
    case atStart => exact ⟨(y134), (0), (by first | rfl | (simp; done) | (simp [*]; done)), H', ⟨Nat.le_refl _⟩, ⟨by (with_reducible repeat (first | apply Kd.S_alloc | apply Kd.S_drewN | apply Kd.S_drew)); exact Kd.S_mono HO_3.out (fun _ hk => hk.2)⟩, ⟨lf HO136⟩, ⟨bw⟩⟩
    case round =>
     clear H'
     try clear p2
     try clear c3
     try clear c4
     try clear c4b0
     try clear p2
     obtain ⟨x5_2, x6_2, rfl, HA, HK2, HO_3, HO_5, HB⟩ := hrel
     cases gk with
     | zero => exact absurd HA.out (by simp [spec_l4None.l1])
     | succ k2 =>
      have H := HA.out
      clear HA
      simp only [spec_l4None.l1] at H
      by_cases c7 : x6_2 ≤ a0
      ·rw [if_pos c7] at H
       have c7b0 : decide (x6_2 ≤ a0) = true := decide_eq_true c7
       clear c7
       by_cases c8 : x5_2.length < 140737488355328
       ·rw [if_pos c8] at H
        have LMc8 := Aside0.mk c8
        clear c8
        obtain ⟨y137, hy137⟩ : ∃ y_ : List Bool, y_ = (x5_2 ++ [false]) := ⟨_, rfl⟩
        replace H : (spec_l4None.l1 k2 a0 x3_1 x4_1 y137 (wrap64 (x6_2 + 1))) = some r := by first | (rw [hy137]; with_reducible exact H) | (have H2_ := (Option.bind_some _ _).symm.trans H; rw [hy137]; with_reducible exact H2_) | (have H2_ := (Option.bind_some _ _).symm.trans H; with_reducible exact H2_) | with_reducible exact H | (rw [hy137]; exact H) | exact H
        have Ny137 := Aside0.mk hy137
        clear hy137
        have H' := Aside0.mk H
        clear H
        go_wp2_with (first | ((with_reducible refine gate_builtin (b := .append) (xs := #[.tmp 19, .tmp 20]) rfl ?_); at_builtin; refine Kd.R_append Kd.bool (w0 := w) w.heap.size rfl (.tmp 19) (.tmp 20) 33 4 (.bool false) 1 rfl Try.underlying33 info4 rfl (by decide) (by omega) u5 x5_2 false [.bool false] (fun _ => True) (fun _ => False) rfl rfl ?aP (fun _ hk => hk.elim) ?aF ?aO ?aB ?aS ?aL ?_; (case aP => exact rfl); (case aB => exact bw); (case aF => exact (fun _ _ => trivial)); (case aO => exact (lf HO_5)); (case aS => exact (below_size bw)); (case aL => have := LMc8.out; omega); intro v138 w9 ho hb hg hat; rw [← Ny137.out] at ho; have n0_ := Aside0.mk (Kd.S_after (ok := (fun _ => True)) (by (with_reducible repeat (first | apply Kd.S_alloc | apply Kd.S_drewN | apply Kd.S_drew)); exact Kd.S_mono HO_3.out (fun _ hk => ⟨trivial, hk⟩)) hg hat); have n1_ := Aside0.mk (hb); have n2_ := Aside0.mk (ho); clear HO_3; clear HB; clear HO_5; have HO_3 := n0_; have HB := n1_; have HO139 := n2_; clear n0_ n1_ n2_; clear ho hb hg hat))
        go_roundg k2
        case measure => have := HK1.out; have := HK2.out; omega
        case rel => exact ⟨(y137), (wrap64 (x6_2 + 1)), (by first | rfl | (simp; done) | (simp [*]; done)), H', ⟨by have := HK1.out; have := HK2.out; omega⟩, ⟨by (with_reducible repeat (first | apply Kd.S_alloc | apply Kd.S_drewN | apply Kd.S_drew)); exact Kd.S_mono HO_3.out (fun _ hk => hk.2)⟩, ⟨lf HO139⟩, ⟨bw⟩⟩
       ·rw [if_neg c8] at H
        exact absurd H (by simp)
      ·rw [if_neg c7] at H
       have c7b0 : decide (x6_2 ≤ a0) = false := decide_eq_false c7
       clear c7
       by_cases c10 : x3_1.length < 5864062014805
       ·rw [if_pos c10] at H
        have LMc10 := Aside0.mk c10
        clear c10
        obtain ⟨y140, hy140⟩ : ∃ y_ : List (List Bool), y_ = (x3_1 ++ [x5_2]) := ⟨_, rfl⟩
        replace H : (spec_l4None.l0 k2 a0 y140 (wrap64 (x4_1 + 1))) = some r := by first | (rw [hy140]; with_reducible exact H) | (have H2_ := (Option.bind_some _ _).symm.trans H; rw [hy140]; with_reducible exact H2_) | (have H2_ := (Option.bind_some _ _).symm.trans H; with_reducible exact H2_) | with_reducible exact H | (rw [hy140]; exact H) | exact H
        have Ny140 := Aside0.mk hy140
        clear hy140
        have H' := Aside0.mk H
        clear H
        obtain ⟨Ao12, co12, eo12⟩ := Kd.R_slice HO_5.out
        subst eo12
        go_wp2_with (first | ((with_reducible refine gate_builtin (b := .append) (xs := #[.tmp 22, .tmp 24]) rfl ?_); at_builtin; refine Kd.S_append (Kd.slice 4 Kd.bool) (w0 := w) w.heap.size rfl (.tmp 22) (.tmp 24) 34 33 (.slice none 0 0) 24 rfl Try.underlying34 info33 rfl (by decide) (by omega) u3 x3_1 x5_2 [.slice Ao12 x5_2.length co12] (fun _ => True) (fun k_ => some k_ = (.slice Ao12 x5_2.length co12 : Value).ownBlock) rfl rfl ?aP (fun k_ hk_ => ((Kd.R_mono (ok' := fun k_ => ((fun _ => True)) k_ ∧ some k_ ≠ (u3 : Value).ownBlock) (Kd.R_apart' (HO_5.out) (Kd.S_typed HO_3.out) (by decide)) (fun k_ hk => ⟨trivial, hk.2⟩))).1 k_ hk_.symm) ?aF ?aO ?aB ?aS ?aL ?_; (case aP => exact Kd.M_row (Kd.R_mono (Kd.R_tight rfl (Kd.R_mono (ok' := fun k_ => ((fun _ => True)) k_ ∧ some k_ ≠ (u3 : Value).ownBlock) (Kd.R_apart' (HO_5.out) (Kd.S_typed HO_3.out) (by decide)) (fun k_ hk => ⟨trivial, hk.2⟩))) (fun _ h_ => h_))); (case aB => exact bw); (case aF => exact (fun _ _ => trivial)); (case aO => exact (by (with_reducible repeat (first | apply Kd.S_alloc | apply Kd.S_drewN | apply Kd.S_drew)); exact Kd.S_mono HO_3.out (fun k_ hk => ⟨trivial, fun e_ => hk e_⟩))); (case aS => exact (below_size bw)); (case aL => have := LMc10.out; omega); intro v141 w11 ho hb hg hat; rw [← Ny140.out] at ho; have n0_ := Aside0.mk (hb); have n1_ := Aside0.mk (ho); clear HB; clear HO_3; clear HO_5; have HB := n0_; have HO142 := n1_; clear n0_ n1_; clear ho hb hg hat))
        go_roundg k2
        case measure => have := HK1.out; have := HK2.out; omega
        case rel => exact ⟨(y140), (wrap64 (x4_1 + 1)), (by first | rfl | (simp; done) | (simp [*]; done)), H', ⟨by have := HK1.out; have := HK2.out; omega⟩, ⟨by (with_reducible repeat (first | apply Kd.S_alloc | apply Kd.S_drewN | apply Kd.S_drew)); exact HO142.out⟩, ⟨bw⟩⟩
       ·rw [if_neg c10] at H
        exact absurd H (by simp)
   ·rw [if_neg c4] at H
    have c4b0 : decide (x4_1 ≤ a0) = false := decide_eq_false c4
    clear c4
    obtain rfl := Option.some.inj H
    go_wp2
    go_ret
    exact ⟨_, by first | rfl | (simp [errW_none, errW_some] <;> rfl) | (simp [*, errW_none, errW_some] <;> rfl), by (with_reducible repeat (first | apply Kd.S_alloc | apply Kd.S_drewN | apply Kd.S_drew)); exact HO_3.out, bw⟩

end Go.Proofs.Ytcdpmmpdfdillaa.Q

namespace Go.Proofs.Ytcdpmmpdfdillaa.Q
open Go.RowKit Go.Proofs.YtcdpmmpdfdillaaW.PrintWords Go.Proofs.YtcdpmmpdfdillaaW.PrintLast Go.Proofs.YtcdpmmpdfdillaaW.PrintMore
set_option linter.unusedVariables false
set_option linter.unusedSimpArgs false

/-! ### spec_l4Empty: function 40 -/
def spec_l4Empty.l0 : Nat → Int → List (List Bool) → Int → Option ((List (List Bool)))
 | 0, _, _, _ => none
 | k + 1, x0, x3, x4 => if x4 ≤ x0 then (if 0 ≤ x4 then (if x4 < (x3.length : Int) then (if x4 < ((rd_L2 x3 x4).length : Int) then (spec_l4Empty.l0 k x0 (x3.set (x4 : Int).toNat ((rd_L2 x3 x4).set (x4 : Int).toNat true)) (wrap64 (x4 + 1))) else (none)) else (none)) else (none)) else (some x3)
def spec_l4Empty.f (k : Nat) (a0 : Int) : Option ((List (List Bool))) := (spec_l4None.f k a0).bind fun t157 => (spec_l4Empty.l0 k a0 t157 0)
set_option maxHeartbeats 8000000 in
set_option maxRecDepth 100000 in
theorem spec_l4Empty.calls (k : Nat) (a0 : Int) (r : List (List Bool)) (w : World) (h : spec_l4Empty.f k a0 = some r) :
  Calls Try.prog 40 #[.int .i64 a0] w fun e w' => ∃ v0_ : Value, e = .returned (v0_) ∧ Kd.S (Kd.slice 4 Kd.bool) 33 w' w.heap.size (fun _ => True) v0_ r ∧ Below w.heap.size w w' := by
 have HB := Aside0.mk (Below.refl w.heap.size w)
 have H : ((spec_l4None.f k a0).bind fun t157 => (spec_l4Empty.l0 k a0 t157 0)) = some r := h
 clear h
 replace H := Option.bind_eq_some_iff.mp H
 obtain ⟨t157, A20, H⟩ := H
 replace H : (spec_l4Empty.l0 k a0 t157 0) = some r := H
 have A2 := Aside0.mk A20
 clear A20
 have H' := Aside0.mk H
 clear H
 go_enter Try.func40, Try.ntmps40
 go_wp2_with (first | ((with_reducible refine at_fn (f := 30) rfl ?_); refine goesL_ (some 6) rfl rfl Try.func30 (by kernel_rfl) rfl #[.int .i64 a0] rfl (by (try simp only [List.map_toArray, List.map_cons, List.map_nil]); first | done | rfl | (simp only [List.length_drop, List.length_take]; rfl)) ?_; (with_reducible refine (spec_l4None.calls k a0 t157 _ A2.out).mono ?_); rintro e w3 ⟨v158, rfl, ho0, hb⟩; refine ⟨_, rfl, ?_⟩; have n0_ := Aside0.mk (Kd.S_lower ho0 (below_size bw)); have n1_ := Aside0.mk (below_step bw hb); clear HB; have HO159 := n0_; have HB := n1_; clear n0_ n1_; (try clear hb); (try clear hb2); (try clear hk); (try clear hi); (try clear ho0)))
 go_loopg [4] k (fun kq v4 w' => ∃ (x3_1 : List (List Bool)) (x4_1 : Int), v4 = .int .i64 x4_1 ∧ Aside0 (spec_l4Empty.l0 kq a0 x3_1 x4_1 = some r) ∧ Aside0 (kq ≤ k) ∧ Aside0 (Kd.S (Kd.slice 4 Kd.bool) 33 w' w.heap.size (fun _ => True) v158 x3_1) ∧ Aside0 (Below w.heap.size w w'))
 case atStart => exact ⟨(t157), (0), (by first | rfl | (simp; done) | (simp [*]; done)), H', ⟨Nat.le_refl _⟩, ⟨by (with_reducible repeat (first | apply Kd.S_alloc | apply Kd.S_drewN | apply Kd.S_drew)); exact HO159.out⟩, ⟨bw⟩⟩
 case round =>
  clear H'
  try clear p2
  try clear c3
  obtain ⟨x3_1, x4_1, rfl, HA, HK1, HO_3, HB⟩ := hrel
  cases gk with
  | zero => exact absurd HA.out (by simp [spec_l4Empty.l0])
  | succ k1 =>
   have H := HA.out
   clear HA
   simp only [spec_l4Empty.l0] at H
   by_cases c4 : x4_1 ≤ a0
   ·rw [if_pos c4] at H
    have c4b0 : decide (x4_1 ≤ a0) = true := decide_eq_true c4
    clear c4
    by_cases c5 : 0 ≤ x4_1
    ·rw [if_pos c5] at H
     have c5b0 : decide (0 ≤ x4_1) = true := decide_eq_true c5
     clear c5
     by_cases c6 : x4_1 < (x3_1.length : Int)
     ·rw [if_pos c6] at H
      have c6b0 : decide (x4_1 < (x3_1.length : Int)) = true := decide_eq_true c6
      clear c6
      by_cases c7 : x4_1 < ((rd_L2 x3_1 x4_1).length : Int)
      ·rw [if_pos c7] at H
       have c7b0 : decide (x4_1 < ((rd_L2 x3_1 x4_1).length : Int)) = true := decide_eq_true c7
       clear c7
       obtain ⟨y161, hy161⟩ : ∃ y_ : List Bool, y_ = ((rd_L2 x3_1 x4_1).set (x4_1 : Int).toNat true) := ⟨_, rfl⟩
       replace H : (spec_l4Empty.l0 k1 a0 (x3_1.set (x4_1 : Int).toNat y161) (wrap64 (x4_1 + 1))) = some r := by first | (rw [hy161]; with_reducible exact H) | (have H2_ := (Option.bind_some _ _).symm.trans H; rw [hy161]; with_reducible exact H2_) | (have H2_ := (Option.bind_some _ _).symm.trans H; with_reducible exact H2_) | with_reducible exact H | (rw [hy161]; exact H) | exact H
       have Ny161 := Aside0.mk hy161
       clear hy161
       obtain ⟨y163, hy163⟩ : ∃ y_ : List (List Bool), y_ = (x3_1.set (x4_1 : Int).toNat y161) := ⟨_, rfl⟩
       replace H : (spec_l4Empty.l0 k1 a0 y163 (wrap64 (x4_1 + 1))) = some r := by first | (rw [hy163]; with_reducible exact H) | (have H2_ := (Option.bind_some _ _).symm.trans H; rw [hy163]; with_reducible exact H2_) | (have H2_ := (Option.bind_some _ _).symm.trans H; with_reducible exact H2_) | with_reducible exact H | (rw [hy163]; exact H) | exact H
       have Ny163 := Aside0.mk hy163
       clear hy163
       have H' := Aside0.mk H
       clear H
       obtain ⟨Ao9, co9, eo9⟩ := Kd.S_slice HO_3.out
       subst eo9
       have p160 : 0 ≤ (x4_1 : Int) := of_decide_eq_true (by first | (with_reducible assumption) | assumption)
       have q160 : x4_1 < (x3_1.length : Int) := of_decide_eq_true (by first | (with_reducible assumption) | assumption)
       obtain ⟨ad160, A160_0, c160_0, e160, hx160_0, hl160_0, hi160_0⟩ := at_L2 (Kd.S_reads' HO_3.out).2.2 x4_1 p160 q160
       cases e160
       obtain ⟨ce160, hce160, hMe160, hcc160⟩ := Kd.S_get HO_3.out [] x4_1 p160 (by first | exact q160 | exact of_decide_eq_true (by first | (with_reducible assumption) | assumption) | (have e_ := (Kd.S_reads' HO_3.out).1; omega))
       obtain ⟨ve160_0, rfl, ge160_0⟩ := hMe160
       have hv160_0 := hcc160 0 _ rfl
       rw [Nat.add_zero, show ((Kd.slice 4 Kd.bool)).sz = 1 from rfl, Nat.mul_one] at hv160_0
       replace hv160_0 := Option.some.inj (hv160_0.symm.trans hx160_0)
       rw [hv160_0] at ge160_0
       have HL160_0 := Aside0.mk (show Kd.R Kd.bool 4 _ _ _ _ (rd_L2 x3_1 x4_1) from ge160_0)
       clear hv160_0 ge160_0
       have HX160_0 := Aside0.mk hx160_0
       clear hcc160 hce160
       have HR160_0 := Aside0.mk hi160_0
       have HC160_0 := Aside0.mk hl160_0
       clear hi160_0 hl160_0
       replace p160 := eq_true p160
       replace q160 := eq_true q160
       have p8 : 0 ≤ (x4_1 : Int) := of_decide_eq_true (by first | (with_reducible assumption) | assumption)
       have q8 : (x4_1 : Int) < (((rd_L2 x3_1 x4_1).length : Int) : Int) := of_decide_eq_true (by first | (with_reducible assumption) | assumption)
       obtain ⟨go8, co8, eo8, gb8, gl8, cl8, HG8⟩ := Kd.R_form HL160_0.out (by omega)
       (first | cases eo8 | (injection eo8 with ea_ en_ ec_; (first | subst ea_ | (injection ea_ with ea_; subst ea_)); subst ec_; clear en_))
       have GB8 := Aside0.mk gb8
       have GG8 := Aside0.mk HG8
       clear gb8 gl8 HG8
       obtain ⟨hx8_0, hf8_0⟩ := Kd.R_celln false HL160_0.out (x4_1 : Int) p8 q8
       replace p8 := eq_true p8
       replace q8 := eq_true q8
       have hq10 : (x4_1 : Int) < (x3_1.length : Int) := (by have h_ : (x4_1 : Int) < ((x3_1.length : Int) : Int) := of_decide_eq_true (by first | (with_reducible assumption) | assumption); first | exact h_ | (have e_ := (Kd.S_reads' HO_3.out).1; omega) | simpa only [List.length_set, List.length_set] using h_)
       obtain ⟨oki10, ce10, hcl10, hM10, hcc10, hok10, hbk10⟩ := Kd.S_borrow HO_3.out [] (x4_1 : Int) (of_decide_eq_true (by first | (with_reducible assumption) | assumption)) hq10
       obtain ⟨ve10_0, rfl, ge10_0⟩ := hM10
       have hv10 := hcc10 0 _ rfl
       rw [Nat.add_zero, show ((Kd.slice 4 Kd.bool)).sz = 1 from rfl, Nat.mul_one] at hv10
       replace hv10 := Option.some.inj (hv10.symm.trans HX160_0.out)
       subst hv10
       clear hcc10 hcl10
       replace ge10_0 := (show Kd.R Kd.bool 4 _ _ _ _ (rd_L2 x3_1 x4_1) from ge10_0)
       have HP10 := Kd.R_putg ge10_0 (x4_1 : Int) true
       go_wp2_with (first | ((with_reducible refine gate_store (t := 4) (p := 17) rfl ?_); refine store_event (t := 4) (p := 17) (v := ?vo_w11) (w1 := (wr.setCell ⟨go8, (x4_1 : Int).toNat, none⟩ (.bool true))) ?hg ?ho ?hn ?hr ?_; (case ho => rfl); (case hg => rfl); (case hn => rfl); (case hr => first | (go_simp; done) | (go_simp; rfl)); intro w11 hw; have hg : wr.grownBy w11 (some go8) := (by rw [hw]; exact HP10.2); have hz_ : Kd.R Kd.bool 4 w11 w.heap.size oki10 (.slice (some ⟨go8, 0, none⟩) (rd_L2 x3_1 x4_1).length c160_0) y161 := (by rw [hw, Ny161.out]; exact HP10.1); have hp_ : Kd.S (Kd.slice 4 Kd.bool) 33 w11 w.heap.size (fun _ => True) (.slice (some ad160) x3_1.length co9) y163 := (by rw [Ny163.out]; exact hbk10 hg (fun k_ e_ => by injection e_ with e_; subst e_; exact ge10_0.1 _ rfl) (Kd.M_row hz_)); have hm_ := Kd.R_mono hz_ hok10; clear HP10 hbk10; have n0_ := Aside0.mk (hp_); have n1_ := Aside0.mk ((by rw [hw]; exact below_set (HB.out) GB8.out : Below w.heap.size w w11)); have n2_ := Aside0.mk (hm_); have n3_ := Aside0.mk ((Kd.R_reads' hm_).2.1); clear HO_3; clear HB; clear HL160_0; have HO_3 := n0_; have HB := n1_; have HL164 := n2_; have HC162 := n3_; clear n0_ n1_ n2_ n3_; clear hg hw hp_ hz_ hm_ hok10))
       go_roundg k1
       case measure => have := HK1.out; omega
       case rel => exact ⟨(y163), (wrap64 (x4_1 + 1)), (by first | rfl | (simp; done) | (simp [*]; done)), H', ⟨by have := HK1.out; omega⟩, ⟨by (with_reducible repeat (first | apply Kd.S_alloc | apply Kd.S_drewN | apply Kd.S_drew)); exact HO_3.out⟩, ⟨bw⟩⟩
      ·rw [if_neg c7] at H
       exact absurd H (by simp)
     ·rw [if_neg c6] at H
      exact absurd H (by simp)
    ·rw [if_neg c5] at H
     exact absurd H (by simp)
   ·rw [if_neg c4] at H
    have c4b0 : decide (x4_1 ≤ a0) = false := decide_eq_false c4
    clear c4
    obtain rfl := Option.some.inj H
    go_wp2
    go_ret
    exact ⟨_, by first | rfl | (simp [errW_none, errW_some] <;> rfl) | (simp [*, errW_none, errW_some] <;> rfl), by (with_reducible repeat (first | apply Kd.S_alloc | apply Kd.S_drewN | apply Kd.S_drew)); exact HO_3.out, bw⟩

end Go.Proofs.Ytcdpmmpdfdillaa.Q

namespace Go.Proofs.Ytcdpmmpdfdillaa.Q
open Go.RowKit Go.Proofs.YtcdpmmpdfdillaaW.PrintWords Go.Proofs.YtcdpmmpdfdillaaW.PrintLast
set_option linter.unusedVariables false
set_option linter.unusedSimpArgs false
/-- N rows of N: at i and j it is f i j. -/
def tab (N : Nat) (f : Nat → Nat → Bool) : List (List Bool) := (List.range N).map fun i => (List.range N).map (f i)
theorem tab_len (N : Nat) (f : Nat → Nat → Bool) : (tab N f).length = N := by simp [tab]
theorem tab_row (N : Nat) (f : Nat → Nat → Bool) (i : Nat) (h : i < N) : rd_L2 (tab N f) (i : Int) = (List.range N).map (f i) := by
  unfold rd_L2 tab
  rw [Int.toNat_natCast, List.getD_eq_getElem?_getD, List.getElem?_map, List.getElem?_range h]
  rfl
theorem row_at (N : Nat) (f : Nat → Bool) (j : Nat) (h : j < N) : rdOf false ((List.range N).map f) (j : Int) = f j := by
  unfold rdOf
  rw [Int.toNat_natCast, List.getD_eq_getElem?_getD, List.getElem?_map, List.getElem?_range h]
  rfl
theorem tab_set (N : Nat) (f : Nat → Nat → Bool) (i j : Nat) (hi : i < N) (x : Bool) : (tab N f).set i (((List.range N).map (f i)).set j x) = tab N (fun a b => if a = i ∧ b = j then x else f a b) := by
  apply List.ext_getElem?
  intro a
  by_cases ha : a < N
  · by_cases h : i = a
    · subst h
      rw [List.getElem?_set_self (by simp [tab]; exact ha)]
      unfold tab
      rw [List.getElem?_map, List.getElem?_range ha]
      show some _ = some _
      congr 1
      apply List.ext_getElem?
      intro b
      by_cases hb : b < N
      · by_cases hj : j = b
        · subst hj
          rw [List.getElem?_set_self (by simp; exact hb), List.getElem?_map, List.getElem?_range hb]
          simp
        · rw [List.getElem?_set_ne hj, List.getElem?_map, List.getElem?_map, List.getElem?_range hb]
          simp [Ne.symm hj]
      · rw [List.getElem?_eq_none (by simp; omega), List.getElem?_eq_none (by simp; omega)]
    · rw [List.getElem?_set_ne h]
      unfold tab
      rw [List.getElem?_map, List.getElem?_map, List.getElem?_range ha]
      simp [Ne.symm h]
  · rw [List.getElem?_eq_none (by simp [tab]; omega), List.getElem?_eq_none (by simp [tab]; omega)]
theorem tab_congr {N : Nat} {f g : Nat → Nat → Bool} (h : ∀ i j, i < N → j < N → f i j = g i j) : tab N f = tab N g := by
  unfold tab
  refine List.map_congr_left fun i hi => List.map_congr_left fun j hj => h i j (List.mem_range.1 hi) (List.mem_range.1 hj)
/-! none -/
theorem none_row (n : Nat) (hn : n ≤ 1000) (out : List (List Bool)) (i : Nat) (q : List (List Bool)) : ∀ (m j : Nat), j + m = n + 1 → Ev (fun k => spec_l4None.l0 k n (out ++ [List.replicate (n + 1) false]) ((i + 1 : Nat) : Int)) q → out.length ≤ 1001 → i ≤ 1000 → Ev (fun k => spec_l4None.l1 k n out i (List.replicate j false) j) q
  | 0, j, hj, h, ho, hi => by
    obtain rfl : j = n + 1 := by omega
    refine Ev.step (fun k => ?_) h
    rw [spec_l4None.l1, if_neg (by omega), if_pos (by omega), wrap_nat _ (by omega)]
  | m + 1, j, hj, h, ho, hi => by
    refine Ev.step (fun k => ?_) (none_row n hn out i q m (j + 1) (by omega) h ho hi)
    rw [spec_l4None.l1, if_pos (by omega), if_pos (by simp; omega), wrap_nat _ (by omega), List.replicate_succ']
theorem none_out (n : Nat) (hn : n ≤ 1000) : ∀ (m i : Nat), i + m = n + 1 → Ev (fun k => spec_l4None.l0 k n (List.replicate i (List.replicate (n + 1) false)) i) (List.replicate (n + 1) (List.replicate (n + 1) false))
  | 0, i, hi => by
    obtain rfl : i = n + 1 := by omega
    refine Ev.step (f := fun _ => some (List.replicate (n + 1) (List.replicate (n + 1) false))) (fun k => ?_) (Ev.now _)
    rw [spec_l4None.l0, if_neg (by omega)]
  | m + 1, i, hi => by
    have ih := none_out n hn m (i + 1) (by omega)
    rw [List.replicate_succ'] at ih
    refine Ev.step (fun k => ?_) (none_row n hn (List.replicate i (List.replicate (n + 1) false)) i _ (n + 1) 0 (by omega) ih (by simp; omega) (by omega))
    rw [spec_l4None.l0, if_pos (by omega)]
    rfl
theorem rep_tab (N : Nat) : List.replicate N (List.replicate N false) = tab N (fun _ _ => false) := by
  unfold tab
  have : ∀ (α : Type) (x : α), (List.range N).map (fun _ => x) = List.replicate N x := fun α x => by
    apply List.ext_getElem?
    intro a
    rw [List.getElem?_map, List.getElem?_replicate]
    by_cases h : a < N
    · rw [List.getElem?_range h, if_pos h]; rfl
    · rw [List.getElem?_eq_none (by simp; omega), if_neg h]; rfl
  rw [this, this]
theorem none_is (n : Nat) (hn : n ≤ 1000) : Ev (fun k => spec_l4None.f k n) (tab (n + 1) (fun _ _ => false)) := by
  rw [← rep_tab]
  exact none_out n hn (n + 1) 0 (by omega)
/-! the one line -/
theorem empty_loop (n : Nat) (hn : n ≤ 1000) : ∀ (m i : Nat), i + m = n + 1 → Ev (fun k => spec_l4Empty.l0 k n (tab (n + 1) (fun a b => decide (a < i ∧ a = b))) i) (tab (n + 1) (fun a b => decide (a = b)))
  | 0, i, hi => by
    refine Ev.step (f := fun _ => some (tab (n + 1) (fun a b => decide (a = b)))) (fun k => ?_) (Ev.now _)
    rw [spec_l4Empty.l0, if_neg (by omega)]
    refine congrArg some (tab_congr fun a b ha hb => decide_eq_decide.2 ⟨fun h => h.2, fun h => ⟨by omega, h⟩⟩)
  | m + 1, i, hi => by
    refine Ev.step (fun k => ?_) (empty_loop n hn m (i + 1) (by omega))
    rw [spec_l4Empty.l0, if_pos (by omega), if_pos (by omega), if_pos (by rw [tab_len]; omega), tab_row _ _ _ (by omega), if_pos (by simp; omega), Int.toNat_natCast, tab_set _ _ _ _ (by omega), wrap_nat _ (by omega)]
    congr 1
    refine tab_congr fun a b ha hb => ?_
    by_cases h : a = i ∧ b = i
    · rw [if_pos h]; exact (decide_eq_true (by omega)).symm
    · rw [if_neg h]; exact decide_eq_decide.2 (by omega)
theorem empty_is (n : Nat) (hn : n ≤ 1000) : Ev (fun k => spec_l4Empty.f k n) (tab (n + 1) (fun a b => decide (a = b))) := by
  refine Ev.bind (none_is n hn) ?_
  have := empty_loop n hn (n + 1) 0 (by omega)
  rw [show (tab (n + 1) fun a b => decide (a < 0 ∧ a = b)) = tab (n + 1) (fun _ _ => false) from tab_congr fun a b _ _ => decide_eq_false (by omega)] at this
  exact this
/-! or -/
def orF (f g : Nat → Nat → Bool) (a b : Nat) : Bool := decide (a ≤ b) && (f a b || g a b)
/-- What is written so far: rows before i, and in row i what lies before j. -/
def upTo (i j : Nat) (h : Nat → Nat → Bool) (a b : Nat) : Bool := if a < i ∨ (a = i ∧ b < j) then h a b else false
theorem upTo_put {N i j : Nat} {h : Nat → Nat → Bool} (a b : Nat) : (if a = i ∧ b = j then h i j else upTo i j h a b) = upTo i (j + 1) h a b := by
  unfold upTo
  by_cases e : a = i ∧ b = j
  · obtain ⟨rfl, rfl⟩ := e
    rw [if_pos ⟨rfl, rfl⟩, if_pos (by omega)]
  · rw [if_neg e]
    by_cases e2 : a < i ∨ (a = i ∧ b < j)
    · rw [if_pos e2, if_pos (by omega)]
    · rw [if_neg e2, if_neg (by omega)]
theorem upTo_row {N i j : Nat} {h : Nat → Nat → Bool} (hj : N ≤ j) (hz : ∀ a b, b < a → h a b = false) : tab N (upTo i j h) = tab N (upTo (i + 1) (i + 1) h) := tab_congr fun a b ha hb => by
  unfold upTo
  by_cases e : a < i ∨ (a = i ∧ b < j)
  · rw [if_pos e, if_pos (by omega)]
  · rw [if_neg e]
    by_cases e2 : a < i + 1 ∨ a = i + 1 ∧ b < i + 1
    · rw [if_pos e2, hz a b (by omega)]
    · rw [if_neg e2]
theorem upTo_zero (N : Nat) (h : Nat → Nat → Bool) : tab N (upTo 0 0 h) = tab N (fun _ _ => false) := tab_congr fun a b _ _ => if_neg (by omega)
theorem upTo_all {N i j : Nat} {h : Nat → Nat → Bool} (hi : N ≤ i) : tab N (upTo i j h) = tab N h := tab_congr fun a b ha _ => if_pos (by omega)
/-! in memory -/
abbrev MC (w : World) (A : Option Addr) (N : Nat) (f : Nat → Nat → Bool) : Prop := Kd.C (Kd.slice 4 Kd.bool) w A N (tab N f)
abbrev MS (w : World) (base : Nat) (v : Value) (N : Nat) (f : Nat → Nat → Bool) : Prop := Kd.S (Kd.slice 4 Kd.bool) 33 w base (fun _ => True) v (tab N f)
theorem ms_of {w : World} {base : Nat} {v : Value} {N : Nat} {f g : Nat → Nat → Bool} (h : MS w base v N f) (e : tab N f = tab N g) : MS w base v N g := by
  unfold MS at *; rw [← e]; exact h
theorem mat_ad {w : World} {A : Option Addr} {N : Nat} {f : Nat → Nat → Bool} (h : MC w A N f) (hN : 0 < N) : ∃ ad, A = some ad := by
  obtain ⟨ad, A0, c0, e, -⟩ := at_L2 h 0 (by omega) (by omega)
  exact ⟨ad, e⟩
theorem mat_get {w : World} {ad : Addr} {N : Nat} {f : Nat → Nat → Bool} (h : MC w (some ad) N f) {i j : Nat} (hi : i < N) (hj : j < N) : ∃ a0 c0, w.cell? (ad.add i) = some (.slice (some a0) N c0) ∧ w.cell? (a0.add j) = some (.bool (f i j)) := by
  obtain ⟨ad, A0, c0, e, h1, h2, h3⟩ := at_L2 h (i : Int) (by omega) (by omega)
  cases e
  rw [tab_row _ _ _ hi] at h1 h2 h3
  rw [Int.toNat_natCast] at h1
  have hl : ((List.range N).map (f i)).length = N := by simp
  rw [hl] at h1 h2 h3
  obtain ⟨a0, rfl, h4⟩ := Kd.at_bool h3 (j : Int) (by omega) (by omega)
  rw [row_at _ _ _ hj, Int.toNat_natCast] at h4
  exact ⟨a0, c0, h1, h4⟩
theorem mat_form {w : World} {B : Nat} {v : Value} {N : Nat} {f : Nat → Nat → Bool} (h : MS w B v N f) (hN : 0 < N) : ∃ g c, v = .slice (some ⟨g, 0, none⟩) N c ∧ B ≤ g ∧ g < w.heap.size := by
  obtain ⟨g, c, e, h1, h2, -⟩ := Kd.S_form h (by rw [tab_len]; exact hN)
  rw [tab_len] at e
  exact ⟨g, c, e, h1, h2⟩
theorem mat_C {w : World} {B : Nat} {A : Option Addr} {c N : Nat} {f : Nat → Nat → Bool} (h : MS w B (.slice A N c) N f) : MC w A N f ∧ N ≤ c := by
  have h1 := Kd.S_reads' h
  rw [tab_len] at h1
  exact ⟨h1.2.2, h1.2.1⟩
theorem mat_put {W : World} {B g c N i j : Nat} {f : Nat → Nat → Bool} (h : MS W B (.slice (some ⟨g, 0, none⟩) N c) N f) (hi : i < N) (hj : j < N) :
    ∃ r cr, r ≠ g ∧ B ≤ r ∧ W.cell? ⟨g, i, none⟩ = some (.slice (some ⟨r, 0, none⟩) N cr) ∧ W.cell? ⟨r, j, none⟩ = some (.bool (f i j)) ∧ W.frozen? ⟨r, j, none⟩ = false ∧ r < W.heap.size ∧
      ∀ x, MS (W.setCell ⟨r, j, none⟩ (.bool x)) B (.slice (some ⟨g, 0, none⟩) N c) N (fun a b => if a = i ∧ b = j then x else f a b) := by
  obtain ⟨oki, cs, hcl, hM, hcc, hoki, hback⟩ := Kd.S_borrow h ([] : List Bool) (i : Int) (by omega) (by omega)
  rw [show (tab N f).getD (i : Int).toNat [] = (List.range N).map (f i) from tab_row N f i hi] at hM
  obtain ⟨v, rfl, hR⟩ := hM
  have hl : ((List.range N).map (f i)).length = N := by simp
  obtain ⟨r, cr, rfl, hBr, hrl, -⟩ := Kd.R_form hR (by rw [hl]; omega)
  rw [hl] at hR hcc hback
  have hok := hR.1 r rfl
  have h1 := hcc 0 _ rfl
  rw [Nat.add_zero, show (Kd.slice 4 Kd.bool).sz = 1 from rfl, Nat.mul_one, Int.toNat_natCast, add_at, Nat.zero_add] at h1
  have h2 := Kd.R_celln false hR (j : Int) (by omega) (by omega)
  rw [row_at _ _ _ hj, Int.toNat_natCast] at h2
  refine ⟨r, cr, fun e => (hoki r hok).2 (by rw [e]; rfl), hBr, h1, h2.1, h2.2, hrl, fun x => ?_⟩
  have h3 := Kd.R_putg hR (j : Int) x
  rw [Int.toNat_natCast] at h3
  have h4 := hback h3.2 (fun k e => by injection e with e; subst e; exact hok) (Kd.M_row h3.1)
  rw [Int.toNat_natCast, tab_set _ _ _ _ hi] at h4
  exact h4
theorem none_call (n : Nat) (hn : n ≤ 1000) (w : World) : Calls Try.prog 30 #[.int .i64 n] w fun e w' => ∃ v, e = .returned v ∧ MS w' w.heap.size v (n + 1) (fun _ _ => false) ∧ Below w.heap.size w w' := by
  obtain ⟨K, hK⟩ := none_is n hn
  exact spec_l4None.calls K _ _ w (hK K (Nat.le_refl _))
theorem empty_call (n : Nat) (hn : n ≤ 1000) (w : World) : Calls Try.prog 40 #[.int .i64 n] w fun e w' => ∃ v, e = .returned v ∧ MS w' w.heap.size v (n + 1) (fun a b => decide (a = b)) ∧ Below w.heap.size w w' := by
  obtain ⟨K, hK⟩ := empty_is n hn
  exact spec_l4Empty.calls K _ _ w (hK K (Nat.le_refl _))
/-- What a store into the new matrix leaves. -/
def SMt (wB : World) (g i : Nat) (hd : Value) (W : World) : Prop := Below wB.heap.size wB W ∧ W.cell? ⟨g, i, none⟩ = some hd
theorem SMt.set {wB W : World} {g i r j : Nat} {hd : Value} (h : SMt wB g i hd W) (h1 : wB.heap.size ≤ r) (h2 : r ≠ g) (x : Value) : SMt wB g i hd (W.setCell ⟨r, j, none⟩ x) :=
  ⟨Below.setCell (p := ⟨r, j, none⟩) h.1 h1 x, (World.cell?_setCell_far W ⟨r, j, none⟩ ⟨g, i, none⟩ x h2).trans h.2⟩
end Go.Proofs.Ytcdpmmpdfdillaa.Q

namespace Go.Proofs.Ytcdpmmpdfdillaa.Q
open Go.RowKit Go.Proofs.YtcdpmmpdfdillaaW.PrintWords Go.Proofs.YtcdpmmpdfdillaaW.PrintLast
set_option linter.unusedVariables false
set_option linter.unusedSimpArgs false
set_option maxHeartbeats 4000000 in
set_option maxRecDepth 100000 in
theorem or_call (A0 A1 : Option Addr) (c0 c1 n : Nat) (f g : Nat → Nat → Bool) (w : World) (h0 : MC w A0 (n + 1) f) (h1 : MC w A1 (n + 1) g) (hn : n ≤ 1000) :
    Calls Try.prog 31 #[.slice A0 (n + 1) c0, .slice A1 (n + 1) c1] w fun e w' => ∃ v, e = .returned v ∧ MS w' w.heap.size v (n + 1) (orF f g) ∧ Below w.heap.size w w' := by
  obtain ⟨N, hN⟩ : ∃ N, N = n + 1 := ⟨_, rfl⟩
  rw [← hN] at h0 h1 ⊢
  obtain ⟨a0, rfl⟩ := mat_ad h0 (by omega)
  obtain ⟨a1, rfl⟩ := mat_ad h1 (by omega)
  have hw : IntKind.i64.wrap ((N : Int) - 1) = (n : Int) := by rw [IntKind.wrap_i64]; omega
  have H0 := Aside0.mk (And.intro h0 h1)
  have HN := Aside0.mk (And.intro hN hn)
  have hz : ∀ a b, b < a → orF f g a b = false := fun a b h => by unfold orF; rw [decide_eq_false (by omega)]; rfl
  have HZ := Aside0.mk hz
  clear h0 h1 hN hn hz
  go_enter Try.func31, Try.ntmps31
  go_wp2_with fail
  refine (none_call n HN.out.2 w).mono ?_
  rintro ex W1 ⟨v1, rfl, hS, hb⟩
  rw [← HN.out.1] at hS
  obtain ⟨m, c, rfl, hm, -⟩ := mat_form hS (by have := HN.out; omega)
  have hS := ms_of hS (upTo_zero N (orF f g)).symm
  have HS := Aside0.mk hS
  have HB := Aside0.mk hb
  clear hS hb hw
  go_wp2_with fail
  go_loopw [6] (fun v6 W => ∃ i : Nat, i ≤ N ∧ v6 = .int .i64 i ∧ Aside0 (MS W w.heap.size (.slice (some ⟨m, 0, none⟩) N c) N (upTo i i (orF f g))) ∧ Aside0 (Below w.heap.size w W)) (fun v6 _ => N - (intOf v6).toNat)
  case atStart => exact ⟨0, by omega, rfl, HS, HB⟩
  case round =>
    clear HS HB
    obtain ⟨i, hi, rfl, HS, HB⟩ := hrel
    by_cases hlt : i < N
    · have dl : decide ((i : Int) < (N : Int)) = true := decide_eq_true (by omega)
      have hwi : IntKind.i64.wrap ((i : Int) + 1) = ((i + 1 : Nat) : Int) := by have := HN.out; rw [IntKind.wrap_i64]; omega
      go_wp2_with fail
      go_loopw [7] (fun v7 W => ∃ j : Nat, i ≤ j ∧ j ≤ N ∧ v7 = .int .i64 j ∧ Aside0 (MS W w.heap.size (.slice (some ⟨m, 0, none⟩) N c) N (upTo i j (orF f g))) ∧ Aside0 (Below w.heap.size w W)) (fun v7 _ => N - (intOf v7).toNat)
      case atStart => exact ⟨i, by omega, by omega, rfl, HS, HB⟩
      case round =>
        clear HS HB
        obtain ⟨j, hij, hj, rfl, HS, HB⟩ := hrel
        by_cases hlt2 : j < N
        · have dl2 : decide ((j : Int) < (N : Int)) = true := decide_eq_true (by omega)
          have hwj : IntKind.i64.wrap ((j : Int) + 1) = ((j + 1 : Nat) : Int) := by have := HN.out; rw [IntKind.wrap_i64]; omega
          go_upto_region 8 with (fail)
          obtain ⟨r, cr, hrg, hBr, hx, hy, hf, -, hput⟩ := mat_put (W := wr.drew) (Kd.S_drew HS.out) hlt hlt2
          obtain ⟨b0, k0, x0, x1⟩ := mat_get H0.out.1 hlt hlt2
          obtain ⟨b1, k1, y0, y1⟩ := mat_get H0.out.2 hlt hlt2
          have kS : K0 (SMt w m i (.slice (some ⟨r, 0, none⟩) N cr) wr.drew) := ⟨below_drew1 HB.out, hx⟩
          have z0 : ∀ W [K0 (SMt w m i (.slice (some ⟨r, 0, none⟩) N cr) W)], W.cell? ⟨m, i, none⟩ = some (.slice (some ⟨r, 0, none⟩) N cr) := fun W k => k.out.2
          have z1 : ∀ W [K0 (SMt w m i (.slice (some ⟨r, 0, none⟩) N cr) W)], W.cell? (a0.add i) = some (.slice (some b0) N k0) := fun W k => (k.out.1.cell (World.block_lt_of_cell? w _ x0)).trans x0
          have z2 : ∀ W [K0 (SMt w m i (.slice (some ⟨r, 0, none⟩) N cr) W)], W.cell? (b0.add j) = some (.bool (f i j)) := fun W k => (k.out.1.cell (World.block_lt_of_cell? w _ x1)).trans x1
          have z3 : ∀ W [K0 (SMt w m i (.slice (some ⟨r, 0, none⟩) N cr) W)], W.cell? (a1.add i) = some (.slice (some b1) N k1) := fun W k => (k.out.1.cell (World.block_lt_of_cell? w _ y0)).trans y0
          have z4 : ∀ W [K0 (SMt w m i (.slice (some ⟨r, 0, none⟩) N cr) W)], W.cell? (b1.add j) = some (.bool (g i j)) := fun W k => (k.out.1.cell (World.block_lt_of_cell? w _ y1)).trans y1
          have HP := Aside0.mk (fun x => And.intro (hput x) (kS.out.set (j := j) hBr hrg (.bool x)))
          have he : orF f g i j = (f i j || g i j) := by unfold orF; rw [decide_eq_true hij, Bool.true_and]
          have HE := Aside0.mk he
          have i1 : ((i : Int) < (N : Int)) = True := eq_true (by omega)
          have i2 : ((0 : Int) ≤ (i : Int)) = True := eq_true (by omega)
          have i3 : ((j : Int) < (N : Int)) = True := eq_true (by omega)
          have i4 : ((0 : Int) ≤ (j : Int)) = True := eq_true (by omega)
          clear x0 x1 y0 y1 hput he hx
          generalize f i j = u at *
          generalize g i j = t at *
          cases u
          all_goals
            refine sq_region (S := fun W' => K0 (SMt w m i (.slice (some ⟨r, 0, none⟩) N cr) W')) [(0, false), (1, false), (2, false), (3, false), (4, false), (5, false), (6, false), (7, false), (8, false), (9, false), (10, false), (11, false), (12, false), (13, false), (14, false), (15, false), (16, false), (17, false), (18, false), (19, false), (20, false), (21, false), (22, true)] (by kernel_rfl) (by kernel_rfl) kS (fun hS => ?_)
            repeat (first | (refine sq_n ?_ ?_ rfl ?_ ?_ ?_; rotate_left 2; (intro W hW; go_simp; first | done | with_reducible rfl); (simp only [List.setIfInBounds_toArray, List.set_cons_zero, List.set_cons_succ]; try rfl)) | (refine sq_g ?_ ?_ rfl rfl rfl ?_ ?_ ?_; rotate_left 2; (intro W hW; go_simp; first | done | with_reducible rfl); (simp only [List.setIfInBounds_toArray, List.set_cons_zero, List.set_cons_succ]; try rfl)) | (refine sq_f ?_ rfl rfl rfl ?_ ?_; rotate_left; (simp only [List.setIfInBounds_toArray, List.set_cons_zero, List.set_cons_succ]; try rfl)) | (refine sq_u ?_ rfl rfl rfl ?_ ?_; rotate_left; (simp only [List.setIfInBounds_toArray, List.set_cons_zero, List.set_cons_succ]; try rfl)))
            refine sq_1n rfl (fun hS K hK => ?_)
            go_wp2_with fail
            refine hK.out _ _ ⟨(HP.out _).2⟩ (fun hS => ?_)
            refine sq_done (fun hS => ?_)
            clear hK hS hy hf kS
            go_wp2_with fail
            go_roundw
            case measure => simp only [intOf]; omega
            case rel => exact ⟨j + 1, by omega, by omega, by rw [Int.natCast_add]; rfl, ⟨ms_of (HP.out _).1 (tab_congr fun a b _ _ => by have e := HE.out; simp only [Bool.true_or, Bool.false_or] at e; rw [← e]; exact upTo_put (N := N) a b)⟩, ⟨(HP.out _).2.1⟩⟩
        · obtain rfl : j = N := by omega
          have dl2 : decide ((j : Int) < (j : Int)) = false := decide_eq_false (by omega)
          go_wp2_with fail
          go_roundw
          case measure => simp only [intOf]; omega
          case rel => exact ⟨i + 1, by omega, by rw [Int.natCast_add]; rfl, ⟨ms_of HS.out (upTo_row (Nat.le_refl _) HZ.out)⟩, HB⟩
    · obtain rfl : i = N := by omega
      have dl : decide ((i : Int) < (i : Int)) = false := decide_eq_false (by omega)
      go_wp2_with fail
      go_ret
      exact ⟨_, rfl, ms_of HS.out (upTo_all (Nat.le_refl _)), HB.out⟩
end Go.Proofs.Ytcdpmmpdfdillaa.Q

namespace Go.Proofs.Ytcdpmmpdfdillaa.Q
inductive Pl where
  | done
  | n (i : Nat) (r : Pl)
  | y (i : Nat) (r : Pl)
  | two (i j : Nat) (p q : Pl)
def Pl.len : Pl → Nat
  | .done => 0
  | .n _ r => r.len + 1
  | .y _ r => r.len + 1
  | .two _ _ p _ => p.len + 1
def planP (md : Region.Mode) (ops : Array Oper) : Pl → Array Bool → Bool
  | .done, l => Region.ready md ops l == []
  | .n i r, l => Region.free md ops l i && ((Region.ready md ops l).contains i && planP md ops r (l.setIfInBounds i true))
  | .y i r, l => (Region.ready md ops l == [i]) && planP md ops r (l.setIfInBounds i true)
  | .two i j p q, l => (Region.ready md ops l == [i, j]) && ((p.len == q.len) && (planP md ops p (l.setIfInBounds i true) && planP md ops q (l.setIfInBounds j true)))
section
variable {P : Program} {ops : Array Oper} {Q : Exit → Act → World → Prop} {md : Region.Mode} {S : World → Prop}
def Sp (P : Program) (md : Region.Mode) (ops : Array Oper) (Q : Exit → Act → World → Prop) (S : World → Prop) (r : Pl) (a : Act) (w : World) : Prop :=
  S w → Region.noSelect ops = true → ∀ l, planP md ops r l = true → wpAnyH P md ops (NoPanic Q) S r.len l a w
theorem sp_region {id : Nat} {a : Act} {w : World} (r : Pl) (hm : P.follows .mixedOrders = true) (hc : (Region.noSelect ops && (planP .any ops r (Array.replicate ops.size false) && (r.len == ops.size))) = true)
    (hS : S w.drew) (h : S w.drew → Sp P .any ops Q S r a w.drew) : (Code.region id ops true).wp P Q a w := by
  simp only [Bool.and_eq_true, beq_iff_eq] at hc
  refine wp_region_noPanic (wp_region_held_drew hm hS fun h1 => ?_)
  have h2 := h h1 h1 hc.1 _ hc.2.1
  rw [hc.2.2] at h2
  exact h2
theorem sp_done {a : Act} {w : World} (h : S w → Q .normal a w) : Sp P md ops Q S .done a w := fun hS _ l hl => wpAnyH_done (by simpa [planP] using hl) (NoPanic.normal (h hS)) _
theorem sp_one {i : Nat} {r : Pl} {d : Option Tmp} {op : Op} {ty : TypeId} {pos : String} {af : Array Edge} {gu : Option (Nat × Bool)} {a : Act} {w : World} (ho : ops[i]? = some ⟨d, op, ty, pos, af, gu⟩) (hw : Region.wanted ⟨d, op, ty, pos, af, gu⟩ (yielded ops a.tmps) = true)
    (h : S w → ∀ K : Act → World → Prop, Shut (∀ a' w', S w' → (S w' → Sp P md ops Q S r a' w') → K a' w') → Oper.wp P ⟨d, op, ty, pos, af, gu⟩ a w K (NoPanic Q)) : Sp P md ops Q S (.y i r) a w := by
  intro hS hs l hl
  simp only [planP, Bool.and_eq_true, beq_iff_eq] at hl
  refine wpAnyH_ready hl.1 (by simp) (AllReadyH.cons ho (fun K hK => ?_) AllReadyH.nil)
  rw [if_pos hw]
  exact h hS K fun a' w' h1 h2 => hK.out a' w' h1 fun h3 => h2 h3 h3 hs _ hl.2
variable {i j dj : Nat} {r p q : Pl} {d : Tmp} {od od' : Option Tmp} {op op' : Op} {ty ty' : TypeId} {pos pos' : String} {af af' : Array Edge} {gu' : Option (Nat × Bool)} {g b : Bool} {T : Array Value} {D : List Deferred} {w : World}
theorem sp_n (T' : Array Value) (v : Value) (ho : ops[i]? = some ⟨some d, op, ty, pos, af, none⟩) (hv : ∀ W, S W → (execOp (Act.eval ⟨T, D⟩) ⟨some d, op, ty, pos, af, none⟩).run P W = .ok (.value v) W) (hT : T.setIfInBounds d v = T') (h : Sp P md ops Q S r ⟨T', D⟩ w) : Sp P md ops Q S (.n i r) ⟨T, D⟩ w := by
  subst hT
  intro hS hs l hl
  simp only [planP, Bool.and_eq_true] at hl
  exact wpAnyH_take ho hs hl.1 hl.2.1 (fun _ _ _ h => h.elim) (.inl ⟨yes_n, hv⟩) hS (h hS hs _ hl.2.2)
theorem sp_1n (ho : ops[i]? = some ⟨od, op, ty, pos, af, none⟩)
    (h : S w → ∀ K : Act → World → Prop, Shut (∀ a' w', S w' → (S w' → Sp P md ops Q S r a' w') → K a' w') → Oper.wp P ⟨od, op, ty, pos, af, none⟩ ⟨T, D⟩ w K (NoPanic Q)) : Sp P md ops Q S (.y i r) ⟨T, D⟩ w := sp_one ho yes_n h
end
end Go.Proofs.Ytcdpmmpdfdillaa.Q

namespace Go.Proofs.Ytcdpmmpdfdillaa.Q
section
variable {P : Program} {ops : Array Oper} {Q : Exit → Act → World → Prop} {md : Region.Mode} {S : World → Prop}
variable {i j dj : Nat} {r p q : Pl} {d : Tmp} {od od' : Option Tmp} {op op' : Op} {ty ty' : TypeId} {pos pos' : String} {af af' : Array Edge} {gu' : Option (Nat × Bool)} {g b : Bool} {T : Array Value} {D : List Deferred} {w : World}
theorem sp_f (T' : Array Value) (ho : ops[i]? = some ⟨some d, op, ty, pos, af, some (j, g)⟩) (hj : ops[j]? = some ⟨some dj, op', ty', pos', af', gu'⟩) (hd : T[dj]? = some (.bool (!g))) (hT : T.setIfInBounds d undef = T') (h : Sp P md ops Q S r ⟨T', D⟩ w) : Sp P md ops Q S (.n i r) ⟨T, D⟩ w := by
  subst hT
  intro hS hs l hl
  simp only [planP, Bool.and_eq_true] at hl
  exact wpAnyH_take ho hs hl.1 hl.2.1 (fun _ _ _ h => h.elim) (.inr ⟨no_g hj hd, rfl⟩) hS (h hS hs _ hl.2.2)
theorem sp_u (T' : Array Value) (ho : ops[i]? = some ⟨some d, op, ty, pos, af, some (j, g)⟩) (hj : ops[j]? = some ⟨some dj, op', ty', pos', af', gu'⟩) (hd : T[dj]? = some undef) (hT : T.setIfInBounds d undef = T') (h : Sp P md ops Q S r ⟨T', D⟩ w) : Sp P md ops Q S (.n i r) ⟨T, D⟩ w := by
  subst hT
  intro hS hs l hl
  simp only [planP, Bool.and_eq_true] at hl
  exact wpAnyH_take ho hs hl.1 hl.2.1 (fun _ _ _ h => h.elim) (.inr ⟨no_u hj hd, rfl⟩) hS (h hS hs _ hl.2.2)
theorem sp_g (T' : Array Value) (v : Value) (ho : ops[i]? = some ⟨some d, op, ty, pos, af, some (j, g)⟩) (hj : ops[j]? = some ⟨some dj, op', ty', pos', af', gu'⟩) (hd : T[dj]? = some (.bool g)) (hv : ∀ W, S W → (execOp (Act.eval ⟨T, D⟩) ⟨some d, op, ty, pos, af, some (j, g)⟩).run P W = .ok (.value v) W) (hT : T.setIfInBounds d v = T') (h : Sp P md ops Q S r ⟨T', D⟩ w) : Sp P md ops Q S (.n i r) ⟨T, D⟩ w := by
  subst hT
  intro hS hs l hl
  simp only [planP, Bool.and_eq_true] at hl
  exact wpAnyH_take ho hs hl.1 hl.2.1 (fun _ _ _ h => h.elim) (.inl ⟨yes_g hj hd, hv⟩) hS (h hS hs _ hl.2.2)
end
end Go.Proofs.Ytcdpmmpdfdillaa.Q
