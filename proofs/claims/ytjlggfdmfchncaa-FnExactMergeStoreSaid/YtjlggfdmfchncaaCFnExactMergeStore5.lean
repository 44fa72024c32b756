/- FnExactMergeStore: the row of the law: its arguments opened, its walk, its statement over lists (PrFnExactMergeStore). No condition. -/
import Derived.Test.YtjlggfdmfchncaaCFnExactMergeStore4
import Derived.Laws.Cover1
import Derived.Deep.RegionHeld3
import Derived.Deep.DeepCutAuto
import Derived.Deep.QuietTactic

namespace Go.Proofs.Ytjlggfdmfchncaa.Q
open Go.RowKit Go.Proofs.YtjlggfdmfchncaaW.PrintWords Go.Proofs.YtjlggfdmfchncaaW.PrintLast
set_option linter.unusedVariables false
set_option linter.unusedSimpArgs false
/-! rows in order -/
theorem cmp_rows {a b : IE} (h : cmpE a b = -1) : Op.bytesLess b.f0.toList a.f0.toList = false := by
  cases e : Op.bytesLess b.f0.toList a.f0.toList with
  | false => rfl
  | true =>
    exfalso
    have h1 : scmp a.f0 b.f0 = 1 := by unfold scmp; rw [if_neg (by rw [less_asymm e]; simp), if_pos e]
    unfold cmpE cmpK at h
    rw [h1] at h
    simp [fst0] at h
theorem vfrom_cons {p e : IE} {es : List IE} (h : vfrom p (e :: es) = true) : Op.bytesLess e.f0.toList p.f0.toList = false ∧ vfrom e es = true := by
  simp only [vfrom, nextOk, Bool.and_eq_true, decide_eq_true_eq] at h
  exact ⟨cmp_rows h.1.2.1, h.2⟩
theorem rows_lo : ∀ (es : List IE) (p : IE), vfrom p es = true → ∀ e ∈ es, Op.bytesLess e.f0.toList p.f0.toList = false
  | [], _, _, _, h => by cases h
  | x :: es, p, h, e, he => by
    obtain ⟨h1, h2⟩ := vfrom_cons h
    rcases List.mem_cons.mp he with rfl | he
    · exact h1
    · exact le_trans' h1 (rows_lo es x h2 e he)
theorem rows_hi (z : IE) : ∀ (es : List IE) (p : IE), vfrom p es = true → ∀ e ∈ p :: es, Op.bytesLess ((p :: es).getD es.length z).f0.toList e.f0.toList = false
  | [], p, _, e, he => by
    obtain rfl : e = p := (by simpa using he)
    exact less_irrefl _
  | x :: es, p, h, e, he => by
    obtain ⟨h1, h2⟩ := vfrom_cons h
    have ih := rows_hi z es x h2
    rcases List.mem_cons.mp he with rfl | he
    · exact le_trans' h1 (ih x List.mem_cons_self)
    · exact ih e he
theorem inR_mid {lo hi x y w : ByteArray} {has : Bool} (h1 : inR lo has hi x = true) (h2 : inR lo has hi w = true) (k1 : Op.bytesLess y.toList x.toList = false) (k2 : Op.bytesLess w.toList y.toList = false) : inR lo has hi y = true := by
  unfold inR at *
  simp only [Bool.and_eq_true, Bool.not_eq_true', Bool.or_eq_true] at *
  exact ⟨le_trans' h1.1 k1, h2.2.imp id fun h => le_less k2 h⟩
theorem run_ends {lo hi : ByteArray} {has : Bool} (z e : IE) (es : List IE) (h : vfrom e es = true) :
    ((e :: es).all fun x => inR lo has hi x.f0) = (inR lo has hi e.f0 && inR lo has hi ((e :: es).getD es.length z).f0) := by
  rw [Bool.eq_iff_iff]
  simp only [List.all_eq_true, Bool.and_eq_true]
  constructor
  · intro k
    refine ⟨k e List.mem_cons_self, k _ ?_⟩
    rw [List.getD_eq_getElem?_getD, List.getElem?_eq_getElem (by simp)]
    exact List.getElem_mem _
  · rintro ⟨k1, k2⟩ x hx
    refine inR_mid k1 k2 ?_ (rows_hi z es e h x hx)
    rcases List.mem_cons.mp hx with rfl | hx
    · exact less_irrefl _
    · exact rows_lo es e h x hx
/-! the range of a tablet -/
def loT (l : List IT) (i : Nat) : ByteArray := (rd_T40 l (i : Int)).f0
def inT (l : List IT) (i : Nat) (row : ByteArray) : Bool := inR (loT l i) (decide (i + 1 < l.length)) (if i + 1 < l.length then loT l (i + 1) else ⟨#[]⟩) row
theorem implRows_is (l : List IT) (hb : l.length < 4611686018427387904) (i : Nat) (h : i < l.length) : impl_Store_rows.f l i = some (loT l i, decide (i + 1 < l.length), if i + 1 < l.length then loT l (i + 1) else ⟨#[]⟩) := by
  unfold impl_Store_rows.f
  rw [if_pos (by omega), if_pos (by omega), wrap_nat _ (by omega)]
  by_cases h1 : i + 1 < l.length
  · rw [if_pos (by omega), if_pos (by omega), if_pos h1, decide_eq_true h1]; rfl
  · rw [if_neg (by omega), if_neg h1, decide_eq_false h1]; rfl
theorem specRange_is (l : List IT) (hb : l.length < 4611686018427387904) (i : Nat) (h : i < l.length) : spec_l7Range.f l i = some (loT l i, decide (i + 1 < l.length), if i + 1 < l.length then loT l (i + 1) else ⟨#[]⟩) := implRows_is l hb i h
theorem implInRange_is (lo : ByteArray) (has : Bool) (hi row : ByteArray) : impl_InRange.f lo has hi row = some (inR lo has hi row) := by
  unfold impl_InRange.f inR
  cases Op.bytesLess row.toList lo.toList <;> cases has <;> simp
theorem specInRange_is (lo : ByteArray) (has : Bool) (hi row : ByteArray) : spec_InRange.f lo has hi row = some (inR lo has hi row) := implInRange_is lo has hi row
def runS (l : List IT) (i : Nat) (q : IR) : Bool := !q.f0.isEmpty && q.f0.all fun e => inT l i e.f0
theorem runOk_is (k : Nat) (l : List IT) (hb : l.length < 4611686018427387904) (i : Nat) (h : i < l.length) (q : IR) (hv : vrun q.f0 = true) : runOk k l i q = some (runS l i q) := by
  unfold runOk runS
  cases hq : q.f0 with
  | nil => rw [if_pos (by simp)]; rfl
  | cons e es =>
    rw [hq] at hv
    simp only [vrun, vall, Bool.and_eq_true] at hv
    rw [if_neg (by simp; omega), implRows_is l hb i h]
    simp only [Option.bind_some, implInRange_is]
    have h0 : rd_T65 (e :: es) 0 = e := rfl
    have h1 : rd_T65 (e :: es) (((e :: es).length : Int) - 1) = (e :: es).getD es.length z65 := by
      unfold rd_T65; rw [show (((e :: es).length : Int) - 1).toNat = es.length by simp]
    have hr := run_ends (lo := loT l i) (has := decide (i + 1 < l.length)) (hi := if i + 1 < l.length then loT l (i + 1) else ⟨#[]⟩) z65 e es hv.2.2
    rw [h0, h1]
    unfold inT
    rw [hr]
    cases inR (loT l i) (decide (i + 1 < l.length)) (if i + 1 < l.length then loT l (i + 1) else ⟨#[]⟩) e.f0 <;> simp
def headOk (l : List IT) (i : Nat) (t : IT) : Bool := decide (t.f0.size ≤ 64) && (decide (i = 0) || Op.bytesLess (loT l (i - 1)).toList t.f0.toList) && goodR t.f1
def tabsV (l : List IT) : Nat → List IT → Bool
  | _, [] => true
  | i, t :: ts => headOk l i t && (t.f1.all (runS l i) && tabsV l (i + 1) ts)
def vstore (l : List IT) : Bool := decide (1 ≤ l.length) && decide (l.length ≤ 100) && (loT l 0).toList.isEmpty && tabsV l 0 l
/-! the program's -/
theorem allO_is {α : Type} (f : α → Option Bool) (p : α → Bool) : ∀ xs : List α, (∀ x ∈ xs, f x = some (p x)) → allO f xs = some (xs.all p)
  | [], _ => rfl
  | x :: xs, h => by
    rw [allO, h x List.mem_cons_self, List.all_cons]
    simp only [Option.bind_some]
    rw [allO_is f p xs fun y hy => h y (List.mem_cons_of_mem _ hy)]
    cases p x <;> rfl
theorem goodR_runs {xs : List IR} (h : goodR xs = true) : ∀ q ∈ xs, vrun q.f0 = true := by
  simp only [goodR, Bool.and_eq_true, List.all_eq_true] at h
  exact h.2
theorem tabsO_is (l : List IT) (hb : l.length < 4611686018427387904) (hs : ∀ q ∈ l, sT q) : ∀ (ts pre : List IT), l = pre ++ ts → Ev (fun k => tabsO k l (pre.length : Int) ts) (tabsV l pre.length ts)
  | [], _, _ => Ev.now _
  | t :: ts, pre, e => by
    have hlt : pre.length < l.length := by rw [e]; exact len_cut _ _ _
    have ht : sT t := hs t (by rw [e]; simp)
    have ih := tabsO_is l hb hs ts (pre ++ [t]) (by simp [e])
    rw [List.length_append, List.length_singleton] at ih
    have hh : Ev (fun k => tabOk k l (pre.length : Int) t) (headOk l pre.length t) := by
      unfold tabOk headOk
      by_cases h1 : (t.f0.size : Int) > 64
      · rw [decide_eq_false (by omega : ¬ t.f0.size ≤ 64)]; exact Ev.if_pos h1 (Ev.now _)
      · rw [decide_eq_true (by omega : t.f0.size ≤ 64)]
        refine Ev.if_neg h1 ?_
        by_cases h0 : pre.length = 0
        · rw [decide_eq_true h0]
          exact Ev.if_neg (fun h => by have := h.1; omega) (implGood_is t.f1 ht.1 ht.2)
        · rw [decide_eq_false h0]
          have hm : ((pre.length : Int) - 1) = ((pre.length - 1 : Nat) : Int) := by omega
          rw [hm]
          cases hl : Op.bytesLess (loT l (pre.length - 1)).toList t.f0.toList with
          | true => exact Ev.if_neg (fun h => h.2 hl) (implGood_is t.f1 ht.1 ht.2)
          | false => exact Ev.if_pos ⟨by omega, by unfold loT at hl; rw [hl]; simp⟩ (Ev.now _)
    unfold tabsO tabsV
    refine Ev.bind hh ?_
    cases hk : headOk l pre.length t with
    | false => exact Ev.if_neg (by decide) (Ev.now _)
    | true =>
      have hg : goodR t.f1 = true := by unfold headOk at hk; simp only [Bool.and_eq_true] at hk; exact hk.2
      refine Ev.if_pos rfl (Ev.bind (Ev.of_all fun k => allO_is _ (runS l pre.length) _ fun q hq => runOk_is k l hb _ hlt q (goodR_runs hg q hq)) ?_)
      cases t.f1.all (runS l pre.length) with
      | false => exact Ev.if_neg (by decide) (Ev.now _)
      | true => exact Ev.if_pos rfl (by simpa using ih)
theorem implStore_is (l : List IT) (hb : l.length < 4611686018427387904) (hs : ∀ q ∈ l, sT q) : Ev (fun k => impl_ValidStore.f k l) (vstore l) := by
  unfold impl_ValidStore.f vstore
  by_cases h1 : (l.length : Int) < 1
  · rw [decide_eq_false (by omega : ¬ 1 ≤ l.length)]; exact Ev.if_pos h1 (Ev.now _)
  rw [decide_eq_true (by omega : 1 ≤ l.length)]
  by_cases h2 : (l.length : Int) > 100
  · rw [decide_eq_false (by omega : ¬ l.length ≤ 100)]; exact Ev.if_neg h1 (Ev.if_pos h2 (Ev.now _))
  rw [decide_eq_true (by omega : l.length ≤ 100)]
  refine Ev.if_neg h1 (Ev.if_neg h2 ?_)
  have e0 : (rd_T40 l 0).f0 = loT l 0 := rfl
  rw [e0]
  cases h3 : (loT l 0).toList.isEmpty with
  | false => exact Ev.if_pos rfl (Ev.now _)
  | true => exact Ev.if_neg (by simp) (by simpa using tabsO_is l hb hs l [] rfl)
/-! the reference's -/
theorem specL2 (l : List IT) (hb : l.length < 4611686018427387904) (i q : Nat) (hi : i < l.length) (lo : ByteArray) (rs : List IR) (es : List IE) (he : es.length < 4611686018427387904) (r : Bool) (n : Int)
    (hq : q < 4611686018427387904) (hr : Ev (fun k => spec_ValidStore.l1 k n i ((q + 1 : Nat) : Int) l lo rs) r) :
    Ev (fun k => spec_ValidStore.l2 k n i q es 0 l lo rs) ((es.all fun e => inT l i e.f0) && r) :=
  all_loop es z65 (fun e => inT l i e.f0) (fun k e => (spec_l7Range.f l i).bind fun b => spec_InRange.f b.1 b.2.1 b.2.2 e.f0) (fun k j => spec_ValidStore.l2 k n i q es j l lo rs) _ r he
    (fun k j hj => by
      simp only [spec_ValidStore.l2]; rw [if_pos (by omega), specRange_is l hb i hi]; simp only [Option.bind_some]; rw [if_pos (by omega), wrap_nat _ (by omega)]; rfl)
    (fun k => by simp only [spec_ValidStore.l2]; rw [if_neg (by omega), wrap_nat _ hq])
    (fun e he => by rw [specRange_is l hb i hi]; simp only [Option.bind_some, specInRange_is]; exact Ev.now _) hr es [] rfl
theorem specL1 (l : List IT) (hb : l.length < 4611686018427387904) (i : Nat) (hi : i < l.length) (lo : ByteArray) (xs : List IR) (hx : xs.length < 4611686018427387904) (hq : ∀ q ∈ xs, sR q) (r : Bool) (n : Int)
    (hr : Ev (fun k => spec_ValidStore.l0 k n ((i + 1 : Nat) : Int) l) r) :
    ∀ (rest pre : List IR), xs = pre ++ rest → Ev (fun k => spec_ValidStore.l1 k n i (pre.length : Int) l lo xs) (rest.all (runS l i) && r) := by
  intro rest
  induction rest with
  | nil => intro pre e; exact Ev.round (fun k => by simp only [spec_ValidStore.l1]; rw [if_neg (by rw [e]; simp), wrap_nat _ (by omega)]) (by simpa using hr)
  | cons x rest ih =>
    intro pre e
    have hlt : pre.length < xs.length := by rw [e]; exact len_cut _ _ _
    have hd : rd_T60 xs (pre.length : Int) = x := by unfold rd_T60; rw [Int.toNat_natCast, e, getD_cut]
    have h := ih (pre ++ [x]) (by simp [e])
    rw [List.length_append, List.length_singleton] at h
    have h2 := specL2 l hb i pre.length hi lo xs x.f0 (hq x (by rw [e]; simp)) _ n (by omega) h
    by_cases h0 : x.f0 = []
    · refine Ev.shift 1 fun k => ?_
      simp only [spec_ValidStore.l1]; rw [if_pos (by omega), if_pos (by omega), hd, if_pos (by rw [h0]; rfl), List.all_cons]
      unfold runS; rw [h0]; rfl
    · refine Ev.round (fun k => ?_) (f := fun k => spec_ValidStore.l2 k n i pre.length x.f0 0 l lo xs) ?_
      · simp only [spec_ValidStore.l1]; rw [if_pos (by omega), if_pos (by omega), hd, if_neg (by have := List.length_pos_iff.mpr h0; omega)]
      · rw [List.all_cons]
        have hne : x.f0.isEmpty = false := by cases hx0 : x.f0 with
          | nil => exact absurd hx0 h0
          | cons _ _ => rfl
        have h3 : (runS l i x && rest.all (runS l i) && r) = ((x.f0.all fun e => inT l i e.f0) && (rest.all (runS l i) && r)) := by unfold runS; rw [hne]; simp [Bool.and_assoc]
        rw [h3]
        exact h2
theorem specL0 (l : List IT) (hb : l.length < 4611686018427387904) (hs : ∀ q ∈ l, sT q) : ∀ (ts pre : List IT), l = pre ++ ts → Ev (fun k => spec_ValidStore.l0 k (l.length : Int) (pre.length : Int) l) (tabsV l pre.length ts)
  | [], pre, e => Ev.shift 1 fun k => by simp only [spec_ValidStore.l0]; rw [if_neg (by rw [e]; simp)]; rfl
  | t :: ts, pre, e => by
    have hlt : pre.length < l.length := by rw [e]; exact len_cut _ _ _
    have ht : sT t := hs t (by rw [e]; simp)
    have hd : rd_T40 l (pre.length : Int) = t := by unfold rd_T40; rw [Int.toNat_natCast, e, getD_cut]
    have ih := specL0 l hb hs ts (pre ++ [t]) (by simp [e])
    rw [List.length_append, List.length_singleton] at ih
    have h1 := specL1 l hb pre.length hlt t.f0 t.f1 ht.1 ht.2 _ (l.length : Int) ih t.f1 [] rfl
    have hj : ∀ b : Bool, Ev (fun k => spec_ValidStore.j2 k (l.length : Int) (pre.length : Int) b l t.f0 t.f1) (!b && (t.f1.all (runS l pre.length) && tabsV l (pre.length + 1) ts)) := by
      intro b
      cases b with
      | true => exact Ev.shift 1 fun k => by simp only [spec_ValidStore.j2]; rfl
      | false => exact Ev.round (f := fun k => spec_ValidStore.l1 k (l.length : Int) (pre.length : Int) 0 l t.f0 t.f1) (fun k => by simp only [spec_ValidStore.j2]; rfl) h1
    have hg := specGood_is t.f1 ht.1 ht.2
    unfold tabsV headOk
    by_cases h2 : (t.f0.size : Int) > 64
    · rw [decide_eq_false (by omega : ¬ t.f0.size ≤ 64)]
      exact Ev.round (f := fun k => spec_ValidStore.j2 k (l.length : Int) (pre.length : Int) true l t.f0 t.f1) (fun k => by simp only [spec_ValidStore.l0]; rw [if_pos (by omega), if_pos (by omega), if_pos (by omega), hd, if_pos h2]) (hj true)
    · rw [decide_eq_true (by omega : t.f0.size ≤ 64)]
      by_cases h0 : pre.length = 0
      · rw [decide_eq_true h0]
        refine Ev.round (f := fun k => (spec_l3GoodRuns.f k t.f1).bind fun b => spec_ValidStore.j2 k (l.length : Int) (pre.length : Int) (!b) l t.f0 t.f1) (fun k => by simp only [spec_ValidStore.l0]; rw [if_pos (by omega), if_pos (by omega), if_pos (by omega), hd, if_neg h2, if_neg (by omega)]) (Ev.bind hg ?_)
        have h3 := hj (!goodR t.f1)
        simpa using h3
      · rw [decide_eq_false h0]
        have hm : wrap64 ((pre.length : Int) - 1) = ((pre.length - 1 : Nat) : Int) := by unfold wrap64; omega
        have hl0 : (rd_T40 l ((pre.length - 1 : Nat) : Int)).f0 = loT l (pre.length - 1) := rfl
        cases hl : Op.bytesLess (loT l (pre.length - 1)).toList t.f0.toList with
        | true =>
          refine Ev.round (f := fun k => (spec_l3GoodRuns.f k t.f1).bind fun b => spec_ValidStore.j2 k (l.length : Int) (pre.length : Int) (!b) l t.f0 t.f1) (fun k => by simp only [spec_ValidStore.l0]; rw [if_pos (by omega), if_pos (by omega), if_pos (by omega), hd, if_neg h2, if_pos (by omega), hm, if_pos (by omega), if_pos (by omega), hl0, if_pos hl]) (Ev.bind hg ?_)
          have h3 := hj (!goodR t.f1)
          simpa using h3
        | false =>
          exact Ev.round (f := fun k => spec_ValidStore.j2 k (l.length : Int) (pre.length : Int) true l t.f0 t.f1) (fun k => by simp only [spec_ValidStore.l0]; rw [if_pos (by omega), if_pos (by omega), if_pos (by omega), hd, if_neg h2, if_pos (by omega), hm, if_pos (by omega), if_pos (by omega), hl0, if_neg (by rw [hl]; simp)]) (hj true)
theorem specStore_is (l : List IT) (hb : l.length < 4611686018427387904) (hs : ∀ q ∈ l, sT q) : Ev (fun k => spec_ValidStore.f k l) (vstore l) := by
  have hj : ∀ b : Bool, Ev (fun k => spec_ValidStore.j0 k (l.length : Int) b l) (!b && tabsV l 0 l) := by
    intro b
    cases b with
    | true => exact Ev.shift 1 fun k => by simp only [spec_ValidStore.j0]; rfl
    | false => exact Ev.round (f := fun k => spec_ValidStore.l0 k (l.length : Int) 0 l) (fun k => by simp only [spec_ValidStore.j0]; rfl) (specL0 l hb hs l [] rfl)
  unfold spec_ValidStore.f vstore
  by_cases h1 : (l.length : Int) < 1
  · rw [decide_eq_false (by omega : ¬ 1 ≤ l.length)]; exact Ev.if_pos h1 (hj true)
  rw [decide_eq_true (by omega : 1 ≤ l.length)]
  by_cases h2 : (l.length : Int) > 100
  · rw [decide_eq_false (by omega : ¬ l.length ≤ 100)]; exact Ev.if_neg h1 (Ev.if_pos h2 (hj true))
  rw [decide_eq_true (by omega : l.length ≤ 100)]
  have e0 : (rd_T40 l 0).f0 = loT l 0 := rfl
  refine Ev.if_neg h1 (Ev.if_neg h2 (Ev.if_pos (by omega) ?_))
  rw [e0]
  have h3 := hj ((loT l 0).toList != [])
  have h4 : (!((loT l 0).toList != [])) = (loT l 0).toList.isEmpty := (isE _).symm
  rw [h4] at h3
  simpa using h3
end Go.Proofs.Ytjlggfdmfchncaa.Q

namespace Go.Proofs.Ytjlggfdmfchncaa.Q
open Go.RowKit Go.Proofs.YtjlggfdmfchncaaW.PrintWords Go.Proofs.YtjlggfdmfchncaaW.PrintLast Go.Proofs.YtjlggfdmfchncaaW.PrintMore
set_option linter.unusedVariables false
set_option linter.unusedSimpArgs false
theorem empty_rowE {w : World} {t : TypeId} {α : Type} (d : Kd α) : Kd.R d t (w.alloc (.cells #[] t)) w.heap.size (fun _ => True) (.slice (some ⟨w.heap.size, 0, none⟩) 0 0) [] :=
  ⟨fun _ _ => trivial, [], World.ownsRow_made w #[] 0 (Nat.le_refl _) (by decide) (by simp), ⟨by simp, fun j p h => by simp at h⟩⟩
theorem eq_nil_in (d : Nat) (A : Option Addr) (n c : Nat) (w : World) : (Op.equalIn (d + 1) 58 (.slice A n c) (.slice none 0 0)).run Try.prog w = .ok A.isNone w := by
  have hu := Try.underlying58
  cases A <;> simp [Op.equalIn, run_underlying hu]
theorem eq_nil (A : Option Addr) (n c : Nat) (w : World) : (binOp .eql 58 (.slice A n c) (.slice none 0 0)).run Try.prog w = .ok (.bool A.isNone) w := by
  have h : (Op.equal 58 (.slice A n c) (.slice none 0 0)).run Try.prog w = .ok A.isNone w := eq_nil_in 9999 A n c w
  simp [binOp, h, Result.andThen]
set_option maxHeartbeats 4000000 in
set_option maxRecDepth 100000 in
theorem clone_call (A : Option Addr) (c : Nat) (l : List S65) (w : World) (hr : Kd.C k65 w A l.length l) (hl : l.length ≤ 1000000000) :
    Calls Try.prog 54 #[.slice A l.length c] w fun e w' => ∃ v, e = .returned v ∧ Kd.R k65 65 w' w.heap.size (fun _ => True) v l ∧ Below w.heap.size w w' := by
  have kr : K0 (Below w.heap.size w w) := ⟨Below.refl _ _⟩
  have heq := eq_nil A l.length c w
  cases A with
  | none =>
    have hl0 : l = [] := by
      cases l with
      | nil => rfl
      | cons x l => obtain ⟨ad, h, -⟩ := hr.2.2 (by simp); cases h
    subst hl0
    simp only [Option.isNone, List.length_nil] at heq
    go_enter Try.func54, Try.ntmps54
    go_wp2
    go_ret
    exact ⟨_, rfl, Kd.R_nil _ _ _ _ _, kk⟩
  | some ad =>
    simp only [Option.isNone] at heq
    have hB : Below w.heap.size w (w.alloc (.cells #[] 65)) := kk
    have HC := Aside0.mk (Kd.C_below hr hB)
    have HO := Aside0.mk (empty_rowE (w := w) (t := 65) k65)
    have HB := Aside0.mk hB
    have HL := Aside0.mk hl
    clear hr hB hl
    go_enter Try.func54, Try.ntmps54
    go_wp2_with (at_builtin; go_loud (refine Kd.R_append_rows k65 (w0 := w) w.heap.size rfl (.tmp 5) (.tmp 6) 58 65 (.agg #[(.string ⟨#[]⟩), (.string ⟨#[]⟩), (.string ⟨#[]⟩), (.int .u64 0), (.int .i64 0), (.string ⟨#[]⟩)]) 80 rfl Try.underlying58 info65 rfl (by decide) (by omega) (.slice (some ⟨w.heap.size, 0, none⟩) 0 0) [] l (some ad) l.length c (fun _ => True) (fun _ => False) rfl rfl HO.out HC.out (fun _ _ h => h) (fun _ h => h.elim) (fun _ _ => trivial) HB.out HB.out.size (by have := HL.out; simp only [List.length_nil]; omega) ?_; intro v5 w5 ho hb hg hat; have HG := Aside0.mk (And.intro ho hb); clear ho hb hg hat))
    go_ret
    exact ⟨_, rfl, HG.out.1, HG.out.2⟩
set_option maxHeartbeats 4000000 in
set_option maxRecDepth 100000 in
theorem cloneRuns_call (A : Option Addr) (c : Nat) (rs : List S60) (w : World) (hr : Kd.C k60 w A rs.length rs) (hl : rs.length ≤ 1000000000) (hq : ∀ x ∈ rs, x.f0.length ≤ 1000000000) :
    Calls Try.prog 36 #[.slice A rs.length c] w fun e w' => ∃ v, e = .returned v ∧ Kd.S k60 60 w' w.heap.size (fun _ => True) v rs ∧ Below w.heap.size w w' := by
  have kr : K0 (Below w.heap.size w w) := ⟨Below.refl _ _⟩
  have HR := Aside0.mk hr
  have HQ := Aside0.mk (And.intro hl hq)
  have HS0 := Aside0.mk (show Kd.S k60 60 w w.heap.size (fun _ => True) (.slice none 0 0) (rs.take 0) from Kd.S_nil _ _ _ _ _)
  have HB0 := Aside0.mk (Below.refl w.heap.size w)
  clear hr hl hq
  obtain ⟨n, hn⟩ : ∃ n, rs.length = n := ⟨_, rfl⟩
  rw [hn] at HR ⊢
  have HN := Aside0.mk hn
  clear hn
  go_enter Try.func36, Try.ntmps36
  go_wp2_with fail
  go_loopw [3, 5, 8] (fun v3 v5 v8 W => ∃ (j : Nat), j ≤ n ∧ v8 = .int .i64 j ∧ Aside0 (Kd.S k60 60 W w.heap.size (fun _ => True) v3 (rs.take j)) ∧ Aside0 (Below w.heap.size w W)) (fun _ _ v8 _ => n - (intOf v8).toNat)
  case atStart => exact ⟨0, by omega, rfl, HS0, HB0⟩
  case round =>
    clear HS0 HB0
    obtain ⟨j, hj, rfl, HS, HB⟩ := hrel
    have kW : K0 (Below w.heap.size w wr) := ⟨HB.out⟩
    by_cases hlt : j < n
    · have dl : decide ((j : Int) < (n : Int)) = true := decide_eq_true (by omega)
      have hwj : IntKind.i64.wrap ((j : Int) + 1) = ((j + 1 : Nat) : Int) := by have := HQ.out.1; have := HN.out; rw [IntKind.wrap_i64]; omega
      obtain ⟨ad, A0, c0, e0, y0, hc0, hC0⟩ := at_T60 HR.out (j : Int) (by omega) (by omega)
      subst e0
      obtain ⟨x, hX⟩ : ∃ x, rd_T60 rs (j : Int) = x := ⟨_, rfl⟩
      have hxj : rs[j]? = some x := by rw [← hX]; unfold rd_T60; rw [Int.toNat_natCast, List.getD_eq_getElem?_getD]; have := HN.out; simp [show j < rs.length by omega]
      rw [hX] at y0 hC0
      rw [Int.toNat_natCast] at y0
      have y0 := clk y0
      have htk : rs.take (j + 1) = rs.take j ++ [x] := by rw [List.take_add_one, hxj]; rfl
      have hlen : (rs.take j).length = j := by rw [List.length_take]; have := HN.out; omega
      obtain ⟨A3, c3, rfl⟩ := Kd.S_slice HS.out
      rw [hlen] at HS ⊢
      obtain ⟨Wa, hWa⟩ : ∃ W, W = wr.alloc (.cells #[.slice A0 x.f0.length c0] 60) := ⟨_, rfl⟩
      have hba : Below wr.heap.size wr Wa := hWa ▸ Below.alloc (Below.refl _ _) (Nat.le_refl _) _
      have hh : Wa.heap[wr.heap.size]? = some (.cells #[.slice A0 x.f0.length c0] 60 (0, 0)) := hWa ▸ heap_alloc_new wr _
      have z0 : Wa.cell? ⟨wr.heap.size, 0, none⟩ = some (.slice A0 x.f0.length c0) := (blk_cell hh 0).trans rfl
      have HX := Aside0.mk (And.intro hba (And.intro (HB.out.trans (hba.mono HB.out.size)) (And.intro (HQ.out.2 x (List.mem_of_getElem? hxj)) (And.intro hC0 (And.intro htk hlen)))))
      clear hba hh hc0 hC0 htk hlen hX hxj
      go_wp2_with fail
      rw [← hWa]
      clear hWa
      refine (clone_call A0 c0 x.f0 Wa (Kd.C_below HX.out.2.2.2.1 HX.out.2.1) HX.out.2.2.1).mono ?_
      rintro ex W1 ⟨v1, rfl, hR, hb⟩
      obtain ⟨A1, c1, rfl⟩ := Kd.R_slice hR
      have HY := Aside0.mk (And.intro (Kd.S_below (Kd.S_mono (ok' := fun k => True ∧ ¬ (Wa.heap.size ≤ k)) (Kd.S_bound HS.out) (fun k hk => ⟨trivial, by have := hk.2.2.1; have := HX.out.1.size; omega⟩)) (HX.out.1.trans (hb.mono HX.out.1.size))) (And.intro (HX.out.2.1.trans (hb.mono HX.out.2.1.size)) (And.intro (Kd.R_lower (Kd.R_mono (ok' := fun k => Wa.heap.size ≤ k) (Kd.R_bound hR) (fun k hk => hk.2.1)) HX.out.2.1.size) (show ∀ k, Wa.heap.size ≤ k → some k ≠ Value.ownBlock (.slice A3 j c3) from fun k hk e => by have := Kd.S_lt HS.out k e.symm; have := HX.out.1.size; omega))))
      clear hR hb
      go_wp2_with (at_builtin; go_loud (refine Kd.S_append k60 (w0 := w) w.heap.size rfl (.tmp 12) (.tmp 17) 38 60 (.agg #[(.slice none 0 0)]) 24 rfl Try.underlying38 info60 rfl (by decide) (by omega) (.slice A3 j c3) (rs.take j) x [.slice A1 x.f0.length c1] (fun _ => True) (fun k => Wa.heap.size ≤ k) rfl rfl (k60_mkM _ _ _ x HY.out.2.2.1) (fun k hk => ⟨trivial, HY.out.2.2.2 k hk⟩) (fun _ _ => trivial) HY.out.1 HY.out.2.1 HY.out.2.1.size (by have := HX.out.2.2.2.2.2; have := HQ.out.1; have := HN.out; omega) ?_; intro v5 w5 ho hb hg hat; obtain ⟨A5, m5, c5, rfl⟩ : ∃ A m c, v5 = .slice A m c := (by obtain ⟨A, c, h⟩ := Kd.S_slice ho; exact ⟨_, _, _, h⟩); have HG := Aside0.mk (And.intro ho hb); clear ho hb hg hat))
      go_roundw
      case measure => simp only [intOf]; omega
      case rel => exact ⟨j + 1, by omega, by rw [Int.natCast_add]; rfl, ⟨by rw [HX.out.2.2.2.2.1]; exact HG.out.1⟩, ⟨HG.out.2⟩⟩
    · obtain rfl : j = n := by omega
      have dl : decide ((j : Int) < (j : Int)) = false := decide_eq_false (by omega)
      go_wp2
      go_ret
      refine ⟨_, rfl, ?_, HB.out⟩
      have h := HS.out
      rw [← HN.out, List.take_length] at h
      exact h
end Go.Proofs.Ytjlggfdmfchncaa.Q

namespace Go.Proofs.Ytjlggfdmfchncaa.Q
open Go.RowKit Go.Proofs.YtjlggfdmfchncaaW.PrintWords Go.Proofs.YtjlggfdmfchncaaW.PrintLast Go.Proofs.YtjlggfdmfchncaaW.PrintMore
set_option linter.unusedVariables false
set_option linter.unusedSimpArgs false
def cmpB (a b : ByteArray) : Int := if Op.bytesLess a.toList b.toList = true then -1 else if Op.bytesLess b.toList a.toList = true then 1 else 0
set_option maxHeartbeats 4000000 in
set_option maxRecDepth 100000 in
theorem cmp_call (lo row : ByteArray) (r : Value) (w : World) : Calls Try.prog 41 #[.agg #[.string lo, r], .string row] w fun e w' => e = .returned (.int .i64 (cmpB lo row)) ∧ Below w.heap.size w w' := by
  have kr : K0 (Below w.heap.size w w) := ⟨Below.refl _ _⟩
  obtain ⟨wb, hwb⟩ : ∃ wb, wb = w.alloc (.cells #[.string lo, r] 40) := ⟨_, rfl⟩
  have hb : Below w.heap.size w wb := hwb ▸ kk
  have hh : wb.heap[w.heap.size]? = some (.cells #[.string lo, r] 40 (0, 0)) := hwb ▸ heap_alloc_new w _
  have c0 : wb.cell? ⟨w.heap.size, 0, none⟩ = some (.string lo) := (blk_cell hh 0).trans rfl
  have HB := Aside0.mk hb
  clear hb hh
  go_enter Try.func41, Try.ntmps41
  go_wp2_with fail
  rw [← hwb]
  clear hwb
  refine (strings_Compare.calls lo row (cmpB lo row) wb rfl).mono ?_
  rintro ex W1 ⟨rfl, hb⟩
  have HY := Aside0.mk (HB.out.trans (hb.below.mono HB.out.size))
  clear hb
  go_wp2
  go_ret
  exact ⟨rfl, HY.out⟩
def lessT (ts : List S40) (row : ByteArray) (i : Nat) : Bool := Op.bytesLess (rd_T40 ts (i : Int)).f0.toList row.toList
set_option maxHeartbeats 4000000 in
set_option maxRecDepth 100000 in
theorem search_call (A : Option Addr) (c n : Nat) (ts : List S40) (row : ByteArray) (w : World) (hr : Kd.C k40 w A n ts) (hn : ts.length = n) (hl : n ≤ 1000000000) (hs : ∀ i j, i ≤ j → j < n → lessT ts row j = true → lessT ts row i = true) :
    Calls Try.prog 40 #[.slice A n c, .string row, .func (.func 41) #[] #[]] w fun e w' => ∃ m : Nat, m ≤ n ∧ (∀ i, i < m → lessT ts row i = true) ∧ (∀ i, m ≤ i → i < n → lessT ts row i = false) ∧ e = .returned (.tuple #[.int .i64 m, .bool (decide (m < n) && (cmpB (rd_T40 ts (m : Int)).f0 row == 0))]) ∧ Below w.heap.size w w' := by
  have kr : K0 (Below w.heap.size w w) := ⟨Below.refl _ _⟩
  have HR := Aside0.mk hr
  have HS := Aside0.mk (And.intro hn (And.intro hl hs))
  have HB0 := Aside0.mk (Below.refl w.heap.size w)
  clear hr hn hl hs
  go_enter Try.func40, Try.ntmps40
  go_wp2_with fail
  go_loopw [9, 10, 11] (fun v9 v10 v11 W => ∃ (lo hi : Nat), v9 = .int .i64 lo ∧ v10 = .int .i64 hi ∧ lo ≤ hi ∧ hi ≤ n ∧ Aside0 ((∀ i, i < lo → lessT ts row i = true) ∧ (∀ i, hi ≤ i → i < n → lessT ts row i = false)) ∧ Aside0 (Below w.heap.size w W)) (fun v9 v10 _ _ => (intOf v10).toNat - (intOf v9).toNat)
  case atStart => exact ⟨0, n, rfl, rfl, by omega, by omega, ⟨fun i h => absurd h (Nat.not_lt_zero i), fun i h1 h2 => by omega⟩, HB0⟩
  case round =>
    clear HB0
    obtain ⟨lo, hi, rfl, rfl, h1, h2, HI, HB⟩ := hrel
    have kW : K0 (Below w.heap.size w wr) := ⟨HB.out⟩
    by_cases hlt : lo < hi
    · have dl : decide ((lo : Int) < (hi : Int)) = true := decide_eq_true (by omega)
      obtain ⟨s, hs⟩ : ∃ s, s = lo + hi := ⟨_, rfl⟩
      obtain ⟨m, hm⟩ : ∃ m, m = s / 2 := ⟨_, rfl⟩
      have hml : lo ≤ m ∧ m < hi ∧ m < n := by omega
      have hsn : s ≤ 2000000000 := by have := HS.out.2.1; omega
      have hA : wrap64 ((lo : Int) + (hi : Int)) = (s : Int) := by rw [wrap_id _ (by omega) (by omega)]; omega
      have hB : IntKind.u64.wrap (s : Int) = (s : Int) := by unfold IntKind.wrap; simp [IntKind.bits, IntKind.signed]; omega
      have hC : wrap64 ((s : Int) / 2) = (m : Int) := by rw [wrap_id _ (by omega) (by omega)]; omega
      have hD : IntKind.i64.wrap ((m : Int) + 1) = ((m + 1 : Nat) : Int) := by rw [IntKind.wrap_i64]; omega
      obtain ⟨ad, A1, c1, e0, y0, y1, hc1, hC1⟩ := at_T40 HR.out (m : Int) (by omega) (by omega)
      subst e0
      obtain ⟨x, hX⟩ : ∃ x, rd_T40 ts (m : Int) = x := ⟨_, rfl⟩
      rw [hX] at y0 y1
      rw [Int.toNat_natCast] at y0 y1
      have y0 := clk y0
      have y1 := clk y1
      have hmn := hml.2.2
      have HX := Aside0.mk (And.intro hX (And.intro hml hsn))
      clear hs hm hc1 hC1 hX hml hsn
      go_wp2_with fail
      refine (cmp_call x.f0 row _ wr).mono ?_
      rintro ex W1 ⟨rfl, hb⟩
      have hB1 := HB.out.trans (hb.mono HB.out.size)
      have HB1 := Aside0.mk hB1
      clear hb hB1
      by_cases hc : cmpB x.f0 row < 0
      · have dc : decide (cmpB x.f0 row < 0) = true := decide_eq_true hc
        have HCc := Aside0.mk hc
        clear hc
        go_wp2_with fail
        go_roundw
        case measure => have := HX.out.2.1; simp only [intOf]; omega
        case rel =>
          have hx := HX.out
          have hless : lessT ts row m = true := by
            have h := HCc.out
            unfold lessT; rw [hx.1]
            unfold cmpB at h
            split at h
            · assumption
            · split at h <;> omega
          exact ⟨m + 1, hi, by rw [Int.natCast_add]; rfl, rfl, by omega, h2, ⟨fun i h => HS.out.2.2 i m (by omega) (by omega) hless, HI.out.2⟩, HB1⟩
      · have dc : decide (cmpB x.f0 row < 0) = false := decide_eq_false hc
        have HCc := Aside0.mk hc
        clear hc
        go_wp2_with fail
        go_roundw
        case measure => have := HX.out.2.1; simp only [intOf]; omega
        case rel =>
          have hx := HX.out
          have hless : lessT ts row m = false := by
            have h := HCc.out
            unfold lessT; rw [hx.1]
            cases hb : Op.bytesLess x.f0.toList row.toList
            · rfl
            · unfold cmpB at h; rw [if_pos hb] at h; omega
          exact ⟨lo, m, rfl, rfl, by omega, by omega, ⟨HI.out.1, fun i h3 h4 => by
            cases hb : lessT ts row i
            · rfl
            · rw [HS.out.2.2 m i h3 h4 hb] at hless; cases hless⟩, HB1⟩
    · obtain rfl : lo = hi := by omega
      have dl : decide ((lo : Int) < (lo : Int)) = false := decide_eq_false (by omega)
      by_cases hlo : lo < n
      · have dn : decide ((lo : Int) < (n : Int)) = true := decide_eq_true (by omega)
        have dn2 : decide (lo < n) = true := decide_eq_true hlo
        obtain ⟨ad, A1, c1, e0, y0, y1, hc1, hC1⟩ := at_T40 HR.out (lo : Int) (by omega) (by omega)
        subst e0
        obtain ⟨x, hX⟩ : ∃ x, rd_T40 ts (lo : Int) = x := ⟨_, rfl⟩
        rw [hX] at y0 y1
        rw [Int.toNat_natCast] at y0 y1
        have y0 := clk y0
        have y1 := clk y1
        have HX := Aside0.mk hX
        have HD := Aside0.mk dn2
        clear hc1 hC1 hX dn2
        go_wp2_with fail
        refine (cmp_call x.f0 row _ wr).mono ?_
        rintro ex W1 ⟨rfl, hb⟩
        have HB1 := Aside0.mk (HB.out.trans (hb.mono HB.out.size))
        clear hb
        go_wp2
        go_ret2
        exact ⟨lo, h2, HI.out.1, HI.out.2, by rw [HX.out, HD.out]; rfl, HB1.out⟩
      · have dn : decide ((lo : Int) < (n : Int)) = false := decide_eq_false (by omega)
        have HD := Aside0.mk (show decide (lo < n) = false from decide_eq_false hlo)
        go_wp2
        go_ret2
        exact ⟨lo, h2, HI.out.1, HI.out.2, by rw [HD.out]; rfl, HB.out⟩
def loB (ts : List S40) (i : Nat) : List UInt8 := (rd_T40 ts (i : Int)).f0.toList
/-- The tablet that holds a row: the last whose first row is not above it. -/
def Holds (ts : List S40) (row : ByteArray) (i : Nat) : Prop := i < ts.length ∧ Op.bytesLess row.toList (loB ts i) = false ∧ ∀ j, i < j → j < ts.length → Op.bytesLess row.toList (loB ts j) = true
/-- The first rows of the tablets rise from the empty one on. -/
def RiseT (ts : List S40) : Prop := 0 < ts.length ∧ loB ts 0 = [] ∧ ∀ i j, i < j → j < ts.length → Op.bytesLess (loB ts i) (loB ts j) = true
theorem less_nil : ∀ (b : List UInt8), Op.bytesLess [] b = false → b = []
  | [], _ => rfl
  | x :: b, h => by simp [Op.bytesLess] at h
theorem cmpB_zero {a b : ByteArray} (h : cmpB a b = 0) : a.toList = b.toList := by
  unfold cmpB at h
  split at h
  · omega
  · split at h
    · omega
    · rename_i h1 h2
      rcases less_tri a.toList b.toList with h3 | h3 | h3
      · exact absurd h3 h1
      · exact h3
      · exact absurd h3 h2
theorem holds_of {ts : List S40} {row : ByteArray} (hR : RiseT ts) {m : Nat} (hm : m ≤ ts.length) (h1 : ∀ i, i < m → lessT ts row i = true) (h2 : ∀ i, m ≤ i → i < ts.length → lessT ts row i = false) :
    (∀ h : m < ts.length, cmpB (rd_T40 ts (m : Int)).f0 row = 0 → Holds ts row m) ∧ ((m < ts.length → cmpB (rd_T40 ts (m : Int)).f0 row ≠ 0) → 1 ≤ m ∧ Holds ts row (m - 1)) := by
  constructor
  · intro h hc
    have he : loB ts m = row.toList := cmpB_zero hc
    refine ⟨h, ?_, fun j hj hl => ?_⟩
    · rw [he]; exact less_irrefl _
    · rw [← he]; exact hR.2.2 m j hj hl
  · intro hc
    have hm1 : 1 ≤ m := by
      rcases Nat.eq_zero_or_pos m with rfl | h
      · exfalso
        have h3 := h2 0 (Nat.le_refl _) hR.1
        have h4 : Op.bytesLess (loB ts 0) row.toList = false := h3
        rw [hR.2.1] at h4
        have h5 := less_nil _ h4
        refine hc hR.1 ?_
        unfold cmpB
        rw [show (rd_T40 ts ((0 : Nat) : Int)).f0.toList = [] from hR.2.1, h5]
        simp [Op.bytesLess]
      · exact h
    have hlt : Op.bytesLess (loB ts (m - 1)) row.toList = true := h1 (m - 1) (by omega)
    refine ⟨hm1, by omega, ?_, fun j hj hl => ?_⟩
    · cases hb : Op.bytesLess row.toList (loB ts (m - 1))
      · rfl
      · have := less_trans _ _ _ hlt hb
        rw [less_irrefl] at this; cases this
    · have hml : m < ts.length := by omega
      have h3 : Op.bytesLess (loB ts m) row.toList = false := h2 m (Nat.le_refl _) hml
      have h4 := hc hml
      have h5 : Op.bytesLess row.toList (loB ts m) = true := by
        cases hb : Op.bytesLess row.toList (loB ts m)
        · exfalso
          refine h4 ?_
          unfold cmpB
          rw [if_neg (by rw [show (rd_T40 ts (m : Int)).f0.toList = loB ts m from rfl, h3]; simp), if_neg (by rw [show (rd_T40 ts (m : Int)).f0.toList = loB ts m from rfl, hb]; simp)]
        · rfl
      rcases Nat.lt_or_ge m j with h6 | h6
      · exact less_trans _ _ _ h5 (hR.2.2 m j h6 hl)
      · obtain rfl : j = m := by omega
        exact h5
theorem holds_one {ts : List S40} {row : ByteArray} {i j : Nat} (h : Holds ts row i) (h' : Holds ts row j) : i = j := by
  rcases Nat.lt_trichotomy i j with h1 | h1 | h1
  · have := h.2.2 j h1 h'.1
    rw [h'.2.1] at this; cases this
  · exact h1
  · have := h'.2.2 i h1 h.1
    rw [h.2.1] at this; cases this
set_option maxHeartbeats 4000000 in
set_option maxRecDepth 100000 in
theorem holder_call (A : Option Addr) (c : Nat) (ts : List S40) (row : ByteArray) (w : World) (hr : Kd.C k40 w A ts.length ts) (hl : ts.length ≤ 1000000000) (hR : RiseT ts) :
    Calls Try.prog 23 #[.agg #[.slice A ts.length c], .string row] w fun e w' => ∃ i : Nat, Holds ts row i ∧ e = .returned (.int .i64 i) ∧ Below w.heap.size w w' := by
  have kr : K0 (Below w.heap.size w w) := ⟨Below.refl _ _⟩
  obtain ⟨wb, hwb⟩ : ∃ wb, wb = w.alloc (.cells #[.slice A ts.length c] 28) := ⟨_, rfl⟩
  have hb : Below w.heap.size w wb := hwb ▸ kk
  have hh : wb.heap[w.heap.size]? = some (.cells #[.slice A ts.length c] 28 (0, 0)) := hwb ▸ heap_alloc_new w _
  have c0 : wb.cell? ⟨w.heap.size, 0, none⟩ = some (.slice A ts.length c) := (blk_cell hh 0).trans rfl
  have HB := Aside0.mk (And.intro hb (And.intro (Kd.C_below hr hb) (And.intro hl hR)))
  clear hb hh hr hl hR
  go_enter Try.func23, Try.ntmps23
  go_wp2_with fail
  rw [← hwb]
  clear hwb
  have hmono : ∀ i j, i ≤ j → j < ts.length → lessT ts row j = true → lessT ts row i = true := fun i j hij hj h => by
    rcases Nat.lt_or_ge i j with h1 | h1
    · exact less_trans _ _ _ (HB.out.2.2.2.2.2 i j h1 hj) h
    · obtain rfl : i = j := by omega
      exact h
  refine (search_call A c ts.length ts row wb HB.out.2.1 rfl HB.out.2.2.1 hmono).mono ?_
  clear hmono
  rintro ex W1 ⟨m, hm, h1, h2, rfl, hb⟩
  have HY := Aside0.mk (HB.out.1.trans (hb.mono HB.out.1.size))
  have hh := holds_of HB.out.2.2.2 hm h1 h2
  clear hb h1 h2
  obtain ⟨fd, hfd⟩ : ∃ b, (decide (m < ts.length) && (cmpB (rd_T40 ts (m : Int)).f0 row == 0)) = b := ⟨_, rfl⟩
  rw [hfd]
  cases fd
  · have hx := hh.2 (fun hlt hc => by simp [hlt, hc] at hfd)
    have HX := Aside0.mk hx
    have hw : IntKind.i64.wrap ((m : Int) - 1) = ((m - 1 : Nat) : Int) := by have := hx.1; have := HB.out.2.2.1; rw [IntKind.wrap_i64]; omega
    clear hfd hh hx
    go_wp2
    go_ret
    exact ⟨m - 1, HX.out.2, rfl, HY.out⟩
  · have hx : Holds ts row m := by
      simp only [Bool.and_eq_true, decide_eq_true_eq, beq_iff_eq] at hfd
      exact hh.1 hfd.1 hfd.2
    have HX := Aside0.mk hx
    clear hfd hh hx
    go_wp2
    go_ret
    exact ⟨m, HX.out, rfl, HY.out⟩
end Go.Proofs.Ytjlggfdmfchncaa.Q

namespace Go.Proofs.Ytjlggfdmfchncaa.Q
open Go.RowKit Go.Proofs.YtjlggfdmfchncaaW.PrintWords Go.Proofs.YtjlggfdmfchncaaW.PrintLast Go.Proofs.YtjlggfdmfchncaaW.PrintMore
set_option linter.unusedVariables false
set_option linter.unusedSimpArgs false
theorem leq_not (a b : List UInt8) : (Op.bytesLess a b || a == b) = !Op.bytesLess b a := by
  rcases less_tri a b with h | h | h
  · have h2 : Op.bytesLess b a = false := by
      cases hb : Op.bytesLess b a
      · rfl
      · have := less_trans _ _ _ h hb
        rw [less_irrefl] at this; cases this
    simp [h, h2]
  · subst h; simp [less_irrefl]
  · have h2 : Op.bytesLess a b = false := by
      cases hb : Op.bytesLess a b
      · rfl
      · have := less_trans _ _ _ h hb
        rw [less_irrefl] at this; cases this
    have h3 : (a == b) = false := by
      cases hb : a == b
      · rfl
      · rw [eq_of_beq hb] at h; rw [less_irrefl] at h; cases h
    simp [h, h2, h3]
set_option maxHeartbeats 4000000 in
set_option maxRecDepth 100000 in
theorem l7Holder_call (A : Option Addr) (c : Nat) (ts : List S40) (row : ByteArray) (w : World) (hr : Kd.C k40 w A ts.length ts) (hl : ts.length ≤ 1000000000) (hR : RiseT ts) :
    Calls Try.prog 17 #[.agg #[.slice A ts.length c], .string row] w fun e w' => ∃ i : Nat, Holds ts row i ∧ e = .returned (.int .i64 i) ∧ Below w.heap.size w w' := by
  have kr : K0 (Below w.heap.size w w) := ⟨Below.refl _ _⟩
  obtain ⟨n, hn⟩ : ∃ n, ts.length = n := ⟨_, rfl⟩
  rw [hn] at hr ⊢
  obtain ⟨wb, hwb⟩ : ∃ wb, wb = w.alloc (.cells #[.slice A n c] 28) := ⟨_, rfl⟩
  have hb : Below w.heap.size w wb := hwb ▸ kk
  have hh : wb.heap[w.heap.size]? = some (.cells #[.slice A n c] 28 (0, 0)) := hwb ▸ heap_alloc_new w _
  have c0 := clk ((blk_cell hh 0).trans rfl : wb.cell? ⟨w.heap.size, 0, none⟩ = some (.slice A n c))
  have HB := Aside0.mk (And.intro hb (And.intro (Kd.C_below hr hb) (And.intro hl (And.intro hR hn))))
  have HB0 := Aside0.mk (Below.refl wb.heap.size wb)
  clear hb hh hr hl hR hn
  go_enter Try.func17, Try.ntmps17
  go_wp2_with fail
  rw [← hwb]
  clear hwb
  go_loopw [5, 6] (fun v5 v6 W => ∃ (j a : Nat), j ≤ n ∧ v6 = .int .i64 j ∧ v5 = .int .i64 a ∧ Aside0 ((j = 0 → a = 0) ∧ (0 < j → a < j ∧ Op.bytesLess row.toList (loB ts a) = false ∧ ∀ k, a < k → k < j → Op.bytesLess row.toList (loB ts k) = true)) ∧ Aside0 (Below wb.heap.size wb W)) (fun _ v6 _ => n - (intOf v6).toNat)
  case atStart => exact ⟨0, 0, by omega, rfl, rfl, ⟨fun _ => rfl, fun h => by omega⟩, HB0⟩
  case round =>
    clear HB0
    obtain ⟨j, a, hj, rfl, rfl, HI, HW⟩ := hrel
    have kW : K0 (Below wb.heap.size wb wr) := ⟨HW.out⟩
    by_cases hlt : j < n
    · have dl : decide ((j : Int) < (n : Int)) = true := decide_eq_true (by omega)
      have hwj : IntKind.i64.wrap ((j : Int) + 1) = ((j + 1 : Nat) : Int) := by have := HB.out.2.2; rw [IntKind.wrap_i64]; omega
      obtain ⟨ad, A1, c1, e0, y0, y1, hc1, hC1⟩ := at_T40 HB.out.2.1 (j : Int) (by omega) (by omega)
      subst e0
      obtain ⟨x, hX⟩ : ∃ x, rd_T40 ts (j : Int) = x := ⟨_, rfl⟩
      rw [hX] at y0 y1
      rw [Int.toNat_natCast] at y0 y1
      have y0 := clk y0
      have y1 := clk y1
      have hlo : loB ts j = x.f0.toList := by unfold loB; rw [hX]
      have HX := Aside0.mk hlo
      clear hc1 hC1 hX hlo
      have hq := leq_not x.f0.toList row.toList
      cases hb : Op.bytesLess row.toList x.f0.toList
      · have HL := Aside0.mk hb
        rw [hb] at hq
        clear hb
        go_wp2_with fail
        go_roundw
        case measure => simp only [intOf]; omega
        case rel =>
          refine ⟨j + 1, j, by omega, by rw [Int.natCast_add]; rfl, rfl, ⟨fun h => by omega, fun _ => ⟨by omega, by rw [HX.out]; exact HL.out, fun k h1 h2 => by omega⟩⟩, HW⟩
      · have HL := Aside0.mk hb
        rw [hb] at hq
        clear hb
        go_wp2_with fail
        go_roundw
        case measure => simp only [intOf]; omega
        case rel =>
          refine ⟨j + 1, a, by omega, by rw [Int.natCast_add]; rfl, rfl, ⟨fun h => by omega, fun _ => ?_⟩, HW⟩
          have hj0 : 0 < j := by
            rcases Nat.eq_zero_or_pos j with h | h
            · exfalso
              have h2 := HB.out.2.2.2.1.2.1
              have h3 := HX.out
              rw [h] at h3
              rw [h2] at h3
              have h4 := HL.out
              rw [← h3] at h4
              cases hr : row.toList <;> rw [hr] at h4 <;> simp [Op.bytesLess] at h4
            · exact h
          have hi := HI.out.2 hj0
          refine ⟨by omega, hi.2.1, fun k h1 h2 => ?_⟩
          rcases Nat.lt_or_ge k j with h3 | h3
          · exact hi.2.2 k h1 h3
          · obtain rfl : k = j := by omega
            rw [HX.out]; exact HL.out
    · obtain rfl : j = n := by omega
      have dl : decide ((j : Int) < (j : Int)) = false := decide_eq_false (by omega)
      go_wp2
      go_ret
      have hi := HI.out
      have hR := HB.out.2.2.2
      refine ⟨a, ⟨?_, ?_, ?_⟩, rfl, HB.out.1.trans (HW.out.mono HB.out.1.size)⟩
      · rw [hR.2]; exact (hi.2 (by have := hR.1.1; omega)).1
      · exact (hi.2 (by have := hR.1.1; omega)).2.1
      · intro k h1 h2
        exact (hi.2 (by have := hR.1.1; omega)).2.2 k h1 (by omega)
end Go.Proofs.Ytjlggfdmfchncaa.Q

namespace Go.Proofs.Ytjlggfdmfchncaa.Q
inductive Pl where
  | done
  | n (i : Nat) (r : Pl)
  | y (i : Nat) (r : Pl)
  | two (i j : Nat) (p q : Pl)
def Pl.len : Pl → Nat
  | .done => 0
  | .n _ r => r.len + 1
  | .y _ r => r.len + 1
  | .two _ _ p _ => p.len + 1
def planP (md : Region.Mode) (ops : Array Oper) : Pl → Array Bool → Bool
  | .done, l => Region.ready md ops l == []
  | .n i r, l => Region.free md ops l i && ((Region.ready md ops l).contains i && planP md ops r (l.setIfInBounds i true))
  | .y i r, l => (Region.ready md ops l == [i]) && planP md ops r (l.setIfInBounds i true)
  | .two i j p q, l => (Region.ready md ops l == [i, j]) && ((p.len == q.len) && (planP md ops p (l.setIfInBounds i true) && planP md ops q (l.setIfInBounds j true)))
section
variable {P : Program} {ops : Array Oper} {Q : Exit → Act → World → Prop} {md : Region.Mode} {S : World → Prop}
def Sp (P : Program) (md : Region.Mode) (ops : Array Oper) (Q : Exit → Act → World → Prop) (S : World → Prop) (r : Pl) (a : Act) (w : World) : Prop :=
  S w → Region.noSelect ops = true → ∀ l, planP md ops r l = true → wpAnyH P md ops (NoPanic Q) S r.len l a w
theorem sp_region {id : Nat} {a : Act} {w : World} (r : Pl) (hm : P.follows .mixedOrders = true) (hc : (Region.noSelect ops && (planP .any ops r (Array.replicate ops.size false) && (r.len == ops.size))) = true)
    (hS : S w.drew) (h : S w.drew → Sp P .any ops Q S r a w.drew) : (Code.region id ops true).wp P Q a w := by
  simp only [Bool.and_eq_true, beq_iff_eq] at hc
  refine wp_region_noPanic (wp_region_held_drew hm hS fun h1 => ?_)
  have h2 := h h1 h1 hc.1 _ hc.2.1
  rw [hc.2.2] at h2
  exact h2
theorem sp_done {a : Act} {w : World} (h : S w → Q .normal a w) : Sp P md ops Q S .done a w := fun hS _ l hl => wpAnyH_done (by simpa [planP] using hl) (NoPanic.normal (h hS)) _
theorem sp_one {i : Nat} {r : Pl} {d : Option Tmp} {op : Op} {ty : TypeId} {pos : String} {af : Array Edge} {gu : Option (Nat × Bool)} {a : Act} {w : World} (ho : ops[i]? = some ⟨d, op, ty, pos, af, gu⟩) (hw : Region.wanted ⟨d, op, ty, pos, af, gu⟩ (yielded ops a.tmps) = true)
    (h : S w → ∀ K : Act → World → Prop, Shut (∀ a' w', S w' → (S w' → Sp P md ops Q S r a' w') → K a' w') → Oper.wp P ⟨d, op, ty, pos, af, gu⟩ a w K (NoPanic Q)) : Sp P md ops Q S (.y i r) a w := by
  intro hS hs l hl
  simp only [planP, Bool.and_eq_true, beq_iff_eq] at hl
  refine wpAnyH_ready hl.1 (by simp) (AllReadyH.cons ho (fun K hK => ?_) AllReadyH.nil)
  rw [if_pos hw]
  exact h hS K fun a' w' h1 h2 => hK.out a' w' h1 fun h3 => h2 h3 h3 hs _ hl.2
theorem sp_two {i j : Nat} {p q : Pl} {d d' : Option Tmp} {op op' : Op} {ty ty' : TypeId} {pos pos' : String} {af af' : Array Edge} {gu gu' : Option (Nat × Bool)} {a : Act} {w : World} (ho : ops[i]? = some ⟨d, op, ty, pos, af, gu⟩) (hw : Region.wanted ⟨d, op, ty, pos, af, gu⟩ (yielded ops a.tmps) = true)
    (ho' : ops[j]? = some ⟨d', op', ty', pos', af', gu'⟩) (hw' : Region.wanted ⟨d', op', ty', pos', af', gu'⟩ (yielded ops a.tmps) = true)
    (h : S w → ∀ K : Act → World → Prop, Shut (∀ a' w', S w' → (S w' → Sp P md ops Q S p a' w') → K a' w') → Oper.wp P ⟨d, op, ty, pos, af, gu⟩ a w K (NoPanic Q))
    (h' : S w → ∀ K : Act → World → Prop, Shut (∀ a' w', S w' → (S w' → Sp P md ops Q S q a' w') → K a' w') → Oper.wp P ⟨d', op', ty', pos', af', gu'⟩ a w K (NoPanic Q)) : Sp P md ops Q S (.two i j p q) a w := by
  intro hS hs l hl
  simp only [planP, Bool.and_eq_true, beq_iff_eq] at hl
  refine wpAnyH_ready hl.1 (by simp) (AllReadyH.cons ho (fun K hK => ?_) (AllReadyH.cons ho' (fun K hK => ?_) AllReadyH.nil))
  · rw [if_pos hw]
    exact h hS K fun a' w' h1 h2 => hK.out a' w' h1 fun h3 => h2 h3 h3 hs _ hl.2.2.1
  · rw [if_pos hw']
    refine h' hS K fun a' w' h1 h2 => hK.out a' w' h1 fun h3 => ?_
    have h4 := h2 h3 h3 hs _ hl.2.2.2
    rw [← hl.2.1] at h4
    exact h4
variable {i j dj : Nat} {r p q : Pl} {d : Tmp} {od od' : Option Tmp} {op op' : Op} {ty ty' : TypeId} {pos pos' : String} {af af' : Array Edge} {gu' : Option (Nat × Bool)} {g b : Bool} {T : Array Value} {D : List Deferred} {w : World}
theorem sp_n (T' : Array Value) (v : Value) (ho : ops[i]? = some ⟨some d, op, ty, pos, af, none⟩) (hv : ∀ W, S W → (execOp (Act.eval ⟨T, D⟩) ⟨some d, op, ty, pos, af, none⟩).run P W = .ok (.value v) W) (hT : T.setIfInBounds d v = T') (h : Sp P md ops Q S r ⟨T', D⟩ w) : Sp P md ops Q S (.n i r) ⟨T, D⟩ w := by
  subst hT
  intro hS hs l hl
  simp only [planP, Bool.and_eq_true] at hl
  exact wpAnyH_take ho hs hl.1 hl.2.1 (fun _ _ _ h => h.elim) (.inl ⟨yes_n, hv⟩) hS (h hS hs _ hl.2.2)
theorem sp_1n (ho : ops[i]? = some ⟨od, op, ty, pos, af, none⟩)
    (h : S w → ∀ K : Act → World → Prop, Shut (∀ a' w', S w' → (S w' → Sp P md ops Q S r a' w') → K a' w') → Oper.wp P ⟨od, op, ty, pos, af, none⟩ ⟨T, D⟩ w K (NoPanic Q)) : Sp P md ops Q S (.y i r) ⟨T, D⟩ w := sp_one ho yes_n h
theorem sp_2n (ho : ops[i]? = some ⟨od, op, ty, pos, af, none⟩) (ho' : ops[j]? = some ⟨od', op', ty', pos', af', none⟩)
    (h : S w → ∀ K : Act → World → Prop, Shut (∀ a' w', S w' → (S w' → Sp P md ops Q S p a' w') → K a' w') → Oper.wp P ⟨od, op, ty, pos, af, none⟩ ⟨T, D⟩ w K (NoPanic Q))
    (h' : S w → ∀ K : Act → World → Prop, Shut (∀ a' w', S w' → (S w' → Sp P md ops Q S q a' w') → K a' w') → Oper.wp P ⟨od', op', ty', pos', af', none⟩ ⟨T, D⟩ w K (NoPanic Q)) : Sp P md ops Q S (.two i j p q) ⟨T, D⟩ w := sp_two ho yes_n ho' yes_n h h'
end
end Go.Proofs.Ytjlggfdmfchncaa.Q

namespace Go.Proofs.Ytjlggfdmfchncaa.Q
open Go.RowKit Go.Proofs.YtjlggfdmfchncaaW.PrintWords Go.Proofs.YtjlggfdmfchncaaW.PrintLast Go.Proofs.YtjlggfdmfchncaaW.PrintMore
set_option linter.unusedVariables false
set_option linter.unusedSimpArgs false
/-- The box of the tablet at hand. -/
def BoxS (W : World) (g : Nat) (lo : ByteArray) (r : Value) : Prop := W.heap[g]? = some (.cells #[.string lo, r] 40 (0, 0))
/-- The store under way at o, the answer's block at o2. -/
def StW (w : World) (B o o2 : Nat) (ts : List S40) (v : Value) : Prop :=
  w.heap[o]? = some (.cells #[v] 28 (0, 0)) ∧ w.heap[o2]? = some (.cells #[.slice none 0 0] 28 (0, 0)) ∧ Kd.S kTb 40 w B (fun k => k ≠ o ∧ k ≠ o2) v ts
def sRuns (x : S40) : Prop := x.f1.length ≤ 1000000000 ∧ ∀ q ∈ x.f1, q.f0.length ≤ 1000000000
set_option maxHeartbeats 8000000 in
set_option maxRecDepth 100000 in
theorem sclone_call (A : Option Addr) (c : Nat) (ts : List S40) (w : World) (hr : Kd.C k40 w A ts.length ts) (hl : ts.length ≤ 1000000000) (hq : ∀ x ∈ ts, sRuns x) :
    Calls Try.prog 21 #[.agg #[.slice A ts.length c]] w fun e w' => ∃ v, e = .returned (.agg #[v]) ∧ Kd.S kTb 40 w' w.heap.size (fun _ => True) v ts ∧ Below w.heap.size w w' := by
  have kr : K0 (Below w.heap.size w w) := ⟨Below.refl _ _⟩
  obtain ⟨n, hn⟩ : ∃ n, ts.length = n := ⟨_, rfl⟩
  obtain ⟨wb, hwb⟩ : ∃ wb, wb = ((w.alloc (.cells #[.slice A n c] 28)).alloc (.cells #[.slice none 0 0] 28)).alloc (.cells #[.slice none 0 0] 28) := ⟨_, rfl⟩
  have hb0 : Below w.heap.size w wb := hwb ▸ kk
  have h1 : wb.heap[w.heap.size]? = some (.cells #[.slice A n c] 28 (0, 0)) := hwb ▸ blk_alloc (blk_alloc (heap_alloc_new w _) _) _
  have h2 : wb.heap[w.heap.size + 1]? = some (.cells #[.slice none 0 0] 28 (0, 0)) := hwb ▸ old1 w _ _ _
  have h3 : wb.heap[w.heap.size + 1 + 1]? = some (.cells #[.slice none 0 0] 28 (0, 0)) := hwb ▸ new2 w _ _ _
  have y0 : wb.cell? ⟨w.heap.size, 0, none⟩ = some (.slice A n c) := (blk_cell h1 0).trans rfl
  obtain ⟨o, ho⟩ : ∃ o, o = w.heap.size + 1 + 1 := ⟨_, rfl⟩
  obtain ⟨o2, ho2⟩ : ∃ o2, o2 = w.heap.size + 1 := ⟨_, rfl⟩
  rw [hn] at hr ⊢
  have HS0 := Aside0.mk (show StW wb w.heap.size o o2 (ts.take 0) (.slice none 0 0) from ⟨ho ▸ h3, ho2 ▸ h2, Kd.S_nil _ _ _ _ _⟩)
  have HB0 := Aside0.mk hb0
  have HC := Aside0.mk (And.intro hr (And.intro hl (And.intro hq hn)))
  clear hr hl hq hn hb0 h1 h2 h3
  go_enter Try.func21, Try.ntmps21
  go_wp2_with fail
  rw [← hwb]
  clear hwb
  rw [← ho, ← ho2]
  have HO := Aside0.mk (And.intro ho ho2)
  clear ho ho2 y0
  go_loopw [5, 9] (fun v5 v9 W => ∃ (j : Nat) (v : Value), j ≤ n ∧ v9 = .int .i64 j ∧ Aside0 (StW W w.heap.size o o2 (ts.take j) v) ∧ Aside0 (Below w.heap.size w W)) (fun _ v9 _ => n - (intOf v9).toNat)
  case atStart => exact ⟨0, _, by omega, rfl, HS0, HB0⟩
  case round =>
    clear HS0 HB0
    obtain ⟨j, v, hj, rfl, HS, HB⟩ := hrel
    have kW : K0 (Below w.heap.size w wr) := ⟨HB.out⟩
    by_cases hlt : j < n
    · have dl : decide ((j : Int) < (n : Int)) = true := decide_eq_true (by omega)
      have hwj : IntKind.i64.wrap ((j : Int) + 1) = ((j + 1 : Nat) : Int) := by have := HC.out; rw [IntKind.wrap_i64]; omega
      obtain ⟨ad, A1, c1, e0, y0, y1, hc1, hC1⟩ := at_T40 HC.out.1 (j : Int) (by omega) (by omega)
      subst e0
      obtain ⟨x, hX⟩ : ∃ x, rd_T40 ts (j : Int) = x := ⟨_, rfl⟩
      have hxj : ts[j]? = some x := by rw [← hX]; unfold rd_T40; rw [Int.toNat_natCast, List.getD_eq_getElem?_getD]; have := HC.out.2.2.2; simp [show j < ts.length by omega]
      rw [hX] at y0 y1 hC1
      rw [Int.toNat_natCast] at y0 y1
      have y0 := clk y0
      have y1 := clk y1
      have htk : ts.take (j + 1) = ts.take j ++ [x] := by rw [List.take_add_one, hxj]; rfl
      have hlen : (ts.take j).length = j := by rw [List.length_take]; have := HC.out.2.2.2; omega
      obtain ⟨A3, c3, rfl⟩ := Kd.S_slice HS.out.2.2
      rw [hlen] at HS
      obtain ⟨Wx, hWx⟩ : ∃ W, W = wr.alloc (.cells #[.string x.f0, .slice A1 x.f1.length c1] 40) := ⟨_, rfl⟩
      have hbx : Below wr.heap.size wr Wx := hWx ▸ Below.alloc (Below.refl _ _) (Nat.le_refl _) _
      have hh : Wx.heap[wr.heap.size]? = some (.cells #[.string x.f0, .slice A1 x.f1.length c1] 40 (0, 0)) := hWx ▸ heap_alloc_new wr _
      have hox := (hbx.block o (blk_lt HS.out.1)).trans HS.out.1
      have ho2x := (hbx.block o2 (blk_lt HS.out.2.1)).trans HS.out.2.1
      have hBx : Below w.heap.size w Wx := HB.out.trans (hbx.mono HB.out.size)
      have hSx := Kd.S_below (Kd.S_mono (ok' := fun k => (k ≠ o ∧ k ≠ o2) ∧ k < wr.heap.size) (Kd.S_bound HS.out.2.2) (fun k hk => ⟨hk.1, hk.2.2.1⟩)) hbx
      have HX := Aside0.mk (And.intro hox (And.intro ho2x (And.intro hBx (And.intro hSx (And.intro hC1 (And.intro htk (And.intro hlen (And.intro (HC.out.2.2.1 x (List.mem_of_getElem? hxj)) hbx.size))))))))
      have k0 : K0 (BoxS Wx.drew wr.heap.size x.f0 (.slice A1 x.f1.length c1)) := ⟨hh⟩
      have z0 : ∀ W [K0 (BoxS W wr.heap.size x.f0 (.slice A1 x.f1.length c1))], W.cell? ⟨wr.heap.size, 0, none⟩ = some (.string x.f0) := fun W k => (blk_cell k.out 0).trans rfl
      have z1 : ∀ W [K0 (BoxS W wr.heap.size x.f0 (.slice A1 x.f1.length c1))], W.cell? ⟨wr.heap.size, 1, none⟩ = some (.slice A1 x.f1.length c1) := fun W k => (blk_cell k.out 1).trans rfl
      clear hbx hh hox ho2x hBx hSx hC1 htk hlen hc1 hX hxj
      go_upto_region 5 with (fail)
      rw [← hWx]
      clear hWx y0 y1
      have co : Wx.drew.cell? ⟨o, 0, none⟩ = some (.slice A3 j c3) := (blk_cell (w := Wx) HX.out.1 0).trans rfl
      refine sp_region (S := fun (W' : World) => K0 (BoxS W' wr.heap.size x.f0 (.slice A1 x.f1.length c1))) (.n 0 (.n 2 (.n 3 (.n 4 (.n 5 (.two 1 6 (.y 6 (.n 7 (.y 8 (.y 9 (.n 10 (.y 11 .done)))))) (.n 7 (.two 1 8 (.y 8 (.y 9 (.n 10 (.y 11 .done)))) (.y 1 (.y 9 (.n 10 (.y 11 .done)))))))))))) (by kernel_rfl) (by kernel_rfl) k0 (fun hS => ?_)
      repeat (refine sp_n ?_ ?_ rfl ?_ ?_ ?_; rotate_left 2; (intro W hW; go_simp; first | done | with_reducible rfl); (simp only [List.setIfInBounds_toArray, List.set_cons_zero, List.set_cons_succ]; try rfl))
      refine sp_2n rfl rfl ?_ ?_
      all_goals (intro hS K hK)
      · go_wp2_with fail
        refine hK.out _ _ k0 (fun hS => ?_)
        refine sp_1n rfl (fun hS K hK => ?_)
        go_simp
        go_at_call 36
        refine (cloneRuns_call A1 c1 x.f1 Wx.drew (Kd.C_below HX.out.2.2.2.2.1 (below_drew1 HX.out.2.2.1)) HX.out.2.2.2.2.2.2.2.1.1 HX.out.2.2.2.2.2.2.2.1.2).mono ?_
        rintro ex W1 ⟨v1, rfl, hS1, hb⟩
        obtain ⟨A4, c4, rfl⟩ := Kd.S_slice hS1
        have hd : Below Wx.heap.size Wx W1 := (below_drew1 (Below.refl Wx.heap.size Wx)).trans hb
        have k1 : K0 (BoxS W1 wr.heap.size x.f0 (.slice A1 x.f1.length c1)) := ⟨(hd.block _ (blk_lt k0.out)).trans k0.out⟩
        have HY := Aside0.mk (And.intro hS1 (And.intro hd ((hd.block o (blk_lt HX.out.1)).trans HX.out.1)))
        have co1 : W1.cell? ⟨o, 0, none⟩ = some (.slice A3 j c3) := (blk_cell HY.out.2.2 0).trans rfl
        clear hS1 hb hd
        refine hK.out _ _ k1 (fun hS => ?_)
        repeat (refine sp_n ?_ ?_ rfl ?_ ?_ ?_; rotate_left 2; (intro W hW; go_simp; first | done | with_reducible rfl); (simp only [List.setIfInBounds_toArray, List.set_cons_zero, List.set_cons_succ]; try rfl))
        refine sp_1n rfl (fun hS K hK => ?_)
        go_wp2_with fail
        have k2 : K0 (BoxS (W1.alloc (.cells #[.string x.f0, .slice A4 x.f1.length c4] 40)) wr.heap.size x.f0 (.slice A1 x.f1.length c1)) := ⟨blk_alloc k1.out _⟩
        have co2 : (W1.alloc (.cells #[.string x.f0, .slice A4 x.f1.length c4] 40)).cell? ⟨o, 0, none⟩ = some (.slice A3 j c3) := (blk_cell (blk_alloc HY.out.2.2 _) 0).trans rfl
        refine hK.out _ _ k2 (fun hS => ?_)
        refine sp_1n rfl (fun hS K hK => ?_)
        refine Eq.mp (if_pos yes_n) (Kd.S_append_step (ops := #[]) (Kc := K) kTb (w0 := w) w.heap.size yes_n (.tmp 14) (.tmp 21) 26 40 (.agg #[(.string ⟨#[]⟩), (.slice none 0 0)]) 40 rfl Try.underlying26 info40 rfl (by decide) (by omega) (.slice A3 j c3) (ts.take j) x [.string x.f0, .slice A4 x.f1.length c4] (fun k => k ≠ o ∧ k ≠ o2) (fun k => Wx.heap.size ≤ k) rfl rfl (kTb_mkM _ _ _ x (Kd.S_lower (Kd.S_mono (ok' := fun k => Wx.heap.size ≤ k) (Kd.S_bound HY.out.1) (fun k hk => hk.2.1)) HX.out.2.2.1.size)) (fun k hk => ⟨by have h1 := blk_lt HX.out.1; have h2 := blk_lt HX.out.2.1; omega, fun e => by have := Kd.S_lt HS.out.2.2 k e.symm; have := HX.out.2.2.2.2.2.2.2.2; omega⟩) (fun k hk => by have h1 := blk_lt HX.out.1; have h2 := blk_lt HX.out.2.1; have h3 := HY.out.2.1.size; omega) (Kd.S_below (Kd.S_mono (ok' := fun k => (k ≠ o ∧ k ≠ o2) ∧ ¬ (Wx.heap.size ≤ k)) HX.out.2.2.2.1 (fun k hk => ⟨hk.1, by have := hk.2; have := HX.out.2.2.2.2.2.2.2.2; omega⟩)) HY.out.2.1) (HX.out.2.2.1.trans (HY.out.2.1.mono HX.out.2.2.1.size)) (Nat.le_trans HX.out.2.2.1.size HY.out.2.1.size) (by have := HX.out.2.2.2.2.2.2.1; have := HC.out; omega) ?_)
        intro v5 w5 ho hb hg hat
        obtain ⟨A5, m5, c5, rfl⟩ : ∃ A m c, v5 = .slice A m c := by obtain ⟨A, c, h⟩ := Kd.S_slice ho; exact ⟨_, _, _, h⟩
        have hnr : ∀ k, k = o ∨ k = o2 ∨ k = wr.heap.size → some k ≠ Value.ownBlock (.slice A3 j c3) := fun k hk e => by
          have h1 := (Kd.S_R HS.out.2.2).1 k e.symm
          have h2 := Kd.S_lt HS.out.2.2 k e.symm
          omega
        have hx1 := HY.out.2.1.size
        have hx2 := HX.out.2.2.2.2.2.2.2.2
        have ho7 := (hg.block o (by have := blk_lt HX.out.1; omega) (hnr o (.inl rfl))).trans HY.out.2.2
        have h27 := (hg.block o2 (by have := blk_lt HX.out.2.1; omega) (hnr o2 (.inr (.inl rfl)))).trans ((HY.out.2.1.block o2 (blk_lt HX.out.2.1)).trans HX.out.2.1)
        have kb7 : K0 (BoxS w5 wr.heap.size x.f0 (.slice A1 x.f1.length c1)) := ⟨(hg.block wr.heap.size (blk_lt k1.out) (hnr _ (.inr (.inr rfl)))).trans k1.out⟩
        have hoe : wr.heap.size ≠ o := by have := blk_lt HS.out.1; omega
        have ho22 : o2 ≠ o := by have := HO.out; omega
        have kb8 : K0 (BoxS (w5.setCell ⟨o, 0, none⟩ (.slice A5 m5 c5)) wr.heap.size x.f0 (.slice A1 x.f1.length c1)) := ⟨blk_far kb7.out hoe _⟩
        have q0 : w5.cell? ⟨o, 0, none⟩ = some (.slice A3 j c3) := (blk_cell ho7 0).trans rfl
        have fq := blk_frozen ho7 0
        have HG := Aside0.mk (And.intro (show StW (w5.setCell ⟨o, 0, none⟩ (.slice A5 m5 c5)) w.heap.size o o2 (ts.take j ++ [x]) (.slice A5 m5 c5) from ⟨blk_put ho7 0 _ rfl, blk_far h27 ho22 _, Kd.S_far ho (fun k hk => hk.1) _⟩) (hb.setCell (p := ⟨o, 0, none⟩) (by have := HO.out; show w.heap.size ≤ o; omega) (.slice A5 m5 c5)))
        clear ho hb hg hat hnr hx1 hx2 ho7 h27 hoe ho22
        refine hK.out _ _ kb7 (fun hS => ?_)
        repeat (refine sp_n ?_ ?_ rfl ?_ ?_ ?_; rotate_left 2; (intro W hW; go_simp; first | done | with_reducible rfl); (simp only [List.setIfInBounds_toArray, List.set_cons_zero, List.set_cons_succ]; try rfl))
        refine sp_1n rfl (fun hS K hK => ?_)
        go_wp2_with fail
        refine hK.out _ _ kb8 (fun hS => ?_)
        refine sp_done (fun hS => ?_)
        go_wp2_with fail
        go_roundw
        case measure => simp only [intOf]; omega
        case rel => exact ⟨j + 1, .slice A5 m5 c5, by omega, by rw [Int.natCast_add]; rfl, ⟨by rw [HX.out.2.2.2.2.2.1]; exact HG.out.1⟩, ⟨HG.out.2⟩⟩
      · go_simp
        go_at_call 36
        refine (cloneRuns_call A1 c1 x.f1 Wx.drew (Kd.C_below HX.out.2.2.2.2.1 (below_drew1 HX.out.2.2.1)) HX.out.2.2.2.2.2.2.2.1.1 HX.out.2.2.2.2.2.2.2.1.2).mono ?_
        rintro ex W1 ⟨v1, rfl, hS1, hb⟩
        obtain ⟨A4, c4, rfl⟩ := Kd.S_slice hS1
        have hd : Below Wx.heap.size Wx W1 := (below_drew1 (Below.refl Wx.heap.size Wx)).trans hb
        have k1 : K0 (BoxS W1 wr.heap.size x.f0 (.slice A1 x.f1.length c1)) := ⟨(hd.block _ (blk_lt k0.out)).trans k0.out⟩
        have HY := Aside0.mk (And.intro hS1 (And.intro hd ((hd.block o (blk_lt HX.out.1)).trans HX.out.1)))
        have co1 : W1.cell? ⟨o, 0, none⟩ = some (.slice A3 j c3) := (blk_cell HY.out.2.2 0).trans rfl
        clear hS1 hb hd
        refine hK.out _ _ k1 (fun hS => ?_)
        repeat (refine sp_n ?_ ?_ rfl ?_ ?_ ?_; rotate_left 2; (intro W hW; go_simp; first | done | with_reducible rfl); (simp only [List.setIfInBounds_toArray, List.set_cons_zero, List.set_cons_succ]; try rfl))
        refine sp_2n rfl rfl ?_ ?_
        all_goals (intro hS K hK)
        · go_wp2_with fail
          refine hK.out _ _ k1 (fun hS => ?_)
          refine sp_1n rfl (fun hS K hK => ?_)
          go_wp2_with fail
          have k2 : K0 (BoxS (W1.alloc (.cells #[.string x.f0, .slice A4 x.f1.length c4] 40)) wr.heap.size x.f0 (.slice A1 x.f1.length c1)) := ⟨blk_alloc k1.out _⟩
          have co2 : (W1.alloc (.cells #[.string x.f0, .slice A4 x.f1.length c4] 40)).cell? ⟨o, 0, none⟩ = some (.slice A3 j c3) := (blk_cell (blk_alloc HY.out.2.2 _) 0).trans rfl
          refine hK.out _ _ k2 (fun hS => ?_)
          refine sp_1n rfl (fun hS K hK => ?_)
          refine Eq.mp (if_pos yes_n) (Kd.S_append_step (ops := #[]) (Kc := K) kTb (w0 := w) w.heap.size yes_n (.tmp 14) (.tmp 21) 26 40 (.agg #[(.string ⟨#[]⟩), (.slice none 0 0)]) 40 rfl Try.underlying26 info40 rfl (by decide) (by omega) (.slice A3 j c3) (ts.take j) x [.string x.f0, .slice A4 x.f1.length c4] (fun k => k ≠ o ∧ k ≠ o2) (fun k => Wx.heap.size ≤ k) rfl rfl (kTb_mkM _ _ _ x (Kd.S_lower (Kd.S_mono (ok' := fun k => Wx.heap.size ≤ k) (Kd.S_bound HY.out.1) (fun k hk => hk.2.1)) HX.out.2.2.1.size)) (fun k hk => ⟨by have h1 := blk_lt HX.out.1; have h2 := blk_lt HX.out.2.1; omega, fun e => by have := Kd.S_lt HS.out.2.2 k e.symm; have := HX.out.2.2.2.2.2.2.2.2; omega⟩) (fun k hk => by have h1 := blk_lt HX.out.1; have h2 := blk_lt HX.out.2.1; have h3 := HY.out.2.1.size; omega) (Kd.S_below (Kd.S_mono (ok' := fun k => (k ≠ o ∧ k ≠ o2) ∧ ¬ (Wx.heap.size ≤ k)) HX.out.2.2.2.1 (fun k hk => ⟨hk.1, by have := hk.2; have := HX.out.2.2.2.2.2.2.2.2; omega⟩)) HY.out.2.1) (HX.out.2.2.1.trans (HY.out.2.1.mono HX.out.2.2.1.size)) (Nat.le_trans HX.out.2.2.1.size HY.out.2.1.size) (by have := HX.out.2.2.2.2.2.2.1; have := HC.out; omega) ?_)
          intro v5 w5 ho hb hg hat
          obtain ⟨A5, m5, c5, rfl⟩ : ∃ A m c, v5 = .slice A m c := by obtain ⟨A, c, h⟩ := Kd.S_slice ho; exact ⟨_, _, _, h⟩
          have hnr : ∀ k, k = o ∨ k = o2 ∨ k = wr.heap.size → some k ≠ Value.ownBlock (.slice A3 j c3) := fun k hk e => by
            have h1 := (Kd.S_R HS.out.2.2).1 k e.symm
            have h2 := Kd.S_lt HS.out.2.2 k e.symm
            omega
          have hx1 := HY.out.2.1.size
          have hx2 := HX.out.2.2.2.2.2.2.2.2
          have ho7 := (hg.block o (by have := blk_lt HX.out.1; omega) (hnr o (.inl rfl))).trans HY.out.2.2
          have h27 := (hg.block o2 (by have := blk_lt HX.out.2.1; omega) (hnr o2 (.inr (.inl rfl)))).trans ((HY.out.2.1.block o2 (blk_lt HX.out.2.1)).trans HX.out.2.1)
          have kb7 : K0 (BoxS w5 wr.heap.size x.f0 (.slice A1 x.f1.length c1)) := ⟨(hg.block wr.heap.size (blk_lt k1.out) (hnr _ (.inr (.inr rfl)))).trans k1.out⟩
          have hoe : wr.heap.size ≠ o := by have := blk_lt HS.out.1; omega
          have ho22 : o2 ≠ o := by have := HO.out; omega
          have kb8 : K0 (BoxS (w5.setCell ⟨o, 0, none⟩ (.slice A5 m5 c5)) wr.heap.size x.f0 (.slice A1 x.f1.length c1)) := ⟨blk_far kb7.out hoe _⟩
          have q0 : w5.cell? ⟨o, 0, none⟩ = some (.slice A3 j c3) := (blk_cell ho7 0).trans rfl
          have fq := blk_frozen ho7 0
          have HG := Aside0.mk (And.intro (show StW (w5.setCell ⟨o, 0, none⟩ (.slice A5 m5 c5)) w.heap.size o o2 (ts.take j ++ [x]) (.slice A5 m5 c5) from ⟨blk_put ho7 0 _ rfl, blk_far h27 ho22 _, Kd.S_far ho (fun k hk => hk.1) _⟩) (hb.setCell (p := ⟨o, 0, none⟩) (by have := HO.out; show w.heap.size ≤ o; omega) (.slice A5 m5 c5)))
          clear ho hb hg hat hnr hx1 hx2 ho7 h27 hoe ho22
          refine hK.out _ _ kb7 (fun hS => ?_)
          repeat (refine sp_n ?_ ?_ rfl ?_ ?_ ?_; rotate_left 2; (intro W hW; go_simp; first | done | with_reducible rfl); (simp only [List.setIfInBounds_toArray, List.set_cons_zero, List.set_cons_succ]; try rfl))
          refine sp_1n rfl (fun hS K hK => ?_)
          go_wp2_with fail
          refine hK.out _ _ kb8 (fun hS => ?_)
          refine sp_done (fun hS => ?_)
          go_wp2_with fail
          go_roundw
          case measure => simp only [intOf]; omega
          case rel => exact ⟨j + 1, .slice A5 m5 c5, by omega, by rw [Int.natCast_add]; rfl, ⟨by rw [HX.out.2.2.2.2.2.1]; exact HG.out.1⟩, ⟨HG.out.2⟩⟩
        · go_wp2_with fail
          have k2 : K0 (BoxS (W1.alloc (.cells #[.string x.f0, .slice A4 x.f1.length c4] 40)) wr.heap.size x.f0 (.slice A1 x.f1.length c1)) := ⟨blk_alloc k1.out _⟩
          have co2 : (W1.alloc (.cells #[.string x.f0, .slice A4 x.f1.length c4] 40)).cell? ⟨o, 0, none⟩ = some (.slice A3 j c3) := (blk_cell (blk_alloc HY.out.2.2 _) 0).trans rfl
          refine hK.out _ _ k2 (fun hS => ?_)
          refine sp_1n rfl (fun hS K hK => ?_)
          go_wp2_with fail
          refine hK.out _ _ k2 (fun hS => ?_)
          refine sp_1n rfl (fun hS K hK => ?_)
          refine Eq.mp (if_pos yes_n) (Kd.S_append_step (ops := #[]) (Kc := K) kTb (w0 := w) w.heap.size yes_n (.tmp 14) (.tmp 21) 26 40 (.agg #[(.string ⟨#[]⟩), (.slice none 0 0)]) 40 rfl Try.underlying26 info40 rfl (by decide) (by omega) (.slice A3 j c3) (ts.take j) x [.string x.f0, .slice A4 x.f1.length c4] (fun k => k ≠ o ∧ k ≠ o2) (fun k => Wx.heap.size ≤ k) rfl rfl (kTb_mkM _ _ _ x (Kd.S_lower (Kd.S_mono (ok' := fun k => Wx.heap.size ≤ k) (Kd.S_bound HY.out.1) (fun k hk => hk.2.1)) HX.out.2.2.1.size)) (fun k hk => ⟨by have h1 := blk_lt HX.out.1; have h2 := blk_lt HX.out.2.1; omega, fun e => by have := Kd.S_lt HS.out.2.2 k e.symm; have := HX.out.2.2.2.2.2.2.2.2; omega⟩) (fun k hk => by have h1 := blk_lt HX.out.1; have h2 := blk_lt HX.out.2.1; have h3 := HY.out.2.1.size; omega) (Kd.S_below (Kd.S_mono (ok' := fun k => (k ≠ o ∧ k ≠ o2) ∧ ¬ (Wx.heap.size ≤ k)) HX.out.2.2.2.1 (fun k hk => ⟨hk.1, by have := hk.2; have := HX.out.2.2.2.2.2.2.2.2; omega⟩)) HY.out.2.1) (HX.out.2.2.1.trans (HY.out.2.1.mono HX.out.2.2.1.size)) (Nat.le_trans HX.out.2.2.1.size HY.out.2.1.size) (by have := HX.out.2.2.2.2.2.2.1; have := HC.out; omega) ?_)
          intro v5 w5 ho hb hg hat
          obtain ⟨A5, m5, c5, rfl⟩ : ∃ A m c, v5 = .slice A m c := by obtain ⟨A, c, h⟩ := Kd.S_slice ho; exact ⟨_, _, _, h⟩
          have hnr : ∀ k, k = o ∨ k = o2 ∨ k = wr.heap.size → some k ≠ Value.ownBlock (.slice A3 j c3) := fun k hk e => by
            have h1 := (Kd.S_R HS.out.2.2).1 k e.symm
            have h2 := Kd.S_lt HS.out.2.2 k e.symm
            omega
          have hx1 := HY.out.2.1.size
          have hx2 := HX.out.2.2.2.2.2.2.2.2
          have ho7 := (hg.block o (by have := blk_lt HX.out.1; omega) (hnr o (.inl rfl))).trans HY.out.2.2
          have h27 := (hg.block o2 (by have := blk_lt HX.out.2.1; omega) (hnr o2 (.inr (.inl rfl)))).trans ((HY.out.2.1.block o2 (blk_lt HX.out.2.1)).trans HX.out.2.1)
          have kb7 : K0 (BoxS w5 wr.heap.size x.f0 (.slice A1 x.f1.length c1)) := ⟨(hg.block wr.heap.size (blk_lt k1.out) (hnr _ (.inr (.inr rfl)))).trans k1.out⟩
          have hoe : wr.heap.size ≠ o := by have := blk_lt HS.out.1; omega
          have ho22 : o2 ≠ o := by have := HO.out; omega
          have kb8 : K0 (BoxS (w5.setCell ⟨o, 0, none⟩ (.slice A5 m5 c5)) wr.heap.size x.f0 (.slice A1 x.f1.length c1)) := ⟨blk_far kb7.out hoe _⟩
          have q0 : w5.cell? ⟨o, 0, none⟩ = some (.slice A3 j c3) := (blk_cell ho7 0).trans rfl
          have fq := blk_frozen ho7 0
          have HG := Aside0.mk (And.intro (show StW (w5.setCell ⟨o, 0, none⟩ (.slice A5 m5 c5)) w.heap.size o o2 (ts.take j ++ [x]) (.slice A5 m5 c5) from ⟨blk_put ho7 0 _ rfl, blk_far h27 ho22 _, Kd.S_far ho (fun k hk => hk.1) _⟩) (hb.setCell (p := ⟨o, 0, none⟩) (by have := HO.out; show w.heap.size ≤ o; omega) (.slice A5 m5 c5)))
          clear ho hb hg hat hnr hx1 hx2 ho7 h27 hoe ho22
          refine hK.out _ _ kb7 (fun hS => ?_)
          repeat (refine sp_n ?_ ?_ rfl ?_ ?_ ?_; rotate_left 2; (intro W hW; go_simp; first | done | with_reducible rfl); (simp only [List.setIfInBounds_toArray, List.set_cons_zero, List.set_cons_succ]; try rfl))
          refine sp_1n rfl (fun hS K hK => ?_)
          go_wp2_with fail
          refine hK.out _ _ kb8 (fun hS => ?_)
          refine sp_done (fun hS => ?_)
          go_wp2_with fail
          go_roundw
          case measure => simp only [intOf]; omega
          case rel => exact ⟨j + 1, .slice A5 m5 c5, by omega, by rw [Int.natCast_add]; rfl, ⟨by rw [HX.out.2.2.2.2.2.1]; exact HG.out.1⟩, ⟨HG.out.2⟩⟩
    · obtain rfl : j = n := by omega
      have dl : decide ((j : Int) < (j : Int)) = false := decide_eq_false (by omega)
      have htk : ts.take j = ts := by rw [← HC.out.2.2.2]; exact List.take_length
      rw [htk] at HS
      obtain ⟨A3, c3, rfl⟩ := Kd.S_slice HS.out.2.2
      have o0 : wr.cell? ⟨o, 0, none⟩ = some (.slice A3 ts.length c3) := (blk_cell HS.out.1 0).trans rfl
      have r0 : wr.cell? ⟨o2, 0, none⟩ = some (.slice none 0 0) := (blk_cell HS.out.2.1 0).trans rfl
      have fr := blk_frozen HS.out.2.1 0
      clear htk
      go_wp2_with fail
      have b1 := blk_put HS.out.2.1 0 (.slice A3 ts.length c3) (cs' := #[.slice A3 ts.length c3]) rfl
      refine bodyPost_ret (results_cell_row rfl _ _ o2 28 _ (0, 0) _ rfl b1 Try.underlying28 rfl (by kernel_rfl)) rfl ⟨_, rfl, Kd.S_mono (Kd.S_far (p := ⟨o2, 0, none⟩) HS.out.2.2 (fun k hk => hk.2) _) (fun _ _ => trivial), HB.out.setCell (p := ⟨o2, 0, none⟩) (by have := HO.out; show w.heap.size ≤ o2; omega) _⟩
end Go.Proofs.Ytjlggfdmfchncaa.Q

namespace Go.Proofs.Ytjlggfdmfchncaa.Q
open Go.RowKit Go.Proofs.YtjlggfdmfchncaaW.PrintWords Go.Proofs.YtjlggfdmfchncaaW.PrintLast Go.Proofs.YtjlggfdmfchncaaW.PrintMore
set_option linter.unusedVariables false
set_option linter.unusedSimpArgs false
def smT (x : IT) : Prop := x.f1.length ≤ 1048576 ∧ ∀ q ∈ x.f1, q.f0.length ≤ 1048576
def SmS (ts : List IT) : Prop := ts.length ≤ 1048576 ∧ ∀ x ∈ ts, smT x
theorem SmS_T {ts : List IT} (h : SmS ts) : ∀ q ∈ ts, sT q := fun q hq => ⟨by have := (h.2 q hq).1; omega, fun r hr => by have := (h.2 q hq).2 r hr; unfold sR; omega⟩
theorem SmS_R {ts : List IT} (h : SmS ts) : ∀ q ∈ ts, sRuns q := fun q hq => ⟨by have := (h.2 q hq).1; omega, fun r hr => by have := (h.2 q hq).2 r hr; omega⟩
theorem vimpl_call (A : Option Addr) (c : Nat) (ts : List IT) (w : World) (hr : Kd.C k40 w A ts.length ts) (hc : ts.length ≤ c) (hs : SmS ts) :
    Calls Try.prog 22 #[.agg #[.slice A ts.length c]] w fun e w' => e = .returned (.bool (vstore ts)) ∧ Below w.heap.size w w' := by
  obtain ⟨K, hK⟩ := implStore_is ts (by have := hs.1; omega) (SmS_T hs)
  exact impl_ValidStore.calls K A c ts _ w hr hc (hK K (Nat.le_refl _))
theorem vspec_call (A : Option Addr) (c : Nat) (ts : List IT) (w : World) (hr : Kd.C k40 w A ts.length ts) (hc : ts.length ≤ c) (hs : SmS ts) :
    Calls Try.prog 15 #[.agg #[.slice A ts.length c]] w fun e w' => e = .returned (.bool (vstore ts)) ∧ Below w.heap.size w w' := by
  obtain ⟨K, hK⟩ := specStore_is ts (by have := hs.1; omega) (SmS_T hs)
  exact spec_ValidStore.calls K A c ts _ w hr hc (hK K (Nat.le_refl _))
theorem tabs_up (l : List IT) : ∀ (ts pre : List IT), l = pre ++ ts → tabsV l pre.length ts = true → ∀ j, 0 < j → pre.length ≤ j → j < l.length → Op.bytesLess (loB l (j - 1)) (loB l j) = true
  | [], pre, e, _, j, _, h1, h2 => by rw [e] at h2; simp at h2; omega
  | t :: ts, pre, e, h, j, h0, h1, h2 => by
    unfold tabsV at h
    simp only [Bool.and_eq_true] at h
    by_cases hj : j = pre.length
    · have h3 := h.1
      unfold headOk at h3
      simp only [Bool.and_eq_true, Bool.or_eq_true, decide_eq_true_eq] at h3
      have h4 := h3.1.2.resolve_left (by omega)
      have hd : rd_T40 l (pre.length : Int) = t := by unfold rd_T40; rw [Int.toNat_natCast, e, getD_cut]
      rw [hj]
      unfold loB
      rw [hd]
      exact h4
    · exact tabs_up l ts (pre ++ [t]) (by simp [e]) (by simpa using h.2.2) j h0 (by simp; omega) h2
theorem rise_of {ts : List IT} (h : vstore ts = true) : RiseT ts := by
  unfold vstore at h
  simp only [Bool.and_eq_true, decide_eq_true_eq, List.isEmpty_iff] at h
  refine ⟨by omega, h.1.2, ?_⟩
  have up := tabs_up ts ts [] rfl h.2
  intro i j hij hj
  obtain ⟨m, rfl⟩ : ∃ m, j = i + 1 + m := ⟨j - (i + 1), by omega⟩
  induction m with
  | zero => exact up (i + 1) (by omega) (by simp) hj
  | succ m ih => exact less_trans _ _ _ (ih (by omega) (by omega)) (up (i + 1 + (m + 1)) (by omega) (by simp) hj)
def tA (ts : List IT) (i : Nat) : IT := rd_T40 ts (i : Int)
def mergeAt (ts : List IT) (i : Nat) : List IT := ts.take i ++ ⟨(tA ts i).f0, (tA ts i).f1 ++ (tA ts (i + 1)).f1⟩ :: ts.drop (i + 2)
def keepsM (ts : List IT) (i : Nat) : Prop := i + 1 = ts.length ∨ 50 < (tA ts i).f1.length + (tA ts (i + 1)).f1.length
/-- What a merge gives. -/
def Merged (ts : List IT) (row : ByteArray) (r : List IT) : Prop := (vstore ts = false ∧ r = ts) ∨ (vstore ts = true ∧ ∃ i, Holds ts row i ∧ ((keepsM ts i ∧ r = ts) ∨ (¬ keepsM ts i ∧ r = mergeAt ts i)))
theorem merged_one {ts r r' : List IT} {row : ByteArray} (h : Merged ts row r) (h' : Merged ts row r') : r = r' := by
  rcases h with ⟨h, rfl⟩ | ⟨h, i, hi, h1⟩ <;> rcases h' with ⟨h', rfl⟩ | ⟨h', j, hj, h2⟩
  · rfl
  · rw [h] at h'; cases h'
  · rw [h] at h'; cases h'
  · obtain rfl := holds_one hi hj
    rcases h1 with ⟨h1, rfl⟩ | ⟨h1, rfl⟩ <;> rcases h2 with ⟨h2, rfl⟩ | ⟨h2, rfl⟩
    · rfl
    · exact absurd h1 h2
    · exact absurd h2 h1
    · rfl
theorem merged_rows {ts r : List IT} {row : ByteArray} (h : Merged ts row r) (hs : SmS ts) : r.length ≤ 1048576 ∧ ∀ x ∈ r, x.f1.length ≤ 1048576 ∧ ∀ q ∈ x.f1, q.f0.length ≤ 1048576 := by
  rcases h with ⟨h, rfl⟩ | ⟨h, i, hi, ⟨h1, rfl⟩ | ⟨h1, rfl⟩⟩
  · exact hs
  · exact hs
  · have hlt : ∀ j, j < ts.length → tA ts j ∈ ts := fun j hj => by
      unfold tA rd_T40
      rw [Int.toNat_natCast, List.getD_eq_getElem?_getD, List.getElem?_eq_getElem hj]
      exact List.getElem_mem hj
    unfold keepsM at h1
    have hi' := hi.1
    have h2 : i + 1 < ts.length := by omega
    have m1 := hs.2 _ (hlt i hi')
    have m2 := hs.2 _ (hlt (i + 1) h2)
    refine ⟨by unfold mergeAt; have := hs.1; simp; omega, fun x hx => ?_⟩
    unfold mergeAt at hx
    rcases List.mem_append.mp hx with hx | hx
    · exact hs.2 x (List.mem_of_mem_take hx)
    · rcases List.mem_cons.mp hx with rfl | hx
      · refine ⟨by rw [List.length_append]; omega, fun q hq => ?_⟩
        rcases List.mem_append.mp hq with hq | hq
        · exact m1.2 q hq
        · exact m2.2 q hq
      · exact hs.2 x (List.mem_of_mem_drop hx)
theorem mergeAt_set {ts : List IT} {i : Nat} (h : i + 1 < ts.length) : (ts.set i ⟨(tA ts i).f0, (tA ts i).f1 ++ (tA ts (i + 1)).f1⟩).eraseIdx (i + 1) = mergeAt ts i := by
  rw [List.eraseIdx_eq_take_drop_succ, List.drop_set_of_lt (by omega), List.take_set, List.set_eq_take_append_cons_drop]
  unfold mergeAt
  have hl : i < (ts.take (i + 1)).length := by rw [List.length_take]; omega
  rw [if_pos hl, List.take_take, Nat.min_eq_left (by omega), List.drop_take]
  simp
end Go.Proofs.Ytjlggfdmfchncaa.Q

namespace Go.Proofs.Ytjlggfdmfchncaa.Q
open Go.RowKit Go.Proofs.YtjlggfdmfchncaaW.PrintWords Go.Proofs.YtjlggfdmfchncaaW.PrintLast Go.Proofs.YtjlggfdmfchncaaW.PrintMore
set_option linter.unusedVariables false
set_option linter.unusedSimpArgs false
section
variable {α : Type} {d : Kd α} {e base n cap g : Nat} {W w : World} {ok : Nat → Prop} {v : Value} {xs : List α} {rows : List (List Value)}
theorem raw_of_S (h : Kd.S d e W base ok v xs) : ∃ f : Nat → Nat, ∃ rows : List (List Value), rows.length = xs.length ∧ (Kd.raw d.sz).R e W base (fun _ => True) v rows ∧ (∀ m x, xs[m]? = some x → ∃ cm, rows[m]? = some cm ∧ d.M W base (fun k => (ok k ∧ some k ≠ v.ownBlock) ∧ f k = m) x cm) ∧ (∀ k, v.ownBlock = some k → ok k) := by
  obtain ⟨f, hok0, inner, ho, hr⟩ := h
  have hp : ∀ m x, xs[m]? = some x → d.M W base (fun k => (ok k ∧ some k ≠ v.ownBlock) ∧ f k = m) x ((inner.drop (m * d.sz)).take d.sz) := fun m x hx => hr.2 m (x, m) (Kd.zip_at hx)
  refine ⟨f, (List.range xs.length).map fun j => (inner.drop (j * d.sz)).take d.sz, by rw [List.length_map, List.length_range], ⟨fun _ _ => trivial, inner, ?_, ?_, fun j p hj => ?_⟩, fun m x hx => ?_, hok0⟩
  · rw [List.length_map, List.length_range]; rw [List.length_zipIdx] at ho; exact ho
  · rw [List.length_map, List.length_range]; have := hr.1; rw [List.length_zipIdx] at this; exact this
  · rw [List.getElem?_map] at hj
    obtain ⟨j', hj', rfl⟩ := Option.map_eq_some_iff.1 hj
    obtain ⟨hl, he⟩ := List.getElem?_eq_some_iff.1 hj'
    rw [List.getElem_range] at he
    subst he
    rw [List.length_range] at hl
    have hm := d.K_of_M (hp j _ (List.getElem?_eq_getElem hl))
    exact ⟨rfl, d.K_len hm, d.K_one hm⟩
  · have hm : m < xs.length := (List.getElem?_eq_some_iff.1 hx).1
    exact ⟨_, by rw [List.getElem?_map, List.getElem?_eq_getElem (by rw [List.length_range]; exact hm), List.getElem_range]; rfl, hp m x hx⟩
theorem S_of_raw (f : Nat → Nat) (h : (Kd.raw d.sz).R e w base (fun _ => True) v rows) (hl : rows.length = xs.length) (hM : ∀ m x cm, xs[m]? = some x → rows[m]? = some cm → d.M w base (fun k => (ok k ∧ some k ≠ v.ownBlock) ∧ f k = m) x cm) (h0 : ∀ k, v.ownBlock = some k → ok k) : Kd.S d e w base ok v xs := by
  obtain ⟨_, inner, ho, hr⟩ := h
  refine ⟨f, h0, inner, by rw [List.length_zipIdx, ← hl]; exact ho, by rw [List.length_zipIdx, ← hl]; exact hr.1, fun m p hm => ?_⟩
  rw [List.getElem?_zipIdx, Nat.zero_add] at hm
  obtain ⟨x, hx, rfl⟩ := Option.map_eq_some_iff.1 hm
  have hml : m < rows.length := by rw [hl]; exact (List.getElem?_eq_some_iff.1 hx).1
  have hc := (hr.2 m _ (List.getElem?_eq_getElem hml)).1
  have := hM m x _ hx (List.getElem?_eq_getElem hml)
  rw [← hc] at this
  exact this
theorem raw_cell {sz : Nat} (h : (Kd.raw sz).R e w base ok (.slice (some ⟨g, 0, none⟩) n cap) rows) {m : Nat} {cm : List Value} (hm : rows[m]? = some cm) {j : Nat} {u : Value} (hj : cm[j]? = some u) : w.cell? ⟨g, m * sz + j, none⟩ = some u ∧ w.frozen? ⟨g, m * sz + j, none⟩ = false := by
  have hn := (Kd.R_reads' h).1
  have hml := (List.getElem?_eq_some_iff.1 hm).1
  obtain ⟨c, hcl, hM, hcc, hfr⟩ := Kd.R_elem h [] (m : Int) (by omega) (by omega)
  rw [Int.toNat_natCast] at hM hcc hfr
  have : c = cm := by
    have h1 := hM.1
    rw [List.getD_eq_getElem?_getD, hm] at h1
    exact h1
  subst this
  exact ⟨hcc j u hj, hfr j⟩
end
theorem raw_of_Sg {α : Type} {d : Kd α} {e base n cap g : Nat} {W : World} {ok : Nat → Prop} {xs : List α} (h : Kd.S d e W base ok (.slice (some ⟨g, 0, none⟩) n cap) xs) : ∃ f : Nat → Nat, ∃ rows : List (List Value), rows.length = xs.length ∧ (Kd.raw d.sz).R e W base (fun _ => True) (.slice (some ⟨g, 0, none⟩) n cap) rows ∧ (∀ m x, xs[m]? = some x → ∃ cm, rows[m]? = some cm ∧ d.M W base (fun k => (ok k ∧ k ≠ g) ∧ f k = m) x cm) ∧ ok g := by
  obtain ⟨f, rows, h1, h2, h3, h4⟩ := raw_of_S h
  refine ⟨f, rows, h1, h2, fun m x hx => ?_, h4 g (by simp [Value.ownBlock])⟩
  obtain ⟨cm, h5, h6⟩ := h3 m x hx
  exact ⟨cm, h5, d.M_mono (fun k hk => ⟨⟨hk.1.1, fun he => hk.1.2 (by simp [Value.ownBlock, he])⟩, hk.2⟩) h6⟩
/-- append(xs, ys...), the two apart. -/
theorem S_cat_step {P : Program} {ops : Array Oper} {o : Oper} {a : Act} {Q : Exit → Act → World → Prop} {Kc : Act → World → Prop} {α : Type} (d : Kd α) {w0 W : World} (base : Nat) (hw : Region.wanted o (yielded ops a.tmps) = true) (s x : Operand) (t e : TypeId) (z : Value) (bytes : Nat)
    (ho : o.op = .call { callee := .builtin .append, args := #[s, x], argTypes := #[t, t] })
    (ht : P.underlying t = some (.slice e)) (hinfo : (P.info? e).map (fun i => (i.zero, i.size, i.bytes)) = some (some z, d.sz, bytes)) (hz : z.cells.size = d.sz) (hs0 : 0 < d.sz) (hb0 : 0 < bytes)
    (v : Value) (xs ys : List α) (A : Option Addr) (m c : Nat) (ok oki okj : Nat → Prop) (hs : a.eval s = v) (hx : a.eval x = .slice A m c)
    (HO : Kd.S d e W base oki v xs) (HJ : Kd.S d e W base okj (.slice A m c) ys) (hd : ∀ k, oki k → okj k → False) (hi : ∀ k, oki k → ok k) (hj : ∀ k, okj k → ok k) (hfresh : ∀ k, W.heap.size ≤ k → ok k)
    (HB : Below base w0 W) (hbase : base ≤ W.heap.size) (hl : (xs.length + m) * bytes ≤ 140737488355328)
    (h : ∀ v1 w1, Kd.S d e w1 base ok v1 (xs ++ ys) → Below base w0 w1 → W.grownBy w1 v.ownBlock → (v1.ownBlock = v.ownBlock ∨ ∃ b, v1.ownBlock = some b ∧ W.heap.size ≤ b) → Kc (a.put o.dst v1) w1) :
    if Region.wanted o (yielded ops a.tmps) = true then Oper.wp P o a W Kc Q else Kc (a.put o.dst undef) W := by
  obtain ⟨fi, hI⟩ := HO
  obtain ⟨fj, hJ0, hJ⟩ := HJ
  obtain ⟨A', c', he, _, hrd⟩ := OwnRow.reads hJ
  injection he with e1 e2 e3
  subst e1; subst e3
  rw [← e2] at hrd
  have hm : ys.length = m := by rw [e2, List.length_zipIdx]
  have hv : ∀ k, okj k → some k ≠ v.ownBlock := fun k hk he => hd k (hI.1 k he.symm) hk
  obtain ⟨F, hF⟩ : ∃ F : Nat → Nat, (∀ k, okj k → F k = fj k + xs.length) ∧ (∀ k, ¬ okj k → F k = fi k) := by
    classical
    exact ⟨fun k => if okj k then fj k + xs.length else fi k, fun k hk => if_pos hk, fun k hk => if_neg hk⟩
  have hI2 : (Kd.tag F d).R e W base ok v xs.zipIdx := Kd.R_mono (Kd.R_tag hI (fun k hk _ => hF.2 k (fun h => hd k hk h))) hi
  refine Kd.R_append_rows_step (Kd.tag F d) (Rr := fun p cs => (Kd.tag F d).M W base okj p cs) (w0 := w0) base hw s x t e z bytes ho ht hinfo hz hs0 hb0 v xs.zipIdx (ys.zipIdx xs.length) A m c ok okj hs hx hI2 ⟨by rw [List.length_zipIdx]; exact hm, hrd.2.1, fun hp => ?_⟩ (fun _ _ hp => hp) (fun k hk => ⟨hj k hk, hv k hk⟩) hfresh HB hbase (by rw [List.length_zipIdx]; exact hl) ?_
  · obtain ⟨ad, rfl, hc⟩ := hrd.2.2 hp
    refine ⟨ad, rfl, fun q p hq => ?_⟩
    rw [List.getElem?_zipIdx] at hq
    obtain ⟨y, hy, rfl⟩ := Option.map_eq_some_iff.1 hq
    obtain ⟨cc, h1, h2, h3⟩ := hc q (y, q) (Kd.zip_at hy)
    refine ⟨cc, h1, ?_, h3⟩
    exact d.M_mono (fun k hk => ⟨hk.1.1, by rw [hF.1 k hk.1.1, hk.2, Nat.add_comm]⟩) h2
  · intro v1 w1 hr
    refine h v1 w1 ⟨F, ?_⟩
    rw [List.zipIdx_append, Nat.zero_add]
    exact hr
/-- Two tablets made one: what the row is behind it all. -/
theorem merge_end {W w1 w3 : World} {base g n c i : Nat} {ts : List IT} {rows : List (List Value)} {f : Nat → Nat} {ok : Nat → Prop} {xi xj : IT} {vi v1 : Value}
    (hM : ∀ m x, ts[m]? = some x → ∃ cm, rows[m]? = some cm ∧ kTb.M W base (fun k => (ok k ∧ k ≠ g) ∧ f k = m) x cm) (hl : rows.length = ts.length) (hi : i + 1 < ts.length)
    (hxi : ts[i]? = some xi) (hxj : ts[i + 1]? = some xj) (hvi : ∀ k, vi.ownBlock = some k → f k = i) (hgW : g < W.heap.size) (hgok : ok g)
    (hS1 : Kd.S k60 60 w1 base (fun k => ((ok k ∧ k ≠ g) ∧ (f k = i ∨ f k = i + 1)) ∨ W.heap.size ≤ k) v1 (xi.f1 ++ xj.f1)) (hg1 : W.grownBy w1 vi.ownBlock)
    (hk3 : ∀ k, k < w1.heap.size → k ≠ g → w3.heap[k]? = w1.heap[k]?)
    (hR3 : (Kd.raw 2).R 40 w3 base (fun _ => True) (.slice (some ⟨g, 0, none⟩) (n - 1) c) ((rows.set i [.string xi.f0, v1]).eraseIdx (i + 1))) :
    Kd.S kTb 40 w3 base (fun k => ok k ∨ W.heap.size ≤ k) (.slice (some ⟨g, 0, none⟩) (n - 1) c) (mergeAt ts i) := by
  have hti : tA ts i = xi := by unfold tA rd_T40; rw [Int.toNat_natCast, List.getD_eq_getElem?_getD, hxi]; rfl
  have htj : tA ts (i + 1) = xj := by unfold tA rd_T40; rw [Int.toNat_natCast, List.getD_eq_getElem?_getD, hxj]; rfl
  have hms := mergeAt_set hi
  rw [hti, htj] at hms
  rw [← hms]
  have hown : ∀ k, (Value.slice (some ⟨g, 0, none⟩) (n - 1) c).ownBlock = some k ↔ k = g := fun k => by simp [Value.ownBlock]; exact eq_comm
  have move : ∀ m x cm, m ≠ i → kTb.M W base (fun k => (ok k ∧ k ≠ g) ∧ f k = m) x cm → kTb.M w3 base (fun k => ((ok k ∧ k ≠ g) ∧ f k = m) ∧ k < W.heap.size) x cm := fun m x cm hmi h =>
    kTb.M_mono (fun k hk => ⟨hk.1, hk.2.2.1⟩) (kTb.M_move (fun k hk => (hk3 k (Nat.lt_of_lt_of_le hk.2.2.1 hg1.size) hk.1.1.2).trans (hg1.block k hk.2.2.1 (fun he => hmi (hk.1.2.symm.trans (hvi k he.symm))))) (kTb.M_bound h))
  refine S_of_raw (d := kTb) (fun k => if W.heap.size ≤ k ∨ f k = i + 1 then i else if i + 1 < f k then f k - 1 else f k) hR3 (by simp [List.length_eraseIdx, hl]) (fun m x cm hx hc => ?_) (fun k hk => .inl ((hown k).1 hk ▸ hgok))
  rw [List.getElem?_eraseIdx] at hx hc
  split at hx
  · rename_i hlt
    rw [if_pos hlt] at hc
    by_cases hmi : m = i
    · subst hmi
      rw [List.getElem?_set_self (by omega)] at hx hc
      cases hx; cases hc
      refine kTb_mkM w3 base _ _ (Kd.S_mono (Kd.S_step hS1 (fun k hk hlt => hk3 k hlt ?_)) (fun k hk => ?_))
      · rcases hk with hk | hk
        · exact hk.1.2
        · omega
      · rcases hk with hk | hk
        · refine ⟨⟨.inl hk.1.1, fun he => hk.1.2 ((hown k).1 he.symm)⟩, ?_⟩
          show (if W.heap.size ≤ k ∨ f k = m + 1 then m else if m + 1 < f k then f k - 1 else f k) = m
          rcases hk.2 with h | h
          · split
            · rfl
            · rw [if_neg (by omega)]; exact h
          · rw [if_pos (.inr h)]
        · refine ⟨⟨.inr hk, fun he => by have := (hown k).1 he.symm; omega⟩, if_pos (.inl hk)⟩
    · rw [List.getElem?_set_ne (Ne.symm hmi)] at hx hc
      obtain ⟨cm', h1, h2⟩ := hM m x hx
      rw [hc] at h1; cases h1
      refine kTb.M_mono (fun k hk => ⟨⟨.inl hk.1.1.1, fun he => hk.1.1.2 ((hown k).1 he.symm)⟩, ?_⟩) (move m x cm hmi h2)
      show (if W.heap.size ≤ k ∨ f k = i + 1 then i else if i + 1 < f k then f k - 1 else f k) = m
      have := hk.1.2
      have := hk.2
      rw [if_neg (by omega), if_neg (by omega)]; omega
  · rename_i hlt
    rw [if_neg hlt] at hc
    rw [List.getElem?_set_ne (by omega)] at hx hc
    obtain ⟨cm', h1, h2⟩ := hM (m + 1) x hx
    rw [hc] at h1; cases h1
    refine kTb.M_mono (fun k hk => ⟨⟨.inl hk.1.1.1, fun he => hk.1.1.2 ((hown k).1 he.symm)⟩, ?_⟩) (move (m + 1) x cm (by omega) h2)
    show (if W.heap.size ≤ k ∨ f k = i + 1 then i else if i + 1 < f k then f k - 1 else f k) = m
    have := hk.1.2
    have := hk.2
    rw [if_neg (by omega), if_pos (by omega)]; omega
end Go.Proofs.Ytjlggfdmfchncaa.Q

namespace Go.Proofs.Ytjlggfdmfchncaa.Q
open Go.RowKit Go.Proofs.YtjlggfdmfchncaaW.PrintWords Go.Proofs.YtjlggfdmfchncaaW.PrintLast Go.Proofs.YtjlggfdmfchncaaW.PrintMore
set_option linter.unusedVariables false
set_option linter.unusedSimpArgs false
/-- The store's box and the tablet that goes, while two tablets become one. -/
def S7 (W : World) (g5 g k n p : Nat) (vj : Value) : Prop := W.heap[g5]? = some (.cells #[.slice (some ⟨g, 0, none⟩) n p] 28 (0, 0)) ∧ W.cell? ⟨g, k * 2 + 1, none⟩ = some vj
set_option maxHeartbeats 8000000 in
set_option maxRecDepth 100000 in
theorem imerge_call (A : Option Addr) (c : Nat) (ts : List IT) (row : ByteArray) (w : World) (hr : Kd.C k40 w A ts.length ts) (hc : ts.length ≤ c) (hs : SmS ts) :
    Calls Try.prog 8 #[.agg #[.slice A ts.length c], .string row] w fun e w' => ∃ v r, Merged ts row r ∧ e = .returned (.agg #[v]) ∧ Kd.S kTb 40 w' w.heap.size (fun _ => True) v r ∧ Below w.heap.size w w' := by
  have kr : K0 (Below w.heap.size w w) := ⟨Below.refl _ _⟩
  obtain ⟨wb, hwb⟩ : ∃ wb, wb = (w.alloc (.cells #[.slice A ts.length c] 28)).alloc (.cells #[.slice none 0 0] 28) := ⟨_, rfl⟩
  have hb0 : Below w.heap.size w wb := hwb ▸ kk
  have h1 : wb.heap[w.heap.size]? = some (.cells #[.slice A ts.length c] 28 (0, 0)) := hwb ▸ blk_alloc (heap_alloc_new w _) _
  have h2 : wb.heap[w.heap.size + 1]? = some (.cells #[.slice none 0 0] 28 (0, 0)) := hwb ▸ new1 w _ _
  have y0 := clk ((blk_cell h1 0).trans rfl : wb.cell? ⟨w.heap.size, 0, none⟩ = some (.slice A ts.length c))
  obtain ⟨o, ho⟩ : ∃ o, o = w.heap.size + 1 := ⟨_, rfl⟩
  have H0 := Aside0.mk (And.intro hb0 (And.intro (Kd.C_below hr hb0) (And.intro hc (And.intro hs (And.intro (show w.heap.size + 1 = o from ho.symm) (ho ▸ h2))))))
  have kb : K0 (Below wb.heap.size wb wb) := ⟨Below.refl _ _⟩
  clear hr hc hs hb0 h1 h2
  go_enter Try.func8, Try.ntmps8
  go_wp2_with fail
  rw [← hwb]
  clear hwb
  refine (sclone_call A c ts wb H0.out.2.1 (by have := H0.out.2.2.2.1.1; omega) (SmS_R H0.out.2.2.2.1)).mono ?_
  rintro ex W1 ⟨v, rfl, hS, hb⟩
  obtain ⟨P, p, rfl⟩ := Kd.S_slice hS
  obtain ⟨g5, hg5⟩ : ∃ g, g = W1.heap.size := ⟨_, rfl⟩
  obtain ⟨wc, hwc⟩ : ∃ wc, wc = W1.alloc (.cells #[.slice P ts.length p] 28) := ⟨_, rfl⟩
  have h5 : wc.heap[g5]? = some (.cells #[.slice P ts.length p] 28 (0, 0)) := hwc ▸ hg5 ▸ heap_alloc_new W1 _
  have hbc : Below W1.heap.size W1 wc := hwc ▸ Below.alloc (Below.refl _ _) (Nat.le_refl _) _
  have hbwc : Below wb.heap.size wb wc := hb.trans (hbc.mono hb.size)
  have hS5 : Kd.S kTb 40 wc wb.heap.size (fun k => wb.heap.size ≤ k ∧ k < g5) (.slice P ts.length p) ts := Kd.S_below (Kd.S_mono (Kd.S_bound hS) (fun k hk => ⟨hk.2.1, hg5 ▸ hk.2.2.1⟩)) hbc
  have HC := Aside0.mk (And.intro hbwc (And.intro hS5 (And.intro h5 (And.intro ((hbwc.block _ (blk_lt H0.out.2.2.2.2.2)).trans H0.out.2.2.2.2.2) hg5))))
  have kc : K0 (Below wc.heap.size wc wc) := ⟨Below.refl _ _⟩
  have tc : ∀ W [K0 (Below wc.heap.size wc W)], K0 (Below wb.heap.size wb W) := fun W k => ⟨HC.out.1.trans (k.out.mono HC.out.1.size)⟩
  have z5 := clk ((blk_cell h5 0).trans rfl : wc.cell? ⟨g5, 0, none⟩ = some (.slice P ts.length p))
  have y4 := clk ((blk_cell HC.out.2.2.2.1 0).trans rfl : wc.cell? ⟨o, 0, none⟩ = some (.slice none 0 0))
  clear hS hb h5 hbc hbwc hS5
  go_upto_region 2 with (fail)
  rw [← hwc, ← hg5, ← ho]
  clear hwc hg5 ho
  go_wp2_with fail
  refine (vimpl_call A c ts wc (Kd.C_below H0.out.2.1 HC.out.1) H0.out.2.2.1 H0.out.2.2.2.1).mono ?_
  rintro ex W2 ⟨rfl, hb⟩
  have k2 : K0 (Below wc.heap.size wc W2) := ⟨hb⟩
  clear hb
  cases hv : vstore ts
  · have hB2 := H0.out.1.trans ((HC.out.1.trans (k2.out.mono HC.out.1.size)).mono H0.out.1.size)
    have ho2 := (k2.out.block _ (blk_lt HC.out.2.2.2.1)).trans HC.out.2.2.2.1
    have fo := blk_frozen ho2 0
    have hlo := blk_lt H0.out.2.2.2.2.2
    have HF := Aside0.mk (And.intro (show Merged ts row ts from .inl ⟨hv, rfl⟩) (And.intro (Kd.S_below HC.out.2.1 k2.out) (And.intro hB2 (And.intro ho2 hlo))))
    clear hB2 ho2 hlo
    go_wp2_with fail
    refine bodyPost_ret (results_cell_row rfl _ _ o 28 _ (0, 0) _ rfl (blk_put HF.out.2.2.2.1 0 (.slice P ts.length p) (cs' := #[.slice P ts.length p]) rfl) Try.underlying28 rfl (by kernel_rfl)) rfl ⟨_, ts, HF.out.1, rfl, Kd.S_lower (Kd.S_mono (Kd.S_far (p := ⟨o, 0, none⟩) HF.out.2.1 (fun k hk => by have := HF.out.2.2.2.2; show k ≠ o; omega) _) (fun _ _ => trivial)) H0.out.1.size, HF.out.2.2.1.setCell (p := ⟨o, 0, none⟩) (by show w.heap.size ≤ o; have := H0.out.2.2.2.2.1; omega) _⟩
  have HV := Aside0.mk (And.intro hv (rise_of hv))
  clear hv
  go_wp2_with fail
  refine (holder_call A c ts row W2 (Kd.C_below H0.out.2.1 ((tc W2).out)) (by have := H0.out.2.2.2.1.1; omega) HV.out.2).mono ?_
  rintro ex W3 ⟨i, hi, rfl, hb⟩
  have k3 : K0 (Below wc.heap.size wc W3) := ⟨k2.out.trans (hb.mono k2.out.size)⟩
  have HI := Aside0.mk hi
  clear hb hi k2
  obtain ⟨k, hk⟩ : ∃ k, k = i + 1 := ⟨_, rfl⟩
  have hw1 : IntKind.i64.wrap ((i : Int) + 1) = (k : Int) := by have := HI.out.1; have := H0.out.2.2.2.1.1; rw [IntKind.wrap_i64]; omega
  have hw2 : IntKind.i64.wrap ((i : Int) + 2) = (k : Int) + 1 := by have := HI.out.1; have := H0.out.2.2.2.1.1; rw [IntKind.wrap_i64]; omega
  have HKi := Aside0.mk hk
  clear hk
  go_upto_region 5 with (fail)
  by_cases hlast : k = ts.length
  · have d1 : ((k : Int) == (ts.length : Int)) = true := beq_iff_eq.2 (by omega)
    have HF := Aside0.mk hlast
    clear hlast
    have hB3 := H0.out.1.trans ((HC.out.1.trans (k3.out.mono HC.out.1.size)).mono H0.out.1.size)
    have ho3 := (k3.out.block _ (blk_lt HC.out.2.2.2.1)).trans HC.out.2.2.2.1
    have fo := blk_frozen ho3 0
    have hlo := blk_lt H0.out.2.2.2.2.2
    have HE := Aside0.mk (And.intro (show Merged ts row ts from .inr ⟨HV.out.1, i, HI.out, .inl ⟨.inl (HKi.out ▸ HF.out), rfl⟩⟩) (And.intro (Kd.S_below HC.out.2.1 k3.out) (And.intro hB3 (And.intro ho3 hlo))))
    clear hB3 ho3 hlo
    go_quiet (fail)
    go_wp2_with fail
    refine bodyPost_ret (results_cell_row rfl _ _ o 28 _ (0, 0) _ rfl (blk_put HE.out.2.2.2.1 0 (.slice P ts.length p) (cs' := #[.slice P ts.length p]) rfl) Try.underlying28 rfl (by kernel_rfl)) rfl ⟨_, ts, HE.out.1, rfl, Kd.S_lower (Kd.S_mono (Kd.S_far (p := ⟨o, 0, none⟩) HE.out.2.1 (fun k hk => by have := HE.out.2.2.2.2; show k ≠ o; omega) _) (fun _ _ => trivial)) H0.out.1.size, (pw_below_drewN HE.out.2.2.1 _).setCell (p := ⟨o, 0, none⟩) (by show w.heap.size ≤ o; have := H0.out.2.2.2.2.1; omega) _⟩
  have hk1 : k < ts.length := by have := HI.out.1; have := HKi.out; omega
  have hik : i < k := by have := HKi.out; omega
  have d1 : ((k : Int) == (ts.length : Int)) = false := beq_eq_false_iff_ne.2 (by omega)
  have hC3 : Kd.C k40 W3 A ts.length ts := Kd.C_below H0.out.2.1 (tc W3).out
  obtain ⟨ad, A1, c1, e0, y1, y2, hx1, hx2⟩ := at_T40 hC3 (i : Int) (by omega) (by omega)
  obtain ⟨ad', A2, c2, e1, y5, y6, hx3, hx4⟩ := at_T40 hC3 (k : Int) (by omega) (by omega)
  clear hx1 hx2 hx3 hx4
  subst e0
  cases e1
  have hxi : ts[i]? = some (tA ts i) := by unfold tA rd_T40; rw [Int.toNat_natCast, List.getD_eq_getElem?_getD]; simp [show i < ts.length by omega]
  have hxj : ts[k]? = some (tA ts k) := by unfold tA rd_T40; rw [Int.toNat_natCast, List.getD_eq_getElem?_getD]; simp [hk1]
  obtain ⟨xi, hXi⟩ : ∃ x, tA ts i = x := ⟨_, rfl⟩
  obtain ⟨xj, hXj⟩ : ∃ x, tA ts k = x := ⟨_, rfl⟩
  rw [show rd_T40 ts (i : Int) = xi from hXi] at y1 y2
  rw [show rd_T40 ts (k : Int) = xj from hXj] at y5 y6
  rw [hXi] at hxi
  rw [hXj] at hxj
  rw [Int.toNat_natCast] at y1 y2 y5 y6
  have hli : xi.f1.length ≤ 1048576 := (H0.out.2.2.2.1.2 xi (List.mem_of_getElem? hxi)).1
  have hlj : xj.f1.length ≤ 1048576 := (H0.out.2.2.2.1.2 xj (List.mem_of_getElem? hxj)).1
  have k33 : K0 (Below W3.heap.size W3 W3) := ⟨Below.refl _ _⟩
  have y2 := clk y2
  have y6 := clk y6
  obtain ⟨sm, hsm⟩ : ∃ s, s = xi.f1.length + xj.f1.length := ⟨_, rfl⟩
  have hsum : IntKind.i64.wrap ((xi.f1.length : Int) + (xj.f1.length : Int)) = (sm : Int) := by rw [IntKind.wrap_i64]; omega
  have HX := Aside0.mk (And.intro hXi (And.intro hXj (And.intro hxi (And.intro hxj (And.intro hli (And.intro hlj hsm))))))
  have hil : i < ts.length := by omega
  have HL := Aside0.mk (And.intro hk1 hil)
  clear hC3 hXi hXj hxi hxj hli hlj hsm hlast
  by_cases hbig : 50 < sm
  · have d3 : decide ((50 : Int) < (sm : Int)) = true := decide_eq_true (by omega)
    have HF := Aside0.mk hbig
    clear hbig
    have hB3 := H0.out.1.trans ((HC.out.1.trans (k3.out.mono HC.out.1.size)).mono H0.out.1.size)
    have ho3 := (k3.out.block _ (blk_lt HC.out.2.2.2.1)).trans HC.out.2.2.2.1
    have fo := blk_frozen ho3 0
    have hlo := blk_lt H0.out.2.2.2.2.2
    have HE := Aside0.mk (And.intro (show Merged ts row ts from .inr ⟨HV.out.1, i, HI.out, .inl ⟨.inr (by rw [← HKi.out, HX.out.1, HX.out.2.1, ← HX.out.2.2.2.2.2.2]; exact HF.out), rfl⟩⟩) (And.intro (Kd.S_below HC.out.2.1 k3.out) (And.intro hB3 (And.intro ho3 hlo))))
    clear hB3 ho3 hlo
    go_quiet (fail)
    go_wp2_with fail
    refine bodyPost_ret (results_cell_row rfl _ _ o 28 _ (0, 0) _ rfl (blk_put HE.out.2.2.2.1 0 (.slice P ts.length p) (cs' := #[.slice P ts.length p]) rfl) Try.underlying28 rfl (by kernel_rfl)) rfl ⟨_, ts, HE.out.1, rfl, Kd.S_lower (Kd.S_mono (Kd.S_far (p := ⟨o, 0, none⟩) HE.out.2.1 (fun k hk => by have := HE.out.2.2.2.2; show k ≠ o; omega) _) (fun _ _ => trivial)) H0.out.1.size, (pw_below_drewN HE.out.2.2.1 _).setCell (p := ⟨o, 0, none⟩) (by show w.heap.size ≤ o; have := H0.out.2.2.2.2.1; omega) _⟩
  have d3 : decide ((50 : Int) < (sm : Int)) = false := decide_eq_false (by omega)
  have HF := Aside0.mk hbig
  clear hbig
  go_quiet (fail)
  go_upto_region 7 with (fail)
  have k4 : K0 (Below wc.heap.size wc (W3.drewN nq)) := ⟨pw_below_drewN k3.out nq⟩
  clear y1 y2 y5 y6 k33 y0 z5 y4 hsum d3 d1
  obtain ⟨W4, hW4⟩ : ∃ W, W = W3.drewN nq := ⟨_, rfl⟩
  rw [← hW4] at k4 ⊢
  clear hW4
  have hS4 := Kd.S_below HC.out.2.1 k4.out
  obtain ⟨g, cap, hvv, hgb, hgl, -⟩ := Kd.S_form hS4 (by omega)
  cases hvv
  obtain ⟨f, rows, hlr, hRw, hMM, hgok⟩ := raw_of_Sg hS4
  obtain ⟨cmi, hci, hMi⟩ := hMM i xi HX.out.2.2.1
  obtain ⟨cmj, hcj, hMj⟩ := hMM k xj HX.out.2.2.2.1
  obtain ⟨vi, rfl, hSi⟩ := kTb_openM hMi
  obtain ⟨vj, rfl, hSj⟩ := kTb_openM hMj
  obtain ⟨Ai, pi, rfl⟩ := Kd.S_slice hSi
  obtain ⟨Aj, pj, rfl⟩ := Kd.S_slice hSj
  have e8 : W4.drew.cell? ⟨g, i * 2 + 1, none⟩ = some (.slice Ai xi.f1.length pi) := (raw_cell hRw hci (j := 1) rfl).1
  have h5 := (k4.out.block _ (blk_lt HC.out.2.2.1)).trans HC.out.2.2.1
  have h4o := (k4.out.block _ (blk_lt HC.out.2.2.2.1)).trans HC.out.2.2.2.1
  have k7 : K0 (S7 W4.drew g5 g k ts.length p (.slice Aj xj.f1.length pj)) := ⟨h5, (raw_cell hRw hcj (j := 1) rfl).1⟩
  have z7 : ∀ W [K0 (S7 W g5 g k ts.length p (.slice Aj xj.f1.length pj))], W.cell? ⟨g5, 0, none⟩ = some (.slice (some ⟨g, 0, none⟩) ts.length p) := fun W k => (blk_cell k.out.1 0).trans rfl
  have z8 : ∀ W [K0 (S7 W g5 g k ts.length p (.slice Aj xj.f1.length pj))], W.cell? ⟨g, k * 2 + 1, none⟩ = some (.slice Aj xj.f1.length pj) := fun W k => k.out.2
  have H4 := Aside0.mk (And.intro hgb (And.intro hgl (And.intro hlr (And.intro hRw (And.intro hMM (And.intro hgok (And.intro hci (And.intro hcj (And.intro hSi (And.intro hSj (And.intro h5 h4o)))))))))))
  clear hgb hgl hlr hRw hMM hgok hci hcj hSi hSj h5 h4o hS4 hMi hMj y2 y6 kc kb kr tc k3
  refine sp_region (S := fun (W' : World) => K0 (S7 W' g5 g k ts.length p (.slice Aj xj.f1.length pj))) (.n 0 (.n 1 (.n 2 (.n 3 (.n 4 (.n 5 (.n 6 (.n 7 (.n 9 (.n 10 (.n 11 (.n 12 (.n 13 (.n 14 (.n 15 (.y 8 (.y 16 (.n 17 (.n 18 (.y 19 .done)))))))))))))))))))) (by kernel_rfl) (by kernel_rfl) k7 (fun hS => ?_)
  repeat (refine sp_n ?_ ?_ rfl ?_ ?_ ?_; rotate_left 2; (intro W hW; go_simp; first | done | with_reducible rfl); (simp only [List.setIfInBounds_toArray, List.set_cons_zero, List.set_cons_succ]; try rfl))
  refine sp_1n rfl (fun hS K hK => ?_)
  go_wp2_with fail
  refine hK.out _ _ k7 (fun hS => ?_)
  refine sp_1n rfl (fun hS K hK => ?_)
  refine Eq.mp (if_pos yes_n) (S_cat_step (ops := #[]) (Kc := K) k60 (w0 := W4) (W := W4.drew) wb.heap.size yes_n (.tmp 50) (.tmp 57) 38 60 (.agg #[(.slice none 0 0)]) 24 rfl Try.underlying38 info60 rfl (by decide) (by omega) (.slice Ai xi.f1.length pi) xi.f1 xj.f1 Aj xj.f1.length pj (fun q => ((((wb.heap.size ≤ q ∧ q < g5) ∧ q ≠ g) ∧ (f q = i ∨ f q = i + 1)) ∨ W4.heap.size ≤ q)) (fun q => ((wb.heap.size ≤ q ∧ q < g5) ∧ q ≠ g) ∧ f q = i) (fun q => ((wb.heap.size ≤ q ∧ q < g5) ∧ q ≠ g) ∧ f q = k) rfl rfl (Kd.S_drew H4.out.2.2.2.2.2.2.2.2.1) (Kd.S_drew H4.out.2.2.2.2.2.2.2.2.2.1) (fun q h1 h2 => by have := h1.2; have := h2.2; omega) (fun q hq => .inl ⟨hq.1, .inl hq.2⟩) (fun q hq => .inl ⟨hq.1, .inr (by rw [← HKi.out]; exact hq.2)⟩) (fun q hq => .inr hq) (below_drew1 (Below.refl _ _)) (Nat.le_trans HC.out.1.size k4.out.size) (by have := HX.out.2.2.2.2; omega) ?_)
  intro v1 w1 hS1 hb1 hg1 hat
  obtain ⟨A5, c5, rfl⟩ := Kd.S_slice hS1
  obtain ⟨m5, hm5⟩ : ∃ m, (xi.f1 ++ xj.f1).length = m := ⟨_, rfl⟩
  rw [hm5] at hS1 hat ⊢
  have hvi := (Kd.S_R H4.out.2.2.2.2.2.2.2.2.1).1
  have hne : (Value.slice Ai xi.f1.length pi).ownBlock ≠ (Value.slice (some ⟨g, 0, none⟩) ts.length p).ownBlock := fun e => (hvi g (e.trans (by simp [Value.ownBlock]))).1.2 rfl
  have hR1 : (Kd.raw 2).R 40 w1 wb.heap.size (fun _ => True) (.slice (some ⟨g, 0, none⟩) ts.length p) rows := Kd.R_grown1 (Kd.R_drew H4.out.2.2.2.1) rfl hg1 hne
  have o5 : w1.heap[g5]? = _ := (hg1.block g5 (blk_lt H4.out.2.2.2.2.2.2.2.2.2.2.1) (fun e => by have := (hvi g5 e.symm).1.1.2; omega)).trans H4.out.2.2.2.2.2.2.2.2.2.2.1
  have oo : w1.heap[o]? = _ := (hb1.block o (blk_lt H0.out.2.2.2.2.2)).trans H4.out.2.2.2.2.2.2.2.2.2.2.2
  have k8 : K0 (S7 w1 g5 g k ts.length p (.slice Aj xj.f1.length pj)) := ⟨o5, (raw_cell hR1 H4.out.2.2.2.2.2.2.2.1 (j := 1) rfl).1⟩
  have e9 : w1.cell? ⟨g, i * 2 + 1, none⟩ = some (.slice Ai xi.f1.length pi) := (raw_cell hR1 H4.out.2.2.2.2.2.2.1 (j := 1) rfl).1
  have f9 : w1.frozen? ⟨g, i * 2 + 1, none⟩ = false := (raw_cell hR1 H4.out.2.2.2.2.2.2.1 (j := 1) rfl).2
  obtain ⟨w2, hw2⟩ : ∃ w2, w2 = w1.setCell ⟨g, i * 2 + 1, none⟩ (.slice A5 m5 c5) := ⟨_, rfl⟩
  have hseg := Kd.R_seg hR1 (i : Int) (by omega) (by have := HL.out.2; omega) (c := [.string xi.f0, .slice Ai xi.f1.length pi]) (seg := [.slice A5 m5 c5]) (j := 1) (x' := [.string xi.f0, .slice A5 m5 c5]) (okp := fun _ => False) rfl (fun j u hu => by rw [Int.toNat_natCast]; exact (raw_cell hR1 H4.out.2.2.2.2.2.2.1 hu).1) (Nat.le_refl _) ⟨rfl, rfl, fun u hu => by simp at hu; rcases hu with rfl | rfl <;> rfl⟩ (fun _ hk => hk.elim)
  rw [Int.toNat_natCast] at hseg
  have hR2 : (Kd.raw 2).R 40 w2 wb.heap.size (fun _ => True) (.slice (some ⟨g, 0, none⟩) ts.length p) (rows.set i [.string xi.f0, .slice A5 m5 c5]) := hw2 ▸ hseg.1
  have hg2 : w1.grownBy w2 (some g) := hw2 ▸ hseg.2
  have g5g : g5 ≠ g := by have := H4.out.2.2.2.2.2.1.2; omega
  have og : o ≠ g := by have := blk_lt H0.out.2.2.2.2.2; have := H4.out.1; omega
  have p5 := (hg2.block g5 (blk_lt o5) (fun e => g5g (by injection e))).trans o5
  have po := (hg2.block o (blk_lt oo) (fun e => og (by injection e))).trans oo
  have hjl : (rows.set i [.string xi.f0, .slice A5 m5 c5])[k]? = some [.string xj.f0, .slice Aj xj.f1.length pj] := by rw [List.getElem?_set_ne (by omega)]; exact H4.out.2.2.2.2.2.2.2.1
  have k9 : K0 (S7 w2 g5 g k ts.length p (.slice Aj xj.f1.length pj)) := ⟨p5, (raw_cell hR2 hjl (j := 1) rfl).1⟩
  have hb2 : Below wb.heap.size W4 w2 := hb1.grown hg2 (Nat.le_trans (Nat.le_trans HC.out.1.size k4.out.size) hg1.size) (fun q hq => by injection hq with hq; have := H4.out.1; omega)
  have H5 := Aside0.mk (And.intro hS1 (And.intro hg1 (And.intro hR2 (And.intro hg2 (And.intro hb2 (And.intro p5 po))))))
  have Hm := Aside0.mk hm5
  have z9 : w2.cell? ⟨g5, 0, none⟩ = some (.slice (some ⟨g, 0, none⟩) ts.length p) := (blk_cell p5 0).trans rfl
  clear hS1 hg1 hb1 hat hvi hne hR1 o5 oo hseg hR2 hg2 p5 po hjl hb2 hm5
  refine hK.out _ _ k8 (fun hS => ?_)
  repeat (refine sp_n ?_ ?_ rfl ?_ ?_ ?_; rotate_left 2; (intro W hW; go_simp; first | done | with_reducible rfl); (simp only [List.setIfInBounds_toArray, List.set_cons_zero, List.set_cons_succ]; try rfl))
  refine sp_1n rfl (fun hS K hK => ?_)
  go_wp2_with fail
  rw [← hw2]
  clear hw2
  refine hK.out _ _ k9 (fun hS => ?_)
  refine sp_done (fun hS => ?_)
  clear e8 e9 f9 hK hS k7 k8 k9 z7 z8
  go_wp2_with fail
  refine (delete_call (Kd.raw 2) rfl wb.heap.size g ts.length p k _ (fun _ => True) w2 H5.out.2.2.1 HL.out.1 (by have := H0.out.2.2.2.1.1; omega) (Nat.le_trans (Nat.le_trans HC.out.1.size k4.out.size) H5.out.2.2.2.2.1.size)).mono ?_
  rintro ex W5 ⟨rfl, hR5, hb5, hk5⟩
  have hR5' := hR5
  rw [HKi.out] at hR5'
  have hfin := merge_end (W := W4) (w1 := w1) (w3 := W5) (base := wb.heap.size) (g := g) (n := ts.length) (c := p) (i := i) (ts := ts) (rows := rows) (f := f) (ok := fun q => wb.heap.size ≤ q ∧ q < g5) (xi := xi) (xj := xj) (vi := .slice Ai xi.f1.length pi) (v1 := .slice A5 m5 c5)
    H4.out.2.2.2.2.1 H4.out.2.2.1 (HKi.out ▸ HL.out.1) HX.out.2.2.1 (HKi.out ▸ HX.out.2.2.2.1) (fun q hq => ((Kd.S_R H4.out.2.2.2.2.2.2.2.2.1).1 q hq).2) H4.out.2.1 H4.out.2.2.2.2.2.1 H5.out.1 ⟨H5.out.2.1.os, H5.out.2.1.tape, H5.out.2.1.output, H5.out.2.1.size, H5.out.2.1.block⟩ (fun q hq hqg => (hk5.2 q (Nat.lt_of_lt_of_le hq H5.out.2.2.2.1.size) hqg (by simp)).trans (H5.out.2.2.2.1.block q hq (fun e => hqg (by injection e)))) hR5'
  have g5g : g5 ≠ g := by have := H4.out.2.2.2.2.2.1.2; omega
  have og : o < wb.heap.size := blk_lt H0.out.2.2.2.2.2
  have q5 := (hk5.2 g5 (blk_lt H5.out.2.2.2.2.2.1) g5g (by simp)).trans H5.out.2.2.2.2.2.1
  have qo := (hb5.block o og).trans H5.out.2.2.2.2.2.2
  have r5 : W5.cell? ⟨g5, 0, none⟩ = some (.slice (some ⟨g, 0, none⟩) ts.length p) := (blk_cell q5 0).trans rfl
  have s5 := blk_frozen q5 0
  have hg54 : g5 < W4.heap.size := blk_lt H4.out.2.2.2.2.2.2.2.2.2.2.1
  have hob : o ≠ g5 := by have := H4.out.2.2.2.2.2.1; omega
  obtain ⟨W6, hW6⟩ : ∃ W, W = W5.setCell ⟨g5, 0, none⟩ (.slice (some ⟨g, 0, none⟩) (ts.length - 1) p) := ⟨_, rfl⟩
  have u5 : W6.heap[g5]? = some (.cells #[.slice (some ⟨g, 0, none⟩) (ts.length - 1) p] 28 (0, 0)) := hW6 ▸ blk_put q5 0 _ rfl
  have uo : W6.heap[o]? = some (.cells #[.slice none 0 0] 28 (0, 0)) := hW6 ▸ blk_far qo hob _
  have hb6 : Below w.heap.size w W6 := H0.out.1.trans (((HC.out.1.trans (k4.out.mono HC.out.1.size)).trans (H5.out.2.2.2.2.1.trans (hW6 ▸ hb5.setCell (p := ⟨g5, 0, none⟩) (by show wb.heap.size ≤ g5; have := H4.out.2.2.2.2.2.1; omega) _))).mono H0.out.1.size)
  have v5 : W6.cell? ⟨g5, 0, none⟩ = some (.slice (some ⟨g, 0, none⟩) (ts.length - 1) p) := (blk_cell u5 0).trans rfl
  have vo : W6.cell? ⟨o, 0, none⟩ = some (.slice none 0 0) := (blk_cell uo 0).trans rfl
  have fo := blk_frozen uo 0
  have hS6 : Kd.S kTb 40 W6 wb.heap.size (fun q => (wb.heap.size ≤ q ∧ q < g5) ∨ W4.heap.size ≤ q) (.slice (some ⟨g, 0, none⟩) (ts.length - 1) p) (mergeAt ts i) := hW6 ▸ Kd.S_far hfin (fun q hq => by show q ≠ g5; omega) _
  have HE := Aside0.mk (And.intro hS6 (And.intro hb6 (And.intro uo (And.intro og hg54))))
  clear hR5 hR5' hb5 hk5 hfin g5g q5 qo hg54 hob u5 uo hb6 hS6 og z9
  go_upto_region 9 with (fail)
  rw [← hW6]
  clear hW6 r5 s5
  go_wp2_with fail
  refine bodyPost_ret (results_cell_row rfl _ _ o 28 _ (0, 0) _ rfl (blk_put HE.out.2.2.1 0 (.slice (some ⟨g, 0, none⟩) (ts.length - 1) p) (cs' := #[.slice (some ⟨g, 0, none⟩) (ts.length - 1) p]) rfl) Try.underlying28 rfl (by kernel_rfl)) rfl ⟨_, mergeAt ts i, .inr ⟨HV.out.1, i, HI.out, .inr ⟨fun hkm => ?_, rfl⟩⟩, rfl, Kd.S_lower (Kd.S_mono (Kd.S_far (p := ⟨o, 0, none⟩) HE.out.1 (fun q hq => by have := HE.out.2.2.2.1; have := H4.out.1; have := H4.out.2.1; show q ≠ o; omega) _) (fun _ _ => trivial)) H0.out.1.size, HE.out.2.1.setCell (p := ⟨o, 0, none⟩) (by show w.heap.size ≤ o; have := H0.out.2.2.2.2.1; omega) _⟩
  rcases hkm with hkm | hkm
  · have := HL.out.1; have := HKi.out; omega
  · rw [← HKi.out, HX.out.1, HX.out.2.1] at hkm
    have := HF.out; have := HX.out.2.2.2.2.2.2; omega
end Go.Proofs.Ytjlggfdmfchncaa.Q

namespace Go.Proofs.Ytjlggfdmfchncaa.Q
open Go.RowKit Go.Proofs.YtjlggfdmfchncaaW.PrintWords Go.Proofs.YtjlggfdmfchncaaW.PrintLast Go.Proofs.YtjlggfdmfchncaaW.PrintMore
set_option linter.unusedVariables false
set_option linter.unusedSimpArgs false

/-! ### spec_l7CopyRuns: function 18 -/
def spec_l7CopyRuns.l0 : Nat → List (S60) → List (S60) → Int → Option ((List (S60)))
 | 0, _, _, _ => none
 | k + 1, x0, x3, x4 => if x4 < (x0.length : Int) then ((some (([] : List (S65)) : List (S65))).bind fun y158 => (if 0 ≤ x4 then (if y158.length + ((rd_T60 x0 x4).f0).length < 1759218604441 then (if x3.length < 5864062014805 then (spec_l7CopyRuns.l0 k x0 (x3 ++ [(⟨(y158 ++ ((rd_T60 x0 x4).f0))⟩ : S60)]) (wrap64 (x4 + 1))) else (none)) else (none)) else (none))) else (some x3)
def spec_l7CopyRuns.f (k : Nat) (l0 : List (S60)) : Option ((List (S60))) := spec_l7CopyRuns.l0 k l0 (([] : List (S60))) 0
set_option maxHeartbeats 8000000 in
set_option maxRecDepth 100000 in
theorem spec_l7CopyRuns.calls (k : Nat) (A0 : Option Addr) (c0 : Nat) (l0 : List (S60)) (r : List (S60)) (w : World) (hr0 : Kd.C k60 w A0 l0.length l0) (hc0 : l0.length ≤ c0) (h : spec_l7CopyRuns.f k l0 = some r) :
  Calls Try.prog 18 #[.slice A0 l0.length c0] w fun e w' => ∃ v0_ : Value, e = .returned (v0_) ∧ Kd.S k60 60 w' w.heap.size (fun _ => True) v0_ r ∧ Below w.heap.size w w' := by
 have hu60 := Try.underlying60
 have HR0 := Aside0.mk hr0
 have HC0 := Aside0.mk hc0
 clear hr0 hc0
 have HB := Aside0.mk (Below.refl w.heap.size w)
 have H : (spec_l7CopyRuns.l0 k l0 (([] : List (S60))) 0) = some r := h
 clear h
 obtain ⟨y155, hy155⟩ : ∃ y_ : List (S60), y_ = (([] : List (S60))) := ⟨_, rfl⟩
 replace H : (spec_l7CopyRuns.l0 k l0 y155 0) = some r := by first | (rw [hy155]; with_reducible exact H) | (have H2_ := (Option.bind_some _ _).symm.trans H; rw [hy155]; with_reducible exact H2_) | (have H2_ := (Option.bind_some _ _).symm.trans H; with_reducible exact H2_) | with_reducible exact H | (rw [hy155]; exact H) | exact H
 have Ny155 := Aside0.mk hy155
 clear hy155
 have H' := Aside0.mk H
 clear H
 go_enter Try.func18, Try.ntmps18
 go_wp2_with (first | ((with_reducible refine gate_dst (N := 5) rfl ?_); refine Kd.S_lit k60 _ 60 ?hg (N := 5) ?hd (xs := ([] : List (S60))) (inner := []) (ok := fun _ => True) (okp := fun _ => True) ?hr ?hp (fun _ hk => hk) trivial (Below.refl _ _) (Nat.le_refl _) (by simp) ?_; (case hd => rfl); (case hg => rfl); (case hr => first | (go_simp; done) | (go_simp; rfl)); (case hp => exact (Reps.none _ _)); intro v156 w2 ho3 hb hg_ hnew_; clear hg_ hnew_; (first | rw [← Ny155.out] at ho3 | (simp only [Int.reduceToNat] at ho3; rw [← Ny155.out] at ho3)); have n0_ := Aside0.mk (Kd.S_lower ho3 (below_size bw)); have n1_ := Aside0.mk (below_step bw hb); clear HB; have HO157 := n0_; have HB := n1_; clear n0_ n1_; clear hb ho3))
 go_loopg [3, 4] k (fun kq v3 v4 w' => ∃ (x3_1 : List (S60)) (x4_1 : Int), v4 = .int .i64 x4_1 ∧ Aside0 (spec_l7CopyRuns.l0 kq l0 x3_1 x4_1 = some r) ∧ Aside0 (kq ≤ k) ∧ Aside0 (Kd.S k60 60 w' w.heap.size (fun _ => True) v3 x3_1) ∧ Aside0 (Below w.heap.size w w'))
 case atStart => exact ⟨(y155), (0), (by first | rfl | (simp; done) | (simp [*]; done)), H', ⟨Nat.le_refl _⟩, ⟨by (with_reducible repeat (first | apply Kd.S_alloc | apply Kd.S_drewN | apply Kd.S_drew)); exact HO157.out⟩, ⟨bw⟩⟩
 case round =>
  clear H'
  try clear c1
  try clear p2
  obtain ⟨x3_1, x4_1, rfl, HA, HK1, HO_3, HB⟩ := hrel
  cases gk with
  | zero => exact absurd HA.out (by simp [spec_l7CopyRuns.l0])
  | succ k1 =>
   have H := HA.out
   clear HA
   simp only [spec_l7CopyRuns.l0] at H
   by_cases c4 : x4_1 < (l0.length : Int)
   ·rw [if_pos c4] at H
    have c4b0 : decide (x4_1 < (l0.length : Int)) = true := decide_eq_true c4
    clear c4
    obtain ⟨y158, hy158⟩ : ∃ y_ : List (S65), y_ = (([] : List (S65))) := ⟨_, rfl⟩
    replace H : (if 0 ≤ x4_1 then (if y158.length + ((rd_T60 l0 x4_1).f0).length < 1759218604441 then (if x3_1.length < 5864062014805 then (spec_l7CopyRuns.l0 k1 l0 (x3_1 ++ [(⟨(y158 ++ ((rd_T60 l0 x4_1).f0))⟩ : S60)]) (wrap64 (x4_1 + 1))) else (none)) else (none)) else (none)) = some r := by first | (rw [hy158]; with_reducible exact H) | (have H2_ := (Option.bind_some _ _).symm.trans H; rw [hy158]; with_reducible exact H2_) | (have H2_ := (Option.bind_some _ _).symm.trans H; with_reducible exact H2_) | with_reducible exact H | (rw [hy158]; exact H) | exact H
    have Ny158 := Aside0.mk hy158
    clear hy158
    by_cases c5 : 0 ≤ x4_1
    ·rw [if_pos c5] at H
     have c5b0 : decide (0 ≤ x4_1) = true := decide_eq_true c5
     clear c5
     by_cases c6 : y158.length + ((rd_T60 l0 x4_1).f0).length < 1759218604441
     ·rw [if_pos c6] at H
      have LMc6 := Aside0.mk c6
      clear c6
      obtain ⟨y162, hy162⟩ : ∃ y_ : List (S65), y_ = (y158 ++ ((rd_T60 l0 x4_1).f0)) := ⟨_, rfl⟩
      replace H : (if x3_1.length < 5864062014805 then (spec_l7CopyRuns.l0 k1 l0 (x3_1 ++ [(⟨y162⟩ : S60)]) (wrap64 (x4_1 + 1))) else (none)) = some r := by first | (rw [hy162]; with_reducible exact H) | (have H2_ := (Option.bind_some _ _).symm.trans H; rw [hy162]; with_reducible exact H2_) | (have H2_ := (Option.bind_some _ _).symm.trans H; with_reducible exact H2_) | with_reducible exact H | (rw [hy162]; exact H) | exact H
      have Ny162 := Aside0.mk hy162
      clear hy162
      by_cases c7 : x3_1.length < 5864062014805
      ·rw [if_pos c7] at H
       have LMc7 := Aside0.mk c7
       clear c7
       obtain ⟨y165, hy165⟩ : ∃ y_ : List (S60), y_ = (x3_1 ++ [(⟨y162⟩ : S60)]) := ⟨_, rfl⟩
       replace H : (spec_l7CopyRuns.l0 k1 l0 y165 (wrap64 (x4_1 + 1))) = some r := by first | (rw [hy165]; with_reducible exact H) | (have H2_ := (Option.bind_some _ _).symm.trans H; rw [hy165]; with_reducible exact H2_) | (have H2_ := (Option.bind_some _ _).symm.trans H; with_reducible exact H2_) | with_reducible exact H | (rw [hy165]; exact H) | exact H
       have Ny165 := Aside0.mk hy165
       clear hy165
       have H' := Aside0.mk H
       clear H
       go_wp2_with (first | ((with_reducible refine gate_dst (N := 13) rfl ?_); refine Kd.R_lit k65 _ 65 ?hg (N := 13) ?hd (xs := ([] : List (S65))) (inner := []) (ok := fun _ => True) (okp := fun _ => True) ?hr ?hp (fun _ hk => hk) trivial (Below.refl _ _) (Nat.le_refl _) (by simp) ?_; (case hd => rfl); (case hg => rfl); (case hr => first | (go_simp; done) | (go_simp; rfl)); (case hp => exact (Reps.none _ _)); intro v159 w8 ho9 hb hg_ hnew_; clear hg_ hnew_; (first | rw [← Ny158.out] at ho9 | (simp only [Int.reduceToNat] at ho9; rw [← Ny158.out] at ho9)); have n0_ := Aside0.mk (Kd.S_elder' (by (with_reducible repeat (first | apply Kd.S_alloc | apply Kd.S_drewN | apply Kd.S_drew)); exact HO_3.out) (Kd.R_base ho9) hb); have n1_ := Aside0.mk (Kd.R_lower ho9 (below_size bw)); have n2_ := Aside0.mk (below_step bw hb); clear HO_3; clear HB; have HO_3 := n0_; have HO160 := n1_; have HB := n2_; clear n0_ n1_ n2_; clear hb ho9; have p161 : 0 ≤ (x4_1 : Int) := of_decide_eq_true (by first | (with_reducible assumption) | assumption); have q161 : x4_1 < (l0.length : Int) := of_decide_eq_true (by first | (with_reducible assumption) | assumption); obtain ⟨ad161, A161_0, c161_0, e161, hx161_0, hl161_0, hi161_0⟩ := at_T60 HR0.out x4_1 p161 q161; cases e161; replace hx161_0 := (HB.out.cell (World.block_lt_of_cell? w _ hx161_0)).trans hx161_0; have HR161_0 := Aside0.mk hi161_0; have HC161_0 := Aside0.mk hl161_0; clear hi161_0 hl161_0; replace p161 := eq_true p161; replace q161 := eq_true q161) | ((with_reducible refine gate_builtin (b := .append) (xs := #[.tmp 13, .tmp 18]) rfl ?_); at_builtin; refine Kd.R_append_rows k65 (w0 := w) w.heap.size rfl (.tmp 13) (.tmp 18) 58 65 (.agg #[(.string ⟨#[]⟩), (.string ⟨#[]⟩), (.string ⟨#[]⟩), (.int .u64 0), (.int .i64 0), (.string ⟨#[]⟩)]) 80 rfl Try.underlying58 info65 rfl (by decide) (by omega) v159 y158 ((rd_T60 l0 x4_1).f0) _ _ _ (fun _ => True) (fun _ => False) rfl rfl ?aO ?aR (fun _ _ h => h) (fun _ h => h.elim) ?aF ?aB ?aS ?aL ?_; (case aR => repeat (first | exact (Kd.C_below HR161_0.out HB.out) | (with_reducible refine Kd.C_alloc ?_ _) | (with_reducible refine Kd.C_drewN ?_ _) | (with_reducible refine Kd.C_drew ?_))); (case aB => exact bw); (case aF => exact (fun _ _ => trivial)); (case aO => exact (lf HO160)); (case aS => exact (below_size bw)); (case aL => have := LMc6.out; omega); intro v163 w10 ho hb hg hat; rw [← Ny162.out] at ho; have n0_ := Aside0.mk (Kd.S_after (ok := (fun _ => True)) (by (with_reducible repeat (first | apply Kd.S_alloc | apply Kd.S_drewN | apply Kd.S_drew)); exact HO_3.out) hg hat); have n1_ := Aside0.mk (hb); have n2_ := Aside0.mk (ho); clear HO_3; clear HB; clear HO160; have HO_3 := n0_; have HB := n1_; have HO164 := n2_; clear n0_ n1_ n2_; clear ho hb hg hat; obtain ⟨Ao11, co11, eo11⟩ := Kd.R_slice HO164.out; subst eo11) | ((with_reducible refine gate_builtin (b := .append) (xs := #[.tmp 12, .tmp 21]) rfl ?_); at_builtin; refine Kd.S_append k60 (w0 := w) w.heap.size rfl (.tmp 12) (.tmp 21) 38 60 (.agg #[(.slice none 0 0)]) 24 rfl Try.underlying38 info60 rfl (by decide) (by omega) u3 x3_1 (⟨y162⟩ : S60) [.slice Ao11 y162.length co11] (fun _ => True) (fun k_ => some k_ = (.slice Ao11 y162.length co11 : Value).ownBlock) rfl rfl ?aP (fun k_ hk_ => ((Kd.R_mono (ok' := fun k_ => ((fun _ => True)) k_ ∧ some k_ ≠ (u3 : Value).ownBlock) (Kd.R_apart' (HO164.out) (Kd.S_typed HO_3.out) (by decide)) (fun k_ hk => ⟨trivial, hk.2⟩))).1 k_ hk_.symm) ?aF ?aO ?aB ?aS ?aL ?_; (case aP => exact k60_mkM _ _ _ (⟨y162⟩ : S60) (Kd.R_mono (Kd.R_tight rfl (Kd.R_mono (ok' := fun k_ => ((fun _ => True)) k_ ∧ some k_ ≠ (u3 : Value).ownBlock) (Kd.R_apart' (HO164.out) (Kd.S_typed HO_3.out) (by decide)) (fun k_ hk => ⟨trivial, hk.2⟩))) (fun _ h_ => h_))); (case aB => exact bw); (case aF => exact (fun _ _ => trivial)); (case aO => exact (by (with_reducible repeat (first | apply Kd.S_alloc | apply Kd.S_drewN | apply Kd.S_drew)); exact Kd.S_mono HO_3.out (fun k_ hk => ⟨trivial, fun e_ => hk.2 e_⟩))); (case aS => exact (below_size bw)); (case aL => have := LMc7.out; omega); intro v166 w12 ho hb hg hat; rw [← Ny165.out] at ho; have n0_ := Aside0.mk (hb); have n1_ := Aside0.mk (ho); clear HB; clear HO_3; clear HO164; have HB := n0_; have HO167 := n1_; clear n0_ n1_; clear ho hb hg hat))
       go_roundg k1
       case measure => have := HK1.out; omega
       case rel => exact ⟨(y165), (wrap64 (x4_1 + 1)), (by first | rfl | (simp; done) | (simp [*]; done)), H', ⟨by have := HK1.out; omega⟩, ⟨by (with_reducible repeat (first | apply Kd.S_alloc | apply Kd.S_drewN | apply Kd.S_drew)); exact HO167.out⟩, ⟨bw⟩⟩
      ·rw [if_neg c7] at H
       exact absurd H (by simp)
     ·rw [if_neg c6] at H
      exact absurd H (by simp)
    ·rw [if_neg c5] at H
     exact absurd H (by simp)
   ·rw [if_neg c4] at H
    have c4b0 : decide (x4_1 < (l0.length : Int)) = false := decide_eq_false c4
    clear c4
    obtain rfl := Option.some.inj H
    go_wp2
    go_ret
    exact ⟨_, by first | rfl | (simp [errW_none, errW_some] <;> rfl) | (simp [*, errW_none, errW_some] <;> rfl), by (with_reducible repeat (first | apply Kd.S_alloc | apply Kd.S_drewN | apply Kd.S_drew)); exact HO_3.out, bw⟩

end Go.Proofs.Ytjlggfdmfchncaa.Q

namespace Go.Proofs.Ytjlggfdmfchncaa.Q
open Go.RowKit Go.Proofs.YtjlggfdmfchncaaW.PrintWords Go.Proofs.YtjlggfdmfchncaaW.PrintLast Go.Proofs.YtjlggfdmfchncaaW.PrintMore
set_option linter.unusedVariables false
set_option linter.unusedSimpArgs false

/-! ### spec_l7Copy: function 16 -/
def spec_l7Copy.l0 : Nat → Int → List (S40) → List (S40) → Option ((List (S40)))
 | 0, _, _, _ => none
 | k + 1, x4, x169000, x171000 => if x4 < (x169000.length : Int) then (if 0 ≤ x4 then ((spec_l7CopyRuns.f k ((rd_T40 x169000 x4).f1)).bind fun t173 => (if x171000.length < 3518437208883 then (spec_l7Copy.l0 k (wrap64 (x4 + 1)) x169000 (x171000 ++ [(⟨(rd_T40 x169000 x4).f0, t173⟩ : S40)])) else (none))) else (none)) else (some x171000)
def spec_l7Copy.f (k : Nat) (l0_0 : List (S40)) : Option ((List (S40))) := spec_l7Copy.l0 k 0 l0_0 ([] : List (S40))
def spec_l7Copy.T5 : Bool × List (List Nat × List Nat) := (true, [([], []), ([0], [0]), ([], []), ([2], [2]), ([], []), ([3, 4], [3, 4]), ([5], [5]), ([6], [6]), ([], []), ([8], [8]), ([], []), ([9, 10], [9, 10]), ([11], [11]), ([12], [12]), ([13], [13]), ([7, 14], [7, 14]), ([15], [15]), ([1, 16, 14], [1, 16]), ([0, 1, 2, 3, 4, 5, 6, 7, 8, 9, 10, 11, 12, 13, 14, 15, 16, 17], []), ([18, 17, 17, 0, 1, 2, 3, 4, 5, 6, 7, 8, 9, 10, 11, 12, 13, 14, 15, 16, 17], [17, 18])])
def spec_l7Copy.B5 : List Nat := [0, 1, 0, 4, 0, 28, 60, 124, 0, 256, 0, 1792, 3840, 7936, 16128, 32764, 65532, 131071, 262143, 524287]
theorem spec_l7Copy.tab5 : rtab .any (opsOf Try.f16 5) = spec_l7Copy.T5 := by kernel_rfl
theorem spec_l7Copy.bits5 : waitsOk spec_l7Copy.T5.2 spec_l7Copy.B5 = true := by kernel_rfl
set_option maxHeartbeats 8000000 in
set_option maxRecDepth 100000 in
theorem spec_l7Copy.calls (k : Nat) (A0_0 : Option Addr) (c0_0 : Nat) (l0_0 : List (S40)) (r : List (S40)) (w : World) (hr0_0 : Kd.C k40 w A0_0 l0_0.length l0_0) (hc0_0 : l0_0.length ≤ c0_0) (h : spec_l7Copy.f k l0_0 = some r) :
  Calls Try.prog 16 #[.agg #[.slice A0_0 l0_0.length c0_0]] w fun e w' => ∃ v0_ : Value, e = .returned (.agg #[v0_]) ∧ Kd.R k40 40 w' w.heap.size (fun _ => True) v0_ r ∧ Below w.heap.size w w' := by
 have hu28 := Try.underlying28
 have hu40 := Try.underlying40
 have HR0_0 := Aside0.mk hr0_0
 have HC0_0 := Aside0.mk hc0_0
 clear hr0_0 hc0_0
 have HB := Aside0.mk (Below.refl w.heap.size w)
 have H : (spec_l7Copy.l0 k 0 l0_0 ([] : List (S40))) = some r := h
 clear h
 have H' := Aside0.mk H
 clear H
 go_enter Try.func16, Try.ntmps16
 go_wp2_with (first | ((with_reducible refine gate_dst (N := 1) rfl ?_); refine box_event ?hg (N := 1) ?hd (cs := #[.slice A0_0 l0_0.length c0_0]) (t := 28) ?hr ?_; (case hd => rfl); (case hg => rfl); (case hr => first | (go_simp; done) | (go_simp; rfl)); intro gb168 hg w2 hbox hb; have n0_ := Aside0.mk (below_step bw hb); have n1_ := Aside0.mk (hbox); have n2_ := Aside0.mk ((by rw [hg]; exact (below_size bw) : w.heap.size ≤ gb168)); have n3_ := Aside0.mk ((by rw [hg]; exact (below_size bw) : w.heap.size ≤ gb168)); clear HB; have HB := n0_; have BK168 := n1_; have GW168 := n2_; have GE168 := n3_; clear n0_ n1_ n2_ n3_; clear hb hbox hg) | ((with_reducible refine gate_dst (N := 2) rfl ?_); refine box_event ?hg (N := 2) ?hd (cs := #[.slice none 0 0]) (t := 28) ?hr ?_; (case hd => rfl); (case hg => rfl); (case hr => first | (go_simp; done) | (go_simp; rfl)); intro gb169 hg w3 hbox hb; have n0_ := Aside0.mk (blk_below (g := gb168) (o := .cells #[.slice A0_0 l0_0.length c0_0] 28 (0, 0)) (lb BK168) hb); have n1_ := Aside0.mk (below_step bw hb); have n2_ := Aside0.mk (hbox); have n3_ := Aside0.mk ((by rw [hg]; exact (below_size bw) : w.heap.size ≤ gb169)); have n4_ := Aside0.mk ((by rw [hg]; exact (below_size bw) : w.heap.size ≤ gb169)); have n5_ := Aside0.mk ((by rw [hg]; exact Nat.ne_of_lt (blk_lt (g := gb168) (o := .cells #[.slice A0_0 l0_0.length c0_0] 28 (0, 0)) (lb BK168)) : gb168 ≠ gb169)); have n6_ := Aside0.mk ((by rw [hg]; exact Nat.ne_of_gt (blk_lt (g := gb168) (o := .cells #[.slice A0_0 l0_0.length c0_0] 28 (0, 0)) (lb BK168)) : gb169 ≠ gb168)); clear BK168; clear HB; have BK168 := n0_; have HB := n1_; have BK169 := n2_; have GW169 := n3_; have GE169 := n4_; have NB168_169 := n5_; have NB169_168 := n6_; clear n0_ n1_ n2_ n3_ n4_ n5_ n6_; clear hb hbox hg) | ((with_reducible refine gate_dst (N := 3) rfl ?_); refine box_event ?hg (N := 3) ?hd (cs := #[.slice none 0 0]) (t := 28) ?hr ?_; (case hd => rfl); (case hg => rfl); (case hr => first | (go_simp; done) | (go_simp; rfl)); intro gb170 hg w4 hbox hb; have n0_ := Aside0.mk (blk_below (g := gb168) (o := .cells #[.slice A0_0 l0_0.length c0_0] 28 (0, 0)) (lb BK168) hb); have n1_ := Aside0.mk (blk_below (g := gb169) (o := .cells #[.slice none 0 0] 28 (0, 0)) (lb BK169) hb); have n2_ := Aside0.mk (below_step bw hb); have n3_ := Aside0.mk (hbox); have n4_ := Aside0.mk ((by rw [hg]; exact (below_size bw) : w.heap.size ≤ gb170)); have n5_ := Aside0.mk ((by rw [hg]; exact (below_size bw) : w.heap.size ≤ gb170)); have n6_ := Aside0.mk ((by rw [hg]; exact Nat.ne_of_lt (blk_lt (g := gb168) (o := .cells #[.slice A0_0 l0_0.length c0_0] 28 (0, 0)) (lb BK168)) : gb168 ≠ gb170)); have n7_ := Aside0.mk ((by rw [hg]; exact Nat.ne_of_gt (blk_lt (g := gb168) (o := .cells #[.slice A0_0 l0_0.length c0_0] 28 (0, 0)) (lb BK168)) : gb170 ≠ gb168)); have n8_ := Aside0.mk ((by rw [hg]; exact Nat.ne_of_lt (blk_lt (g := gb169) (o := .cells #[.slice none 0 0] 28 (0, 0)) (lb BK169)) : gb169 ≠ gb170)); have n9_ := Aside0.mk ((by rw [hg]; exact Nat.ne_of_gt (blk_lt (g := gb169) (o := .cells #[.slice none 0 0] 28 (0, 0)) (lb BK169)) : gb170 ≠ gb169)); clear BK168; clear BK169; clear HB; have BK168 := n0_; have BK169 := n1_; have HB := n2_; have BK170 := n3_; have GW170 := n4_; have GE170 := n5_; have NB168_170 := n6_; have NB170_168 := n7_; have NB169_170 := n8_; have NB170_169 := n9_; clear n0_ n1_ n2_ n3_ n4_ n5_ n6_ n7_ n8_ n9_; clear hb hbox hg; have hnb5 := NB170_168.out; have hnc5 := NB168_170.out; have hnb6 := NB170_169.out; have hnc6 := NB169_170.out; have hcz7_0 : w4.cell? ⟨gb170, 0, none⟩ = some (.slice none 0 0) := (blk_cell BK170.out 0).trans rfl; have hfz7_0 := blk_frozen BK170.out 0))
 go_loopg [4] k (fun kq v4 w' => ∃ (x4_1 : Int) (x171000_1 : List (S40)) (u171000 : Value), v4 = .int .i64 x4_1 ∧ Aside0 (spec_l7Copy.l0 kq x4_1 l0_0 x171000_1 = some r) ∧ Aside0 (kq ≤ k) ∧ Aside0 (Kd.R k40 40 w' w.heap.size (fun _ => True) u171000 x171000_1) ∧ Aside0 (w'.heap[gb168]? = some (.cells #[(.slice A0_0 l0_0.length c0_0)] 28 (0, 0))) ∧ Aside0 (w'.heap[gb169]? = some (.cells #[(.slice none 0 0)] 28 (0, 0))) ∧ Aside0 (w'.heap[gb170]? = some (.cells #[u171000] 28 (0, 0))) ∧ Aside0 (Below w.heap.size w w'))
 case atStart => exact ⟨(0), (([] : List (S40))), (.slice none 0 0), (by first | rfl | (simp; done) | (simp [*]; done)), H', ⟨Nat.le_refl _⟩, ⟨by first | exact Kd.R_nil _ _ _ _ _ | exact Kd.N_nil _ _ _ _ _ | exact Kd.V_nil _ _ _ _ _ | exact Kd.Q_nil _ _ _ _ _ | exact Kd.S_nil _ _ _ _ _⟩, ⟨by (with_reducible repeat (first | refine blk_drewN ?_ _ | refine blk_drew ?_ | refine blk_alloc ?_ _)); refine blk_far ?_ NB168_170.out _; (with_reducible repeat (first | refine blk_drewN ?_ _ | refine blk_drew ?_ | refine blk_alloc ?_ _)); exact BK168.out⟩, ⟨by (with_reducible repeat (first | refine blk_drewN ?_ _ | refine blk_drew ?_ | refine blk_alloc ?_ _)); refine blk_far ?_ NB169_170.out _; (with_reducible repeat (first | refine blk_drewN ?_ _ | refine blk_drew ?_ | refine blk_alloc ?_ _)); exact BK169.out⟩, ⟨by (with_reducible repeat (first | refine blk_drewN ?_ _ | refine blk_drew ?_ | refine blk_alloc ?_ _)); refine blk_put (cs := #[.slice none 0 0]) ?_ 0 _ rfl; (with_reducible repeat (first | refine blk_drewN ?_ _ | refine blk_drew ?_ | refine blk_alloc ?_ _)); exact BK170.out⟩, ⟨bw⟩⟩
 case round =>
  clear H'
  try clear c1
  try clear p2
  try clear c5
  try clear c6
  try clear hcz7_0
  try clear hfz7_0
  obtain ⟨x4_1, x171000_1, u171000, rfl, HA, HK1, HO_171000, BK168, BK169, BK170, HB⟩ := hrel
  cases gk with
  | zero => exact absurd HA.out (by simp [spec_l7Copy.l0])
  | succ k1 =>
   have H := HA.out
   clear HA
   simp only [spec_l7Copy.l0] at H
   by_cases c8 : x4_1 < (l0_0.length : Int)
   ·rw [if_pos c8] at H
    have c8b0 : decide (x4_1 < (l0_0.length : Int)) = true := decide_eq_true c8
    clear c8
    by_cases c9 : 0 ≤ x4_1
    ·rw [if_pos c9] at H
     have c9b0 : decide (0 ≤ x4_1) = true := decide_eq_true c9
     clear c9
     replace H := Option.bind_eq_some_iff.mp H
     obtain ⟨t173, A100, H⟩ := H
     replace H : (if x171000_1.length < 3518437208883 then (spec_l7Copy.l0 k1 (wrap64 (x4_1 + 1)) l0_0 (x171000_1 ++ [(⟨(rd_T40 l0_0 x4_1).f0, t173⟩ : S40)])) else (none)) = some r := H
     have A10 := Aside0.mk A100
     clear A100
     by_cases c11 : x171000_1.length < 3518437208883
     ·rw [if_pos c11] at H
      have LMc11 := Aside0.mk c11
      clear c11
      obtain ⟨y176, hy176⟩ : ∃ y_ : List (S40), y_ = (x171000_1 ++ [(⟨(rd_T40 l0_0 x4_1).f0, t173⟩ : S40)]) := ⟨_, rfl⟩
      replace H : (spec_l7Copy.l0 k1 (wrap64 (x4_1 + 1)) l0_0 y176) = some r := by first | (rw [hy176]; with_reducible exact H) | (have H2_ := (Option.bind_some _ _).symm.trans H; rw [hy176]; with_reducible exact H2_) | (have H2_ := (Option.bind_some _ _).symm.trans H; with_reducible exact H2_) | with_reducible exact H | (rw [hy176]; exact H) | exact H
      have Ny176 := Aside0.mk hy176
      clear hy176
      have H' := Aside0.mk H
      clear H
      have hnb12 := NB168_169.out
      have hnc12 := NB169_168.out
      have hnb13 := NB168_170.out
      have hnc13 := NB170_168.out
      have hcz14_0 : wr.cell? ⟨gb168, 0, none⟩ = some (.slice A0_0 l0_0.length c0_0) := (blk_cell BK168.out 0).trans rfl
      have hfz14_0 := blk_frozen BK168.out 0
      try go_wp2
      have n0_ := Aside0.mk (Kd.R_drew HO_171000.out)
      have n1_ := Aside0.mk (blk_drew BK168.out)
      have n2_ := Aside0.mk (blk_drew BK169.out)
      have n3_ := Aside0.mk (blk_drew BK170.out)
      have n4_ := Aside0.mk (below_drew1 HB.out)
      clear HO_171000
      clear BK168
      clear BK169
      clear BK170
      clear HB
      have HO_171000 := n0_
      have BK168 := n1_
      have BK169 := n2_
      have BK170 := n3_
      have HB := n4_
      clear n0_ n1_ n2_ n3_ n4_
      have p171 : 0 ≤ (x4_1 : Int) := of_decide_eq_true (by first | (with_reducible assumption) | assumption)
      have q171 : x4_1 < (l0_0.length : Int) := of_decide_eq_true (by first | (with_reducible assumption) | assumption)
      obtain ⟨ad171, A171_1, c171_1, e171, hx171_0, hx171_1, hl171_1, hi171_1⟩ := at_T40 HR0_0.out x4_1 p171 q171
      have hw171_1 := hx171_1
      have hw171_0 := hx171_0
      cases e171
      replace hx171_0 := (HB.out.cell (World.block_lt_of_cell? w _ hx171_0)).trans hx171_0
      replace hx171_1 := (HB.out.cell (World.block_lt_of_cell? w _ hx171_1)).trans hx171_1
      have HR171_1 := Aside0.mk hi171_1
      have HC171_1 := Aside0.mk hl171_1
      clear hi171_1 hl171_1
      replace p171 := eq_true p171
      replace q171 := eq_true q171
      have p172 : 0 ≤ (x4_1 : Int) := of_decide_eq_true (by first | (with_reducible assumption) | assumption)
      have q172 : x4_1 < (l0_0.length : Int) := of_decide_eq_true (by first | (with_reducible assumption) | assumption)
      obtain ⟨ad172, A172_1, c172_1, e172, hx172_0, hx172_1, hl172_1, hi172_1⟩ := at_T40 HR0_0.out x4_1 p172 q172
      have hw172_1 := hx172_1
      have hw172_0 := hx172_0
      obtain rfl : ad171 = ad172 := (by injection e172)
      replace hx172_0 := (HB.out.cell (World.block_lt_of_cell? w _ hx172_0)).trans hx172_0
      replace hx172_1 := (HB.out.cell (World.block_lt_of_cell? w _ hx172_1)).trans hx172_1
      have HR172_1 := Aside0.mk hi172_1
      have HC172_1 := Aside0.mk hl172_1
      clear hi172_1 hl172_1
      replace p172 := eq_true p172
      replace q172 := eq_true q172
      have ea_ := Option.some.inj (hx171_1.symm.trans hx172_1)
      injection ea_ with ea_ en_ ec_
      subst ea_
      subst ec_
      clear en_
      refine start_ (n := 20) (S := fun w' => w'.cell? ⟨gb170, 0, none⟩ = some (u171000) ∧ w'.cell? ⟨gb168, 0, none⟩ = some (.slice (some ad171) l0_0.length c0_0) ∧ w'.cell? (ad171.add ((x4_1).toNat * 2)) = some (.string ((rd_T40 l0_0 x4_1).f0)) ∧ w'.cell? ⟨(ad171.add ((x4_1).toNat * 2)).block, (ad171.add ((x4_1).toNat * 2)).off + 1, none⟩ = some (.slice A171_1 ((rd_T40 l0_0 x4_1).f1).length c171_1) ∧ w'.cell? (ad171.add ((x4_1).toNat * 2)) = some (.string ((rd_T40 l0_0 x4_1).f0)) ∧ w'.cell? ⟨(ad171.add ((x4_1).toNat * 2)).block, (ad171.add ((x4_1).toNat * 2)).off + 1, none⟩ = some (.slice A171_1 ((rd_T40 l0_0 x4_1).f1).length c171_1)) (ds := [19]) #[false, false, false, false, false, false, false, false, false, false, false, false, false, false, false, false, false, false, false, false] (by kernel_rfl) rfl rfl ⟨(blk_cell BK170.out 0).trans rfl, (blk_cell BK168.out 0).trans rfl, ((HB.out.cell (World.block_lt_of_cell? w _ hw171_0)).trans hw171_0), ((HB.out.cell (World.block_lt_of_cell? w _ hw171_1)).trans hw171_1), ((HB.out.cell (World.block_lt_of_cell? w _ hw172_0)).trans hw172_0), ((HB.out.cell (World.block_lt_of_cell? w _ hw172_1)).trans hw172_1)⟩ (fun hHeld => ?_); refine with_tabW spec_l7Copy.tab5 spec_l7Copy.bits5 (fun HT_ HW_ => ?_)
      generalize wr.drew = w15 at HO_171000 BK168 BK169 BK170 HB HR171_1 HR172_1 hx171_0 hx171_1 hx172_0 hx172_1 hHeld ⊢
      refine pure_ (i := 0) (N := some 13) (v := ?_) (a' := ?_) #[true, false, false, false, false, false, false, false, false, false, false, false, false, false, false, false, false, false, false, false] rfl rfl (any_of HT_.out (by kernel_rfl)) (fun _ _ _ h => h) (Or.inl ⟨by rfl, ?_⟩) ?_ ?_
      rotate_left
      ·intro w'
       go_simp
       with_reducible rfl
      rotate_left
      ·simp only [Act.put, List.setIfInBounds_toArray, List.set_cons_zero, List.set_cons_succ, i64_w, i32_w]
       rfl
      refine pure_ (i := 2) (N := some 15) (v := ?_) (a' := ?_) #[true, false, true, false, false, false, false, false, false, false, false, false, false, false, false, false, false, false, false, false] rfl rfl (any_of HT_.out (by kernel_rfl)) (fun _ _ _ h => h) (Or.inl ⟨by rfl, ?_⟩) ?_ ?_
      rotate_left
      ·intro w'
       go_simp
       with_reducible rfl
      rotate_left
      ·simp only [Act.put, List.setIfInBounds_toArray, List.set_cons_zero, List.set_cons_succ, i64_w, i32_w]
       rfl
      refine pure_ (i := 4) (N := some 17) (v := ?_) (a' := ?_) #[true, false, true, false, true, false, false, false, false, false, false, false, false, false, false, false, false, false, false, false] rfl rfl (any_of HT_.out (by kernel_rfl)) (fun _ _ _ h => h) (Or.inl ⟨by rfl, ?_⟩) ?_ ?_
      rotate_left
      ·intro w'
       go_simp
       with_reducible rfl
      rotate_left
      ·simp only [Act.put, List.setIfInBounds_toArray, List.set_cons_zero, List.set_cons_succ, i64_w, i32_w]
       rfl
      refine pure_ (i := 8) (N := some 21) (v := ?_) (a' := ?_) #[true, false, true, false, true, false, false, false, true, false, false, false, false, false, false, false, false, false, false, false] rfl rfl (any_of HT_.out (by kernel_rfl)) (fun _ _ _ h => h) (Or.inl ⟨by rfl, ?_⟩) ?_ ?_
      rotate_left
      ·intro w'
       go_simp
       with_reducible rfl
      rotate_left
      ·simp only [Act.put, List.setIfInBounds_toArray, List.set_cons_zero, List.set_cons_succ, i64_w, i32_w]
       rfl
      refine pure_ (i := 10) (N := some 23) (v := ?_) (a' := ?_) #[true, false, true, false, true, false, false, false, true, false, true, false, false, false, false, false, false, false, false, false] rfl rfl (any_of HT_.out (by kernel_rfl)) (fun _ _ _ h => h) (Or.inl ⟨by rfl, ?_⟩) ?_ ?_
      rotate_left
      ·intro w'
       go_simp
       with_reducible rfl
      rotate_left
      ·simp only [Act.put, List.setIfInBounds_toArray, List.set_cons_zero, List.set_cons_succ, i64_w, i32_w]
       rfl
      refine take_ (i := 1) (N := some 14) (v := ?_) (a' := ?_) #[true, true, true, false, true, false, false, false, true, false, true, false, false, false, false, false, false, false, false, false] rfl rfl (take_ofW HT_.out HW_.out (by kernel_rfl)) (fun _ _ _ h => h) (Or.inl ⟨by rfl, ?_⟩) hHeld ?_ ?_
      rotate_left
      ·rintro w' ⟨s0, s1, s2, s3, s4, s5⟩
       go_simp
       with_reducible rfl
      rotate_left
      ·simp only [Act.put, List.setIfInBounds_toArray, List.set_cons_zero, List.set_cons_succ, i64_w, i32_w]
       rfl
      refine take_ (i := 3) (N := some 16) (v := ?_) (a' := ?_) #[true, true, true, true, true, false, false, false, true, false, true, false, false, false, false, false, false, false, false, false] rfl rfl (take_ofW HT_.out HW_.out (by kernel_rfl)) (fun _ _ _ h => h) (Or.inl ⟨by rfl, ?_⟩) hHeld ?_ ?_
      rotate_left
      ·rintro w' ⟨s0, s1, s2, s3, s4, s5⟩
       go_simp
       with_reducible rfl
      rotate_left
      ·simp only [Act.put, List.setIfInBounds_toArray, List.set_cons_zero, List.set_cons_succ, i64_w, i32_w]
       rfl
      refine pure_ (i := 5) (N := some 18) (v := ?_) (a' := ?_) #[true, true, true, true, true, true, false, false, true, false, true, false, false, false, false, false, false, false, false, false] rfl rfl (any_of HT_.out (by kernel_rfl)) (fun _ _ _ h => h) (Or.inl ⟨by rfl, ?_⟩) ?_ ?_
      rotate_left
      ·intro w'
       go_simp
       with_reducible rfl
      rotate_left
      ·simp only [Act.put, List.setIfInBounds_toArray, List.set_cons_zero, List.set_cons_succ, i64_w, i32_w]
       rfl
      refine pure_ (i := 6) (N := some 19) (v := ?_) (a' := ?_) #[true, true, true, true, true, true, true, false, true, false, true, false, false, false, false, false, false, false, false, false] rfl rfl (any_of HT_.out (by kernel_rfl)) (fun _ _ _ h => h) (Or.inl ⟨by rfl, ?_⟩) ?_ ?_
      rotate_left
      ·intro w'
       go_simp
       with_reducible rfl
      rotate_left
      ·simp only [Act.put, List.setIfInBounds_toArray, List.set_cons_zero, List.set_cons_succ, i64_w, i32_w]
       rfl
      refine take_ (i := 7) (N := some 20) (v := ?_) (a' := ?_) #[true, true, true, true, true, true, true, true, true, false, true, false, false, false, false, false, false, false, false, false] rfl rfl (take_ofW HT_.out HW_.out (by kernel_rfl)) (fun _ _ _ h => h) (Or.inl ⟨by rfl, ?_⟩) hHeld ?_ ?_
      rotate_left
      ·rintro w' ⟨s0, s1, s2, s3, s4, s5⟩
       go_simp
       with_reducible rfl
      rotate_left
      ·simp only [Act.put, List.setIfInBounds_toArray, List.set_cons_zero, List.set_cons_succ, i64_w, i32_w]
       rfl
      refine take_ (i := 9) (N := some 22) (v := ?_) (a' := ?_) #[true, true, true, true, true, true, true, true, true, true, true, false, false, false, false, false, false, false, false, false] rfl rfl (take_ofW HT_.out HW_.out (by kernel_rfl)) (fun _ _ _ h => h) (Or.inl ⟨by rfl, ?_⟩) hHeld ?_ ?_
      rotate_left
      ·rintro w' ⟨s0, s1, s2, s3, s4, s5⟩
       go_simp
       with_reducible rfl
      rotate_left
      ·simp only [Act.put, List.setIfInBounds_toArray, List.set_cons_zero, List.set_cons_succ, i64_w, i32_w]
       rfl
      refine pure_ (i := 11) (N := some 24) (v := ?_) (a' := ?_) #[true, true, true, true, true, true, true, true, true, true, true, true, false, false, false, false, false, false, false, false] rfl rfl (any_of HT_.out (by kernel_rfl)) (fun _ _ _ h => h) (Or.inl ⟨by rfl, ?_⟩) ?_ ?_
      rotate_left
      ·intro w'
       go_simp
       with_reducible rfl
      rotate_left
      ·simp only [Act.put, List.setIfInBounds_toArray, List.set_cons_zero, List.set_cons_succ, i64_w, i32_w]
       rfl
      refine pure_ (i := 12) (N := some 25) (v := ?_) (a' := ?_) #[true, true, true, true, true, true, true, true, true, true, true, true, true, false, false, false, false, false, false, false] rfl rfl (any_of HT_.out (by kernel_rfl)) (fun _ _ _ h => h) (Or.inl ⟨by rfl, ?_⟩) ?_ ?_
      rotate_left
      ·intro w'
       go_simp
       with_reducible rfl
      rotate_left
      ·simp only [Act.put, List.setIfInBounds_toArray, List.set_cons_zero, List.set_cons_succ, i64_w, i32_w]
       rfl
      refine take_ (i := 13) (N := some 26) (v := ?_) (a' := ?_) #[true, true, true, true, true, true, true, true, true, true, true, true, true, true, false, false, false, false, false, false] rfl rfl (take_ofW HT_.out HW_.out (by kernel_rfl)) (fun _ _ _ h => h) (Or.inl ⟨by rfl, ?_⟩) hHeld ?_ ?_
      rotate_left
      ·rintro w' ⟨s0, s1, s2, s3, s4, s5⟩
       go_simp
       with_reducible rfl
      rotate_left
      ·simp only [Act.put, List.setIfInBounds_toArray, List.set_cons_zero, List.set_cons_succ, i64_w, i32_w]
       rfl
      refine one_ (i := 14) (N := some 27) #[true, true, true, true, true, true, true, true, true, true, true, true, true, true, true, false, false, false, false, false] rfl rfl (one_of HT_.out (by kernel_rfl)) (by decide) (fun K hK => ?_)
      refine goes_ Try.func18 (by kernel_rfl) rfl #[.slice A171_1 ((rd_T40 l0_0 x4_1).f1).length c171_1] (by rfl) rfl rfl (by (try simp only [List.map_toArray, List.map_cons, List.map_nil]); first | done | rfl | (simp only [List.length_drop, List.length_take]; rfl)) ?_
      with_reducible refine (spec_l7CopyRuns.calls k1 _ _ ((rd_T40 l0_0 x4_1).f1) t173 _ ?side1 ?side2 A10.out).mono ?_
      (case side1 => repeat (first | exact (Kd.C_below HR172_1.out HB.out) | (with_reducible refine Kd.C_alloc ?_ _) | (with_reducible refine Kd.C_drewN ?_ _) | (with_reducible refine Kd.C_drew ?_)))
      (case side2 => exact HC172_1.out)
      rintro e w16 ⟨v174, rfl, ho0, hb⟩
      refine ⟨_, rfl, ?_⟩
      have n0_ := Aside0.mk (Kd.R_elder' (lf HO_171000) (Kd.S_base ho0) hb)
      have n1_ := Aside0.mk (Kd.S_lower ho0 (below_size bw))
      have n2_ := Aside0.mk (blk_below (g := gb168) (o := .cells #[.slice (some ad171) l0_0.length c0_0] 28 (0, 0)) (lb BK168) hb)
      have n3_ := Aside0.mk (blk_below (g := gb169) (o := .cells #[.slice none 0 0] 28 (0, 0)) (lb BK169) hb)
      have n4_ := Aside0.mk (blk_below (g := gb170) (o := .cells #[u171000] 28 (0, 0)) (lb BK170) hb)
      have n5_ := Aside0.mk (below_step bw hb)
      clear HO_171000
      clear BK168
      clear BK169
      clear BK170
      clear HB
      have HO_171000 := n0_
      have HO175 := n1_
      have BK168 := n2_
      have BK169 := n3_
      have BK170 := n4_
      have HB := n5_
      clear n0_ n1_ n2_ n3_ n4_ n5_
      (try clear hb)
      (try clear hb2)
      (try clear hk)
      (try clear hi)
      (try clear ho0)
      obtain ⟨Ao17, co17, eo17⟩ := Kd.S_slice HO175.out
      (first | subst eo17 | (injection eo17 with f1_ f2_ f3_; have f4_ := f1_.symm; have f5_ := f3_.symm; clear f1_ f2_ f3_; subst f4_; subst f5_))
      refine hK.out _ _ ⟨(blk_cell BK170.out 0).trans rfl, (blk_cell BK168.out 0).trans rfl, ((HB.out.cell (World.block_lt_of_cell? w _ hw171_0)).trans hw171_0), ((HB.out.cell (World.block_lt_of_cell? w _ hw171_1)).trans hw171_1), ((HB.out.cell (World.block_lt_of_cell? w _ hw172_0)).trans hw172_0), ((HB.out.cell (World.block_lt_of_cell? w _ hw172_1)).trans hw172_1)⟩ (fun hHeld => ?_)
      clear hK K
      refine norm_ (a' := ?_) ?_ ?_
      rotate_left
      ·show Act.put _ (some 27) _ = _
       simp only [Act.put, List.setIfInBounds_toArray, List.set_cons_zero, List.set_cons_succ, i64_w, i32_w]
       rfl
      refine pure_ (i := 15) (N := some 28) (v := ?_) (a' := ?_) #[true, true, true, true, true, true, true, true, true, true, true, true, true, true, true, true, false, false, false, false] rfl rfl (any_of HT_.out (by kernel_rfl)) (fun _ _ _ h => h) (Or.inl ⟨by rfl, ?_⟩) ?_ ?_
      rotate_left
      ·intro w'
       go_simp
       with_reducible rfl
      rotate_left
      ·simp only [Act.put, List.setIfInBounds_toArray, List.set_cons_zero, List.set_cons_succ, i64_w, i32_w]
       rfl
      refine one_ (i := 16) (N := some 29) #[true, true, true, true, true, true, true, true, true, true, true, true, true, true, true, true, true, false, false, false] rfl rfl (one_of HT_.out (by kernel_rfl)) (by decide) (fun K hK => ?_)
      refine value_ (w1 := ?_) (v := ?_) (by rfl) rfl ?_ ?_
      rotate_left 2
      ·go_simp
       constructor
       ·rfl
       ·rfl
      refine hK.out _ _ ⟨(blk_cell (blk_alloc BK170.out _) 0).trans rfl, (blk_cell (blk_alloc BK168.out _) 0).trans rfl, (World.cell?_alloc_lt _ _ _ (World.block_lt_of_cell? _ _ (((HB.out.cell (World.block_lt_of_cell? w _ hw171_0)).trans hw171_0)))).trans (((HB.out.cell (World.block_lt_of_cell? w _ hw171_0)).trans hw171_0)), (World.cell?_alloc_lt _ _ _ (World.block_lt_of_cell? _ _ (((HB.out.cell (World.block_lt_of_cell? w _ hw171_1)).trans hw171_1)))).trans (((HB.out.cell (World.block_lt_of_cell? w _ hw171_1)).trans hw171_1)), (World.cell?_alloc_lt _ _ _ (World.block_lt_of_cell? _ _ (((HB.out.cell (World.block_lt_of_cell? w _ hw172_0)).trans hw172_0)))).trans (((HB.out.cell (World.block_lt_of_cell? w _ hw172_0)).trans hw172_0)), (World.cell?_alloc_lt _ _ _ (World.block_lt_of_cell? _ _ (((HB.out.cell (World.block_lt_of_cell? w _ hw172_1)).trans hw172_1)))).trans (((HB.out.cell (World.block_lt_of_cell? w _ hw172_1)).trans hw172_1))⟩ (fun hHeld => ?_)
      clear hK K
      refine norm_ (a' := ?_) ?_ ?_
      rotate_left
      ·show Act.put _ (some 29) _ = _
       simp only [Act.put, List.setIfInBounds_toArray, List.set_cons_zero, List.set_cons_succ, i64_w, i32_w]
       rfl
      refine one_ (i := 17) (N := some 30) #[true, true, true, true, true, true, true, true, true, true, true, true, true, true, true, true, true, true, false, false] rfl rfl (one_of HT_.out (by kernel_rfl)) (by decide) (fun K hK => ?_)
      refine Kd.R_append_step k40 (w0 := w) w.heap.size (by rfl) (.tmp 14) (.tmp 29) 26 40 (.agg #[(.string ⟨#[]⟩), (.slice none 0 0)]) 40 rfl Try.underlying26 info40 rfl (by decide) (by omega) u171000 x171000_1 (⟨(rd_T40 l0_0 x4_1).f0, t173⟩ : S40) [.string ((rd_T40 l0_0 x4_1).f0), .slice Ao17 t173.length co17] (fun _ => True) (fun k_ => ((fun _ => True)) k_ ∧ some k_ ≠ (u171000 : Value).ownBlock) rfl rfl ?aP (fun _ hk => hk) ?aF ?aO ?aB ?aS ?aL ?_
      (case aP => exact k40_mkM _ _ _ (⟨(rd_T40 l0_0 x4_1).f0, t173⟩ : S40) (Kd.R_mono (Kd.R_apart' ((Kd.S_R HO175.out)) (Kd.R_typed HO_171000.out) (by decide)) (fun k_ hk => ⟨trivial, hk.2⟩)))
      (case aB => exact bw)
      (case aF => exact (fun _ _ => trivial))
      (case aO => exact (by (with_reducible repeat (first | apply Kd.R_alloc | apply Kd.R_drewN | apply Kd.R_drew)); exact Kd.R_mono HO_171000.out (fun _ hk => trivial)))
      (case aS => exact (below_size bw))
      (case aL => have := LMc11.out; omega)
      intro v177 w18 ho hb hg hat
      rw [← Ny176.out] at ho
      have n0_ := Aside0.mk (blk_grown (g := gb168) (o := .cells #[.slice (some ad171) l0_0.length c0_0] 28 (0, 0)) (lb BK168) hg (Kd.R_ne HO_171000.out BK168.out (by decide)))
      have n1_ := Aside0.mk (blk_grown (g := gb169) (o := .cells #[.slice none 0 0] 28 (0, 0)) (lb BK169) hg (Kd.R_ne HO_171000.out BK169.out (by decide)))
      have n2_ := Aside0.mk (blk_grown (g := gb170) (o := .cells #[u171000] 28 (0, 0)) (lb BK170) hg (Kd.R_ne HO_171000.out BK170.out (by decide)))
      have n3_ := Aside0.mk (hb)
      have n4_ := Aside0.mk (ho)
      clear BK168
      clear BK169
      clear BK170
      clear HB
      clear HO_171000
      clear HO175
      have BK168 := n0_
      have BK169 := n1_
      have BK170 := n2_
      have HB := n3_
      have HO178 := n4_
      clear n0_ n1_ n2_ n3_ n4_
      clear ho hb hg hat
      obtain ⟨Ao19, co19, eo19⟩ := Kd.R_slice HO178.out
      (first | subst eo19 | (injection eo19 with f1_ f2_ f3_; have f4_ := f1_.symm; have f5_ := f3_.symm; clear f1_ f2_ f3_; subst f4_; subst f5_))
      refine hK.out _ _ ⟨(blk_cell BK170.out 0).trans rfl, (blk_cell BK168.out 0).trans rfl, ((HB.out.cell (World.block_lt_of_cell? w _ hw171_0)).trans hw171_0), ((HB.out.cell (World.block_lt_of_cell? w _ hw171_1)).trans hw171_1), ((HB.out.cell (World.block_lt_of_cell? w _ hw172_0)).trans hw172_0), ((HB.out.cell (World.block_lt_of_cell? w _ hw172_1)).trans hw172_1)⟩ (fun hHeld => ?_)
      clear hK K
      refine norm_ (a' := ?_) ?_ ?_
      rotate_left
      ·show Act.put _ (some 30) _ = _
       simp only [Act.put, List.setIfInBounds_toArray, List.set_cons_zero, List.set_cons_succ, i64_w, i32_w]
       rfl
      refine pure_ (i := 18) (N := some 31) (v := ?_) (a' := ?_) #[true, true, true, true, true, true, true, true, true, true, true, true, true, true, true, true, true, true, true, false] rfl rfl (any_of HT_.out (by kernel_rfl)) (fun _ _ _ h => h) (Or.inl ⟨by rfl, ?_⟩) ?_ ?_
      rotate_left
      ·intro w'
       go_simp
       with_reducible rfl
      rotate_left
      ·simp only [Act.put, List.setIfInBounds_toArray, List.set_cons_zero, List.set_cons_succ, i64_w, i32_w]
       rfl
      refine last_ (i := 19) (N := none) #[true, true, true, true, true, true, true, true, true, true, true, true, true, true, true, true, true, true, true, true] rfl rfl (one_of HT_.out (by kernel_rfl)) (by decide) (fun K hK => ?_)
      have hs20 : w18.cell? ⟨gb170, 0, none⟩ = some (u171000) := (blk_cell BK170.out 0).trans rfl
      have hfs20 := blk_frozen BK170.out 0
      have hns20_0 := NB168_170.out
      have hns20_1 := NB169_170.out
      have hms20_0 := NB170_168.out
      have hms20_1 := NB170_169.out
      refine skip_ (w1 := ?_) (by rfl) rfl ?_ ?_
      rotate_left
      ·go_simp
       rfl
      refine hK.out _ _ ?_
      clear hK K
      refine done_ (done_of HT_.out (by kernel_rfl)) ?_
      try go_wp2
      go_roundg k1
      case measure => have := HK1.out; omega
      case rel => exact ⟨(wrap64 (x4_1 + 1)), (y176), (.slice Ao19 y176.length co19), (by first | rfl | (simp; done) | (simp [*]; done)), H', ⟨by have := HK1.out; omega⟩, ⟨by (with_reducible repeat (first | apply Kd.R_alloc | apply Kd.R_drewN | apply Kd.R_drew)); exact Kd.R_mono (Kd.R_far (p := ⟨gb170, 0, none⟩) (Kd.R_types HO178.out BK170.out (by decide)) (fun _ hk => hk.2) (.slice Ao19 y176.length co19)) (fun _ hk => trivial)⟩, ⟨by (with_reducible repeat (first | refine blk_drewN ?_ _ | refine blk_drew ?_ | refine blk_alloc ?_ _)); refine blk_far ?_ NB168_170.out _; (with_reducible repeat (first | refine blk_drewN ?_ _ | refine blk_drew ?_ | refine blk_alloc ?_ _)); exact BK168.out⟩, ⟨by (with_reducible repeat (first | refine blk_drewN ?_ _ | refine blk_drew ?_ | refine blk_alloc ?_ _)); refine blk_far ?_ NB169_170.out _; (with_reducible repeat (first | refine blk_drewN ?_ _ | refine blk_drew ?_ | refine blk_alloc ?_ _)); exact BK169.out⟩, ⟨by (with_reducible repeat (first | refine blk_drewN ?_ _ | refine blk_drew ?_ | refine blk_alloc ?_ _)); refine blk_put (cs := #[u171000]) ?_ 0 _ rfl; (with_reducible repeat (first | refine blk_drewN ?_ _ | refine blk_drew ?_ | refine blk_alloc ?_ _)); exact BK170.out⟩, ⟨bw⟩⟩
     ·rw [if_neg c11] at H
      exact absurd H (by simp)
    ·rw [if_neg c9] at H
     exact absurd H (by simp)
   ·rw [if_neg c8] at H
    have c8b0 : decide (x4_1 < (l0_0.length : Int)) = false := decide_eq_false c8
    clear c8
    obtain rfl := Option.some.inj H
    have hnb21 := NB168_169.out
    have hnc21 := NB169_168.out
    have hnb22 := NB168_170.out
    have hnc22 := NB170_168.out
    have hcz23_0 : wr.cell? ⟨gb168, 0, none⟩ = some (.slice A0_0 l0_0.length c0_0) := (blk_cell BK168.out 0).trans rfl
    have hfz23_0 := blk_frozen BK168.out 0
    have hnb24 := NB170_169.out
    have hnc24 := NB169_170.out
    have hcz25_0 : wr.cell? ⟨gb170, 0, none⟩ = some (u171000) := (blk_cell BK170.out 0).trans rfl
    have hfz25_0 := blk_frozen BK170.out 0
    obtain ⟨Ao26, co26, eo26⟩ := Kd.R_slice HO_171000.out
    subst eo26
    have hcz27_0 : wr.cell? ⟨gb169, 0, none⟩ = some (.slice none 0 0) := (blk_cell BK169.out 0).trans rfl
    have hfz27_0 := blk_frozen BK169.out 0
    go_wp2
    refine bodyPost_ret (results_cell_row rfl _ _ gb169 28 #[.slice Ao26 x171000_1.length co26] (0, 0) _ rfl (by (with_reducible repeat (first | refine blk_drewN ?_ _ | refine blk_drew ?_ | refine blk_alloc ?_ _)); refine blk_put (cs := #[.slice none 0 0]) ?_ 0 _ rfl; (with_reducible repeat (first | refine blk_drewN ?_ _ | refine blk_drew ?_ | refine blk_alloc ?_ _)); exact BK169.out) Try.underlying28 rfl (by kernel_rfl)) rfl ?_
    exact ⟨_, by first | rfl | (simp [errW_none, errW_some] <;> rfl) | (simp [*, errW_none, errW_some] <;> rfl), by (with_reducible repeat (first | apply Kd.R_alloc | apply Kd.R_drewN | apply Kd.R_drew)); exact Kd.R_mono (Kd.R_far (p := ⟨gb169, 0, none⟩) (Kd.R_types HO_171000.out BK169.out (by decide)) (fun _ hk => hk.2) (.slice Ao26 x171000_1.length co26)) (fun _ hk => trivial), bw⟩

end Go.Proofs.Ytjlggfdmfchncaa.Q

namespace Go.Proofs.Ytjlggfdmfchncaa.Q
open Go.RowKit Go.Proofs.YtjlggfdmfchncaaW.PrintWords Go.Proofs.YtjlggfdmfchncaaW.PrintLast Go.Proofs.YtjlggfdmfchncaaW.PrintMore
set_option linter.unusedVariables false
set_option linter.unusedSimpArgs false
theorem copyRuns_loop (rs : List IR) (hl : rs.length ≤ 1048576) (hq : ∀ q ∈ rs, q.f0.length ≤ 1048576) : ∀ (rest pre : List IR), rs = pre ++ rest → Ev (fun k => spec_l7CopyRuns.l0 k rs pre (pre.length : Int)) rs := by
  intro rest
  induction rest with
  | nil => intro pre e; exact Ev.shift 1 fun k => by simp only [spec_l7CopyRuns.l0]; rw [if_neg (by rw [e]; simp), e]; simp
  | cons x rest ih =>
    intro pre e
    have hlt : pre.length < rs.length := by rw [e]; exact len_cut _ _ _
    have hd : rd_T60 rs (pre.length : Int) = x := by unfold rd_T60; rw [Int.toNat_natCast, e, getD_cut]
    have h := ih (pre ++ [x]) (by simp [e])
    rw [List.length_append, List.length_singleton] at h
    refine Ev.round (fun k => ?_) h
    simp only [spec_l7CopyRuns.l0]
    have hx := hq x (by rw [e]; simp)
    rw [if_pos (by omega), hd]
    simp only [Option.bind_some, List.nil_append, List.length_nil]
    rw [if_pos (by omega), if_pos (by omega), if_pos (by omega), wrap_nat _ (by omega)]
theorem copyRuns_is (rs : List IR) (hl : rs.length ≤ 1048576) (hq : ∀ q ∈ rs, q.f0.length ≤ 1048576) : Ev (fun k => spec_l7CopyRuns.f k rs) rs := copyRuns_loop rs hl hq rs [] rfl
theorem copy_loop (ts : List IT) (hs : SmS ts) : ∀ (rest pre : List IT), ts = pre ++ rest → Ev (fun k => spec_l7Copy.l0 k (pre.length : Int) ts pre) ts := by
  intro rest
  induction rest with
  | nil => intro pre e; exact Ev.shift 1 fun k => by simp only [spec_l7Copy.l0]; rw [if_neg (by rw [e]; simp), e]; simp
  | cons x rest ih =>
    intro pre e
    have hlt : pre.length < ts.length := by rw [e]; exact len_cut _ _ _
    have hd : rd_T40 ts (pre.length : Int) = x := by unfold rd_T40; rw [Int.toNat_natCast, e, getD_cut]
    have h := ih (pre ++ [x]) (by simp [e])
    rw [List.length_append, List.length_singleton] at h
    have hx := hs.2 x (by rw [e]; simp)
    have hl := hs.1
    refine Ev.round (f := fun k => (spec_l7CopyRuns.f k x.f1).bind fun t => spec_l7Copy.l0 k ((pre.length + 1 : Nat) : Int) ts (pre ++ [(⟨x.f0, t⟩ : IT)])) (fun k => ?_) (Ev.bind (copyRuns_is x.f1 hx.1 hx.2) h)
    simp only [spec_l7Copy.l0]
    rw [if_pos (by omega), if_pos (by omega), hd]
    simp only [show pre.length < 3518437208883 by omega, if_true]
    rw [wrap_nat _ (by omega)]
theorem copy_is (ts : List IT) (hs : SmS ts) : Ev (fun k => spec_l7Copy.f k ts) ts := copy_loop ts hs ts [] rfl
theorem lcopyRuns_call (A : Option Addr) (c : Nat) (rs : List IR) (w : World) (hr : Kd.C k60 w A rs.length rs) (hc : rs.length ≤ c) (hl : rs.length ≤ 1048576) (hq : ∀ q ∈ rs, q.f0.length ≤ 1048576) :
    Calls Try.prog 18 #[.slice A rs.length c] w fun e w' => ∃ v, e = .returned v ∧ Kd.S k60 60 w' w.heap.size (fun _ => True) v rs ∧ Below w.heap.size w w' := by
  obtain ⟨K, hK⟩ := copyRuns_is rs hl hq
  exact spec_l7CopyRuns.calls K A c rs _ w hr hc (hK K (Nat.le_refl _))
theorem lcopy_call (A : Option Addr) (c : Nat) (ts : List IT) (w : World) (hr : Kd.C k40 w A ts.length ts) (hc : ts.length ≤ c) (hs : SmS ts) :
    Calls Try.prog 16 #[.agg #[.slice A ts.length c]] w fun e w' => ∃ v, e = .returned (.agg #[v]) ∧ Kd.R k40 40 w' w.heap.size (fun _ => True) v ts ∧ Below w.heap.size w w' := by
  obtain ⟨K, hK⟩ := copy_is ts hs
  exact spec_l7Copy.calls K A c ts _ w hr hc (hK K (Nat.le_refl _))
/-! rows as cells -/
section
variable {α : Type} {d : Kd α} {e base n cap g : Nat} {W w : World} {ok : Nat → Prop} {v : Value} {xs : List α} {rows : List (List Value)} {A : Option Addr}
theorem raw_of_R (h : Kd.R d e W base ok v xs) : ∃ rows : List (List Value), rows.length = xs.length ∧ (Kd.raw d.sz).R e W base (fun _ => True) v rows ∧ ∀ (m : Nat) (x : α), xs[m]? = some x → ∃ cm, rows[m]? = some cm ∧ d.M W base (fun k => ok k ∧ some k ≠ v.ownBlock) x cm := by
  obtain ⟨hok0, inner, ho, hr⟩ := h
  have hp : ∀ m x, xs[m]? = some x → d.M W base (fun k => ok k ∧ some k ≠ v.ownBlock) x ((inner.drop (m * d.sz)).take d.sz) := fun m x hx => hr.2 m x hx
  refine ⟨(List.range xs.length).map fun j => (inner.drop (j * d.sz)).take d.sz, by rw [List.length_map, List.length_range], ⟨fun _ _ => trivial, inner, ?_, ?_, fun j p hj => ?_⟩, fun m x hx => ?_⟩
  · rw [List.length_map, List.length_range]; exact ho
  · rw [List.length_map, List.length_range]; exact hr.1
  · rw [List.getElem?_map] at hj
    obtain ⟨j', hj', rfl⟩ := Option.map_eq_some_iff.1 hj
    obtain ⟨hl, he⟩ := List.getElem?_eq_some_iff.1 hj'
    rw [List.getElem_range] at he
    subst he
    rw [List.length_range] at hl
    have hm := d.K_of_M (hp j _ (List.getElem?_eq_getElem hl))
    exact ⟨rfl, d.K_len hm, d.K_one hm⟩
  · have hm : m < xs.length := (List.getElem?_eq_some_iff.1 hx).1
    exact ⟨_, by rw [List.getElem?_map, List.getElem?_eq_getElem (by rw [List.length_range]; exact hm), List.getElem_range]; rfl, hp m x hx⟩
theorem C_of_raw (h : (Kd.raw d.sz).C w A rows.length rows) (hl : rows.length = xs.length) (hK : ∀ (m : Nat) (x : α), xs[m]? = some x → ∃ cm, rows[m]? = some cm ∧ d.K w x cm) : Kd.C d w A xs.length xs := by
  refine ⟨rfl, by have := h.2.1; rw [hl] at this; exact this, fun h0 => ?_⟩
  obtain ⟨ad, rfl, hc⟩ := h.2.2 (by rw [hl]; exact h0)
  refine ⟨ad, rfl, fun j p hj => ?_⟩
  obtain ⟨cm, h1, h2⟩ := hK j p hj
  obtain ⟨c, h3, h4, h5⟩ := hc j cm h1
  have : c = cm := h4.1
  subst this
  exact ⟨c, h3, h2, h5⟩
end
theorem kb_cell {Wc W : World} {g : Nat} {a : Addr} {v : Value} (h : KeepBut Wc W g none) (hc : Wc.cell? a = some v) (ha : a.block ≠ g) : W.cell? a = some v :=
  (World.cell?_of_block (h.2 _ (World.block_lt_of_cell? Wc a hc) ha (by simp))).trans hc
end Go.Proofs.Ytjlggfdmfchncaa.Q

namespace Go.Proofs.Ytjlggfdmfchncaa.Q
open Go.RowKit Go.Proofs.YtjlggfdmfchncaaW.PrintWords Go.Proofs.YtjlggfdmfchncaaW.PrintLast Go.Proofs.YtjlggfdmfchncaaW.PrintMore
set_option linter.unusedVariables false
set_option linter.unusedSimpArgs false
instance kbI0 {w W : World} {g : Nat} [h : K0 (KeepBut w W g none)] : K0 (KeepBut w W.drew g none) := ⟨⟨h.out.1, h.out.2⟩⟩
instance kbI1 {w W : World} {g m : Nat} [h : K0 (KeepBut w W g none)] : K0 (KeepBut w (W.drewN m) g none) := ⟨h.out.trans (KeepBut.of_below (pw_below_drewN (Below.refl _ _) m) g none) (.inl rfl)⟩
instance kbI2 {w W : World} {g : Nat} {o : Obj} [h : K0 (KeepBut w W g none)] : K0 (KeepBut w (W.alloc o) g none) := ⟨h.out.trans (KeepBut.of_below (Below.alloc (Below.refl _ _) (Nat.le_refl _) o) g none) (.inl rfl)⟩
theorem cell_drew {W : World} {g : Nat} {t : TypeId} {cs : Array Value} (h : W.heap[g]? = some (.cells cs t (0, 0))) (i : Nat) : W.drew.cell? ⟨g, i, none⟩ = cs[i]? := blk_cell (w := W.drew) h i
/-- Each element by its cells. -/
def PwR (K : S40 → List Value → Prop) (xs : List S40) (rows : List (List Value)) : Prop := rows.length = xs.length ∧ ∀ (m : Nat) (x : S40), xs[m]? = some x → ∃ cm, rows[m]? = some cm ∧ K x cm
theorem PwR.app {K : S40 → List Value → Prop} {xs ys : List S40} {rs qs : List (List Value)} (h : PwR K xs rs) (h' : PwR K ys qs) : PwR K (xs ++ ys) (rs ++ qs) := by
  refine ⟨by rw [List.length_append, List.length_append, h.1, h'.1], fun m x hx => ?_⟩
  rcases Nat.lt_or_ge m xs.length with hl | hl
  · rw [List.getElem?_append_left hl] at hx
    rw [List.getElem?_append_left (by rw [h.1]; exact hl)]
    exact h.2 m x hx
  · rw [List.getElem?_append_right hl] at hx
    rw [List.getElem?_append_right (by rw [h.1]; exact hl), h.1]
    exact h'.2 _ x hx
theorem PwR.take {K : S40 → List Value → Prop} {xs : List S40} {rs : List (List Value)} (h : PwR K xs rs) (a : Nat) : PwR K (xs.take a) (rs.take a) := by
  refine ⟨by rw [List.length_take, List.length_take, h.1], fun m x hx => ?_⟩
  rw [List.getElem?_take] at hx ⊢
  split at hx
  · rename_i hl; rw [if_pos hl]; exact h.2 m x hx
  · cases hx
theorem PwR.drop {K : S40 → List Value → Prop} {xs : List S40} {rs : List (List Value)} (h : PwR K xs rs) (b : Nat) : PwR K (xs.drop b) (rs.drop b) := by
  refine ⟨by rw [List.length_drop, List.length_drop, h.1], fun m x hx => ?_⟩
  rw [List.getElem?_drop] at hx ⊢
  exact h.2 _ x hx
/-- The out's row under way: its box g9, its cells. -/
def StP (W : World) (B g9 o : Nat) (v : Value) (rows : List (List Value)) : Prop := W.heap[g9]? = some (.cells #[v] 28 (0, 0)) ∧ (Kd.raw 2).R 40 W B (fun k => B ≤ k) v rows ∧ B ≤ W.heap.size
set_option maxHeartbeats 8000000 in
set_option maxRecDepth 100000 in
theorem replace_call (A : Option Addr) (c : Nat) (ts : List IT) (a b : Nat) (A3 : Option Addr) (c3 : Nat) (more : List IT) (w : World) (hr : Kd.C k40 w A ts.length ts) (hc : ts.length ≤ c) (hs : SmS ts) (hab : a ≤ b) (hbn : b ≤ ts.length) (z : Nat) (hz : z < w.heap.size) (rm : List (List Value)) (hm : (Kd.raw 2).C w A3 more.length rm ∧ ∀ W, KeepBut w W z none → PwR (k40.K W) more rm) (hml : more.length ≤ 1048576) :
    Calls Try.prog 19 #[.agg #[.slice A ts.length c], .int .i64 a, .int .i64 b, .slice A3 more.length c3] w fun e w' => ∃ B cb, e = .returned (.agg #[.slice B (ts.take a ++ more ++ ts.drop b).length cb]) ∧ (ts.take a ++ more ++ ts.drop b).length ≤ cb ∧ (∀ W, KeepBut w' W z none → Kd.C k40 W B (ts.take a ++ more ++ ts.drop b).length (ts.take a ++ more ++ ts.drop b)) ∧ Below w.heap.size w w' := by
  have kr : K0 (Below w.heap.size w w) := ⟨Below.refl _ _⟩
  obtain ⟨wb, hwb⟩ : ∃ wb, wb = ((w.alloc (.cells #[.slice A ts.length c] 28)).alloc (.cells #[.slice none 0 0] 28)).alloc (.cells #[.slice none 0 0] 28) := ⟨_, rfl⟩
  have hb0 : Below w.heap.size w wb := hwb ▸ kk
  have h1 : wb.heap[w.heap.size]? = some (.cells #[.slice A ts.length c] 28 (0, 0)) := hwb ▸ blk_alloc (blk_alloc (heap_alloc_new w _) _) _
  have h2 : wb.heap[w.heap.size + 1]? = some (.cells #[.slice none 0 0] 28 (0, 0)) := hwb ▸ old1 w _ _ _
  have h3 : wb.heap[w.heap.size + 1 + 1]? = some (.cells #[.slice none 0 0] 28 (0, 0)) := hwb ▸ new2 w _ _ _
  have y0 := clk ((blk_cell h1 0).trans rfl : wb.cell? ⟨w.heap.size, 0, none⟩ = some (.slice A ts.length c))
  obtain ⟨o, ho⟩ : ∃ o, o = w.heap.size + 1 := ⟨_, rfl⟩
  obtain ⟨g9, hg9⟩ : ∃ g, g = w.heap.size + 1 + 1 := ⟨_, rfl⟩
  have H0 := Aside0.mk (And.intro hb0 (And.intro (Kd.C_below hr hb0) (And.intro hc (And.intro hs (And.intro (show w.heap.size ≤ o ∧ o ≠ g9 ∧ w.heap.size ≤ g9 by omega) (And.intro (ho ▸ h2) (And.intro (hg9 ▸ h3) (And.intro hm (And.intro hml (And.intro hab (And.intro hbn hz)))))))))))
  have kb : K0 (Below wb.heap.size wb wb) := ⟨Below.refl _ _⟩
  clear hr hc hs hb0 h1 h2 h3 hm hml hab hbn hz
  go_enter Try.func19, Try.ntmps19
  go_upto_region 2 with (fail)
  rw [← hwb, ← hg9, ← ho]
  clear hwb ho hg9
  go_wp2_with fail
  refine (lcopy_call A c ts wb H0.out.2.1 H0.out.2.2.1 H0.out.2.2.2.1).mono ?_
  rintro ex W1 ⟨v, rfl, hR, hb⟩
  obtain ⟨P, p, rfl⟩ := Kd.R_slice hR
  obtain ⟨g10, hg10⟩ : ∃ g, g = W1.heap.size := ⟨_, rfl⟩
  obtain ⟨wc, hwc⟩ : ∃ wc, wc = W1.alloc (.cells #[.slice P ts.length p] 28) := ⟨_, rfl⟩
  have hbc : Below W1.heap.size W1 wc := hwc ▸ Below.alloc (Below.refl _ _) (Nat.le_refl _) _
  have hbwc : Below wb.heap.size wb wc := hb.trans (hbc.mono hb.size)
  have h10 : wc.heap[g10]? = some (.cells #[.slice P ts.length p] 28 (0, 0)) := hwc ▸ hg10 ▸ heap_alloc_new W1 _
  obtain ⟨rc, hrl, hrR, hrM⟩ := raw_of_R (Kd.R_below hR hbc)
  have h9 := (hbwc.block g9 (blk_lt H0.out.2.2.2.2.2.2.1)).trans H0.out.2.2.2.2.2.2.1
  have hoc := (hbwc.block o (blk_lt H0.out.2.2.2.2.2.1)).trans H0.out.2.2.2.2.2.1
  have h109 : g10 ≠ g9 := by have := blk_lt H0.out.2.2.2.2.2.2.1; have := hb.size; omega
  have HC := Aside0.mk (And.intro hbwc (And.intro hrl (And.intro hrR (And.intro hrM (And.intro h10 (And.intro h109 (And.intro h9 hoc)))))))
  have kp : K0 (KeepBut wc wc g9 none) := ⟨KeepBut.refl _ _ _⟩
  have z10 : ∀ W [K0 (KeepBut wc W g9 none)], W.cell? ⟨g10, 0, none⟩ = some (.slice P ts.length p) := fun W k => kb_cell k.out ((blk_cell HC.out.2.2.2.2.1 0).trans rfl) HC.out.2.2.2.2.2.1
  have HS0 := Aside0.mk (show StP wc wc.heap.size g9 o (.slice none 0 0) (rc.take 0) from ⟨h9, Kd.R_nil _ _ _ _ _, Nat.le_refl _⟩)
  have hl9 : g9 < wc.heap.size := blk_lt h9
  have hlo : o < wc.heap.size := blk_lt hoc
  have HB0 := Aside0.mk (And.intro (KeepBut.refl wc g9 none) (And.intro (H0.out.1.trans (hbwc.mono H0.out.1.size)) (And.intro hl9 hlo)))
  clear hR hb hbc hbwc h10 hrl hrR hrM h9 hoc h109 y0 kb hl9 hlo
  go_upto_region 3 with (fail)
  rw [← hwc, ← hg10]
  clear hwc hg10
  go_wp2_with fail
  have hP : 0 < ts.length → ∃ gc, P = some ⟨gc, 0, none⟩ ∧ gc ≠ g9 := fun h0 => by
    obtain ⟨gc, cap, hv, hgb, hgl, -⟩ := Kd.R_form HC.out.2.2.1 (by rw [HC.out.2.1]; exact h0)
    injection hv with hv _ _
    exact ⟨gc, hv, by have := blk_lt H0.out.2.2.2.2.2.2.1; omega⟩
  go_loopw [11] (fun v11 W => ∃ (j : Nat) (v9 : Value), 0 ≤ j ∧ j ≤ a ∧ v11 = .int .i64 j ∧ Aside0 (StP W wc.heap.size g9 o v9 (rc.take j)) ∧ Aside0 (KeepBut wc W g9 none ∧ Below w.heap.size w W ∧ g9 < wc.heap.size ∧ o < wc.heap.size)) (fun v11 _ => a - (intOf v11).toNat)
  case atStart => exact ⟨0, _, by omega, by omega, rfl, HS0, HB0⟩
  case round =>
    clear HS0 HB0
    obtain ⟨j, v9, hj0, hj, rfl, HS, HB⟩ := hrel
    have kW : K0 (KeepBut wc wr g9 none) := ⟨HB.out.1⟩
    by_cases hlt : j < a
    · have dl : decide ((j : Int) < (a : Int)) = true := decide_eq_true (by omega)
      have hjn : j < ts.length := by have := H0.out.2.2.2.2.2.2.2.2.2; omega
      have hwj : IntKind.i64.wrap ((j : Int) + 1) = ((j + 1 : Nat) : Int) := by have := H0.out.2.2.2.1.1; rw [IntKind.wrap_i64]; omega
      obtain ⟨gc, rfl, hgc⟩ := hP (by omega)
      obtain ⟨x, hxj⟩ : ∃ x, ts[j]? = some x := ⟨_, List.getElem?_eq_getElem hjn⟩
      obtain ⟨cm, hcm, hM⟩ := HC.out.2.2.2.1 j x hxj
      obtain ⟨vx, rfl, hRx⟩ := k40_openM hM
      obtain ⟨Ax, cx, rfl⟩ := Kd.R_slice hRx
      have y0 : ∀ W [K0 (KeepBut wc W g9 none)], W.cell? ⟨gc, j * 2, none⟩ = some (.string x.f0) := fun W k => kb_cell k.out (raw_cell HC.out.2.2.1 hcm (j := 0) rfl).1 hgc
      have y1 : ∀ W [K0 (KeepBut wc W g9 none)], W.cell? ⟨gc, j * 2 + 1, none⟩ = some (.slice Ax x.f1.length cx) := fun W k => kb_cell k.out (raw_cell HC.out.2.2.1 hcm (j := 1) rfl).1 hgc
      have htk : rc.take (j + 1) = rc.take j ++ [[.string x.f0, .slice Ax x.f1.length cx]] := by rw [List.take_add_one, hcm]; rfl
      have hln : (rc.take j).length ≤ 4000000 := by have := H0.out.2.2.2.1.1; have := H0.out.2.2.2.2.2.2.2.2.1; have := HC.out.2.1; simp only [List.length_append, List.length_take, List.length_drop]; first | omega | (have := HM.out.1; omega)
      have HX := Aside0.mk (And.intro htk hln)
      obtain ⟨A9, c9, rfl⟩ := Kd.R_slice HS.out.2.1
      obtain ⟨n9, hn9⟩ : ∃ n, (rc.take j).length = n := ⟨_, rfl⟩
      rw [hn9] at HS
      have HN := Aside0.mk hn9
      clear hn9 htk hln hM hRx hcm hxj
      go_upto_region 6 with (fail)
      have kd : K0 (KeepBut wc wr.drew g9 none) := inferInstance
      have o1 : wr.drew.cell? ⟨g9, 0, none⟩ = some (.slice A9 n9 c9) := (cell_drew HS.out.1 0).trans rfl
      have ha9 : (wr.drew.alloc (.cells #[.string x.f0, .slice Ax x.f1.length cx] 40)).heap[g9]? = some (.cells #[.slice A9 n9 c9] 28 (0, 0)) := blk_alloc (w := wr.drew) HS.out.1 _
      have o2 : (wr.alloc (.cells #[.string x.f0, .slice Ax x.f1.length cx] 40)).drew.cell? ⟨g9, 0, none⟩ = some (.slice A9 n9 c9) := (blk_cell ha9 0).trans rfl
      have ka : K0 (KeepBut wc (wr.drew.alloc (.cells #[.string x.f0, .slice Ax x.f1.length cx] 40)) g9 none) := inferInstance
      clear ha9
      refine sp_region (S := fun (W' : World) => K0 (KeepBut wc W' g9 none)) (.n 0 (.n 2 (.n 3 (.n 4 (.n 5 (.n 6 (.two 1 7 (.y 7 (.y 8 (.n 9 (.y 10 .done)))) (.y 1 (.y 8 (.n 9 (.y 10 .done))))))))))) (by kernel_rfl) (by kernel_rfl) kd (fun hS => ?_)
      repeat (refine sp_n ?_ ?_ rfl ?_ ?_ ?_; rotate_left 2; (intro W hW; go_simp; first | done | with_reducible rfl); (simp only [List.setIfInBounds_toArray, List.set_cons_zero, List.set_cons_succ]; try rfl))
      refine sp_2n rfl rfl ?_ ?_
      all_goals (intro hS K hK)
      · go_wp2_with fail
        refine hK.out _ _ kd (fun hS => ?_)
        refine sp_1n rfl (fun hS K hK => ?_)
        go_wp2_with fail
        refine hK.out _ _ ka (fun hS => ?_)
        refine sp_1n rfl (fun hS K hK => ?_)
        refine Eq.mp (if_pos yes_n) (Kd.R_append_step (ops := #[]) (Kc := K) (Kd.raw 2) (w0 := wr.drew) (W := wr.drew) wc.heap.size yes_n (.tmp 22) (.tmp 28) 26 40 (.agg #[(.string ⟨#[]⟩), (.slice none 0 0)]) 40 rfl Try.underlying26 info40 rfl (by decide) (by omega) (.slice A9 n9 c9) (rc.take j) [.string x.f0, .slice Ax x.f1.length cx] [.string x.f0, .slice Ax x.f1.length cx] (fun k => wc.heap.size ≤ k) (fun _ => False) rfl rfl ⟨rfl, rfl, fun u hu => by simp at hu; rcases hu with rfl | rfl <;> rfl⟩ (fun _ h => h.elim) (fun k hk => Nat.le_trans HS.out.2.2 hk) (Kd.R_drew HS.out.2.1) (Below.refl _ _) HS.out.2.2 (by have := HX.out.2; omega) ?_)
        intro v5 w5 hR5 hb5 hg5 hat
        obtain ⟨A5, m5, c5, rfl⟩ : ∃ A m c, v5 = .slice A m c := by obtain ⟨A, c, h⟩ := Kd.R_slice hR5; exact ⟨_, _, _, h⟩
        have hne : some g9 ≠ Value.ownBlock (.slice A9 n9 c9) := fun e => by have := Kd.R_base HS.out.2.1 g9 e.symm; have := HB.out.2.2.1; omega
        have h59 : w5.heap[g9]? = some (.cells #[.slice A9 n9 c9] 28 (0, 0)) := (hg5.block g9 (blk_lt HS.out.1) hne).trans HS.out.1
        have k5 : K0 (KeepBut wc w5 g9 none) := ⟨Nat.le_trans kd.out.1 hg5.size, fun i hi hi9 _ => (hg5.block i (Nat.lt_of_lt_of_le hi kd.out.1) (fun e => by have := Kd.R_base HS.out.2.1 i e.symm; omega)).trans (kd.out.2 i hi hi9 (by simp))⟩
        have k6 : K0 (KeepBut wc (w5.setCell ⟨g9, 0, none⟩ (.slice A5 m5 c5)) g9 none) := ⟨k5.out.set_ 0 _⟩
        have q0 : w5.cell? ⟨g9, 0, none⟩ = some (.slice A9 n9 c9) := (blk_cell h59 0).trans rfl
        have fq := blk_frozen h59 0
        have hB5 : Below w.heap.size w w5 := (below_drew1 HB.out.2.1).grown hg5 HB.out.2.1.size (fun q hq => by have := Kd.R_base HS.out.2.1 q hq; have := HB.out.2.2.2; have := H0.out.2.2.2.2.1; omega)
        have HG := Aside0.mk (And.intro (show StP (w5.setCell ⟨g9, 0, none⟩ (.slice A5 m5 c5)) wc.heap.size g9 o (.slice A5 m5 c5) (rc.take (j + 1)) from ⟨blk_put h59 0 _ rfl, by rw [HX.out.1]; exact Kd.R_far hR5 (fun k hk => by have := HB.out.2.2.1; show k ≠ g9; omega) _, by show _ ≤ (w5.heap.modify _ _).size; simp; exact Nat.le_trans HS.out.2.2 hg5.size⟩) (And.intro k6.out (hB5.setCell (p := ⟨g9, 0, none⟩) (by have := H0.out.2.2.2.2.1.2.2; show w.heap.size ≤ g9; omega) (.slice A5 m5 c5))))
        clear hR5 hb5 hg5 hat hne h59 hB5
        refine hK.out _ _ k5 (fun hS => ?_)
        repeat (refine sp_n ?_ ?_ rfl ?_ ?_ ?_; rotate_left 2; (intro W hW; go_simp; first | done | with_reducible rfl); (simp only [List.setIfInBounds_toArray, List.set_cons_zero, List.set_cons_succ]; try rfl))
        refine sp_1n rfl (fun hS K hK => ?_)
        go_wp2_with fail
        refine hK.out _ _ k6 (fun hS => ?_)
        refine sp_done (fun hS => ?_)
        go_wp2_with fail
        go_roundw
        case measure => simp only [intOf]; omega
        case rel => exact ⟨j + 1, .slice A5 m5 c5, by omega, by omega, by rw [Int.natCast_add]; rfl, ⟨HG.out.1⟩, ⟨HG.out.2.1, HG.out.2.2, HB.out.2.2⟩⟩
      · go_wp2_with fail
        refine hK.out _ _ ka (fun hS => ?_)
        refine sp_1n rfl (fun hS K hK => ?_)
        go_wp2_with fail
        refine hK.out _ _ ka (fun hS => ?_)
        refine sp_1n rfl (fun hS K hK => ?_)
        refine Eq.mp (if_pos yes_n) (Kd.R_append_step (ops := #[]) (Kc := K) (Kd.raw 2) (w0 := wr.drew) (W := wr.drew) wc.heap.size yes_n (.tmp 22) (.tmp 28) 26 40 (.agg #[(.string ⟨#[]⟩), (.slice none 0 0)]) 40 rfl Try.underlying26 info40 rfl (by decide) (by omega) (.slice A9 n9 c9) (rc.take j) [.string x.f0, .slice Ax x.f1.length cx] [.string x.f0, .slice Ax x.f1.length cx] (fun k => wc.heap.size ≤ k) (fun _ => False) rfl rfl ⟨rfl, rfl, fun u hu => by simp at hu; rcases hu with rfl | rfl <;> rfl⟩ (fun _ h => h.elim) (fun k hk => Nat.le_trans HS.out.2.2 hk) (Kd.R_drew HS.out.2.1) (Below.refl _ _) HS.out.2.2 (by have := HX.out.2; omega) ?_)
        intro v5 w5 hR5 hb5 hg5 hat
        obtain ⟨A5, m5, c5, rfl⟩ : ∃ A m c, v5 = .slice A m c := by obtain ⟨A, c, h⟩ := Kd.R_slice hR5; exact ⟨_, _, _, h⟩
        have hne : some g9 ≠ Value.ownBlock (.slice A9 n9 c9) := fun e => by have := Kd.R_base HS.out.2.1 g9 e.symm; have := HB.out.2.2.1; omega
        have h59 : w5.heap[g9]? = some (.cells #[.slice A9 n9 c9] 28 (0, 0)) := (hg5.block g9 (blk_lt HS.out.1) hne).trans HS.out.1
        have k5 : K0 (KeepBut wc w5 g9 none) := ⟨Nat.le_trans kd.out.1 hg5.size, fun i hi hi9 _ => (hg5.block i (Nat.lt_of_lt_of_le hi kd.out.1) (fun e => by have := Kd.R_base HS.out.2.1 i e.symm; omega)).trans (kd.out.2 i hi hi9 (by simp))⟩
        have k6 : K0 (KeepBut wc (w5.setCell ⟨g9, 0, none⟩ (.slice A5 m5 c5)) g9 none) := ⟨k5.out.set_ 0 _⟩
        have q0 : w5.cell? ⟨g9, 0, none⟩ = some (.slice A9 n9 c9) := (blk_cell h59 0).trans rfl
        have fq := blk_frozen h59 0
        have hB5 : Below w.heap.size w w5 := (below_drew1 HB.out.2.1).grown hg5 HB.out.2.1.size (fun q hq => by have := Kd.R_base HS.out.2.1 q hq; have := HB.out.2.2.2; have := H0.out.2.2.2.2.1; omega)
        have HG := Aside0.mk (And.intro (show StP (w5.setCell ⟨g9, 0, none⟩ (.slice A5 m5 c5)) wc.heap.size g9 o (.slice A5 m5 c5) (rc.take (j + 1)) from ⟨blk_put h59 0 _ rfl, by rw [HX.out.1]; exact Kd.R_far hR5 (fun k hk => by have := HB.out.2.2.1; show k ≠ g9; omega) _, by show _ ≤ (w5.heap.modify _ _).size; simp; exact Nat.le_trans HS.out.2.2 hg5.size⟩) (And.intro k6.out (hB5.setCell (p := ⟨g9, 0, none⟩) (by have := H0.out.2.2.2.2.1.2.2; show w.heap.size ≤ g9; omega) (.slice A5 m5 c5))))
        clear hR5 hb5 hg5 hat hne h59 hB5
        refine hK.out _ _ k5 (fun hS => ?_)
        repeat (refine sp_n ?_ ?_ rfl ?_ ?_ ?_; rotate_left 2; (intro W hW; go_simp; first | done | with_reducible rfl); (simp only [List.setIfInBounds_toArray, List.set_cons_zero, List.set_cons_succ]; try rfl))
        refine sp_1n rfl (fun hS K hK => ?_)
        go_wp2_with fail
        refine hK.out _ _ k6 (fun hS => ?_)
        refine sp_done (fun hS => ?_)
        go_wp2_with fail
        go_roundw
        case measure => simp only [intOf]; omega
        case rel => exact ⟨j + 1, .slice A5 m5 c5, by omega, by omega, by rw [Int.natCast_add]; rfl, ⟨HG.out.1⟩, ⟨HG.out.2.1, HG.out.2.2, HB.out.2.2⟩⟩
    · obtain rfl : j = a := by omega
      have dl : decide ((j : Int) < (j : Int)) = false := decide_eq_false (by omega)
      obtain ⟨hmC, hmK⟩ := H0.out.2.2.2.2.2.2.2.1
      have hml : rm.length = more.length := hmC.1
      obtain ⟨A9, c9, rfl⟩ := Kd.R_slice HS.out.2.1
      obtain ⟨n9, hn9⟩ : ∃ n, (rc.take j).length = n := ⟨_, rfl⟩
      rw [hn9] at HS
      have hn9' : n9 ≤ 1048576 := by rw [← hn9, List.length_take]; have := H0.out.2.2.2.1.1; have := HC.out.2.1; omega
      have hmC2 : ReadsRow ((Kd.raw 2).K wr) 2 wr A3 more.length rm := Kd.C_below hmC HB.out.2.1
      have o1 : wr.cell? ⟨g9, 0, none⟩ = some (.slice A9 n9 c9) := (blk_cell HS.out.1 0).trans rfl
      have HM := Aside0.mk (And.intro hml (And.intro hmK (And.intro hmC2 (And.intro hn9 hn9'))))
      clear hml hmC hmC2 hmK hn9 hn9'
      go_wp2_with (at_builtin; go_loud (refine Kd.R_append_rows (Kd.raw 2) (w0 := wr) (W := wr) (Rr := (Kd.raw 2).K wr) wc.heap.size rfl (.tmp 32) (.tmp 33) 26 40 (.agg #[(.string ⟨#[]⟩), (.slice none 0 0)]) 40 rfl Try.underlying26 info40 rfl (by decide) (by omega) (.slice A9 n9 c9) (rc.take j) rm A3 more.length c3 (fun k => wc.heap.size ≤ k) (fun _ => False) rfl rfl HS.out.2.1 HM.out.2.2.1 (fun _ _ h => h) (fun _ h => h.elim) (fun k hk => Nat.le_trans HS.out.2.2 hk) (Below.refl _ _) HS.out.2.2 (by have := H0.out.2.2.2.2.2.2.2.2.1; have := HM.out.2.2.2; omega) ?_; intro v5 w5 hR5 hb5 hg5 hat; obtain ⟨A5, m5, c5, rfl⟩ : ∃ A m c, v5 = .slice A m c := (by obtain ⟨A, c, h⟩ := Kd.R_slice hR5; exact ⟨_, _, _, h⟩); have hne : some g9 ≠ Value.ownBlock (.slice A9 n9 c9) := (fun e => by have := Kd.R_base HS.out.2.1 g9 e.symm; have := HB.out.2.2.1; omega); have h59 : w5.heap[g9]? = some (.cells #[.slice A9 n9 c9] 28 (0, 0)) := (hg5.block g9 (blk_lt HS.out.1) hne).trans HS.out.1; have k5 : KeepBut wc w5 g9 none := ⟨Nat.le_trans HB.out.1.1 hg5.size, fun i hi hi9 _ => (hg5.block i (Nat.lt_of_lt_of_le hi HB.out.1.1) (fun e => by have := Kd.R_base HS.out.2.1 i e.symm; omega)).trans (HB.out.1.2 i hi hi9 (by simp))⟩; have q0 : w5.cell? ⟨g9, 0, none⟩ = some (.slice A9 n9 c9) := (blk_cell h59 0).trans rfl; have fq := blk_frozen h59 0; have hB5 : Below w.heap.size w w5 := HB.out.2.1.grown hg5 HB.out.2.1.size (fun q hq => by have := Kd.R_base HS.out.2.1 q hq; have := HB.out.2.2.2; have := H0.out.2.2.2.2.1; omega); have HG := Aside0.mk (And.intro (show StP (w5.setCell ⟨g9, 0, none⟩ (.slice A5 m5 c5)) wc.heap.size g9 o (.slice A5 m5 c5) (rc.take j ++ rm) from ⟨blk_put h59 0 _ rfl, Kd.R_far hR5 (fun k hk => by have := HB.out.2.2.1; show k ≠ g9; omega) _, by show _ ≤ (w5.heap.modify _ _).size; simp; exact Nat.le_trans HS.out.2.2 hg5.size⟩) (And.intro (k5.set_ 0 (.slice A5 m5 c5)) (hB5.setCell (p := ⟨g9, 0, none⟩) (by have := H0.out.2.2.2.2.1.2.2; show w.heap.size ≤ g9; omega) (.slice A5 m5 c5)))); clear hR5 hb5 hg5 hat hne h59 hB5 k5))
      generalize w5.setCell ⟨g9, 0, none⟩ (.slice A5 m5 c5) = W6 at *
      have HS0 := Aside0.mk (show StP W6 wc.heap.size g9 o (.slice A5 m5 c5) (rc.take j ++ rm ++ (rc.take b).drop b) from by rw [List.drop_eq_nil_of_le (by rw [List.length_take]; omega), List.append_nil]; exact HG.out.1)
      have HB0 := Aside0.mk (And.intro HG.out.2.1 (And.intro HG.out.2.2 HB.out.2.2))
      obtain ⟨a, ha⟩ : ∃ a, a = j := ⟨_, rfl⟩
      subst ha
      clear HG HS HB kW o1 dl hj hlt
      go_loopw [12] (fun v11 W => ∃ (j : Nat) (v9 : Value), b ≤ j ∧ j ≤ ts.length ∧ v11 = .int .i64 j ∧ Aside0 (StP W wc.heap.size g9 o v9 (rc.take a ++ rm ++ (rc.take j).drop b)) ∧ Aside0 (KeepBut wc W g9 none ∧ Below w.heap.size w W ∧ g9 < wc.heap.size ∧ o < wc.heap.size)) (fun v11 _ => ts.length - (intOf v11).toNat)

      case atStart => exact ⟨b, _, Nat.le_refl _, H0.out.2.2.2.2.2.2.2.2.2.2.1, rfl, HS0, HB0⟩
      case round =>
        clear HS0 HB0
        obtain ⟨j, v9, hj0, hj, rfl, HS, HB⟩ := hrel
        have kW : K0 (KeepBut wc wr g9 none) := ⟨HB.out.1⟩
        by_cases hlt : j < ts.length
        · have dl : decide ((j : Int) < (ts.length : Int)) = true := decide_eq_true (by omega)
          have hjn : j < ts.length := by have := H0.out.2.2.2.2.2.2.2.2.2; omega
          have hwj : IntKind.i64.wrap ((j : Int) + 1) = ((j + 1 : Nat) : Int) := by have := H0.out.2.2.2.1.1; rw [IntKind.wrap_i64]; omega
          obtain ⟨gc, rfl, hgc⟩ := hP (by omega)
          obtain ⟨x, hxj⟩ : ∃ x, ts[j]? = some x := ⟨_, List.getElem?_eq_getElem hjn⟩
          obtain ⟨cm, hcm, hM⟩ := HC.out.2.2.2.1 j x hxj
          obtain ⟨vx, rfl, hRx⟩ := k40_openM hM
          obtain ⟨Ax, cx, rfl⟩ := Kd.R_slice hRx
          have y0 : ∀ W [K0 (KeepBut wc W g9 none)], W.cell? ⟨gc, j * 2, none⟩ = some (.string x.f0) := fun W k => kb_cell k.out (raw_cell HC.out.2.2.1 hcm (j := 0) rfl).1 hgc
          have y1 : ∀ W [K0 (KeepBut wc W g9 none)], W.cell? ⟨gc, j * 2 + 1, none⟩ = some (.slice Ax x.f1.length cx) := fun W k => kb_cell k.out (raw_cell HC.out.2.2.1 hcm (j := 1) rfl).1 hgc
          have htk : rc.take a ++ rm ++ (rc.take (j + 1)).drop b = rc.take a ++ rm ++ (rc.take j).drop b ++ [[.string x.f0, .slice Ax x.f1.length cx]] := by rw [List.take_add_one, hcm, List.drop_append_of_le_length (by rw [List.length_take]; have := HC.out.2.1; omega), ← List.append_assoc]; rfl
          have hln : (rc.take a ++ rm ++ (rc.take j).drop b).length ≤ 4000000 := by have := H0.out.2.2.2.1.1; have := H0.out.2.2.2.2.2.2.2.2.1; have := HC.out.2.1; simp only [List.length_append, List.length_take, List.length_drop]; first | omega | (have := HM.out.1; omega)
          have HX := Aside0.mk (And.intro htk hln)
          obtain ⟨A9, c9, rfl⟩ := Kd.R_slice HS.out.2.1
          obtain ⟨n9, hn9⟩ : ∃ n, (rc.take a ++ rm ++ (rc.take j).drop b).length = n := ⟨_, rfl⟩
          rw [hn9] at HS
          have HN := Aside0.mk hn9
          clear hn9 htk hln hM hRx hcm hxj
          go_upto_region 11 with (fail)
          have kd : K0 (KeepBut wc wr.drew g9 none) := inferInstance
          have o1 : wr.drew.cell? ⟨g9, 0, none⟩ = some (.slice A9 n9 c9) := (cell_drew HS.out.1 0).trans rfl
          have ha9 : (wr.drew.alloc (.cells #[.string x.f0, .slice Ax x.f1.length cx] 40)).heap[g9]? = some (.cells #[.slice A9 n9 c9] 28 (0, 0)) := blk_alloc (w := wr.drew) HS.out.1 _
          have o2 : (wr.alloc (.cells #[.string x.f0, .slice Ax x.f1.length cx] 40)).drew.cell? ⟨g9, 0, none⟩ = some (.slice A9 n9 c9) := (blk_cell ha9 0).trans rfl
          have ka : K0 (KeepBut wc (wr.drew.alloc (.cells #[.string x.f0, .slice Ax x.f1.length cx] 40)) g9 none) := inferInstance
          clear ha9
          refine sp_region (S := fun (W' : World) => K0 (KeepBut wc W' g9 none)) (.n 0 (.n 2 (.n 3 (.n 4 (.n 5 (.n 6 (.two 1 7 (.y 7 (.y 8 (.n 9 (.y 10 .done)))) (.y 1 (.y 8 (.n 9 (.y 10 .done))))))))))) (by kernel_rfl) (by kernel_rfl) kd (fun hS => ?_)
          repeat (refine sp_n ?_ ?_ rfl ?_ ?_ ?_; rotate_left 2; (intro W hW; go_simp; first | done | with_reducible rfl); (simp only [List.setIfInBounds_toArray, List.set_cons_zero, List.set_cons_succ]; try rfl))
          refine sp_2n rfl rfl ?_ ?_
          all_goals (intro hS K hK)
          · go_wp2_with fail
            refine hK.out _ _ kd (fun hS => ?_)
            refine sp_1n rfl (fun hS K hK => ?_)
            go_wp2_with fail
            refine hK.out _ _ ka (fun hS => ?_)
            refine sp_1n rfl (fun hS K hK => ?_)
            refine Eq.mp (if_pos yes_n) (Kd.R_append_step (ops := #[]) (Kc := K) (Kd.raw 2) (w0 := wr.drew) (W := wr.drew) wc.heap.size yes_n (.tmp 45) (.tmp 51) 26 40 (.agg #[(.string ⟨#[]⟩), (.slice none 0 0)]) 40 rfl Try.underlying26 info40 rfl (by decide) (by omega) (.slice A9 n9 c9) (rc.take a ++ rm ++ (rc.take j).drop b) [.string x.f0, .slice Ax x.f1.length cx] [.string x.f0, .slice Ax x.f1.length cx] (fun k => wc.heap.size ≤ k) (fun _ => False) rfl rfl ⟨rfl, rfl, fun u hu => by simp at hu; rcases hu with rfl | rfl <;> rfl⟩ (fun _ h => h.elim) (fun k hk => Nat.le_trans HS.out.2.2 hk) (Kd.R_drew HS.out.2.1) (Below.refl _ _) HS.out.2.2 (by have := HX.out.2; omega) ?_)
            intro v5 w5 hR5 hb5 hg5 hat
            obtain ⟨A5, m5, c5, rfl⟩ : ∃ A m c, v5 = .slice A m c := by obtain ⟨A, c, h⟩ := Kd.R_slice hR5; exact ⟨_, _, _, h⟩
            have hne : some g9 ≠ Value.ownBlock (.slice A9 n9 c9) := fun e => by have := Kd.R_base HS.out.2.1 g9 e.symm; have := HB.out.2.2.1; omega
            have h59 : w5.heap[g9]? = some (.cells #[.slice A9 n9 c9] 28 (0, 0)) := (hg5.block g9 (blk_lt HS.out.1) hne).trans HS.out.1
            have k5 : K0 (KeepBut wc w5 g9 none) := ⟨Nat.le_trans kd.out.1 hg5.size, fun i hi hi9 _ => (hg5.block i (Nat.lt_of_lt_of_le hi kd.out.1) (fun e => by have := Kd.R_base HS.out.2.1 i e.symm; omega)).trans (kd.out.2 i hi hi9 (by simp))⟩
            have k6 : K0 (KeepBut wc (w5.setCell ⟨g9, 0, none⟩ (.slice A5 m5 c5)) g9 none) := ⟨k5.out.set_ 0 _⟩
            have q0 : w5.cell? ⟨g9, 0, none⟩ = some (.slice A9 n9 c9) := (blk_cell h59 0).trans rfl
            have fq := blk_frozen h59 0
            have hB5 : Below w.heap.size w w5 := (below_drew1 HB.out.2.1).grown hg5 HB.out.2.1.size (fun q hq => by have := Kd.R_base HS.out.2.1 q hq; have := HB.out.2.2.2; have := H0.out.2.2.2.2.1; omega)
            have HG := Aside0.mk (And.intro (show StP (w5.setCell ⟨g9, 0, none⟩ (.slice A5 m5 c5)) wc.heap.size g9 o (.slice A5 m5 c5) (rc.take a ++ rm ++ (rc.take (j + 1)).drop b) from ⟨blk_put h59 0 _ rfl, by rw [HX.out.1]; exact Kd.R_far hR5 (fun k hk => by have := HB.out.2.2.1; show k ≠ g9; omega) _, by show _ ≤ (w5.heap.modify _ _).size; simp; exact Nat.le_trans HS.out.2.2 hg5.size⟩) (And.intro k6.out (hB5.setCell (p := ⟨g9, 0, none⟩) (by have := H0.out.2.2.2.2.1.2.2; show w.heap.size ≤ g9; omega) (.slice A5 m5 c5))))
            clear hR5 hb5 hg5 hat hne h59 hB5
            refine hK.out _ _ k5 (fun hS => ?_)
            repeat (refine sp_n ?_ ?_ rfl ?_ ?_ ?_; rotate_left 2; (intro W hW; go_simp; first | done | with_reducible rfl); (simp only [List.setIfInBounds_toArray, List.set_cons_zero, List.set_cons_succ]; try rfl))
            refine sp_1n rfl (fun hS K hK => ?_)
            go_wp2_with fail
            refine hK.out _ _ k6 (fun hS => ?_)
            refine sp_done (fun hS => ?_)
            go_wp2_with fail
            go_roundw
            case measure => simp only [intOf]; omega
            case rel => exact ⟨j + 1, .slice A5 m5 c5, by omega, by omega, by rw [Int.natCast_add]; rfl, ⟨HG.out.1⟩, ⟨HG.out.2.1, HG.out.2.2, HB.out.2.2⟩⟩
          · go_wp2_with fail
            refine hK.out _ _ ka (fun hS => ?_)
            refine sp_1n rfl (fun hS K hK => ?_)
            go_wp2_with fail
            refine hK.out _ _ ka (fun hS => ?_)
            refine sp_1n rfl (fun hS K hK => ?_)
            refine Eq.mp (if_pos yes_n) (Kd.R_append_step (ops := #[]) (Kc := K) (Kd.raw 2) (w0 := wr.drew) (W := wr.drew) wc.heap.size yes_n (.tmp 45) (.tmp 51) 26 40 (.agg #[(.string ⟨#[]⟩), (.slice none 0 0)]) 40 rfl Try.underlying26 info40 rfl (by decide) (by omega) (.slice A9 n9 c9) (rc.take a ++ rm ++ (rc.take j).drop b) [.string x.f0, .slice Ax x.f1.length cx] [.string x.f0, .slice Ax x.f1.length cx] (fun k => wc.heap.size ≤ k) (fun _ => False) rfl rfl ⟨rfl, rfl, fun u hu => by simp at hu; rcases hu with rfl | rfl <;> rfl⟩ (fun _ h => h.elim) (fun k hk => Nat.le_trans HS.out.2.2 hk) (Kd.R_drew HS.out.2.1) (Below.refl _ _) HS.out.2.2 (by have := HX.out.2; omega) ?_)
            intro v5 w5 hR5 hb5 hg5 hat
            obtain ⟨A5, m5, c5, rfl⟩ : ∃ A m c, v5 = .slice A m c := by obtain ⟨A, c, h⟩ := Kd.R_slice hR5; exact ⟨_, _, _, h⟩
            have hne : some g9 ≠ Value.ownBlock (.slice A9 n9 c9) := fun e => by have := Kd.R_base HS.out.2.1 g9 e.symm; have := HB.out.2.2.1; omega
            have h59 : w5.heap[g9]? = some (.cells #[.slice A9 n9 c9] 28 (0, 0)) := (hg5.block g9 (blk_lt HS.out.1) hne).trans HS.out.1
            have k5 : K0 (KeepBut wc w5 g9 none) := ⟨Nat.le_trans kd.out.1 hg5.size, fun i hi hi9 _ => (hg5.block i (Nat.lt_of_lt_of_le hi kd.out.1) (fun e => by have := Kd.R_base HS.out.2.1 i e.symm; omega)).trans (kd.out.2 i hi hi9 (by simp))⟩
            have k6 : K0 (KeepBut wc (w5.setCell ⟨g9, 0, none⟩ (.slice A5 m5 c5)) g9 none) := ⟨k5.out.set_ 0 _⟩
            have q0 : w5.cell? ⟨g9, 0, none⟩ = some (.slice A9 n9 c9) := (blk_cell h59 0).trans rfl
            have fq := blk_frozen h59 0
            have hB5 : Below w.heap.size w w5 := (below_drew1 HB.out.2.1).grown hg5 HB.out.2.1.size (fun q hq => by have := Kd.R_base HS.out.2.1 q hq; have := HB.out.2.2.2; have := H0.out.2.2.2.2.1; omega)
            have HG := Aside0.mk (And.intro (show StP (w5.setCell ⟨g9, 0, none⟩ (.slice A5 m5 c5)) wc.heap.size g9 o (.slice A5 m5 c5) (rc.take a ++ rm ++ (rc.take (j + 1)).drop b) from ⟨blk_put h59 0 _ rfl, by rw [HX.out.1]; exact Kd.R_far hR5 (fun k hk => by have := HB.out.2.2.1; show k ≠ g9; omega) _, by show _ ≤ (w5.heap.modify _ _).size; simp; exact Nat.le_trans HS.out.2.2 hg5.size⟩) (And.intro k6.out (hB5.setCell (p := ⟨g9, 0, none⟩) (by have := H0.out.2.2.2.2.1.2.2; show w.heap.size ≤ g9; omega) (.slice A5 m5 c5))))
            clear hR5 hb5 hg5 hat hne h59 hB5
            refine hK.out _ _ k5 (fun hS => ?_)
            repeat (refine sp_n ?_ ?_ rfl ?_ ?_ ?_; rotate_left 2; (intro W hW; go_simp; first | done | with_reducible rfl); (simp only [List.setIfInBounds_toArray, List.set_cons_zero, List.set_cons_succ]; try rfl))
            refine sp_1n rfl (fun hS K hK => ?_)
            go_wp2_with fail
            refine hK.out _ _ k6 (fun hS => ?_)
            refine sp_done (fun hS => ?_)
            go_wp2_with fail
            go_roundw
            case measure => simp only [intOf]; omega
            case rel => exact ⟨j + 1, .slice A5 m5 c5, by omega, by omega, by rw [Int.natCast_add]; rfl, ⟨HG.out.1⟩, ⟨HG.out.2.1, HG.out.2.2, HB.out.2.2⟩⟩

        · obtain rfl : j = ts.length := by omega
          have dl : decide ((ts.length : Int) < (ts.length : Int)) = false := decide_eq_false (by omega)
          obtain ⟨A9, c9, rfl⟩ := Kd.R_slice HS.out.2.1
          obtain ⟨n9, hn9⟩ : ∃ n, (rc.take a ++ rm ++ (rc.take ts.length).drop b).length = n := ⟨_, rfl⟩
          rw [hn9] at HS
          have o1 : wr.cell? ⟨g9, 0, none⟩ = some (.slice A9 n9 c9) := (blk_cell HS.out.1 0).trans rfl
          have ho8 := (HB.out.1.2 o HB.out.2.2.2 H0.out.2.2.2.2.1.2.1 (by simp)).trans HC.out.2.2.2.2.2.2.2
          have o2 : wr.cell? ⟨o, 0, none⟩ = some (.slice none 0 0) := (blk_cell ho8 0).trans rfl
          have fo := blk_frozen ho8 0
          have hco : ∀ u : Value, Below w.heap.size w (wr.setCell ⟨o, 0, none⟩ u) := fun u => HB.out.2.1.setCell (p := ⟨o, 0, none⟩) H0.out.2.2.2.2.1.1 u
          have hoB : o < wb.heap.size := blk_lt H0.out.2.2.2.2.2.1
          have hgB : g9 < wb.heap.size := blk_lt H0.out.2.2.2.2.2.2.1
          have hrt : rc.take ts.length = rc := by rw [← HC.out.2.1, List.take_length]
          rw [hrt] at HS hn9
          have hzw := H0.out.2.2.2.2.2.2.2.2.2.2.2
          have hwb := H0.out.1.size
          have hwc := HC.out.1.size
          have hRo : (Kd.raw 2).R 40 (wr.setCell ⟨o, 0, none⟩ (.slice A9 n9 c9)) wc.heap.size (fun k => wc.heap.size ≤ k) (.slice A9 n9 c9) (rc.take a ++ rm ++ rc.drop b) := Kd.R_far (p := ⟨o, 0, none⟩) HS.out.2.1 (fun k hk => by show k ≠ o; have := HB.out.2.2.2; omega) (.slice A9 n9 c9)
          obtain ⟨hn, hle, -⟩ := Kd.R_reads' hRo
          have hbo := hco (.slice A9 n9 c9)
          have hCf : n9 = (ts.take a ++ more ++ ts.drop b).length ∧ ∀ W, KeepBut (wr.setCell ⟨o, 0, none⟩ (.slice A9 n9 c9)) W z none → Kd.C k40 W A9 n9 (ts.take a ++ more ++ ts.drop b) := by
            have hlen : (rc.take a ++ rm ++ rc.drop b).length = (ts.take a ++ more ++ ts.drop b).length := by simp [HC.out.2.1, HM.out.1]
            refine ⟨hn.trans hlen, fun W hW => ?_⟩
            have hCr := (Kd.R_reads' (Kd.R_step (w1 := W) hRo (fun k hk hlt => hW.2 k hlt (by omega) (by simp)))).2.2
            have kM : ∀ x cm, k40.M wc wb.heap.size (fun k => True ∧ some k ≠ (Value.slice P ts.length p).ownBlock) x cm → k40.K W x cm := fun x cm h =>
              k40.K_of_M (k40.M_move (fun k hk => (hW.2 k (by show k < (wr.heap.modify _ _).size; simp; exact Nat.lt_of_lt_of_le hk.2.2.1 HB.out.1.1) (by have := hk.2.1; omega) (by simp)).trans ((Below.heap_setCell wr ⟨o, 0, none⟩ _ k (by show k ≠ o; have := hk.2.1; omega)).trans (HB.out.1.2 k hk.2.2.1 (by have := hk.2.1; omega) (by simp)))) (k40.M_bound h))
            have hpc : PwR (k40.K W) ts rc := ⟨HC.out.2.1, fun m x hx => by
              obtain ⟨cm, h1, h2⟩ := HC.out.2.2.2.1 m x hx
              exact ⟨cm, h1, kM x cm h2⟩⟩
            have hpm : PwR (k40.K W) more rm := HM.out.2.1 W ⟨Nat.le_trans hbo.size hW.1, fun i hi hiz _ => (hW.2 i (Nat.lt_of_lt_of_le hi hbo.size) hiz (by simp)).trans (hbo.block i hi)⟩
            have hpa := ((hpc.take a).app hpm).app (hpc.drop b)
            have h := C_of_raw (d := k40) (w := W) hCr hpa.1 hpa.2
            rw [← hlen, ← hn] at h
            exact h
          have HF := Aside0.mk (And.intro hCf.2 (And.intro hCf.1 (And.intro hle (And.intro hbo ho8))))
          clear hCf hn hle hRo hrt hoB hgB hco ho8 hn9 hzw hwb hwc hbo
          go_wp2_with fail
          refine bodyPost_ret (results_cell_row rfl _ _ o 28 _ (0, 0) _ rfl (blk_put HF.out.2.2.2.2 0 (.slice A9 n9 c9) (cs' := #[.slice A9 n9 c9]) rfl) Try.underlying28 rfl (by kernel_rfl)) rfl ⟨A9, c9, ?_, ?_, ?_, HF.out.2.2.2.1⟩
          · rw [← HF.out.2.1]
          · rw [← HF.out.2.1]; exact HF.out.2.2.1
          · rw [← HF.out.2.1]; exact HF.out.1
end Go.Proofs.Ytjlggfdmfchncaa.Q

namespace Go.Proofs.Ytjlggfdmfchncaa.Q
open Go.RowKit Go.Proofs.YtjlggfdmfchncaaW.PrintWords Go.Proofs.YtjlggfdmfchncaaW.PrintLast Go.Proofs.YtjlggfdmfchncaaW.PrintMore
set_option linter.unusedVariables false
set_option linter.unusedSimpArgs false
theorem tA_at {ts : List IT} {i : Nat} (h : i < ts.length) : ts[i]? = some (tA ts i) := by unfold tA rd_T40; rw [Int.toNat_natCast, List.getD_eq_getElem?_getD]; simp [h]
set_option maxHeartbeats 8000000 in
set_option maxRecDepth 100000 in
theorem smerge_call (A : Option Addr) (c : Nat) (ts : List IT) (row : ByteArray) (w : World) (hr : Kd.C k40 w A ts.length ts) (hc : ts.length ≤ c) (hs : SmS ts) :
    Calls Try.prog 6 #[.agg #[.slice A ts.length c], .string row] w fun e w' => ∃ B cb r, Merged ts row r ∧ e = .returned (.agg #[.slice B r.length cb]) ∧ r.length ≤ cb ∧ Kd.C k40 w' B r.length r ∧ Below w.heap.size w w' := by
  have kr : K0 (Below w.heap.size w w) := ⟨Below.refl _ _⟩
  obtain ⟨wb, hwb⟩ : ∃ wb, wb = (w.alloc (.cells #[.slice A ts.length c] 28)).alloc (.cells #[.slice none 0 0] 28) := ⟨_, rfl⟩
  have hb0 : Below w.heap.size w wb := hwb ▸ kk
  have h1 : wb.heap[w.heap.size]? = some (.cells #[.slice A ts.length c] 28 (0, 0)) := hwb ▸ blk_alloc (heap_alloc_new w _) _
  have h2 : wb.heap[w.heap.size + 1]? = some (.cells #[.slice none 0 0] 28 (0, 0)) := hwb ▸ new1 w _ _
  have y0 := clk ((blk_cell h1 0).trans rfl : wb.cell? ⟨w.heap.size, 0, none⟩ = some (.slice A ts.length c))
  obtain ⟨o, ho⟩ : ∃ o, o = w.heap.size + 1 := ⟨_, rfl⟩
  have H0 := Aside0.mk (And.intro hb0 (And.intro (Kd.C_below hr hb0) (And.intro hc (And.intro hs (And.intro (show w.heap.size + 1 = o from ho.symm) (ho ▸ h2))))))
  have y4 := clk ((blk_cell H0.out.2.2.2.2.2 0).trans rfl : wb.cell? ⟨o, 0, none⟩ = some (.slice none 0 0))
  have kb : K0 (Below wb.heap.size wb wb) := ⟨Below.refl _ _⟩
  have HW := Aside0.mk hr
  have tw : ∀ W [K0 (Below wb.heap.size wb W)], K0 (Below w.heap.size w W) := fun W k => ⟨H0.out.1.trans (k.out.mono H0.out.1.size)⟩
  clear hr hc hs hb0 h1 h2
  have fin : ∀ (W : World) (B : Option Addr) (cb : Nat) (r : List IT), Below wb.heap.size wb W → Kd.R k40 40 W wb.heap.size (fun _ => True) (.slice B r.length cb) r → r.length ≤ cb ∧ Kd.C k40 (W.setCell ⟨o, 0, none⟩ (.slice B r.length cb)) B r.length r ∧ Below w.heap.size w (W.setCell ⟨o, 0, none⟩ (.slice B r.length cb)) ∧ W.heap[o]? = some (.cells #[.slice none 0 0] 28 (0, 0)) := fun W B cb r hb hR => by
    have hlo := blk_lt H0.out.2.2.2.2.2
    obtain ⟨h1, h2, h3⟩ := Kd.R_reads' (Kd.R_far (p := ⟨o, 0, none⟩) (Kd.R_mono (ok' := fun k => k ≠ o) (Kd.R_bound hR) (fun k hk => by have := hk.2.1; omega)) (fun k hk => hk) (.slice B r.length cb))
    exact ⟨h2, h3, ((H0.out.1.trans (hb.mono H0.out.1.size))).setCell (p := ⟨o, 0, none⟩) (by show w.heap.size ≤ o; have := H0.out.2.2.2.2.1; omega) _, (hb.block o hlo).trans H0.out.2.2.2.2.2⟩
  have FIN := Aside0.mk fin
  clear fin
  go_enter Try.func6, Try.ntmps6
  go_upto_region 1 with (fail)
  rw [← hwb, ← ho]
  clear hwb ho
  go_wp2_with fail
  refine (vspec_call A c ts wb H0.out.2.1 H0.out.2.2.1 H0.out.2.2.2.1).mono ?_
  rintro ex W2 ⟨rfl, hb⟩
  have k2 : K0 (Below wb.heap.size wb W2) := ⟨hb⟩
  clear hb
  cases hv : vstore ts
  · have HF := Aside0.mk hv
    clear hv
    go_wp2_with fail
    refine (lcopy_call A c ts W2 (Kd.C_below H0.out.2.1 k2.out) H0.out.2.2.1 H0.out.2.2.2.1).mono ?_
    rintro ex W3 ⟨v, rfl, hR, hb⟩
    obtain ⟨P, p, rfl⟩ := Kd.R_slice hR
    have h := FIN.out W3 P p ts (k2.out.trans (hb.mono k2.out.size)) (Kd.R_lower hR k2.out.size)
    have fo := blk_frozen h.2.2.2 0
    have o0 : W3.cell? ⟨o, 0, none⟩ = some (.slice none 0 0) := (blk_cell h.2.2.2 0).trans rfl
    have HE := Aside0.mk h
    clear h hR hb
    go_wp2_with fail
    refine bodyPost_ret (results_cell_row rfl _ _ o 28 _ (0, 0) _ rfl (blk_put HE.out.2.2.2 0 (.slice P ts.length p) (cs' := #[.slice P ts.length p]) rfl) Try.underlying28 rfl (by kernel_rfl)) rfl ⟨P, p, ts, .inl ⟨HF.out, rfl⟩, rfl, HE.out.1, HE.out.2.1, HE.out.2.2.1⟩
  have HV := Aside0.mk (And.intro hv (rise_of hv))
  clear hv
  go_wp2_with fail
  refine (l7Holder_call A c ts row W2 (Kd.C_below H0.out.2.1 k2.out) (by have := H0.out.2.2.2.1.1; omega) HV.out.2).mono ?_
  rintro ex W3 ⟨i, hi, rfl, hb⟩
  have k3 : K0 (Below wb.heap.size wb W3) := ⟨k2.out.trans (hb.mono k2.out.size)⟩
  have HI := Aside0.mk hi
  clear hb hi k2
  obtain ⟨k, hk⟩ : ∃ k, k = i + 1 := ⟨_, rfl⟩
  have hw1 : IntKind.i64.wrap ((i : Int) + 1) = (k : Int) := by have := HI.out.1; have := H0.out.2.2.2.1.1; rw [IntKind.wrap_i64]; omega
  have hw2 : IntKind.i64.wrap ((i : Int) + 2) = ((i + 2 : Nat) : Int) := by have := HI.out.1; have := H0.out.2.2.2.1.1; rw [IntKind.wrap_i64]; omega
  have HKi := Aside0.mk hk
  clear hk
  go_upto_region 4 with (fail)
  by_cases hlast : k = ts.length
  · have d1 : ((k : Int) == (ts.length : Int)) = true := beq_iff_eq.2 (by omega)
    have HF := Aside0.mk hlast
    clear hlast
    go_quiet (fail)
    have kq : K0 (Below wb.heap.size wb (W3.drewN nq)) := inferInstance
    go_wp2_with fail
    refine (lcopy_call A c ts _ (Kd.C_below H0.out.2.1 kq.out) H0.out.2.2.1 H0.out.2.2.2.1).mono ?_
    rintro ex W4 ⟨v, rfl, hR, hb⟩
    obtain ⟨P, p, rfl⟩ := Kd.R_slice hR
    have h := FIN.out W4 P p ts (kq.out.trans (hb.mono kq.out.size)) (Kd.R_lower hR kq.out.size)
    have fo := blk_frozen h.2.2.2 0
    have o0 : W4.cell? ⟨o, 0, none⟩ = some (.slice none 0 0) := (blk_cell h.2.2.2 0).trans rfl
    have HE := Aside0.mk h
    clear h hR hb
    go_wp2_with fail
    refine bodyPost_ret (results_cell_row rfl _ _ o 28 _ (0, 0) _ rfl (blk_put HE.out.2.2.2 0 (.slice P ts.length p) (cs' := #[.slice P ts.length p]) rfl) Try.underlying28 rfl (by kernel_rfl)) rfl ⟨P, p, ts, .inr ⟨HV.out.1, i, HI.out, .inl ⟨.inl (HKi.out ▸ HF.out), rfl⟩⟩, rfl, HE.out.1, HE.out.2.1, HE.out.2.2.1⟩
  have hk1 : k < ts.length := by have := HI.out.1; have := HKi.out; omega
  have hik : i < k := by have := HKi.out; omega
  have d1 : ((k : Int) == (ts.length : Int)) = false := beq_eq_false_iff_ne.2 (by omega)
  obtain ⟨ad, A1, c1, e0, y1, y2, hx1, hx2⟩ := at_T40 HW.out (i : Int) (by omega) (by omega)
  obtain ⟨ad', A2, c2, e1, y5, y6, hx3, hx4⟩ := at_T40 HW.out (k : Int) (by omega) (by omega)
  subst e0
  cases e1
  have hxi := tA_at (ts := ts) (i := i) (by omega)
  have hxj := tA_at (ts := ts) (i := k) hk1
  obtain ⟨xi, hXi⟩ : ∃ x, tA ts i = x := ⟨_, rfl⟩
  obtain ⟨xj, hXj⟩ : ∃ x, tA ts k = x := ⟨_, rfl⟩
  rw [show rd_T40 ts (i : Int) = xi from hXi] at y1 y2 hx1 hx2
  rw [show rd_T40 ts (k : Int) = xj from hXj] at y5 y6 hx3 hx4
  rw [hXi] at hxi
  rw [hXj] at hxj
  rw [Int.toNat_natCast] at y1 y2 y5 y6
  have hsi := H0.out.2.2.2.1.2 xi (List.mem_of_getElem? hxi)
  have hsj := H0.out.2.2.2.1.2 xj (List.mem_of_getElem? hxj)
  have hb1 : (ad.add (i * 2)).block < w.heap.size := World.block_lt_of_cell? w _ y1
  have y1 := clk y1
  have y2 := clk y2
  have y6 := clk y6
  obtain ⟨sm, hsm⟩ : ∃ s, s = xi.f1.length + xj.f1.length := ⟨_, rfl⟩
  have hsum : IntKind.i64.wrap ((xi.f1.length : Int) + (xj.f1.length : Int)) = (sm : Int) := by rw [IntKind.wrap_i64]; have := hsi.1; have := hsj.1; omega
  have HX := Aside0.mk (And.intro hXi (And.intro hXj (And.intro hsi (And.intro hsj (And.intro hsm (And.intro (And.intro hx1 hx2) (And.intro hx3 hx4)))))))
  have hil : i < ts.length := by omega
  have HL := Aside0.mk (And.intro hk1 (And.intro hil hb1))
  clear hb1 hXi hXj hxi hxj hsi hsj hsm hlast hx1 hx2 hx3 hx4
  by_cases hbig : 50 < sm
  · have d3 : decide ((50 : Int) < (sm : Int)) = true := decide_eq_true (by omega)
    have HF := Aside0.mk hbig
    clear hbig
    go_quiet (fail)
    have kq : K0 (Below wb.heap.size wb (W3.drewN nq)) := inferInstance
    go_wp2_with fail
    refine (lcopy_call (some ad) c ts _ (Kd.C_below H0.out.2.1 kq.out) H0.out.2.2.1 H0.out.2.2.2.1).mono ?_
    rintro ex W4 ⟨v, rfl, hR, hb⟩
    obtain ⟨P, p, rfl⟩ := Kd.R_slice hR
    have h := FIN.out W4 P p ts (kq.out.trans (hb.mono kq.out.size)) (Kd.R_lower hR kq.out.size)
    have fo := blk_frozen h.2.2.2 0
    have o0 : W4.cell? ⟨o, 0, none⟩ = some (.slice none 0 0) := (blk_cell h.2.2.2 0).trans rfl
    have HE := Aside0.mk h
    clear h hR hb
    go_wp2_with fail
    refine bodyPost_ret (results_cell_row rfl _ _ o 28 _ (0, 0) _ rfl (blk_put HE.out.2.2.2 0 (.slice P ts.length p) (cs' := #[.slice P ts.length p]) rfl) Try.underlying28 rfl (by kernel_rfl)) rfl ⟨P, p, ts, .inr ⟨HV.out.1, i, HI.out, .inl ⟨.inr (by rw [← HKi.out, HX.out.1, HX.out.2.1, ← HX.out.2.2.2.2.1]; exact HF.out), rfl⟩⟩, rfl, HE.out.1, HE.out.2.1, HE.out.2.2.1⟩
  have d3 : decide ((50 : Int) < (sm : Int)) = false := decide_eq_false (by omega)
  have HF := Aside0.mk hbig
  clear hbig
  go_quiet (fail)
  have kq : K0 (Below wb.heap.size wb (W3.drewN nq)) := inferInstance
  go_upto_region 6 with (fail)
  have kd : K0 (Below wb.heap.size wb (W3.drewN nq).drew) := inferInstance
  generalize W3.drewN nq = W4 at *
  refine sq_region (S := fun W' => K0 (Below wb.heap.size wb W')) [(0, false), (1, false), (2, false), (3, false), (4, false), (5, false), (7, false), (8, false), (9, false), (10, false), (11, false), (12, false), (13, false), (6, true), (14, true), (15, true), (16, false)] (by kernel_rfl) (by kernel_rfl) kd (fun hS => ?_)
  repeat (refine sq_n ?_ ?_ rfl ?_ ?_ ?_; rotate_left 2; (intro W hW; go_simp; first | done | with_reducible rfl); (simp only [List.setIfInBounds_toArray, List.set_cons_zero, List.set_cons_succ]; try rfl))
  refine sq_1n rfl (fun hS K hK => ?_)
  go_simp
  go_at_call 18
  refine (lcopyRuns_call A1 c1 xi.f1 W4.drew (Kd.C_below HX.out.2.2.2.2.2.1.2 (tw _).out) HX.out.2.2.2.2.2.1.1 HX.out.2.2.1.1 HX.out.2.2.1.2).mono ?_
  rintro ex W5 ⟨v5, rfl, hS5, hb5⟩
  have k5 : K0 (Below wb.heap.size wb W5) := ⟨kd.out.trans (hb5.mono kd.out.size)⟩
  refine hK.out _ _ k5 (fun hS => ?_)
  refine sq_1n rfl (fun hS K hK => ?_)
  go_simp
  go_at_call 18
  refine (lcopyRuns_call A2 c2 xj.f1 W5 (Kd.C_below HX.out.2.2.2.2.2.2.2 (tw _).out) HX.out.2.2.2.2.2.2.1 HX.out.2.2.2.1.1 HX.out.2.2.2.1.2).mono ?_
  rintro ex W6 ⟨v6, rfl, hS6, hb6⟩
  have k6 : K0 (Below wb.heap.size wb W6) := ⟨k5.out.trans (hb6.mono k5.out.size)⟩
  obtain ⟨A5, c5, rfl⟩ := Kd.S_slice hS5
  obtain ⟨A6, c6, rfl⟩ := Kd.S_slice hS6
  refine hK.out _ _ k6 (fun hS => ?_)
  refine sq_1n rfl (fun hS K hK => ?_)
  refine Eq.mp (if_pos yes_n) (S_cat_step (ops := #[]) (Kc := K) k60 (w0 := wb) (W := W6) wb.heap.size yes_n (.tmp 48) (.tmp 56) 38 60 (.agg #[(.slice none 0 0)]) 24 rfl Try.underlying38 info60 rfl (by decide) (by omega) (.slice A5 xi.f1.length c5) xi.f1 xj.f1 A6 xj.f1.length c6 (fun _ => True) (fun q => q < W5.heap.size) (fun q => W5.heap.size ≤ q) rfl rfl (Kd.S_lower (Kd.S_below (Kd.S_mono (Kd.S_bound hS5) (fun q hq => hq.2.2.1)) hb6) kd.out.size) (Kd.S_lower (Kd.S_mono (Kd.S_bound hS6) (fun q hq => hq.2.1)) k5.out.size) (fun q h1 h2 => by omega) (fun q hq => trivial) (fun q hq => trivial) (fun q hq => trivial) k6.out k6.out.size (by have := HX.out.2.2.1.1; have := HX.out.2.2.2.1.1; omega) ?_)
  intro v7 W7 hS7 hb7 hg7 hat
  obtain ⟨A7, c7, rfl⟩ := Kd.S_slice hS7
  obtain ⟨m7, hm7⟩ : ∃ m, (xi.f1 ++ xj.f1).length = m := ⟨_, rfl⟩
  rw [hm7] at hS7 hat ⊢
  have k7 : K0 (Below wb.heap.size wb W7) := ⟨hb7⟩
  have hR7 := Kd.S_R hS7
  have H7 := Aside0.mk (And.intro hR7 hm7)
  clear hS5 hb5 hS6 hb6 hS7 hb7 hg7 hat hR7 hm7
  refine hK.out _ _ k7 (fun hS => ?_)
  repeat (refine sq_n ?_ ?_ rfl ?_ ?_ ?_; rotate_left 2; (intro W hW; go_simp; first | done | with_reducible rfl); (simp only [List.setIfInBounds_toArray, List.set_cons_zero, List.set_cons_succ]; try rfl))
  refine sq_done (fun hS => ?_)
  clear hK hS k5 k6 kd kq k3 y2 y6 hsum d3 d1
  go_upto_region 7 with (fail)
  have hlo : o < wb.heap.size := blk_lt H0.out.2.2.2.2.2
  have ho1 : w.heap.size + 1 = o := H0.out.2.2.2.2.1
  have ho7 := (k7.out.block o hlo).trans H0.out.2.2.2.2.2
  have y0k : ∀ W [K0 (KeepBut W7 W o none)], W.cell? ⟨w.heap.size, 0, none⟩ = some (.slice (some ad) ts.length c) := fun W k => kb_cell k.out (y0 W7) (by show w.heap.size ≠ o; omega)
  have y1k : ∀ W [K0 (KeepBut W7 W o none)], W.cell? (ad.add (i * 2)) = some (.string xi.f0) := fun W k => kb_cell k.out (y1 W7) (by have := HL.out.2.2; omega)
  have kk7 : K0 (KeepBut W7 W7.drew o none) := ⟨⟨Nat.le_refl _, fun _ _ _ _ => rfl⟩⟩
  have H8 := Aside0.mk (And.intro ho7 hlo)
  clear y0 y1 y4 kb kr ho7 ho1 hlo
  refine sq_region (S := fun W' => K0 (KeepBut W7 W' o none)) [(0, false), (1, false), (2, false), (3, false), (4, false), (5, false), (6, false), (7, false), (8, false), (9, false), (10, false), (11, false), (12, true), (13, true), (14, true)] (by kernel_rfl) (by kernel_rfl) kk7 (fun hS => ?_)
  repeat (refine sq_n ?_ ?_ rfl ?_ ?_ ?_; rotate_left 2; (intro W hW; go_simp; first | done | with_reducible rfl); (simp only [List.setIfInBounds_toArray, List.set_cons_zero, List.set_cons_succ]; try rfl))
  refine sq_1n rfl (fun hS K hK => ?_)
  go_wp2_with fail
  obtain ⟨Wl, hWl⟩ : ∃ W, W = (W7.alloc (.cells #[.string xi.f0, .slice A7 m7 c7] 40)).drew := ⟨_, rfl⟩
  have hl0 : Wl.heap[W7.heap.size]? = some (.cells #[.string xi.f0, .slice A7 m7 c7] 40 (0, 0)) := hWl ▸ heap_alloc_new W7 _
  have hbl : Below W7.heap.size W7 Wl := hWl ▸ below_drew1 (Below.alloc (Below.refl _ _) (Nat.le_refl _) _)
  have kl : K0 (KeepBut W7 Wl o none) := ⟨KeepBut.of_below hbl o none⟩
  have hbwl : Below wb.heap.size wb Wl := k7.out.trans (hbl.mono k7.out.size)
  have hC1 : (Kd.raw 2).C Wl (some ⟨W7.heap.size, 0, none⟩) 1 [[.string xi.f0, .slice A7 m7 c7]] := ⟨rfl, by decide, fun _ => ⟨_, rfl, fun j p hj => by
    obtain ⟨hj0, hp⟩ := List.getElem?_eq_some_iff.1 hj
    obtain rfl : j = 0 := by simp at hj0; exact hj0
    subst hp
    refine ⟨_, rfl, ⟨rfl, rfl, fun u hu => by simp at hu; rcases hu with rfl | rfl <;> rfl⟩, fun q u hu => ?_⟩
    rw [add_at, blk_cell hl0]
    rw [Nat.zero_mul, Nat.zero_add, Nat.zero_add]
    simpa using hu⟩⟩
  have hPw : ∀ W, KeepBut Wl W o none → PwR (k40.K W) [(⟨xi.f0, xi.f1 ++ xj.f1⟩ : IT)] [[.string xi.f0, .slice A7 m7 c7]] := fun W hW => by
    have hR := Kd.R_step (w1 := W) (Kd.R_mono (ok' := fun q => wb.heap.size ≤ q ∧ q < W7.heap.size) (Kd.R_bound H7.out.1) (fun q hq => ⟨hq.2.1, hq.2.2.1⟩)) (fun q hq hlt => (hW.2 q (Nat.lt_of_lt_of_le hlt hbl.size) (by have := H8.out.2; omega) (by simp)).trans (hbl.block q hlt))
    obtain ⟨h1, h2, h3⟩ := Kd.R_reads' hR
    have hk := k40_mk W (⟨xi.f0, xi.f1 ++ xj.f1⟩ : IT) (A1 := A7) (c1 := c7) (by show (xi.f1 ++ xj.f1).length ≤ c7; rw [H7.out.2]; exact h2) h3
    refine ⟨rfl, fun m x hx => ?_⟩
    obtain ⟨hm0, hp⟩ := List.getElem?_eq_some_iff.1 hx
    obtain rfl : m = 0 := by simp at hm0; exact hm0
    refine ⟨_, rfl, ?_⟩
    have hp' : (⟨xi.f0, xi.f1 ++ xj.f1⟩ : IT) = x := hp
    subst hp'
    have h4 : (xi.f1 ++ xj.f1).length = m7 := H7.out.2
    rw [← h4]
    exact hk
  rw [← hWl]
  clear hWl
  refine hK.out _ _ kl (fun hS => ?_)
  refine sq_1n rfl (fun hS K hK => ?_)
  go_simp
  go_at_call 19
  refine (replace_call (some ad) c ts i (i + 2) (some ⟨W7.heap.size, 0, none⟩) 1 [(⟨xi.f0, xi.f1 ++ xj.f1⟩ : IT)] Wl (Kd.C_below H0.out.2.1 hbwl) H0.out.2.2.1 H0.out.2.2.2.1 (by omega) (by have := HL.out.1; have := HKi.out; omega) o (Nat.lt_of_lt_of_le H8.out.2 hbwl.size) _ ⟨hC1, hPw⟩ (show 1 ≤ 1048576 by decide)).mono ?_
  have hr0 : ts.take i ++ [(⟨xi.f0, xi.f1 ++ xj.f1⟩ : IT)] ++ ts.drop (i + 2) = mergeAt ts i := by unfold mergeAt; rw [← HKi.out, HX.out.1, HX.out.2.1]; simp
  rw [hr0]
  obtain ⟨r, hr⟩ : ∃ r, mergeAt ts i = r := ⟨_, rfl⟩
  rw [hr]
  rintro ex W8 ⟨B, cb, rfl, hle, hC8, hb8⟩
  have hbw8 : Below wb.heap.size wb W8 := hbwl.trans (hb8.mono hbwl.size)
  have ho8 := (hbw8.block o H8.out.2).trans H0.out.2.2.2.2.2
  have k8 : K0 (KeepBut W7 W8 o none) := ⟨kl.out.trans (KeepBut.of_below hb8 o none) (.inl rfl)⟩
  have k9 : K0 (KeepBut W7 (W8.setCell ⟨o, 0, none⟩ (.slice B r.length cb)) o none) := ⟨k8.out.set_ 0 _⟩
  have o8 : W8.cell? ⟨o, 0, none⟩ = some (.slice none 0 0) := (blk_cell ho8 0).trans rfl
  have fo := blk_frozen ho8 0
  have HE := Aside0.mk (And.intro hr (And.intro hle (And.intro (hC8 (W8.setCell ⟨o, 0, none⟩ (.slice B r.length cb)) ((KeepBut.refl W8 o none).set_ 0 _)) (And.intro ((H0.out.1.trans (hbw8.mono H0.out.1.size)).setCell (p := ⟨o, 0, none⟩) (by show w.heap.size ≤ o; have := H0.out.2.2.2.2.1; omega) (.slice B r.length cb)) ho8))))
  clear hC1 hPw hr0 hr hle hC8 hb8 hbw8 ho8 hl0 hbl hbwl
  refine hK.out _ _ k8 (fun hS => ?_)
  refine sq_1n rfl (fun hS K hK => ?_)
  go_wp2_with fail
  refine hK.out _ _ k9 (fun hS => ?_)
  refine sq_done (fun hS => ?_)
  go_wp2_with fail
  refine bodyPost_ret (results_cell_row rfl _ _ o 28 _ (0, 0) _ rfl (blk_put HE.out.2.2.2.2 0 (.slice B r.length cb) (cs' := #[.slice B r.length cb]) rfl) Try.underlying28 rfl (by kernel_rfl)) rfl ⟨B, cb, r, .inr ⟨HV.out.1, i, HI.out, .inr ⟨fun hkm => ?_, HE.out.1.symm⟩⟩, rfl, HE.out.2.1, HE.out.2.2.1, HE.out.2.2.2.1⟩
  rcases hkm with hkm | hkm
  · have := HL.out.1; have := HKi.out; omega
  · rw [← HKi.out, HX.out.1, HX.out.2.1] at hkm
    have := HF.out; have := HX.out.2.2.2.2.1; omega
end Go.Proofs.Ytjlggfdmfchncaa.Q

namespace Go.Proofs.Ytjlggfdmfchncaa.Q
open Go.RowKit Go.Proofs.YtjlggfdmfchncaaW.PrintWords Go.Proofs.YtjlggfdmfchncaaW.PrintLast Go.Proofs.YtjlggfdmfchncaaW.PrintMore
set_option linter.unusedVariables false
set_option linter.unusedSimpArgs false
theorem below_kept1 {w0 w W : World} {r : Option Nat} (h0 : Below w0.heap.size w0 w) (hg : w.grownBy W r) (hr : ∀ k, r = some k → w0.heap.size ≤ k) : Below w0.heap.size w0 W :=
  ⟨hg.os.trans h0.os, hg.tape.trans h0.tape, hg.output.trans h0.output, Nat.le_trans h0.size hg.size, fun k hk => (hg.block k (Nat.lt_of_lt_of_le hk h0.size) (fun he => by have := hr k he.symm; omega)).trans (h0.block k hk)⟩
theorem toTablet_is (x : LT) (h : bT x) : Ev (fun k => laws_toTablet.f k x.f0 x.f1) (x.f0, x.f1.map cvR) := Ev.bind (toRunS_is x.f1 h.1 h.2) (Ev.now _)
set_option maxHeartbeats 8000000 in
set_option maxRecDepth 100000 in
theorem toTabS_call (A : Option Addr) (c : Nat) (l : List LT) (w : World) (hr : Kd.C k56 w A l.length l) (hc : l.length ≤ c) (hl : l.length ≤ 1048576) (hq : ∀ q ∈ l, bT q) :
    Calls Try.prog 20 #[.slice A l.length c] w fun e w' => ∃ v, e = .returned v ∧ Kd.S kTb 40 w' w.heap.size (fun _ => True) v (l.map cvT) ∧ Below w.heap.size w w' := by
  have kr : K0 (Below w.heap.size w w) := ⟨Below.refl _ _⟩
  have HR := Aside0.mk (And.intro hr (And.intro hc (And.intro hl hq)))
  obtain ⟨n, hn⟩ : ∃ n, l.length = n := ⟨_, rfl⟩
  rw [hn] at hr ⊢
  have HR0 := Aside0.mk hr
  have HN := Aside0.mk hn
  have d1 : decide (0 ≤ (n : Int)) = true := decide_eq_true (by omega)
  have d2 : decide ((n : Int).toNat ≤ 7036874417766) = true := decide_eq_true (by omega)
  clear hr hc hl hq hn
  go_enter Try.func20, Try.ntmps20
  go_wp2_with ((with_reducible refine gate_dst (N := 7) rfl ?_); refine Kd.S_make kTb (w0 := w) w.heap.size 40 rfl (N := 7) rfl 26 _ _ rfl (n : Int) rfl rfl Try.underlying26 (.agg #[(.string ⟨#[]⟩), (.slice none 0 0)]) 40 info40 rfl (by decide) (by omega) z40 (ok := fun _ => True) (okp := fun _ => True) (kTb_mkM _ _ _ z40 (Kd.S_nil _ _ _ _ _)) (fun _ hk => hk) trivial (by omega) (by have := HR.out.2.2.1; have := HN.out; omega) (Below.refl _ _) (Nat.le_refl _) ?_; intro v1 w1 ho hb hg hat; obtain ⟨A1, c1, e1⟩ := Kd.S_slice ho; rw [List.length_replicate, Int.toNat_natCast] at e1; subst e1; rw [Int.toNat_natCast] at ho; have HG := Aside0.mk (And.intro ho hb); clear ho hb hg hat)
  have HS0 := Aside0.mk (show Kd.S kTb 40 w1 w.heap.size (fun _ => True) (.slice A1 n c1) ((l.take 0).map cvT ++ List.replicate (n - 0) z40) from HG.out.1)
  have HB0 := Aside0.mk HG.out.2
  clear HG
  go_loopw [4] (fun v4 W => ∃ (j : Nat), j ≤ n ∧ v4 = .int .i64 j ∧ Aside0 (Kd.S kTb 40 W w.heap.size (fun _ => True) (.slice A1 n c1) ((l.take j).map cvT ++ List.replicate (n - j) z40)) ∧ Aside0 (Below w.heap.size w W)) (fun v4 _ => n - (intOf v4).toNat)
  case atStart => exact ⟨0, by omega, rfl, HS0, HB0⟩
  case round =>
    clear HS0 HB0
    obtain ⟨j, hj, rfl, HS, HB⟩ := hrel
    have kW : K0 (Below w.heap.size w wr) := ⟨HB.out⟩
    by_cases hlt : j < n
    · have dl : decide ((j : Int) < (n : Int)) = true := decide_eq_true (by omega)
      have hwj : IntKind.i64.wrap ((j : Int) + 1) = ((j + 1 : Nat) : Int) := by have := HR.out.2.2.1; have := HN.out; rw [IntKind.wrap_i64]; omega
      obtain ⟨ad, A0, c0, e0, y0, y1, hc0, hC0⟩ := at_T56 HR0.out (j : Int) (by omega) (by omega)
      subst e0
      obtain ⟨x, hX⟩ : ∃ x, rd_T56 l (j : Int) = x := ⟨_, rfl⟩
      have hxj : l[j]? = some x := by rw [← hX]; unfold rd_T56; rw [Int.toNat_natCast, List.getD_eq_getElem?_getD]; have := HN.out; simp [show j < l.length by omega]
      rw [hX] at y0 y1 hc0 hC0
      rw [Int.toNat_natCast] at y0 y1
      have y0 := clk y0
      have y1 := clk y1
      have htk : (l.take (j + 1)).map cvT = (l.take j).map cvT ++ [cvT x] := by rw [List.take_add_one, hxj]; simp
      have hlen : ((l.take j).map cvT).length = j := by rw [List.length_map, List.length_take]; have := HN.out; omega
      have hrep : List.replicate (n - j) z40 = z40 :: List.replicate (n - (j + 1)) z40 := by rw [show n - j = (n - (j + 1)) + 1 by omega]; rfl
      have hbx : bT x := HR.out.2.2.2 x (List.mem_of_getElem? hxj)
      obtain ⟨K, hK⟩ := toTablet_is x hbx
      have HC := Aside0.mk (laws_toTablet.calls K x.f0 A0 c0 x.f1 x.f0 (x.f1.map cvR) wr (Kd.C_below hC0 HB.out) hc0 (hK K (Nat.le_refl _)))
      have HX := Aside0.mk (And.intro htk (And.intro hlen hrep))
      clear hc0 hC0 hX hxj htk hlen hrep hbx hK
      go_wp2_with fail
      refine HC.out.mono ?_
      rintro ex W1 ⟨v1, rfl, hR, hb⟩
      obtain ⟨A2, c2, rfl⟩ := Kd.S_slice hR
      obtain ⟨g, cap, e4, hgB, hgl, -⟩ := Kd.S_form HS.out (by rw [HX.out.2.2, List.length_append, List.length_cons]; omega)
      injection e4 with e5 e6 e7
      clear e6 e7
      subst e5
      have hS1 := Kd.S_below (Kd.S_mono (ok' := fun k => True ∧ ¬ (wr.heap.size ≤ k)) (Kd.S_bound HS.out) (fun k hk => ⟨trivial, by have := hk.2.2.1; omega⟩)) hb
      obtain ⟨oki, cs, hcl, hM, hcc, hfr, hoki, hH⟩ := Kd.S_elem hS1 z40 (j : Int) (by omega) (by omega)
      obtain ⟨v0, rfl, hR0⟩ := kTb_openM hM
      rw [Int.toNat_natCast] at hcc hfr
      have q0 : W1.cell? ⟨g, j * 2, none⟩ = some (.string _) := hcc 0 _ rfl
      have q1 : W1.cell? ⟨g, j * 2 + 1, none⟩ = some v0 := hcc 1 _ rfl
      have f0 : W1.frozen? ⟨g, j * 2, none⟩ = false := hfr 0
      have f1 : W1.frozen? ⟨g, j * 2 + 1, none⟩ = false := hfr 1
      obtain ⟨hS2, hg2⟩ := Kd.S_seg hH (by omega) (by omega) (seg := [.string x.f0, .slice A2 (x.f1.map cvR).length c2]) (j := 0) (show 0 + 2 ≤ 2 by omega) (x' := cvT x) (okp := fun k => wr.heap.size ≤ k)
        (kTb_mkM W1 w.heap.size (fun k => wr.heap.size ≤ k) (cvT x) (Kd.S_lower (Kd.S_mono (ok' := fun k => wr.heap.size ≤ k) (Kd.S_bound hR) (fun k hk => hk.2.1)) HB.out.size)) (fun k hk => .inr hk) (fun k hk => ⟨trivial, by omega⟩)
      have hset : ((l.take j).map cvT ++ List.replicate (n - j) z40).set (j : Int).toNat (cvT x) = (l.take (j + 1)).map cvT ++ List.replicate (n - (j + 1)) z40 := by rw [Int.toNat_natCast, HX.out.2.2, HX.out.1, List.set_append_right _ _ (by have := HX.out.2.1; omega), HX.out.2.1, Nat.sub_self, List.set_cons_zero]; simp
      have hw : W1.setCells g ((j : Int).toNat * kTb.sz + 0) [.string x.f0, .slice A2 (x.f1.map cvR).length c2] = (W1.setCell ⟨g, j * 2, none⟩ (.string x.f0)).setCell ⟨g, j * 2 + 1, none⟩ (.slice A2 x.f1.length c2) := by rw [Int.toNat_natCast, List.length_map]; rfl
      rw [hset, hw] at hS2
      rw [hw] at hg2
      have hB1 : Below w.heap.size w W1 := HB.out.trans (hb.mono HB.out.size)
      have HY := Aside0.mk (And.intro hS2 (below_kept1 hB1 hg2 (fun k hk => by cases hk; exact hgB)))
      clear hcl hM hcc hfr hoki hH hS1 hR0 hset hw hS2 hg2 hB1 hR hb HS
      go_wp2_with fail
      go_roundw
      case measure => simp only [intOf]; omega
      case rel => exact ⟨j + 1, by omega, by rw [Int.natCast_add]; rfl, ⟨HY.out.1⟩, ⟨HY.out.2⟩⟩
    · obtain rfl : j = n := by omega
      have dl : decide ((j : Int) < (j : Int)) = false := decide_eq_false (by omega)
      go_wp2
      go_ret
      refine ⟨_, rfl, ?_, HB.out⟩
      have h := HS.out
      rw [Nat.sub_self, show l.take j = l from by rw [← HN.out]; exact List.take_length] at h
      simpa using h
set_option maxHeartbeats 4000000 in
set_option maxRecDepth 100000 in
theorem toStore_call (A : Option Addr) (c : Nat) (l : List LT) (w : World) (hr : Kd.C k56 w A l.length l) (hc : l.length ≤ c) (hl : l.length ≤ 1048576) (hq : ∀ q ∈ l, bT q) :
    Calls Try.prog 7 #[.agg #[.slice A l.length c]] w fun e w' => ∃ v, e = .returned (.agg #[v]) ∧ Kd.S kTb 40 w' w.heap.size (fun _ => True) v (l.map cvT) ∧ Below w.heap.size w w' := by
  have kr : K0 (Below w.heap.size w w) := ⟨Below.refl _ _⟩
  obtain ⟨wb, hwb⟩ : ∃ wb, wb = ((w.alloc (.cells #[.slice A l.length c] 24)).alloc (.cells #[.slice none 0 0] 28)).alloc (.cells #[.slice none 0 0] 28) := ⟨_, rfl⟩
  have hb0 : Below w.heap.size w wb := hwb ▸ kk
  have h1 : wb.heap[w.heap.size]? = some (.cells #[.slice A l.length c] 24 (0, 0)) := hwb ▸ blk_alloc (blk_alloc (heap_alloc_new w _) _) _
  have h2 : wb.heap[w.heap.size + 1]? = some (.cells #[.slice none 0 0] 28 (0, 0)) := hwb ▸ old1 w _ _ _
  have h3 : wb.heap[w.heap.size + 1 + 1]? = some (.cells #[.slice none 0 0] 28 (0, 0)) := hwb ▸ new2 w _ _ _
  have y0 : wb.cell? ⟨w.heap.size, 0, none⟩ = some (.slice A l.length c) := (blk_cell h1 0).trans rfl
  have HC := Aside0.mk (And.intro hb0 (And.intro (toTabS_call A c l wb (Kd.C_below hr hb0) hc hl hq) (And.intro h2 h3)))
  clear hr hc hl hq hb0 h1 h2 h3
  go_enter Try.func7, Try.ntmps7
  go_wp2_with fail
  rw [← hwb]
  clear hwb
  refine HC.out.2.1.mono ?_
  rintro ex W1 ⟨v, rfl, hS, hb⟩
  have h2 := (hb.block _ (blk_lt HC.out.2.2.1)).trans HC.out.2.2.1
  have h3 := (hb.block _ (blk_lt HC.out.2.2.2)).trans HC.out.2.2.2
  have q0 : W1.cell? ⟨w.heap.size + 1, 0, none⟩ = some (.slice none 0 0) := (blk_cell h2 0).trans rfl
  have q1 : W1.cell? ⟨w.heap.size + 1 + 1, 0, none⟩ = some (.slice none 0 0) := (blk_cell h3 0).trans rfl
  have f0 := blk_frozen h2 0
  have f1 := blk_frozen h3 0
  have hlt := blk_lt HC.out.2.2.2
  have HY := Aside0.mk (And.intro (Kd.S_mono (ok' := fun k => k ≠ w.heap.size + 1 ∧ k ≠ w.heap.size + 1 + 1) (Kd.S_bound hS) (fun k hk => by have := hk.2.1; omega)) (And.intro (HC.out.1.trans (hb.mono HC.out.1.size)) (And.intro h2 h3)))
  clear hS hb h2 h3 hlt
  obtain ⟨A1, c1, rfl⟩ := Kd.S_slice HY.out.1
  go_wp2_with fail
  have hS := HY.out.1
  rw [List.length_map] at hS
  have b1 := blk_put (blk_far HY.out.2.2.1 (p := ⟨w.heap.size + 1 + 1, 0, none⟩) (show w.heap.size + 1 ≠ w.heap.size + 1 + 1 by omega) (.slice A1 l.length c1)) 0 (.slice A1 l.length c1) (cs' := #[.slice A1 l.length c1]) rfl
  refine bodyPost_ret (results_cell_row rfl _ _ (w.heap.size + 1) 28 _ (0, 0) _ rfl b1 Try.underlying28 rfl (by kernel_rfl)) rfl ⟨_, rfl, Kd.S_mono (Kd.S_far (p := ⟨w.heap.size + 1, 0, none⟩) (Kd.S_far (p := ⟨w.heap.size + 1 + 1, 0, none⟩) (Kd.S_lower hS HC.out.1.size) (fun k hk => hk.2) _) (fun k hk => hk.1) _) (fun _ _ => trivial), (HY.out.2.1.setCell (p := ⟨w.heap.size + 1 + 1, 0, none⟩) (by show w.heap.size ≤ w.heap.size + 1 + 1; omega) _).setCell (p := ⟨w.heap.size + 1, 0, none⟩) (by show w.heap.size ≤ w.heap.size + 1; omega) _⟩
end Go.Proofs.Ytjlggfdmfchncaa.Q

namespace Go.Proofs.Ytjlggfdmfchncaa.Q
open Go.RowKit Go.Proofs.YtjlggfdmfchncaaW.PrintWords Go.Proofs.YtjlggfdmfchncaaW.PrintLast Go.Proofs.YtjlggfdmfchncaaW.PrintMore
set_option linter.unusedVariables false
set_option linter.unusedSimpArgs false

/-! ### laws_markText: function 44 -/
def laws_markText.l0 : Nat → Int → ByteArray → Option (ByteArray)
 | 0, _, _ => none
 | k + 1, x0, x3 => if x0 > 0 then ((some (([(wrap64 (48 + (Int.tmod x0 10))) % 256] : List Int) : List Int)).bind fun y352 => (if (strOfNums y352).size + x3.size ≤ 9223372036854775807 then (laws_markText.l0 k (wrap64 (Int.tdiv x0 10)) ((strOfNums y352) ++ x3)) else (none))) else (if 1 + x3.size ≤ 9223372036854775807 then (some ((⟨#[109]⟩ : ByteArray) ++ x3)) else (none))
def laws_markText.f (k : Nat) (a0 : Int) : Option (ByteArray) := if a0 ≤ 0 then (some (⟨#[109, 48]⟩ : ByteArray)) else (laws_markText.l0 k a0 (⟨#[]⟩ : ByteArray))
set_option maxHeartbeats 8000000 in
set_option maxRecDepth 100000 in
theorem laws_markText.calls (k : Nat) (a0 : Int) (r : ByteArray) (w : World) (h : laws_markText.f k a0 = some r) :
  Calls Try.prog 44 #[.int .i64 a0] w fun e w' => e = .returned (.string r) ∧ Below w.heap.size w w' := by
 have HB := Aside0.mk (Below.refl w.heap.size w)
 have H : (if a0 ≤ 0 then (some (⟨#[109, 48]⟩ : ByteArray)) else (laws_markText.l0 k a0 (⟨#[]⟩ : ByteArray))) = some r := h
 clear h
 by_cases c2 : a0 ≤ 0
 ·rw [if_pos c2] at H
  have c2b0 : decide (a0 ≤ 0) = true := decide_eq_true c2
  clear c2
  obtain rfl := Option.some.inj H
  go_enter Try.func44, Try.ntmps44
  go_wp2
  go_ret
  exact ⟨by first | rfl | (simp [errW_none, errW_some] <;> rfl) | (simp [*, errW_none, errW_some] <;> rfl), bw⟩
 ·rw [if_neg c2] at H
  have c2b0 : decide (a0 ≤ 0) = false := decide_eq_false c2
  clear c2
  have H' := Aside0.mk H
  clear H
  go_enter Try.func44, Try.ntmps44
  go_wp2
  go_loopg [0, 3] k (fun kq v0 v3 w' => ∃ (x0_1 : Int) (x3_1 : ByteArray), v0 = .int .i64 x0_1 ∧ v3 = .string x3_1 ∧ Aside0 (laws_markText.l0 kq x0_1 x3_1 = some r) ∧ Aside0 (kq ≤ k) ∧ Aside0 (Below w.heap.size w w'))
  case atStart => exact ⟨(a0), ((⟨#[]⟩ : ByteArray)), (by first | rfl | (simp; done) | (simp [*]; done)), (by first | rfl | (simp; done) | (simp [*]; done)), H', ⟨Nat.le_refl _⟩, ⟨bw⟩⟩
  case round =>
   clear H'
   try clear c2
   try clear c2b0
   try clear p2
   obtain ⟨x0_1, x3_1, rfl, rfl, HA, HK1, HB⟩ := hrel
   cases gk with
   | zero => exact absurd HA.out (by simp [laws_markText.l0])
   | succ k1 =>
    have H := HA.out
    clear HA
    simp only [laws_markText.l0] at H
    by_cases c3 : x0_1 > 0
    ·rw [if_pos c3] at H
     have c3b0 : decide (0 < x0_1) = true := decide_eq_true c3
     clear c3
     obtain ⟨y352, hy352⟩ : ∃ y_ : List Int, y_ = (([(wrap64 (48 + (Int.tmod x0_1 10))) % 256] : List Int)) := ⟨_, rfl⟩
     replace H : (if (strOfNums y352).size + x3_1.size ≤ 9223372036854775807 then (laws_markText.l0 k1 (wrap64 (Int.tdiv x0_1 10)) ((strOfNums y352) ++ x3_1)) else (none)) = some r := by first | (rw [hy352]; with_reducible exact H) | (have H2_ := (Option.bind_some _ _).symm.trans H; rw [hy352]; with_reducible exact H2_) | (have H2_ := (Option.bind_some _ _).symm.trans H; with_reducible exact H2_) | with_reducible exact H | (rw [hy352]; exact H) | exact H
     have Ny352 := Aside0.mk hy352
     clear hy352
     by_cases c4 : (strOfNums y352).size + x3_1.size ≤ 9223372036854775807
     ·rw [if_pos c4] at H
      have c4b0 := eq_true c4
      have c4b1 : decide ((strOfNums y352).size + x3_1.size ≤ 9223372036854775807) = true := decide_eq_true c4
      try have c4b2 : (9223372036854775807 < (strOfNums y352).size + x3_1.size) = False := eq_false (Nat.not_lt.2 c4)
      have H' := Aside0.mk H
      clear H
      go_wp2_with (first | ((with_reducible refine gate_dst (N := 12) rfl ?_); refine Kd.R_lit (Kd.int .u8) _ 5 ?hg (N := 12) ?hd (xs := ([(wrap64 (48 + (Int.tmod x0_1 10))) % 256] : List Int)) (inner := [.int .u8 ((wrap64 (48 + (Int.tmod x0_1 10))) % 256)]) (ok := fun _ => True) (okp := fun _ => True) ?hr ?hp (fun _ hk => hk) trivial (Below.refl _ _) (Nat.le_refl _) (by simp) ?_; (case hd => rfl); (case hg => rfl); (case hr => first | (go_simp; done) | (go_simp; rfl)); (case hp => exact (Reps.one (show Kd.M (Kd.int .u8) _ _ _ ((wrap64 (48 + (Int.tmod x0_1 10))) % 256) [.int .u8 ((wrap64 (48 + (Int.tmod x0_1 10))) % 256)] from rfl) (Reps.none _ _))); intro v353 w5 ho6 hb hg_ hnew_; clear hg_ hnew_; (first | rw [← Ny352.out] at ho6 | (simp only [Int.reduceToNat] at ho6; rw [← Ny352.out] at ho6)); have n0_ := Aside0.mk (Kd.R_lower ho6 (below_size bw)); have n1_ := Aside0.mk (below_step bw hb); clear HB; have HO354 := n0_; have HB := n1_; clear n0_ n1_; clear hb ho6; have hcv7 := own_string (P := Try.prog) Try.underlying83 Try.underlying5 Try.underlying9 (Kd.own_of_R HO354.out)))
      go_roundg k1
      case measure => have := HK1.out; omega
      case rel => exact ⟨(wrap64 (Int.tdiv x0_1 10)), ((strOfNums y352) ++ x3_1), (by first | rfl | (simp; done) | (simp [*]; done)), (by first | rfl | (simp; done) | (simp [*]; done)), H', ⟨by have := HK1.out; omega⟩, ⟨bw⟩⟩
     ·rw [if_neg c4] at H
      exact absurd H (by simp)
    ·rw [if_neg c3] at H
     have c3b0 : decide (0 < x0_1) = false := decide_eq_false c3
     clear c3
     by_cases c8 : 1 + x3_1.size ≤ 9223372036854775807
     ·rw [if_pos c8] at H
      have c8b0 := eq_true c8
      have c8b1 : decide (1 + x3_1.size ≤ 9223372036854775807) = true := decide_eq_true c8
      try have c8b2 : (9223372036854775807 < 1 + x3_1.size) = False := eq_false (Nat.not_lt.2 c8)
      obtain rfl := Option.some.inj H
      go_wp2
      go_ret
      exact ⟨by first | rfl | (simp [errW_none, errW_some] <;> rfl) | (simp [*, errW_none, errW_some] <;> rfl), bw⟩
     ·rw [if_neg c8] at H
      exact absurd H (by simp)

end Go.Proofs.Ytjlggfdmfchncaa.Q

namespace Go.Proofs.Ytjlggfdmfchncaa.Q
open Go.RowKit Go.Proofs.YtjlggfdmfchncaaW.PrintWords Go.Proofs.YtjlggfdmfchncaaW.PrintLast
set_option linter.unusedVariables false
set_option linter.unusedSimpArgs false
theorem mkOne (x : Int) : (strOfNums [x]).size = 1 := by first | rfl | simp [strOfNums]
theorem mkText_loop : ∀ (f : Nat) (x : Int) (s : ByteArray), 0 ≤ x → x ≤ 9223372036854775807 → x < 10 ^ f → s.size + f < 1000 → ∃ t, Ev (fun k => laws_markText.l0 k x s) t
  | 0, x, s, h0, hm, h1, hs => by
    have h2 : x = 0 := by simp at h1; omega
    subst h2
    exact ⟨_, Ev.shift 1 fun k => by simp only [laws_markText.l0]; rw [if_neg (by omega), if_pos (by omega)]⟩
  | f + 1, x, s, h0, hm, h1, hs => by
    by_cases h2 : x > 0
    · have hx : wrap64 (Int.tdiv x 10) = x / 10 := by
        rw [Int.tdiv_eq_ediv_of_nonneg h0]
        exact wrap_id _ (by omega) (by omega)
      obtain ⟨t, ht⟩ := mkText_loop f (x / 10) (strOfNums [(wrap64 (48 + (Int.tmod x 10))) % 256] ++ s) (by omega) (by omega) (by rw [Int.pow_succ] at h1; omega) (by rw [ByteArray.size_append, mkOne]; omega)
      refine ⟨t, Ev.round (fun k => ?_) ht⟩
      simp only [laws_markText.l0]; rw [if_pos h2]; simp only [Option.bind_some]; rw [if_pos (by rw [mkOne]; omega), hx]
    · exact ⟨_, Ev.shift 1 fun k => by simp only [laws_markText.l0]; rw [if_neg h2, if_pos (by omega)]⟩
theorem mkText_ev (x : Int) (h0 : 0 ≤ x) (h1 : x ≤ 9223372036854775807) : ∃ t, Ev (fun k => laws_markText.f k x) t := by
  unfold laws_markText.f
  by_cases h : x ≤ 0
  · exact ⟨_, Ev.if_pos h (Ev.now _)⟩
  · obtain ⟨t, ht⟩ := mkText_loop 19 x ⟨#[]⟩ h0 h1 (by omega) (by decide)
    exact ⟨t, Ev.if_neg h ht⟩
noncomputable def mkT (x : Int) : ByteArray := if h : 0 ≤ x ∧ x ≤ 9223372036854775807 then Classical.choose (mkText_ev x h.1 h.2) else ⟨#[]⟩
theorem mkT_ev (x : Int) (h0 : 0 ≤ x) (h1 : x ≤ 9223372036854775807) : Ev (fun k => laws_markText.f k x) (mkT x) := by
  unfold mkT
  rw [dif_pos ⟨h0, h1⟩]
  exact Classical.choose_spec (mkText_ev x h0 h1)
theorem mkT_call (x : Int) (h0 : 0 ≤ x) (h1 : x ≤ 9223372036854775807) (w : World) : Calls Try.prog 44 #[.int .i64 x] w fun e w' => e = .returned (.string (mkT x)) ∧ Below w.heap.size w w' := by
  obtain ⟨K, hK⟩ := mkT_ev x h0 h1
  exact laws_markText.calls K x (mkT x) w (hK K (Nat.le_refl _))
end Go.Proofs.Ytjlggfdmfchncaa.Q

namespace Go.Proofs.Ytjlggfdmfchncaa.Q
open Go.RowKit Go.Proofs.YtjlggfdmfchncaaW.PrintWords Go.Proofs.YtjlggfdmfchncaaW.PrintLast Go.Proofs.YtjlggfdmfchncaaW.PrintMore
set_option linter.unusedVariables false
set_option linter.unusedSimpArgs false

/-! ### laws_markEntryS: function 58 -/
def laws_markEntryS.l0 : Nat → List (S65) → Int → Int → Option (Int × (List (S65)))
 | 0, _, _, _ => none
 | k + 1, x0, x1, x5 => if x5 < (x0.length : Int) then ((laws_markText.f k x1).bind fun t355 => (if 0 ≤ x5 then ((some (x0.set (x5 : Int).toNat (⟨t355, (rd_T65 x0 x5).f1, (rd_T65 x0 x5).f2, (rd_T65 x0 x5).f3, (rd_T65 x0 x5).f4, (rd_T65 x0 x5).f5⟩ : S65) : List (S65))).bind fun y356 => ((laws_markText.f k (wrap64 (x1 + 1))).bind fun t357 => ((some (y356.set (x5 : Int).toNat (⟨(rd_T65 y356 x5).f0, t357, (rd_T65 y356 x5).f2, (rd_T65 y356 x5).f3, (rd_T65 y356 x5).f4, (rd_T65 y356 x5).f5⟩ : S65) : List (S65))).bind fun y358 => ((laws_markText.f k (wrap64 ((wrap64 (x1 + 1)) + 1))).bind fun t359 => ((some (y358.set (x5 : Int).toNat (⟨(rd_T65 y358 x5).f0, (rd_T65 y358 x5).f1, t359, (rd_T65 y358 x5).f3, (rd_T65 y358 x5).f4, (rd_T65 y358 x5).f5⟩ : S65) : List (S65))).bind fun y360 => ((some (y360.set (x5 : Int).toNat (⟨(rd_T65 y360 x5).f0, (rd_T65 y360 x5).f1, (rd_T65 y360 x5).f2, IntKind.u64.wrap (wrap64 ((wrap64 ((wrap64 (x1 + 1)) + 1)) + 1)), (rd_T65 y360 x5).f4, (rd_T65 y360 x5).f5⟩ : S65) : List (S65))).bind fun y361 => ((some (y361.set (x5 : Int).toNat (⟨(rd_T65 y361 x5).f0, (rd_T65 y361 x5).f1, (rd_T65 y361 x5).f2, (rd_T65 y361 x5).f3, wrap64 ((wrap64 ((wrap64 ((wrap64 (x1 + 1)) + 1)) + 1)) + 1), (rd_T65 y361 x5).f5⟩ : S65) : List (S65))).bind fun y362 => ((laws_markText.f k (wrap64 ((wrap64 ((wrap64 ((wrap64 ((wrap64 (x1 + 1)) + 1)) + 1)) + 1)) + 1))).bind fun t363 => (laws_markEntryS.l0 k (y362.set (x5 : Int).toNat (⟨(rd_T65 y362 x5).f0, (rd_T65 y362 x5).f1, (rd_T65 y362 x5).f2, (rd_T65 y362 x5).f3, (rd_T65 y362 x5).f4, t363⟩ : S65)) (wrap64 ((wrap64 ((wrap64 ((wrap64 ((wrap64 ((wrap64 (x1 + 1)) + 1)) + 1)) + 1)) + 1)) + 1)) (wrap64 (x5 + 1))))))))))) else (none))) else (some (x1, x0))
def laws_markEntryS.f (k : Nat) (l0 : List (S65)) (a1 : Int) : Option (Int × (List (S65))) := laws_markEntryS.l0 k l0 a1 0
set_option maxHeartbeats 8000000 in
set_option maxRecDepth 100000 in
theorem laws_markEntryS.calls (k : Nat) (P0_ : Nat → Prop) (u9000_ : Value) (l0 : List (S65)) (a1 : Int) (r1 : Int) (r2 : List (S65)) (w0 w : World) (hB : Below w0.heap.size w0 w) (ho0 : Kd.R k65 65 w w0.heap.size P0_ u9000_ l0) (h : laws_markEntryS.f k l0 a1 = some (r1, r2)) :
  Calls Try.prog 58 #[u9000_, .int .i64 a1] w fun e w' => e = .returned (.int .i64 r1) ∧ Kd.R k65 65 w' w0.heap.size (fun k_ => (P0_ k_ ∨ w.heap.size ≤ k_)) u9000_ r2 ∧ Below w0.heap.size w0 w' ∧ Kept w w' (fun k_ => P0_ k_) := by
 have HO0 := Aside0.mk (show Kd.R k65 65 w w0.heap.size (fun k_ => (P0_ k_ ∨ w.heap.size ≤ k_)) u9000_ l0 from Kd.R_mono ho0 (fun k_ hk => (.inl hk)))
 have HK := Aside0.mk (Kept.refl w (fun k_ => P0_ k_))
 have HW0 := Aside0.mk hB.size
 have HB := Aside0.mk hB
 clear hB
 have H : (laws_markEntryS.l0 k l0 a1 0) = some (r1, r2) := h
 clear h
 have H' := Aside0.mk H
 clear H
 go_enter Try.func58, Try.ntmps58
 go_wp2
 go_loopg [1, 5] k (fun kq v1 v5 w' => ∃ (x0_1 : List (S65)) (x1_1 : Int) (x5_1 : Int), v1 = .int .i64 x1_1 ∧ v5 = .int .i64 x5_1 ∧ Aside0 (laws_markEntryS.l0 kq x0_1 x1_1 x5_1 = some (r1, r2)) ∧ Aside0 (kq ≤ k) ∧ Aside0 (Kd.R k65 65 w' w0.heap.size (fun k_ => (P0_ k_ ∨ w.heap.size ≤ k_)) u9000_ x0_1) ∧ Aside0 (Kept w w' (fun k_ => P0_ k_)) ∧ Aside0 (Below w0.heap.size w0 w'))
 case atStart => exact ⟨(l0), (a1), (0), (by first | rfl | (simp; done) | (simp [*]; done)), (by first | rfl | (simp; done) | (simp [*]; done)), H', ⟨Nat.le_refl _⟩, ⟨lf HO0⟩, ⟨by repeat (first | (with_reducible first | exact HK.out | apply Kept.alloc | apply Kept.drewN | apply Kept.drew) | exact HK.out)⟩, ⟨bw⟩⟩
 case round =>
  clear H'
  try clear p2
  obtain ⟨x0_1, x1_1, x5_1, rfl, rfl, HA, HK1, HO_0, HK, HB⟩ := hrel
  cases gk with
  | zero => exact absurd HA.out (by simp [laws_markEntryS.l0])
  | succ k1 =>
   have H := HA.out
   clear HA
   simp only [laws_markEntryS.l0] at H
   by_cases c3 : x5_1 < (x0_1.length : Int)
   ·rw [if_pos c3] at H
    have c3b0 : decide (x5_1 < (x0_1.length : Int)) = true := decide_eq_true c3
    clear c3
    replace H := Option.bind_eq_some_iff.mp H
    obtain ⟨t355, A40, H⟩ := H
    replace H : (if 0 ≤ x5_1 then ((some (x0_1.set (x5_1 : Int).toNat (⟨t355, (rd_T65 x0_1 x5_1).f1, (rd_T65 x0_1 x5_1).f2, (rd_T65 x0_1 x5_1).f3, (rd_T65 x0_1 x5_1).f4, (rd_T65 x0_1 x5_1).f5⟩ : S65) : List (S65))).bind fun y356 => ((laws_markText.f k1 (wrap64 (x1_1 + 1))).bind fun t357 => ((some (y356.set (x5_1 : Int).toNat (⟨(rd_T65 y356 x5_1).f0, t357, (rd_T65 y356 x5_1).f2, (rd_T65 y356 x5_1).f3, (rd_T65 y356 x5_1).f4, (rd_T65 y356 x5_1).f5⟩ : S65) : List (S65))).bind fun y358 => ((laws_markText.f k1 (wrap64 ((wrap64 (x1_1 + 1)) + 1))).bind fun t359 => ((some (y358.set (x5_1 : Int).toNat (⟨(rd_T65 y358 x5_1).f0, (rd_T65 y358 x5_1).f1, t359, (rd_T65 y358 x5_1).f3, (rd_T65 y358 x5_1).f4, (rd_T65 y358 x5_1).f5⟩ : S65) : List (S65))).bind fun y360 => ((some (y360.set (x5_1 : Int).toNat (⟨(rd_T65 y360 x5_1).f0, (rd_T65 y360 x5_1).f1, (rd_T65 y360 x5_1).f2, IntKind.u64.wrap (wrap64 ((wrap64 ((wrap64 (x1_1 + 1)) + 1)) + 1)), (rd_T65 y360 x5_1).f4, (rd_T65 y360 x5_1).f5⟩ : S65) : List (S65))).bind fun y361 => ((some (y361.set (x5_1 : Int).toNat (⟨(rd_T65 y361 x5_1).f0, (rd_T65 y361 x5_1).f1, (rd_T65 y361 x5_1).f2, (rd_T65 y361 x5_1).f3, wrap64 ((wrap64 ((wrap64 ((wrap64 (x1_1 + 1)) + 1)) + 1)) + 1), (rd_T65 y361 x5_1).f5⟩ : S65) : List (S65))).bind fun y362 => ((laws_markText.f k1 (wrap64 ((wrap64 ((wrap64 ((wrap64 ((wrap64 (x1_1 + 1)) + 1)) + 1)) + 1)) + 1))).bind fun t363 => (laws_markEntryS.l0 k1 (y362.set (x5_1 : Int).toNat (⟨(rd_T65 y362 x5_1).f0, (rd_T65 y362 x5_1).f1, (rd_T65 y362 x5_1).f2, (rd_T65 y362 x5_1).f3, (rd_T65 y362 x5_1).f4, t363⟩ : S65)) (wrap64 ((wrap64 ((wrap64 ((wrap64 ((wrap64 ((wrap64 (x1_1 + 1)) + 1)) + 1)) + 1)) + 1)) + 1)) (wrap64 (x5_1 + 1))))))))))) else (none)) = some (r1, r2) := H
    have A4 := Aside0.mk A40
    clear A40
    by_cases c5 : 0 ≤ x5_1
    ·rw [if_pos c5] at H
     have c5b0 : decide (0 ≤ x5_1) = true := decide_eq_true c5
     clear c5
     obtain ⟨y356, hy356⟩ : ∃ y_ : List (S65), y_ = (x0_1.set (x5_1 : Int).toNat (⟨t355, (rd_T65 x0_1 x5_1).f1, (rd_T65 x0_1 x5_1).f2, (rd_T65 x0_1 x5_1).f3, (rd_T65 x0_1 x5_1).f4, (rd_T65 x0_1 x5_1).f5⟩ : S65)) := ⟨_, rfl⟩
     replace H : ((laws_markText.f k1 (wrap64 (x1_1 + 1))).bind fun t357 => ((some (y356.set (x5_1 : Int).toNat (⟨(rd_T65 y356 x5_1).f0, t357, (rd_T65 y356 x5_1).f2, (rd_T65 y356 x5_1).f3, (rd_T65 y356 x5_1).f4, (rd_T65 y356 x5_1).f5⟩ : S65) : List (S65))).bind fun y358 => ((laws_markText.f k1 (wrap64 ((wrap64 (x1_1 + 1)) + 1))).bind fun t359 => ((some (y358.set (x5_1 : Int).toNat (⟨(rd_T65 y358 x5_1).f0, (rd_T65 y358 x5_1).f1, t359, (rd_T65 y358 x5_1).f3, (rd_T65 y358 x5_1).f4, (rd_T65 y358 x5_1).f5⟩ : S65) : List (S65))).bind fun y360 => ((some (y360.set (x5_1 : Int).toNat (⟨(rd_T65 y360 x5_1).f0, (rd_T65 y360 x5_1).f1, (rd_T65 y360 x5_1).f2, IntKind.u64.wrap (wrap64 ((wrap64 ((wrap64 (x1_1 + 1)) + 1)) + 1)), (rd_T65 y360 x5_1).f4, (rd_T65 y360 x5_1).f5⟩ : S65) : List (S65))).bind fun y361 => ((some (y361.set (x5_1 : Int).toNat (⟨(rd_T65 y361 x5_1).f0, (rd_T65 y361 x5_1).f1, (rd_T65 y361 x5_1).f2, (rd_T65 y361 x5_1).f3, wrap64 ((wrap64 ((wrap64 ((wrap64 (x1_1 + 1)) + 1)) + 1)) + 1), (rd_T65 y361 x5_1).f5⟩ : S65) : List (S65))).bind fun y362 => ((laws_markText.f k1 (wrap64 ((wrap64 ((wrap64 ((wrap64 ((wrap64 (x1_1 + 1)) + 1)) + 1)) + 1)) + 1))).bind fun t363 => (laws_markEntryS.l0 k1 (y362.set (x5_1 : Int).toNat (⟨(rd_T65 y362 x5_1).f0, (rd_T65 y362 x5_1).f1, (rd_T65 y362 x5_1).f2, (rd_T65 y362 x5_1).f3, (rd_T65 y362 x5_1).f4, t363⟩ : S65)) (wrap64 ((wrap64 ((wrap64 ((wrap64 ((wrap64 ((wrap64 (x1_1 + 1)) + 1)) + 1)) + 1)) + 1)) + 1)) (wrap64 (x5_1 + 1)))))))))) = some (r1, r2) := by first | (rw [hy356]; with_reducible exact H) | (have H2_ := (Option.bind_some _ _).symm.trans H; rw [hy356]; with_reducible exact H2_) | (have H2_ := (Option.bind_some _ _).symm.trans H; with_reducible exact H2_) | with_reducible exact H | (rw [hy356]; exact H) | exact H
     have Ny356 := Aside0.mk hy356
     clear hy356
     replace H := Option.bind_eq_some_iff.mp H
     obtain ⟨t357, A70, H⟩ := H
     replace H : ((some (y356.set (x5_1 : Int).toNat (⟨(rd_T65 y356 x5_1).f0, t357, (rd_T65 y356 x5_1).f2, (rd_T65 y356 x5_1).f3, (rd_T65 y356 x5_1).f4, (rd_T65 y356 x5_1).f5⟩ : S65) : List (S65))).bind fun y358 => ((laws_markText.f k1 (wrap64 ((wrap64 (x1_1 + 1)) + 1))).bind fun t359 => ((some (y358.set (x5_1 : Int).toNat (⟨(rd_T65 y358 x5_1).f0, (rd_T65 y358 x5_1).f1, t359, (rd_T65 y358 x5_1).f3, (rd_T65 y358 x5_1).f4, (rd_T65 y358 x5_1).f5⟩ : S65) : List (S65))).bind fun y360 => ((some (y360.set (x5_1 : Int).toNat (⟨(rd_T65 y360 x5_1).f0, (rd_T65 y360 x5_1).f1, (rd_T65 y360 x5_1).f2, IntKind.u64.wrap (wrap64 ((wrap64 ((wrap64 (x1_1 + 1)) + 1)) + 1)), (rd_T65 y360 x5_1).f4, (rd_T65 y360 x5_1).f5⟩ : S65) : List (S65))).bind fun y361 => ((some (y361.set (x5_1 : Int).toNat (⟨(rd_T65 y361 x5_1).f0, (rd_T65 y361 x5_1).f1, (rd_T65 y361 x5_1).f2, (rd_T65 y361 x5_1).f3, wrap64 ((wrap64 ((wrap64 ((wrap64 (x1_1 + 1)) + 1)) + 1)) + 1), (rd_T65 y361 x5_1).f5⟩ : S65) : List (S65))).bind fun y362 => ((laws_markText.f k1 (wrap64 ((wrap64 ((wrap64 ((wrap64 ((wrap64 (x1_1 + 1)) + 1)) + 1)) + 1)) + 1))).bind fun t363 => (laws_markEntryS.l0 k1 (y362.set (x5_1 : Int).toNat (⟨(rd_T65 y362 x5_1).f0, (rd_T65 y362 x5_1).f1, (rd_T65 y362 x5_1).f2, (rd_T65 y362 x5_1).f3, (rd_T65 y362 x5_1).f4, t363⟩ : S65)) (wrap64 ((wrap64 ((wrap64 ((wrap64 ((wrap64 ((wrap64 (x1_1 + 1)) + 1)) + 1)) + 1)) + 1)) + 1)) (wrap64 (x5_1 + 1))))))))) = some (r1, r2) := H
     have A7 := Aside0.mk A70
     clear A70
     obtain ⟨y358, hy358⟩ : ∃ y_ : List (S65), y_ = (y356.set (x5_1 : Int).toNat (⟨(rd_T65 y356 x5_1).f0, t357, (rd_T65 y356 x5_1).f2, (rd_T65 y356 x5_1).f3, (rd_T65 y356 x5_1).f4, (rd_T65 y356 x5_1).f5⟩ : S65)) := ⟨_, rfl⟩
     replace H : ((laws_markText.f k1 (wrap64 ((wrap64 (x1_1 + 1)) + 1))).bind fun t359 => ((some (y358.set (x5_1 : Int).toNat (⟨(rd_T65 y358 x5_1).f0, (rd_T65 y358 x5_1).f1, t359, (rd_T65 y358 x5_1).f3, (rd_T65 y358 x5_1).f4, (rd_T65 y358 x5_1).f5⟩ : S65) : List (S65))).bind fun y360 => ((some (y360.set (x5_1 : Int).toNat (⟨(rd_T65 y360 x5_1).f0, (rd_T65 y360 x5_1).f1, (rd_T65 y360 x5_1).f2, IntKind.u64.wrap (wrap64 ((wrap64 ((wrap64 (x1_1 + 1)) + 1)) + 1)), (rd_T65 y360 x5_1).f4, (rd_T65 y360 x5_1).f5⟩ : S65) : List (S65))).bind fun y361 => ((some (y361.set (x5_1 : Int).toNat (⟨(rd_T65 y361 x5_1).f0, (rd_T65 y361 x5_1).f1, (rd_T65 y361 x5_1).f2, (rd_T65 y361 x5_1).f3, wrap64 ((wrap64 ((wrap64 ((wrap64 (x1_1 + 1)) + 1)) + 1)) + 1), (rd_T65 y361 x5_1).f5⟩ : S65) : List (S65))).bind fun y362 => ((laws_markText.f k1 (wrap64 ((wrap64 ((wrap64 ((wrap64 ((wrap64 (x1_1 + 1)) + 1)) + 1)) + 1)) + 1))).bind fun t363 => (laws_markEntryS.l0 k1 (y362.set (x5_1 : Int).toNat (⟨(rd_T65 y362 x5_1).f0, (rd_T65 y362 x5_1).f1, (rd_T65 y362 x5_1).f2, (rd_T65 y362 x5_1).f3, (rd_T65 y362 x5_1).f4, t363⟩ : S65)) (wrap64 ((wrap64 ((wrap64 ((wrap64 ((wrap64 ((wrap64 (x1_1 + 1)) + 1)) + 1)) + 1)) + 1)) + 1)) (wrap64 (x5_1 + 1)))))))) = some (r1, r2) := by first | (rw [hy358]; with_reducible exact H) | (have H2_ := (Option.bind_some _ _).symm.trans H; rw [hy358]; with_reducible exact H2_) | (have H2_ := (Option.bind_some _ _).symm.trans H; with_reducible exact H2_) | with_reducible exact H | (rw [hy358]; exact H) | exact H
     have Ny358 := Aside0.mk hy358
     clear hy358
     replace H := Option.bind_eq_some_iff.mp H
     obtain ⟨t359, A90, H⟩ := H
     replace H : ((some (y358.set (x5_1 : Int).toNat (⟨(rd_T65 y358 x5_1).f0, (rd_T65 y358 x5_1).f1, t359, (rd_T65 y358 x5_1).f3, (rd_T65 y358 x5_1).f4, (rd_T65 y358 x5_1).f5⟩ : S65) : List (S65))).bind fun y360 => ((some (y360.set (x5_1 : Int).toNat (⟨(rd_T65 y360 x5_1).f0, (rd_T65 y360 x5_1).f1, (rd_T65 y360 x5_1).f2, IntKind.u64.wrap (wrap64 ((wrap64 ((wrap64 (x1_1 + 1)) + 1)) + 1)), (rd_T65 y360 x5_1).f4, (rd_T65 y360 x5_1).f5⟩ : S65) : List (S65))).bind fun y361 => ((some (y361.set (x5_1 : Int).toNat (⟨(rd_T65 y361 x5_1).f0, (rd_T65 y361 x5_1).f1, (rd_T65 y361 x5_1).f2, (rd_T65 y361 x5_1).f3, wrap64 ((wrap64 ((wrap64 ((wrap64 (x1_1 + 1)) + 1)) + 1)) + 1), (rd_T65 y361 x5_1).f5⟩ : S65) : List (S65))).bind fun y362 => ((laws_markText.f k1 (wrap64 ((wrap64 ((wrap64 ((wrap64 ((wrap64 (x1_1 + 1)) + 1)) + 1)) + 1)) + 1))).bind fun t363 => (laws_markEntryS.l0 k1 (y362.set (x5_1 : Int).toNat (⟨(rd_T65 y362 x5_1).f0, (rd_T65 y362 x5_1).f1, (rd_T65 y362 x5_1).f2, (rd_T65 y362 x5_1).f3, (rd_T65 y362 x5_1).f4, t363⟩ : S65)) (wrap64 ((wrap64 ((wrap64 ((wrap64 ((wrap64 ((wrap64 (x1_1 + 1)) + 1)) + 1)) + 1)) + 1)) + 1)) (wrap64 (x5_1 + 1))))))) = some (r1, r2) := H
     have A9 := Aside0.mk A90
     clear A90
     obtain ⟨y360, hy360⟩ : ∃ y_ : List (S65), y_ = (y358.set (x5_1 : Int).toNat (⟨(rd_T65 y358 x5_1).f0, (rd_T65 y358 x5_1).f1, t359, (rd_T65 y358 x5_1).f3, (rd_T65 y358 x5_1).f4, (rd_T65 y358 x5_1).f5⟩ : S65)) := ⟨_, rfl⟩
     replace H : ((some (y360.set (x5_1 : Int).toNat (⟨(rd_T65 y360 x5_1).f0, (rd_T65 y360 x5_1).f1, (rd_T65 y360 x5_1).f2, IntKind.u64.wrap (wrap64 ((wrap64 ((wrap64 (x1_1 + 1)) + 1)) + 1)), (rd_T65 y360 x5_1).f4, (rd_T65 y360 x5_1).f5⟩ : S65) : List (S65))).bind fun y361 => ((some (y361.set (x5_1 : Int).toNat (⟨(rd_T65 y361 x5_1).f0, (rd_T65 y361 x5_1).f1, (rd_T65 y361 x5_1).f2, (rd_T65 y361 x5_1).f3, wrap64 ((wrap64 ((wrap64 ((wrap64 (x1_1 + 1)) + 1)) + 1)) + 1), (rd_T65 y361 x5_1).f5⟩ : S65) : List (S65))).bind fun y362 => ((laws_markText.f k1 (wrap64 ((wrap64 ((wrap64 ((wrap64 ((wrap64 (x1_1 + 1)) + 1)) + 1)) + 1)) + 1))).bind fun t363 => (laws_markEntryS.l0 k1 (y362.set (x5_1 : Int).toNat (⟨(rd_T65 y362 x5_1).f0, (rd_T65 y362 x5_1).f1, (rd_T65 y362 x5_1).f2, (rd_T65 y362 x5_1).f3, (rd_T65 y362 x5_1).f4, t363⟩ : S65)) (wrap64 ((wrap64 ((wrap64 ((wrap64 ((wrap64 ((wrap64 (x1_1 + 1)) + 1)) + 1)) + 1)) + 1)) + 1)) (wrap64 (x5_1 + 1)))))) = some (r1, r2) := by first | (rw [hy360]; with_reducible exact H) | (have H2_ := (Option.bind_some _ _).symm.trans H; rw [hy360]; with_reducible exact H2_) | (have H2_ := (Option.bind_some _ _).symm.trans H; with_reducible exact H2_) | with_reducible exact H | (rw [hy360]; exact H) | exact H
     have Ny360 := Aside0.mk hy360
     clear hy360
     obtain ⟨y361, hy361⟩ : ∃ y_ : List (S65), y_ = (y360.set (x5_1 : Int).toNat (⟨(rd_T65 y360 x5_1).f0, (rd_T65 y360 x5_1).f1, (rd_T65 y360 x5_1).f2, IntKind.u64.wrap (wrap64 ((wrap64 ((wrap64 (x1_1 + 1)) + 1)) + 1)), (rd_T65 y360 x5_1).f4, (rd_T65 y360 x5_1).f5⟩ : S65)) := ⟨_, rfl⟩
     replace H : ((some (y361.set (x5_1 : Int).toNat (⟨(rd_T65 y361 x5_1).f0, (rd_T65 y361 x5_1).f1, (rd_T65 y361 x5_1).f2, (rd_T65 y361 x5_1).f3, wrap64 ((wrap64 ((wrap64 ((wrap64 (x1_1 + 1)) + 1)) + 1)) + 1), (rd_T65 y361 x5_1).f5⟩ : S65) : List (S65))).bind fun y362 => ((laws_markText.f k1 (wrap64 ((wrap64 ((wrap64 ((wrap64 ((wrap64 (x1_1 + 1)) + 1)) + 1)) + 1)) + 1))).bind fun t363 => (laws_markEntryS.l0 k1 (y362.set (x5_1 : Int).toNat (⟨(rd_T65 y362 x5_1).f0, (rd_T65 y362 x5_1).f1, (rd_T65 y362 x5_1).f2, (rd_T65 y362 x5_1).f3, (rd_T65 y362 x5_1).f4, t363⟩ : S65)) (wrap64 ((wrap64 ((wrap64 ((wrap64 ((wrap64 ((wrap64 (x1_1 + 1)) + 1)) + 1)) + 1)) + 1)) + 1)) (wrap64 (x5_1 + 1))))) = some (r1, r2) := by first | (rw [hy361]; with_reducible exact H) | (have H2_ := (Option.bind_some _ _).symm.trans H; rw [hy361]; with_reducible exact H2_) | (have H2_ := (Option.bind_some _ _).symm.trans H; with_reducible exact H2_) | with_reducible exact H | (rw [hy361]; exact H) | exact H
     have Ny361 := Aside0.mk hy361
     clear hy361
     obtain ⟨y362, hy362⟩ : ∃ y_ : List (S65), y_ = (y361.set (x5_1 : Int).toNat (⟨(rd_T65 y361 x5_1).f0, (rd_T65 y361 x5_1).f1, (rd_T65 y361 x5_1).f2, (rd_T65 y361 x5_1).f3, wrap64 ((wrap64 ((wrap64 ((wrap64 (x1_1 + 1)) + 1)) + 1)) + 1), (rd_T65 y361 x5_1).f5⟩ : S65)) := ⟨_, rfl⟩
     replace H : ((laws_markText.f k1 (wrap64 ((wrap64 ((wrap64 ((wrap64 ((wrap64 (x1_1 + 1)) + 1)) + 1)) + 1)) + 1))).bind fun t363 => (laws_markEntryS.l0 k1 (y362.set (x5_1 : Int).toNat (⟨(rd_T65 y362 x5_1).f0, (rd_T65 y362 x5_1).f1, (rd_T65 y362 x5_1).f2, (rd_T65 y362 x5_1).f3, (rd_T65 y362 x5_1).f4, t363⟩ : S65)) (wrap64 ((wrap64 ((wrap64 ((wrap64 ((wrap64 ((wrap64 (x1_1 + 1)) + 1)) + 1)) + 1)) + 1)) + 1)) (wrap64 (x5_1 + 1)))) = some (r1, r2) := by first | (rw [hy362]; with_reducible exact H) | (have H2_ := (Option.bind_some _ _).symm.trans H; rw [hy362]; with_reducible exact H2_) | (have H2_ := (Option.bind_some _ _).symm.trans H; with_reducible exact H2_) | with_reducible exact H | (rw [hy362]; exact H) | exact H
     have Ny362 := Aside0.mk hy362
     clear hy362
     replace H := Option.bind_eq_some_iff.mp H
     obtain ⟨t363, A130, H⟩ := H
     replace H : (laws_markEntryS.l0 k1 (y362.set (x5_1 : Int).toNat (⟨(rd_T65 y362 x5_1).f0, (rd_T65 y362 x5_1).f1, (rd_T65 y362 x5_1).f2, (rd_T65 y362 x5_1).f3, (rd_T65 y362 x5_1).f4, t363⟩ : S65)) (wrap64 ((wrap64 ((wrap64 ((wrap64 ((wrap64 ((wrap64 (x1_1 + 1)) + 1)) + 1)) + 1)) + 1)) + 1)) (wrap64 (x5_1 + 1))) = some (r1, r2) := H
     have A13 := Aside0.mk A130
     clear A130
     obtain ⟨y364, hy364⟩ : ∃ y_ : List (S65), y_ = (y362.set (x5_1 : Int).toNat (⟨(rd_T65 y362 x5_1).f0, (rd_T65 y362 x5_1).f1, (rd_T65 y362 x5_1).f2, (rd_T65 y362 x5_1).f3, (rd_T65 y362 x5_1).f4, t363⟩ : S65)) := ⟨_, rfl⟩
     replace H : (laws_markEntryS.l0 k1 y364 (wrap64 ((wrap64 ((wrap64 ((wrap64 ((wrap64 ((wrap64 (x1_1 + 1)) + 1)) + 1)) + 1)) + 1)) + 1)) (wrap64 (x5_1 + 1))) = some (r1, r2) := by first | (rw [hy364]; with_reducible exact H) | (have H2_ := (Option.bind_some _ _).symm.trans H; rw [hy364]; with_reducible exact H2_) | (have H2_ := (Option.bind_some _ _).symm.trans H; with_reducible exact H2_) | with_reducible exact H | (rw [hy364]; exact H) | exact H
     have Ny364 := Aside0.mk hy364
     clear hy364
     have H' := Aside0.mk H
     clear H
     obtain ⟨Ao15, co15, eo15⟩ := Kd.R_slice HO_0.out
     subst eo15
     go_wp2_with (first | ((with_reducible refine at_fn (f := 44) rfl ?_); refine goesL_ (some 15) rfl rfl Try.func44 (by kernel_rfl) rfl #[.int .i64 x1_1] rfl (by (try simp only [List.map_toArray, List.map_cons, List.map_nil]); first | done | rfl | (simp only [List.length_drop, List.length_take]; rfl)) ?_; (with_reducible refine (laws_markText.calls k1 x1_1 t355 _ A4.out).mono ?_); rintro e w16 ⟨rfl, hb⟩; refine ⟨_, rfl, ?_⟩; have n0_ := Aside0.mk (Kd.R_below (lf HO_0) hb); have n1_ := Aside0.mk (Kept.below (S := (fun k_ => P0_ k_)) (by repeat (first | (with_reducible first | exact HK.out | apply Kept.alloc | apply Kept.drewN | apply Kept.drew) | exact HK.out)) hb); have n2_ := Aside0.mk (below_step bw hb); clear HO_0; clear HK; clear HB; have HO_0 := n0_; have HK := n1_; have HB := n2_; clear n0_ n1_ n2_; (try clear hb); (try clear hb2); (try clear hk); (try clear hi); have p6 : 0 ≤ (x5_1 : Int) := of_decide_eq_true (by first | (with_reducible assumption) | assumption); have q6 : (x5_1 : Int) < ((x0_1.length : Int) : Int) := of_decide_eq_true (by first | (with_reducible assumption) | assumption); obtain ⟨go6, co6, eo6, gb6, gl6, cl6, HG6⟩ := Kd.R_form HO_0.out (by omega); (first | cases eo6 | (injection eo6 with ea_ en_ ec_; (first | subst ea_ | (injection ea_ with ea_; subst ea_)); subst ec_; clear en_)); have GB6 := Aside0.mk gb6; have GG6 := Aside0.mk HG6; clear gb6 gl6 HG6; have HMgo6 := Aside0.mk (show (P0_ go6 ∨ w.heap.size ≤ go6) from (HO_0.out.1 _ rfl)); obtain ⟨ce6, hcl6, hM6, hcc6, hfr6⟩ := Kd.R_elem HO_0.out z65 (x5_1 : Int) p6 q6; obtain rfl := k65_openM hM6; have hx6_0 : w16.cell? ⟨go6, (x5_1 : Int).toNat * 6, none⟩ = some (.string ((rd_T65 x0_1 x5_1).f0)) := hcc6 0 _ rfl; have hx6_1 : w16.cell? ⟨go6, (x5_1 : Int).toNat * 6 + 1, none⟩ = some (.string ((rd_T65 x0_1 x5_1).f1)) := hcc6 1 _ rfl; have hx6_2 : w16.cell? ⟨go6, (x5_1 : Int).toNat * 6 + 2, none⟩ = some (.string ((rd_T65 x0_1 x5_1).f2)) := hcc6 2 _ rfl; have hx6_3 : w16.cell? ⟨go6, (x5_1 : Int).toNat * 6 + 3, none⟩ = some (.int .u64 ((rd_T65 x0_1 x5_1).f3)) := hcc6 3 _ rfl; have hx6_4 : w16.cell? ⟨go6, (x5_1 : Int).toNat * 6 + 4, none⟩ = some (.int .i64 ((rd_T65 x0_1 x5_1).f4)) := hcc6 4 _ rfl; have hx6_5 : w16.cell? ⟨go6, (x5_1 : Int).toNat * 6 + 5, none⟩ = some (.string ((rd_T65 x0_1 x5_1).f5)) := hcc6 5 _ rfl; have hf6_0 : w16.frozen? ⟨go6, (x5_1 : Int).toNat * 6, none⟩ = false := hfr6 0; have hf6_1 : w16.frozen? ⟨go6, (x5_1 : Int).toNat * 6 + 1, none⟩ = false := hfr6 1; have hf6_2 : w16.frozen? ⟨go6, (x5_1 : Int).toNat * 6 + 2, none⟩ = false := hfr6 2; have hf6_3 : w16.frozen? ⟨go6, (x5_1 : Int).toNat * 6 + 3, none⟩ = false := hfr6 3; have hf6_4 : w16.frozen? ⟨go6, (x5_1 : Int).toNat * 6 + 4, none⟩ = false := hfr6 4; have hf6_5 : w16.frozen? ⟨go6, (x5_1 : Int).toNat * 6 + 5, none⟩ = false := hfr6 5; clear hcl6 hcc6 hfr6 hM6; replace p6 := eq_true p6; replace q6 := eq_true q6; have HX17 := Aside0.mk (show Kd.R k65 65 w16 w0.heap.size (fun k_ => (P0_ k_ ∨ w.heap.size ≤ k_)) (.slice (some ⟨go6, 0, none⟩) x0_1.length co15) x0_1 from (lf HO_0)); obtain ⟨ce17, hcl17, hM17, hcc17, hfr17⟩ := Kd.R_elem HX17.out z65 (x5_1 : Int) (of_decide_eq_true (by first | (with_reducible assumption) | assumption)) (by have h_ : (x5_1 : Int) < ((x0_1.length : Int) : Int) := of_decide_eq_true (by first | (with_reducible assumption) | assumption); first | exact h_ | (have e_ := (Kd.R_reads' HO_0.out).1; omega) | simpa using h_); obtain rfl := k65_openM hM17; have HP17 := Kd.R_seg HX17.out (x5_1 : Int) (of_decide_eq_true (by first | (with_reducible assumption) | assumption)) (by have h_ : (x5_1 : Int) < ((x0_1.length : Int) : Int) := of_decide_eq_true (by first | (with_reducible assumption) | assumption); first | exact h_ | (have e_ := (Kd.R_reads' HO_0.out).1; omega) | simpa using h_) (seg := [.string t355]) (j := 0) hcl17 hcc17 (show 1 ≤ 6 from by decide) (x' := (⟨t355, (rd_T65 x0_1 x5_1).f1, (rd_T65 x0_1 x5_1).f2, (rd_T65 x0_1 x5_1).f3, (rd_T65 x0_1 x5_1).f4, (rd_T65 x0_1 x5_1).f5⟩ : S65)) (k65_mkM _ _ _ (⟨t355, (rd_T65 x0_1 x5_1).f1, (rd_T65 x0_1 x5_1).f2, (rd_T65 x0_1 x5_1).f3, (rd_T65 x0_1 x5_1).f4, (rd_T65 x0_1 x5_1).f5⟩ : S65) ) (fun _ hk => hk); have hx17_0 := hcc17 0 _ rfl; (try simp only [show (k65).sz = 6 from rfl, Nat.mul_one, Nat.add_zero] at hx17_0); have hf17_0 := hfr17 0; (try simp only [show (k65).sz = 6 from rfl, Nat.mul_one, Nat.add_zero] at hf17_0); clear hcl17 hcc17 hfr17 hM17) | ((with_reducible refine gate_store (t := 9) (p := 17) rfl ?_); refine store_event (t := 9) (p := 17) (v := ?vo_w18) (w1 := (w16.setCell ⟨go6, (x5_1 : Int).toNat * 6, none⟩ (.string t355))) ?hg ?ho ?hn ?hr ?_; (case ho => rfl); (case hg => rfl); (case hn => rfl); (case hr => first | (go_simp; done) | (go_simp; rfl)); intro w18 hw; have hg : w16.grownBy w18 (some go6) := (by rw [hw]; exact HP17.2); have hp_ : Kd.R k65 65 w18 w0.heap.size (fun k_ => (P0_ k_ ∨ w.heap.size ≤ k_)) (.slice (some ⟨go6, 0, none⟩) x0_1.length co15) y356 := (by rw [hw, Ny356.out]; exact HP17.1); clear HP17; have n0_ := Aside0.mk (hp_); have n1_ := Aside0.mk ((by rw [hw]; exact below_set (HB.out) GB6.out : Below w0.heap.size w0 w18)); have n2_ := Aside0.mk (Kept.of_grown (S := (fun k_ => P0_ k_)) hg (by repeat (first | (with_reducible first | exact HK.out | apply Kept.alloc | apply Kept.drewN | apply Kept.drew) | exact HK.out)) (fun k_ e_ => (HO_0.out.1 k_ e_))); clear HO_0; clear HB; clear HK; have HO_0 := n0_; have HB := n1_; have HK := n2_; clear n0_ n1_ n2_; clear hg hw hp_) | ((with_reducible refine at_fn (f := 44) rfl ?_); refine goesL_ (some 23) rfl rfl Try.func44 (by kernel_rfl) rfl #[.int .i64 (wrap64 (x1_1 + 1))] rfl (by (try simp only [List.map_toArray, List.map_cons, List.map_nil]); first | done | rfl | (simp only [List.length_drop, List.length_take]; rfl)) ?_; (with_reducible refine (laws_markText.calls k1 (wrap64 (x1_1 + 1)) t357 _ A7.out).mono ?_); rintro e w19 ⟨rfl, hb⟩; refine ⟨_, rfl, ?_⟩; have n0_ := Aside0.mk (Kd.R_below (lf HO_0) hb); have n1_ := Aside0.mk (Kept.below (S := (fun k_ => P0_ k_)) (by repeat (first | (with_reducible first | exact HK.out | apply Kept.alloc | apply Kept.drewN | apply Kept.drew) | exact HK.out)) hb); have n2_ := Aside0.mk (below_step bw hb); clear HO_0; clear HK; clear HB; have HO_0 := n0_; have HK := n1_; have HB := n2_; clear n0_ n1_ n2_; (try clear hb); (try clear hb2); (try clear hk); (try clear hi); have p8 : 0 ≤ (x5_1 : Int) := of_decide_eq_true (by first | (with_reducible assumption) | assumption); have q8 : (x5_1 : Int) < ((x0_1.length : Int) : Int) := of_decide_eq_true (by first | (with_reducible assumption) | assumption); obtain ⟨ce8, hcl8, hM8, hcc8, hfr8⟩ := Kd.R_elem HO_0.out z65 (x5_1 : Int) p8 q8; obtain rfl := k65_openM hM8; have hx8_0 : w19.cell? ⟨go6, (x5_1 : Int).toNat * 6, none⟩ = some (.string ((rd_T65 y356 x5_1).f0)) := hcc8 0 _ rfl; have hx8_1 : w19.cell? ⟨go6, (x5_1 : Int).toNat * 6 + 1, none⟩ = some (.string ((rd_T65 y356 x5_1).f1)) := hcc8 1 _ rfl; have hx8_2 : w19.cell? ⟨go6, (x5_1 : Int).toNat * 6 + 2, none⟩ = some (.string ((rd_T65 y356 x5_1).f2)) := hcc8 2 _ rfl; have hx8_3 : w19.cell? ⟨go6, (x5_1 : Int).toNat * 6 + 3, none⟩ = some (.int .u64 ((rd_T65 y356 x5_1).f3)) := hcc8 3 _ rfl; have hx8_4 : w19.cell? ⟨go6, (x5_1 : Int).toNat * 6 + 4, none⟩ = some (.int .i64 ((rd_T65 y356 x5_1).f4)) := hcc8 4 _ rfl; have hx8_5 : w19.cell? ⟨go6, (x5_1 : Int).toNat * 6 + 5, none⟩ = some (.string ((rd_T65 y356 x5_1).f5)) := hcc8 5 _ rfl; have hf8_0 : w19.frozen? ⟨go6, (x5_1 : Int).toNat * 6, none⟩ = false := hfr8 0; have hf8_1 : w19.frozen? ⟨go6, (x5_1 : Int).toNat * 6 + 1, none⟩ = false := hfr8 1; have hf8_2 : w19.frozen? ⟨go6, (x5_1 : Int).toNat * 6 + 2, none⟩ = false := hfr8 2; have hf8_3 : w19.frozen? ⟨go6, (x5_1 : Int).toNat * 6 + 3, none⟩ = false := hfr8 3; have hf8_4 : w19.frozen? ⟨go6, (x5_1 : Int).toNat * 6 + 4, none⟩ = false := hfr8 4; have hf8_5 : w19.frozen? ⟨go6, (x5_1 : Int).toNat * 6 + 5, none⟩ = false := hfr8 5; clear hcl8 hcc8 hfr8 hM8; replace p8 := eq_true p8; replace q8 := eq_true q8; have HX20 := Aside0.mk (show Kd.R k65 65 w19 w0.heap.size (fun k_ => (P0_ k_ ∨ w.heap.size ≤ k_)) (.slice (some ⟨go6, 0, none⟩) x0_1.length co15) y356 from (lf HO_0)); obtain ⟨ce20, hcl20, hM20, hcc20, hfr20⟩ := Kd.R_elem HX20.out z65 (x5_1 : Int) (of_decide_eq_true (by first | (with_reducible assumption) | assumption)) (by have h_ : (x5_1 : Int) < ((x0_1.length : Int) : Int) := of_decide_eq_true (by first | (with_reducible assumption) | assumption); first | exact h_ | (have e_ := (Kd.R_reads' HO_0.out).1; omega) | simpa using h_); obtain rfl := k65_openM hM20; have HP20 := Kd.R_seg HX20.out (x5_1 : Int) (of_decide_eq_true (by first | (with_reducible assumption) | assumption)) (by have h_ : (x5_1 : Int) < ((x0_1.length : Int) : Int) := of_decide_eq_true (by first | (with_reducible assumption) | assumption); first | exact h_ | (have e_ := (Kd.R_reads' HO_0.out).1; omega) | simpa using h_) (seg := [.string t357]) (j := 1) hcl20 hcc20 (show 2 ≤ 6 from by decide) (x' := (⟨(rd_T65 y356 x5_1).f0, t357, (rd_T65 y356 x5_1).f2, (rd_T65 y356 x5_1).f3, (rd_T65 y356 x5_1).f4, (rd_T65 y356 x5_1).f5⟩ : S65)) (k65_mkM _ _ _ (⟨(rd_T65 y356 x5_1).f0, t357, (rd_T65 y356 x5_1).f2, (rd_T65 y356 x5_1).f3, (rd_T65 y356 x5_1).f4, (rd_T65 y356 x5_1).f5⟩ : S65) ) (fun _ hk => hk); have hx20_1 := hcc20 1 _ rfl; (try simp only [show (k65).sz = 6 from rfl, Nat.mul_one, Nat.add_zero] at hx20_1); have hf20_1 := hfr20 1; (try simp only [show (k65).sz = 6 from rfl, Nat.mul_one, Nat.add_zero] at hf20_1); clear hcl20 hcc20 hfr20 hM20) | ((with_reducible refine gate_store (t := 9) (p := 25) rfl ?_); refine store_event (t := 9) (p := 25) (v := ?vo_w21) (w1 := (w19.setCell ⟨go6, (x5_1 : Int).toNat * 6 + 1, none⟩ (.string t357))) ?hg ?ho ?hn ?hr ?_; (case ho => rfl); (case hg => rfl); (case hn => rfl); (case hr => first | (go_simp; done) | (go_simp; rfl)); intro w21 hw; have hg : w19.grownBy w21 (some go6) := (by rw [hw]; exact HP20.2); have hp_ : Kd.R k65 65 w21 w0.heap.size (fun k_ => (P0_ k_ ∨ w.heap.size ≤ k_)) (.slice (some ⟨go6, 0, none⟩) x0_1.length co15) y358 := (by rw [hw, Ny358.out]; exact HP20.1); clear HP20; have n0_ := Aside0.mk (hp_); have n1_ := Aside0.mk ((by rw [hw]; exact below_set (HB.out) GB6.out : Below w0.heap.size w0 w21)); have n2_ := Aside0.mk (Kept.of_grown (S := (fun k_ => P0_ k_)) hg (by repeat (first | (with_reducible first | exact HK.out | apply Kept.alloc | apply Kept.drewN | apply Kept.drew) | exact HK.out)) (fun k_ e_ => (HO_0.out.1 k_ e_))); clear HO_0; clear HB; clear HK; have HO_0 := n0_; have HB := n1_; have HK := n2_; clear n0_ n1_ n2_; clear hg hw hp_) | ((with_reducible refine at_fn (f := 44) rfl ?_); refine goesL_ (some 31) rfl rfl Try.func44 (by kernel_rfl) rfl #[.int .i64 (wrap64 ((wrap64 (x1_1 + 1)) + 1))] rfl (by (try simp only [List.map_toArray, List.map_cons, List.map_nil]); first | done | rfl | (simp only [List.length_drop, List.length_take]; rfl)) ?_; (with_reducible refine (laws_markText.calls k1 (wrap64 ((wrap64 (x1_1 + 1)) + 1)) t359 _ A9.out).mono ?_); rintro e w22 ⟨rfl, hb⟩; refine ⟨_, rfl, ?_⟩; have n0_ := Aside0.mk (Kd.R_below (lf HO_0) hb); have n1_ := Aside0.mk (Kept.below (S := (fun k_ => P0_ k_)) (by repeat (first | (with_reducible first | exact HK.out | apply Kept.alloc | apply Kept.drewN | apply Kept.drew) | exact HK.out)) hb); have n2_ := Aside0.mk (below_step bw hb); clear HO_0; clear HK; clear HB; have HO_0 := n0_; have HK := n1_; have HB := n2_; clear n0_ n1_ n2_; (try clear hb); (try clear hb2); (try clear hk); (try clear hi); have p10 : 0 ≤ (x5_1 : Int) := of_decide_eq_true (by first | (with_reducible assumption) | assumption); have q10 : (x5_1 : Int) < ((x0_1.length : Int) : Int) := of_decide_eq_true (by first | (with_reducible assumption) | assumption); obtain ⟨ce10, hcl10, hM10, hcc10, hfr10⟩ := Kd.R_elem HO_0.out z65 (x5_1 : Int) p10 q10; obtain rfl := k65_openM hM10; have hx10_0 : w22.cell? ⟨go6, (x5_1 : Int).toNat * 6, none⟩ = some (.string ((rd_T65 y358 x5_1).f0)) := hcc10 0 _ rfl; have hx10_1 : w22.cell? ⟨go6, (x5_1 : Int).toNat * 6 + 1, none⟩ = some (.string ((rd_T65 y358 x5_1).f1)) := hcc10 1 _ rfl; have hx10_2 : w22.cell? ⟨go6, (x5_1 : Int).toNat * 6 + 2, none⟩ = some (.string ((rd_T65 y358 x5_1).f2)) := hcc10 2 _ rfl; have hx10_3 : w22.cell? ⟨go6, (x5_1 : Int).toNat * 6 + 3, none⟩ = some (.int .u64 ((rd_T65 y358 x5_1).f3)) := hcc10 3 _ rfl; have hx10_4 : w22.cell? ⟨go6, (x5_1 : Int).toNat * 6 + 4, none⟩ = some (.int .i64 ((rd_T65 y358 x5_1).f4)) := hcc10 4 _ rfl; have hx10_5 : w22.cell? ⟨go6, (x5_1 : Int).toNat * 6 + 5, none⟩ = some (.string ((rd_T65 y358 x5_1).f5)) := hcc10 5 _ rfl; have hf10_0 : w22.frozen? ⟨go6, (x5_1 : Int).toNat * 6, none⟩ = false := hfr10 0; have hf10_1 : w22.frozen? ⟨go6, (x5_1 : Int).toNat * 6 + 1, none⟩ = false := hfr10 1; have hf10_2 : w22.frozen? ⟨go6, (x5_1 : Int).toNat * 6 + 2, none⟩ = false := hfr10 2; have hf10_3 : w22.frozen? ⟨go6, (x5_1 : Int).toNat * 6 + 3, none⟩ = false := hfr10 3; have hf10_4 : w22.frozen? ⟨go6, (x5_1 : Int).toNat * 6 + 4, none⟩ = false := hfr10 4; have hf10_5 : w22.frozen? ⟨go6, (x5_1 : Int).toNat * 6 + 5, none⟩ = false := hfr10 5; clear hcl10 hcc10 hfr10 hM10; replace p10 := eq_true p10; replace q10 := eq_true q10; have HX23 := Aside0.mk (show Kd.R k65 65 w22 w0.heap.size (fun k_ => (P0_ k_ ∨ w.heap.size ≤ k_)) (.slice (some ⟨go6, 0, none⟩) x0_1.length co15) y358 from (lf HO_0)); obtain ⟨ce23, hcl23, hM23, hcc23, hfr23⟩ := Kd.R_elem HX23.out z65 (x5_1 : Int) (of_decide_eq_true (by first | (with_reducible assumption) | assumption)) (by have h_ : (x5_1 : Int) < ((x0_1.length : Int) : Int) := of_decide_eq_true (by first | (with_reducible assumption) | assumption); first | exact h_ | (have e_ := (Kd.R_reads' HO_0.out).1; omega) | simpa using h_); obtain rfl := k65_openM hM23; have HP23 := Kd.R_seg HX23.out (x5_1 : Int) (of_decide_eq_true (by first | (with_reducible assumption) | assumption)) (by have h_ : (x5_1 : Int) < ((x0_1.length : Int) : Int) := of_decide_eq_true (by first | (with_reducible assumption) | assumption); first | exact h_ | (have e_ := (Kd.R_reads' HO_0.out).1; omega) | simpa using h_) (seg := [.string t359]) (j := 2) hcl23 hcc23 (show 3 ≤ 6 from by decide) (x' := (⟨(rd_T65 y358 x5_1).f0, (rd_T65 y358 x5_1).f1, t359, (rd_T65 y358 x5_1).f3, (rd_T65 y358 x5_1).f4, (rd_T65 y358 x5_1).f5⟩ : S65)) (k65_mkM _ _ _ (⟨(rd_T65 y358 x5_1).f0, (rd_T65 y358 x5_1).f1, t359, (rd_T65 y358 x5_1).f3, (rd_T65 y358 x5_1).f4, (rd_T65 y358 x5_1).f5⟩ : S65) ) (fun _ hk => hk); have hx23_2 := hcc23 2 _ rfl; (try simp only [show (k65).sz = 6 from rfl, Nat.mul_one, Nat.add_zero] at hx23_2); have hf23_2 := hfr23 2; (try simp only [show (k65).sz = 6 from rfl, Nat.mul_one, Nat.add_zero] at hf23_2); clear hcl23 hcc23 hfr23 hM23) | ((with_reducible refine gate_store (t := 9) (p := 33) rfl ?_); refine store_event (t := 9) (p := 33) (v := ?vo_w24) (w1 := (w22.setCell ⟨go6, (x5_1 : Int).toNat * 6 + 2, none⟩ (.string t359))) ?hg ?ho ?hn ?hr ?_; (case ho => rfl); (case hg => rfl); (case hn => rfl); (case hr => first | (go_simp; done) | (go_simp; rfl)); intro w24 hw; have hg : w22.grownBy w24 (some go6) := (by rw [hw]; exact HP23.2); have hp_ : Kd.R k65 65 w24 w0.heap.size (fun k_ => (P0_ k_ ∨ w.heap.size ≤ k_)) (.slice (some ⟨go6, 0, none⟩) x0_1.length co15) y360 := (by rw [hw, Ny360.out]; exact HP23.1); clear HP23; have n0_ := Aside0.mk (hp_); have n1_ := Aside0.mk ((by rw [hw]; exact below_set (HB.out) GB6.out : Below w0.heap.size w0 w24)); have n2_ := Aside0.mk (Kept.of_grown (S := (fun k_ => P0_ k_)) hg (by repeat (first | (with_reducible first | exact HK.out | apply Kept.alloc | apply Kept.drewN | apply Kept.drew) | exact HK.out)) (fun k_ e_ => (HO_0.out.1 k_ e_))); clear HO_0; clear HB; clear HK; have HO_0 := n0_; have HB := n1_; have HK := n2_; clear n0_ n1_ n2_; clear hg hw hp_; have p11 : 0 ≤ (x5_1 : Int) := of_decide_eq_true (by first | (with_reducible assumption) | assumption); have q11 : (x5_1 : Int) < ((x0_1.length : Int) : Int) := of_decide_eq_true (by first | (with_reducible assumption) | assumption); obtain ⟨ce11, hcl11, hM11, hcc11, hfr11⟩ := Kd.R_elem HO_0.out z65 (x5_1 : Int) p11 q11; obtain rfl := k65_openM hM11; have hx11_0 : w24.cell? ⟨go6, (x5_1 : Int).toNat * 6, none⟩ = some (.string ((rd_T65 y360 x5_1).f0)) := hcc11 0 _ rfl; have hx11_1 : w24.cell? ⟨go6, (x5_1 : Int).toNat * 6 + 1, none⟩ = some (.string ((rd_T65 y360 x5_1).f1)) := hcc11 1 _ rfl; have hx11_2 : w24.cell? ⟨go6, (x5_1 : Int).toNat * 6 + 2, none⟩ = some (.string ((rd_T65 y360 x5_1).f2)) := hcc11 2 _ rfl; have hx11_3 : w24.cell? ⟨go6, (x5_1 : Int).toNat * 6 + 3, none⟩ = some (.int .u64 ((rd_T65 y360 x5_1).f3)) := hcc11 3 _ rfl; have hx11_4 : w24.cell? ⟨go6, (x5_1 : Int).toNat * 6 + 4, none⟩ = some (.int .i64 ((rd_T65 y360 x5_1).f4)) := hcc11 4 _ rfl; have hx11_5 : w24.cell? ⟨go6, (x5_1 : Int).toNat * 6 + 5, none⟩ = some (.string ((rd_T65 y360 x5_1).f5)) := hcc11 5 _ rfl; have hf11_0 : w24.frozen? ⟨go6, (x5_1 : Int).toNat * 6, none⟩ = false := hfr11 0; have hf11_1 : w24.frozen? ⟨go6, (x5_1 : Int).toNat * 6 + 1, none⟩ = false := hfr11 1; have hf11_2 : w24.frozen? ⟨go6, (x5_1 : Int).toNat * 6 + 2, none⟩ = false := hfr11 2; have hf11_3 : w24.frozen? ⟨go6, (x5_1 : Int).toNat * 6 + 3, none⟩ = false := hfr11 3; have hf11_4 : w24.frozen? ⟨go6, (x5_1 : Int).toNat * 6 + 4, none⟩ = false := hfr11 4; have hf11_5 : w24.frozen? ⟨go6, (x5_1 : Int).toNat * 6 + 5, none⟩ = false := hfr11 5; clear hcl11 hcc11 hfr11 hM11; replace p11 := eq_true p11; replace q11 := eq_true q11; have HX25 := Aside0.mk (show Kd.R k65 65 w24 w0.heap.size (fun k_ => (P0_ k_ ∨ w.heap.size ≤ k_)) (.slice (some ⟨go6, 0, none⟩) x0_1.length co15) y360 from (lf HO_0)); obtain ⟨ce25, hcl25, hM25, hcc25, hfr25⟩ := Kd.R_elem HX25.out z65 (x5_1 : Int) (of_decide_eq_true (by first | (with_reducible assumption) | assumption)) (by have h_ : (x5_1 : Int) < ((x0_1.length : Int) : Int) := of_decide_eq_true (by first | (with_reducible assumption) | assumption); first | exact h_ | (have e_ := (Kd.R_reads' HO_0.out).1; omega) | simpa using h_); obtain rfl := k65_openM hM25; have HP25 := Kd.R_seg HX25.out (x5_1 : Int) (of_decide_eq_true (by first | (with_reducible assumption) | assumption)) (by have h_ : (x5_1 : Int) < ((x0_1.length : Int) : Int) := of_decide_eq_true (by first | (with_reducible assumption) | assumption); first | exact h_ | (have e_ := (Kd.R_reads' HO_0.out).1; omega) | simpa using h_) (seg := [.int .u64 (IntKind.u64.wrap (wrap64 ((wrap64 ((wrap64 (x1_1 + 1)) + 1)) + 1)))]) (j := 3) hcl25 hcc25 (show 4 ≤ 6 from by decide) (x' := (⟨(rd_T65 y360 x5_1).f0, (rd_T65 y360 x5_1).f1, (rd_T65 y360 x5_1).f2, IntKind.u64.wrap (wrap64 ((wrap64 ((wrap64 (x1_1 + 1)) + 1)) + 1)), (rd_T65 y360 x5_1).f4, (rd_T65 y360 x5_1).f5⟩ : S65)) (k65_mkM _ _ _ (⟨(rd_T65 y360 x5_1).f0, (rd_T65 y360 x5_1).f1, (rd_T65 y360 x5_1).f2, IntKind.u64.wrap (wrap64 ((wrap64 ((wrap64 (x1_1 + 1)) + 1)) + 1)), (rd_T65 y360 x5_1).f4, (rd_T65 y360 x5_1).f5⟩ : S65) ) (fun _ hk => hk); have hx25_3 := hcc25 3 _ rfl; (try simp only [show (k65).sz = 6 from rfl, Nat.mul_one, Nat.add_zero] at hx25_3); have hf25_3 := hfr25 3; (try simp only [show (k65).sz = 6 from rfl, Nat.mul_one, Nat.add_zero] at hf25_3); clear hcl25 hcc25 hfr25 hM25) | ((with_reducible refine gate_store (t := 63) (p := 41) rfl ?_); refine store_event (t := 63) (p := 41) (v := ?vo_w26) (w1 := (w24.setCell ⟨go6, (x5_1 : Int).toNat * 6 + 3, none⟩ (.int .u64 (IntKind.u64.wrap (wrap64 ((wrap64 ((wrap64 (x1_1 + 1)) + 1)) + 1)))))) ?hg ?ho ?hn ?hr ?_; (case ho => rfl); (case hg => rfl); (case hn => rfl); (case hr => first | (go_simp; done) | (go_simp; rfl)); intro w26 hw; have hg : w24.grownBy w26 (some go6) := (by rw [hw]; exact HP25.2); have hp_ : Kd.R k65 65 w26 w0.heap.size (fun k_ => (P0_ k_ ∨ w.heap.size ≤ k_)) (.slice (some ⟨go6, 0, none⟩) x0_1.length co15) y361 := (by rw [hw, Ny361.out]; exact HP25.1); clear HP25; have n0_ := Aside0.mk (hp_); have n1_ := Aside0.mk ((by rw [hw]; exact below_set (HB.out) GB6.out : Below w0.heap.size w0 w26)); have n2_ := Aside0.mk (Kept.of_grown (S := (fun k_ => P0_ k_)) hg (by repeat (first | (with_reducible first | exact HK.out | apply Kept.alloc | apply Kept.drewN | apply Kept.drew) | exact HK.out)) (fun k_ e_ => (HO_0.out.1 k_ e_))); clear HO_0; clear HB; clear HK; have HO_0 := n0_; have HB := n1_; have HK := n2_; clear n0_ n1_ n2_; clear hg hw hp_; have p12 : 0 ≤ (x5_1 : Int) := of_decide_eq_true (by first | (with_reducible assumption) | assumption); have q12 : (x5_1 : Int) < ((x0_1.length : Int) : Int) := of_decide_eq_true (by first | (with_reducible assumption) | assumption); obtain ⟨ce12, hcl12, hM12, hcc12, hfr12⟩ := Kd.R_elem HO_0.out z65 (x5_1 : Int) p12 q12; obtain rfl := k65_openM hM12; have hx12_0 : w26.cell? ⟨go6, (x5_1 : Int).toNat * 6, none⟩ = some (.string ((rd_T65 y361 x5_1).f0)) := hcc12 0 _ rfl; have hx12_1 : w26.cell? ⟨go6, (x5_1 : Int).toNat * 6 + 1, none⟩ = some (.string ((rd_T65 y361 x5_1).f1)) := hcc12 1 _ rfl; have hx12_2 : w26.cell? ⟨go6, (x5_1 : Int).toNat * 6 + 2, none⟩ = some (.string ((rd_T65 y361 x5_1).f2)) := hcc12 2 _ rfl; have hx12_3 : w26.cell? ⟨go6, (x5_1 : Int).toNat * 6 + 3, none⟩ = some (.int .u64 ((rd_T65 y361 x5_1).f3)) := hcc12 3 _ rfl; have hx12_4 : w26.cell? ⟨go6, (x5_1 : Int).toNat * 6 + 4, none⟩ = some (.int .i64 ((rd_T65 y361 x5_1).f4)) := hcc12 4 _ rfl; have hx12_5 : w26.cell? ⟨go6, (x5_1 : Int).toNat * 6 + 5, none⟩ = some (.string ((rd_T65 y361 x5_1).f5)) := hcc12 5 _ rfl; have hf12_0 : w26.frozen? ⟨go6, (x5_1 : Int).toNat * 6, none⟩ = false := hfr12 0; have hf12_1 : w26.frozen? ⟨go6, (x5_1 : Int).toNat * 6 + 1, none⟩ = false := hfr12 1; have hf12_2 : w26.frozen? ⟨go6, (x5_1 : Int).toNat * 6 + 2, none⟩ = false := hfr12 2; have hf12_3 : w26.frozen? ⟨go6, (x5_1 : Int).toNat * 6 + 3, none⟩ = false := hfr12 3; have hf12_4 : w26.frozen? ⟨go6, (x5_1 : Int).toNat * 6 + 4, none⟩ = false := hfr12 4; have hf12_5 : w26.frozen? ⟨go6, (x5_1 : Int).toNat * 6 + 5, none⟩ = false := hfr12 5; clear hcl12 hcc12 hfr12 hM12; replace p12 := eq_true p12; replace q12 := eq_true q12; have HX27 := Aside0.mk (show Kd.R k65 65 w26 w0.heap.size (fun k_ => (P0_ k_ ∨ w.heap.size ≤ k_)) (.slice (some ⟨go6, 0, none⟩) x0_1.length co15) y361 from (lf HO_0)); obtain ⟨ce27, hcl27, hM27, hcc27, hfr27⟩ := Kd.R_elem HX27.out z65 (x5_1 : Int) (of_decide_eq_true (by first | (with_reducible assumption) | assumption)) (by have h_ : (x5_1 : Int) < ((x0_1.length : Int) : Int) := of_decide_eq_true (by first | (with_reducible assumption) | assumption); first | exact h_ | (have e_ := (Kd.R_reads' HO_0.out).1; omega) | simpa using h_); obtain rfl := k65_openM hM27; have HP27 := Kd.R_seg HX27.out (x5_1 : Int) (of_decide_eq_true (by first | (with_reducible assumption) | assumption)) (by have h_ : (x5_1 : Int) < ((x0_1.length : Int) : Int) := of_decide_eq_true (by first | (with_reducible assumption) | assumption); first | exact h_ | (have e_ := (Kd.R_reads' HO_0.out).1; omega) | simpa using h_) (seg := [.int .i64 (wrap64 ((wrap64 ((wrap64 ((wrap64 (x1_1 + 1)) + 1)) + 1)) + 1))]) (j := 4) hcl27 hcc27 (show 5 ≤ 6 from by decide) (x' := (⟨(rd_T65 y361 x5_1).f0, (rd_T65 y361 x5_1).f1, (rd_T65 y361 x5_1).f2, (rd_T65 y361 x5_1).f3, wrap64 ((wrap64 ((wrap64 ((wrap64 (x1_1 + 1)) + 1)) + 1)) + 1), (rd_T65 y361 x5_1).f5⟩ : S65)) (k65_mkM _ _ _ (⟨(rd_T65 y361 x5_1).f0, (rd_T65 y361 x5_1).f1, (rd_T65 y361 x5_1).f2, (rd_T65 y361 x5_1).f3, wrap64 ((wrap64 ((wrap64 ((wrap64 (x1_1 + 1)) + 1)) + 1)) + 1), (rd_T65 y361 x5_1).f5⟩ : S65) ) (fun _ hk => hk); have hx27_4 := hcc27 4 _ rfl; (try simp only [show (k65).sz = 6 from rfl, Nat.mul_one, Nat.add_zero] at hx27_4); have hf27_4 := hfr27 4; (try simp only [show (k65).sz = 6 from rfl, Nat.mul_one, Nat.add_zero] at hf27_4); clear hcl27 hcc27 hfr27 hM27) | ((with_reducible refine gate_store (t := 2) (p := 48) rfl ?_); refine store_event (t := 2) (p := 48) (v := ?vo_w28) (w1 := (w26.setCell ⟨go6, (x5_1 : Int).toNat * 6 + 4, none⟩ (.int .i64 (wrap64 ((wrap64 ((wrap64 ((wrap64 (x1_1 + 1)) + 1)) + 1)) + 1))))) ?hg ?ho ?hn ?hr ?_; (case ho => rfl); (case hg => rfl); (case hn => rfl); (case hr => first | (go_simp; done) | (go_simp; rfl)); intro w28 hw; have hg : w26.grownBy w28 (some go6) := (by rw [hw]; exact HP27.2); have hp_ : Kd.R k65 65 w28 w0.heap.size (fun k_ => (P0_ k_ ∨ w.heap.size ≤ k_)) (.slice (some ⟨go6, 0, none⟩) x0_1.length co15) y362 := (by rw [hw, Ny362.out]; exact HP27.1); clear HP27; have n0_ := Aside0.mk (hp_); have n1_ := Aside0.mk ((by rw [hw]; exact below_set (HB.out) GB6.out : Below w0.heap.size w0 w28)); have n2_ := Aside0.mk (Kept.of_grown (S := (fun k_ => P0_ k_)) hg (by repeat (first | (with_reducible first | exact HK.out | apply Kept.alloc | apply Kept.drewN | apply Kept.drew) | exact HK.out)) (fun k_ e_ => (HO_0.out.1 k_ e_))); clear HO_0; clear HB; clear HK; have HO_0 := n0_; have HB := n1_; have HK := n2_; clear n0_ n1_ n2_; clear hg hw hp_) | ((with_reducible refine at_fn (f := 44) rfl ?_); refine goesL_ (some 54) rfl rfl Try.func44 (by kernel_rfl) rfl #[.int .i64 (wrap64 ((wrap64 ((wrap64 ((wrap64 ((wrap64 (x1_1 + 1)) + 1)) + 1)) + 1)) + 1))] rfl (by (try simp only [List.map_toArray, List.map_cons, List.map_nil]); first | done | rfl | (simp only [List.length_drop, List.length_take]; rfl)) ?_; (with_reducible refine (laws_markText.calls k1 (wrap64 ((wrap64 ((wrap64 ((wrap64 ((wrap64 (x1_1 + 1)) + 1)) + 1)) + 1)) + 1)) t363 _ A13.out).mono ?_); rintro e w29 ⟨rfl, hb⟩; refine ⟨_, rfl, ?_⟩; have n0_ := Aside0.mk (Kd.R_below (lf HO_0) hb); have n1_ := Aside0.mk (Kept.below (S := (fun k_ => P0_ k_)) (by repeat (first | (with_reducible first | exact HK.out | apply Kept.alloc | apply Kept.drewN | apply Kept.drew) | exact HK.out)) hb); have n2_ := Aside0.mk (below_step bw hb); clear HO_0; clear HK; clear HB; have HO_0 := n0_; have HK := n1_; have HB := n2_; clear n0_ n1_ n2_; (try clear hb); (try clear hb2); (try clear hk); (try clear hi); have p14 : 0 ≤ (x5_1 : Int) := of_decide_eq_true (by first | (with_reducible assumption) | assumption); have q14 : (x5_1 : Int) < ((x0_1.length : Int) : Int) := of_decide_eq_true (by first | (with_reducible assumption) | assumption); obtain ⟨ce14, hcl14, hM14, hcc14, hfr14⟩ := Kd.R_elem HO_0.out z65 (x5_1 : Int) p14 q14; obtain rfl := k65_openM hM14; have hx14_0 : w29.cell? ⟨go6, (x5_1 : Int).toNat * 6, none⟩ = some (.string ((rd_T65 y362 x5_1).f0)) := hcc14 0 _ rfl; have hx14_1 : w29.cell? ⟨go6, (x5_1 : Int).toNat * 6 + 1, none⟩ = some (.string ((rd_T65 y362 x5_1).f1)) := hcc14 1 _ rfl; have hx14_2 : w29.cell? ⟨go6, (x5_1 : Int).toNat * 6 + 2, none⟩ = some (.string ((rd_T65 y362 x5_1).f2)) := hcc14 2 _ rfl; have hx14_3 : w29.cell? ⟨go6, (x5_1 : Int).toNat * 6 + 3, none⟩ = some (.int .u64 ((rd_T65 y362 x5_1).f3)) := hcc14 3 _ rfl; have hx14_4 : w29.cell? ⟨go6, (x5_1 : Int).toNat * 6 + 4, none⟩ = some (.int .i64 ((rd_T65 y362 x5_1).f4)) := hcc14 4 _ rfl; have hx14_5 : w29.cell? ⟨go6, (x5_1 : Int).toNat * 6 + 5, none⟩ = some (.string ((rd_T65 y362 x5_1).f5)) := hcc14 5 _ rfl; have hf14_0 : w29.frozen? ⟨go6, (x5_1 : Int).toNat * 6, none⟩ = false := hfr14 0; have hf14_1 : w29.frozen? ⟨go6, (x5_1 : Int).toNat * 6 + 1, none⟩ = false := hfr14 1; have hf14_2 : w29.frozen? ⟨go6, (x5_1 : Int).toNat * 6 + 2, none⟩ = false := hfr14 2; have hf14_3 : w29.frozen? ⟨go6, (x5_1 : Int).toNat * 6 + 3, none⟩ = false := hfr14 3; have hf14_4 : w29.frozen? ⟨go6, (x5_1 : Int).toNat * 6 + 4, none⟩ = false := hfr14 4; have hf14_5 : w29.frozen? ⟨go6, (x5_1 : Int).toNat * 6 + 5, none⟩ = false := hfr14 5; clear hcl14 hcc14 hfr14 hM14; replace p14 := eq_true p14; replace q14 := eq_true q14; have HX30 := Aside0.mk (show Kd.R k65 65 w29 w0.heap.size (fun k_ => (P0_ k_ ∨ w.heap.size ≤ k_)) (.slice (some ⟨go6, 0, none⟩) x0_1.length co15) y362 from (lf HO_0)); obtain ⟨ce30, hcl30, hM30, hcc30, hfr30⟩ := Kd.R_elem HX30.out z65 (x5_1 : Int) (of_decide_eq_true (by first | (with_reducible assumption) | assumption)) (by have h_ : (x5_1 : Int) < ((x0_1.length : Int) : Int) := of_decide_eq_true (by first | (with_reducible assumption) | assumption); first | exact h_ | (have e_ := (Kd.R_reads' HO_0.out).1; omega) | simpa using h_); obtain rfl := k65_openM hM30; have HP30 := Kd.R_seg HX30.out (x5_1 : Int) (of_decide_eq_true (by first | (with_reducible assumption) | assumption)) (by have h_ : (x5_1 : Int) < ((x0_1.length : Int) : Int) := of_decide_eq_true (by first | (with_reducible assumption) | assumption); first | exact h_ | (have e_ := (Kd.R_reads' HO_0.out).1; omega) | simpa using h_) (seg := [.string t363]) (j := 5) hcl30 hcc30 (show 6 ≤ 6 from by decide) (x' := (⟨(rd_T65 y362 x5_1).f0, (rd_T65 y362 x5_1).f1, (rd_T65 y362 x5_1).f2, (rd_T65 y362 x5_1).f3, (rd_T65 y362 x5_1).f4, t363⟩ : S65)) (k65_mkM _ _ _ (⟨(rd_T65 y362 x5_1).f0, (rd_T65 y362 x5_1).f1, (rd_T65 y362 x5_1).f2, (rd_T65 y362 x5_1).f3, (rd_T65 y362 x5_1).f4, t363⟩ : S65) ) (fun _ hk => hk); have hx30_5 := hcc30 5 _ rfl; (try simp only [show (k65).sz = 6 from rfl, Nat.mul_one, Nat.add_zero] at hx30_5); have hf30_5 := hfr30 5; (try simp only [show (k65).sz = 6 from rfl, Nat.mul_one, Nat.add_zero] at hf30_5); clear hcl30 hcc30 hfr30 hM30) | ((with_reducible refine gate_store (t := 9) (p := 56) rfl ?_); refine store_event (t := 9) (p := 56) (v := ?vo_w31) (w1 := (w29.setCell ⟨go6, (x5_1 : Int).toNat * 6 + 5, none⟩ (.string t363))) ?hg ?ho ?hn ?hr ?_; (case ho => rfl); (case hg => rfl); (case hn => rfl); (case hr => first | (go_simp; done) | (go_simp; rfl)); intro w31 hw; have hg : w29.grownBy w31 (some go6) := (by rw [hw]; exact HP30.2); have hp_ : Kd.R k65 65 w31 w0.heap.size (fun k_ => (P0_ k_ ∨ w.heap.size ≤ k_)) (.slice (some ⟨go6, 0, none⟩) x0_1.length co15) y364 := (by rw [hw, Ny364.out]; exact HP30.1); clear HP30; have n0_ := Aside0.mk (hp_); have n1_ := Aside0.mk ((by rw [hw]; exact below_set (HB.out) GB6.out : Below w0.heap.size w0 w31)); have n2_ := Aside0.mk (Kept.of_grown (S := (fun k_ => P0_ k_)) hg (by repeat (first | (with_reducible first | exact HK.out | apply Kept.alloc | apply Kept.drewN | apply Kept.drew) | exact HK.out)) (fun k_ e_ => (HO_0.out.1 k_ e_))); clear HO_0; clear HB; clear HK; have HO_0 := n0_; have HB := n1_; have HK := n2_; clear n0_ n1_ n2_; clear hg hw hp_))
     go_roundg k1
     case measure => have := HK1.out; omega
     case rel => exact ⟨(y364), (wrap64 ((wrap64 ((wrap64 ((wrap64 ((wrap64 ((wrap64 (x1_1 + 1)) + 1)) + 1)) + 1)) + 1)) + 1)), (wrap64 (x5_1 + 1)), (by first | rfl | (simp; done) | (simp [*]; done)), (by first | rfl | (simp; done) | (simp [*]; done)), H', ⟨by have := HK1.out; omega⟩, ⟨lf HO_0⟩, ⟨by repeat (first | (with_reducible first | exact HK.out | apply Kept.alloc | apply Kept.drewN | apply Kept.drew) | exact HK.out)⟩, ⟨bw⟩⟩
    ·rw [if_neg c5] at H
     exact absurd H (by simp)
   ·rw [if_neg c3] at H
    have c3b0 : decide (x5_1 < (x0_1.length : Int)) = false := decide_eq_false c3
    clear c3
    simp only [Option.some.injEq, Prod.mk.injEq] at H
    obtain ⟨rfl, rfl⟩ := H
    obtain ⟨Ao32, co32, eo32⟩ := Kd.R_slice HO_0.out
    subst eo32
    go_wp2
    go_ret
    exact ⟨by first | rfl | (simp [errW_none, errW_some] <;> rfl) | (simp [*, errW_none, errW_some] <;> rfl), lf HO_0, bw, by repeat (first | (with_reducible first | exact HK.out | apply Kept.alloc | apply Kept.drewN | apply Kept.drew) | exact HK.out)⟩

end Go.Proofs.Ytjlggfdmfchncaa.Q
