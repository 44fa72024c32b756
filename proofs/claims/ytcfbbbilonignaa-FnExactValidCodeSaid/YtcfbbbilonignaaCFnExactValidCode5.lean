/- FnExactValidCode: the row of the law: its arguments opened, its walk, its statement over lists (PrFnExactValidCode). No condition. -/
import Derived.Test.YtcfbbbilonignaaCFnExactValidCode4

namespace Go.Proofs.Ytcfbbbilonignaa.Q
open Go.RowKit Go.Proofs.YtcfbbbilonignaaW.PrintWords Go.Proofs.YtcfbbbilonignaaW.PrintLast
set_option linter.unusedVariables false
set_option linter.unusedSimpArgs false
set_option linter.unusedSectionVars false
theorem Ev.obind {α β : Type} {x : Nat → Option (Except (Int × Int) α)} {f : Nat → α → Option (Except (Int × Int) β)} {a : α} {r : Except (Int × Int) β} (h : Ev x (.ok a)) (k : Ev (fun n => f n a) r) : Ev (fun n => Q.obind (x n) (f n)) r := by
  obtain ⟨K, h⟩ := h
  obtain ⟨K', k⟩ := k
  refine ⟨max K K', fun n hn => ?_⟩
  simp only []
  rw [h n (by omega)]
  exact k n (by omega)
theorem Ev.obind_err {α β : Type} {x : Nat → Option (Except (Int × Int) α)} {f : Nat → α → Option (Except (Int × Int) β)} {e : Int × Int} (h : Ev x (.error e)) : Ev (fun n => Q.obind (x n) (f n)) (.error e) := by
  obtain ⟨K, h⟩ := h
  refine ⟨K, fun n hn => ?_⟩
  simp only []
  rw [h n hn]
  rfl
section
variable {p : ByteArray} (hp : p.size ≤ 200)
include hp
theorem wr1 {i : Int} (h0 : 0 ≤ i) (h1 : i ≤ p.size) : wrap64 (i + 1) = i + 1 := wrap_id _ (by omega) (by omega)
theorem wr2 {i : Int} (h0 : 0 ≤ i) (h1 : i ≤ p.size) : wrap64 (i + 2) = i + 2 := wrap_id _ (by omega) (by omega)
/-- One ch: what the reference says. -/
def chS : Except (Int × Int) (Int × Int) → Int × Int × Bool
  | .ok (c, j) => (c, j, true)
  | .error (_, a) => (0, a, false)
theorem ch_code {i c a : Int} (h : chF p i = .error (c, a)) : c = 2 := by
  unfold chF at h
  split at h
  · split at h
    · cases h; rfl
    · cases h
  · split at h
    · cases h; rfl
    · cases h
theorem ch_spec {i : Int} (h0 : 0 ≤ i) (h1 : i ≤ p.size) : Ev (fun k => spec_l4Ch.f k p i) (chS (chF p i)) := by
  have hw1 := wr1 hp h0 h1
  have hw2 := wr2 hp h0 h1
  refine ⟨1, fun k hk => ?_⟩
  obtain ⟨k, rfl⟩ : ∃ m, k = m + 1 := ⟨k - 1, by omega⟩
  show spec_l4Ch.f (k + 1) p i = some (chS (chF p i))
  unfold spec_l4Ch.f chF
  by_cases e0 : i = p.size
  · rw [if_pos (by omega), if_neg (by omega), if_pos (.inl e0)]
    simp [spec_l4Ch.j0, chS]
  · rw [if_neg (by omega), if_pos h0, if_pos (by omega)]
    by_cases e93 : bt p i = 93
    · rw [if_pos e93, if_neg (by omega), if_pos (.inr (.inl e93))]
      simp [spec_l4Ch.j0, chS]
    · rw [if_neg e93]
      by_cases e45 : bt p i = 45
      · rw [if_neg (by omega), if_pos (.inr (.inr e45)), e45]
        simp [spec_l4Ch.j0, chS]
      · have hb : (bt p i == 45) = false := beq_eq_false_iff_ne.mpr e45
        rw [hb]
        simp only [spec_l4Ch.j0, Bool.false_eq_true, if_false]
        rw [hw1, hw2]
        have hlt : i < (p.size : Int) := by omega
        by_cases e92 : bt p i = 92
        · by_cases e1 : i + 1 = p.size
          · simp only [h0, hlt, e92, e1, if_true, and_self, ge_iff_le, Int.le_refl]; rfl
          · have e2 : ¬ (p.size : Int) ≤ i + 1 := by omega
            have e3 : 0 ≤ i + 1 := by omega
            have e4 : i + 1 < (p.size : Int) := by omega
            simp only [h0, hlt, e92, e1, e2, e3, e4, if_true, if_false, and_self, ge_iff_le]; rfl
        · have e5 : ¬ (i = p.size ∨ bt p i = 93 ∨ bt p i = 45) := by omega
          simp only [h0, hlt, e92, e5, if_true, if_false, and_false]; rfl
def clS : Except (Int × Int) (List Bool × Int) → Int × Int × Int
  | .ok (_, j) => (j + 1, 0, 0)
  | .error (c, a) => (0, c, a)
theorem cls_spec : ∀ (d : Nat) (i n : Int) (s : List Bool), 0 ≤ i → i ≤ p.size → (p.size : Int) - i = d → 0 ≤ n → n ≤ i →
    ∃ q, Ev (fun k => clsF k p i (decide (n = 0)) s) q ∧ Ev (fun k => spec_l4Class.l0 k p i n) (clS q) ∧ (∀ c a, q = .error (c, a) → c ≠ 0) := by
  intro d
  induction d using Nat.strongRecOn with
  | _ d ih =>
  intro i n s h0 h1 hd n0 n1
  have hcs := ch_spec hp h0 h1
  by_cases ee : i = p.size
  · have hch : chF p i = .error (2, i) := by unfold chF; rw [if_neg (by omega), if_pos (.inl ee)]
    refine ⟨.error (2, i), ⟨1, fun k hk => ?_⟩, ⟨1, fun k hk => ?_⟩, fun c a h => by cases h; decide⟩
    · obtain ⟨k, rfl⟩ : ∃ m, k = m + 1 := ⟨k - 1, by omega⟩
      show clsF (k + 1) p i _ s = _
      simp only [clsF]
      rw [if_pos (.inr (.inl ee)), hch]
    · obtain ⟨k, rfl⟩ : ∃ m, k = m + 1 := ⟨k - 1, by omega⟩
      show spec_l4Class.l0 (k + 1) p i n = _
      simp only [spec_l4Class.l0]
      rw [if_neg (by omega), ee]; rfl
  have hlt : i < p.size := by omega
  have hw1 := wr1 hp h0 h1
  by_cases ec : n = 0 ∨ bt p i ≠ 93
  · -- an item
    have hl0 : ∀ k, spec_l4Class.l0 (k + 1) p i n = spec_l4Class.j3 k p i n false := by
      intro k
      simp only [spec_l4Class.l0]
      rw [if_pos hlt, if_pos h0]
      by_cases e93 : bt p i = 93
      · rw [if_pos e93]
        have : n = 0 := by rcases ec with h | h
                           · exact h
                           · exact absurd e93 h
        rw [this]; rfl
      · rw [if_neg e93]
    have hcl : ∀ k, clsF (k + 1) p i (decide (n = 0)) s = (match chF p i with
      | .error x => some (.error x)
      | .ok (lo, j) =>
        if j < p.size ∧ bt p j = 45 then
          match chF p (j + 1) with
          | .error x => some (.error x)
          | .ok (hi, m) => if lo > hi then some (.error (4, i)) else clsF k p m false (setR s lo hi)
        else clsF k p j false (setR s lo lo)) := by
      intro k
      simp only [clsF]
      rw [if_pos (by rcases ec with h | h
                     · exact .inl (by simp [h])
                     · exact .inr (.inr h))]
      try rfl
    cases hch : chF p i with
    | error x =>
      obtain ⟨c, a⟩ := x
      have hc2 := ch_code hp hch
      subst hc2
      rw [hch] at hcs
      refine ⟨.error (2, a), Ev.step (fun k => by rw [hcl, hch]) (Ev.now _), Ev.step hl0 (Ev.step (fun k => by simp only [spec_l4Class.j3]; rw [if_neg Bool.false_ne_true]) (Ev.bind hcs ?_)), fun c a h => by cases h; decide⟩
      exact Ev.if_neg (by simp [chS]) (Ev.now _)
    | ok x =>
      obtain ⟨lo, j⟩ := x
      obtain ⟨l0, l1, l2, l3⟩ := chF_ok hch h0 h1
      rw [hch] at hcs
      have hw : wrap64 (n + 1) = n + 1 := wrap_id _ (by omega) (by omega)
      have hdn : decide (n + 1 = 0) = false := decide_eq_false (by omega)
      by_cases ed : j < p.size ∧ bt p j = 45
      · have hcs2 := ch_spec hp (i := j + 1) (by omega) (by omega)
        have hwj : wrap64 (j + 1) = j + 1 := wr1 hp (by omega) l3
        cases hch2 : chF p (j + 1) with
        | error x =>
          obtain ⟨c, a⟩ := x
          have hc2 := ch_code hp hch2
          subst hc2
          rw [hch2] at hcs2
          refine ⟨.error (2, a), Ev.step (fun k => by rw [hcl, hch]; simp only []; rw [if_pos ed, hch2]) (Ev.now _), Ev.step hl0 (Ev.step (fun k => by simp only [spec_l4Class.j3]; rw [if_neg Bool.false_ne_true]) (Ev.bind hcs ?_)), fun c a h => by cases h; decide⟩
          simp only [chS, if_true]
          refine Ev.if_pos ed.1 (Ev.if_pos (show 0 ≤ j by omega) ?_)
          rw [ed.2]
          refine Ev.step (fun k => by simp only [spec_l4Class.j4]; rw [if_pos (show ((45 : Int) == 45) = true by decide), hwj]) (Ev.bind hcs2 ?_)
          exact Ev.if_neg (by simp [chS]) (Ev.now _)
        | ok x =>
          obtain ⟨hi, m⟩ := x
          obtain ⟨q0, q1, q2, q3⟩ := chF_ok hch2 (by omega) (by omega)
          rw [hch2] at hcs2
          by_cases elh : lo > hi
          · refine ⟨.error (4, i), Ev.step (fun k => by rw [hcl, hch]; simp only []; rw [if_pos ed, hch2]; simp only []; rw [if_pos elh]) (Ev.now _), Ev.step hl0 (Ev.step (fun k => by simp only [spec_l4Class.j3]; rw [if_neg Bool.false_ne_true]) (Ev.bind hcs ?_)), fun c a h => by cases h; decide⟩
            simp only [chS, if_true]
            refine Ev.if_pos ed.1 (Ev.if_pos (show 0 ≤ j by omega) ?_)
            rw [ed.2]
            refine Ev.step (fun k => by simp only [spec_l4Class.j4]; rw [if_pos (show ((45 : Int) == 45) = true by decide), hwj]) (Ev.bind hcs2 ?_)
            simp only [chS, if_true]
            exact Ev.if_pos elh (Ev.now _)
          · obtain ⟨q, hq1, hq2, hq3⟩ := ih ((p.size : Int) - m).toNat (by omega) m (n + 1) (setR s lo hi) (by omega) q3 (by omega) (by omega) (by omega)
            rw [hdn] at hq1
            refine ⟨q, Ev.step (fun k => by rw [hcl, hch]; simp only []; rw [if_pos ed, hch2]; simp only []; rw [if_neg elh]) hq1, Ev.step hl0 (Ev.step (fun k => by simp only [spec_l4Class.j3]; rw [if_neg Bool.false_ne_true]) (Ev.bind hcs ?_)), hq3⟩
            simp only [chS, if_true]
            refine Ev.if_pos ed.1 (Ev.if_pos (show 0 ≤ j by omega) ?_)
            rw [ed.2]
            refine Ev.step (fun k => by simp only [spec_l4Class.j4]; rw [if_pos (show ((45 : Int) == 45) = true by decide), hwj]) (Ev.bind hcs2 ?_)
            simp only [chS, if_true]
            refine Ev.if_neg elh ?_
            rw [hw]; exact hq2
      · obtain ⟨q, hq1, hq2, hq3⟩ := ih ((p.size : Int) - j).toNat (by omega) j (n + 1) (setR s lo lo) (by omega) l3 (by omega) (by omega) (by omega)
        rw [hdn] at hq1
        refine ⟨q, Ev.step (fun k => by rw [hcl, hch]; simp only []; rw [if_neg ed]) hq1, Ev.step hl0 (Ev.step (fun k => by simp only [spec_l4Class.j3]; rw [if_neg Bool.false_ne_true]) (Ev.bind hcs ?_)), hq3⟩
        simp only [chS, if_true]
        by_cases ej : j < p.size
        · have hb : (bt p j == 45) = false := beq_eq_false_iff_ne.mpr (fun h => ed ⟨ej, h⟩)
          refine Ev.if_pos ej (Ev.if_pos (show 0 ≤ j by omega) ?_)
          rw [hb]
          refine Ev.step (fun k => by simp only [spec_l4Class.j4]; rw [if_neg Bool.false_ne_true, hw]) hq2
        · refine Ev.if_neg ej ?_
          refine Ev.step (fun k => by simp only [spec_l4Class.j4]; rw [if_neg Bool.false_ne_true, hw]) hq2
  · have hn : ¬ n = 0 := fun h => ec (.inl h)
    have h93 : bt p i = 93 := Classical.not_not.mp fun h => ec (.inr h)
    refine ⟨.ok (s, i), Ev.step (f := fun _ => some (.ok (s, i))) (fun k => ?_) (Ev.now _), Ev.step (f := fun k => spec_l4Class.j3 k p i n true) (fun k => ?_) (Ev.step (f := fun _ => some (i + 1, 0, 0)) (fun k => ?_) (Ev.now _)), fun c a h => by cases h⟩
    · simp only [clsF]
      rw [if_neg (by simp [hn, ee, h93])]
    · simp only [spec_l4Class.l0]
      rw [if_pos hlt, if_pos h0, if_pos h93, decide_eq_true (by omega)]
    · simp only [spec_l4Class.j3, if_true, hw1]
theorem class_spec {i : Int} (h0 : 0 ≤ i) (h1 : i < p.size) : ∃ q, Ev (fun k => claF k p (i + 1)) q ∧ ((∃ s j, q = .ok (s, j) ∧ Ev (fun k => spec_l4Class.f k p i) (j, 0, 0)) ∨ (∃ c a, q = .error (c, a) ∧ c ≠ 0 ∧ Ev (fun k => spec_l4Class.f k p i) (0, c, a))) := by
  have hw1 := wr1 hp h0 (Int.le_of_lt h1)
  have hn : 0 ≤ notI p (i + 1) ∧ notI p (i + 1) ≤ p.size := by
    unfold notI; split
    · rename_i hh; unfold notQ at hh; simp at hh; omega
    · omega
  obtain ⟨q, hq1, hq2, hq3⟩ := cls_spec hp ((p.size : Int) - notI p (i + 1)).toNat (notI p (i + 1)) 0 noB hn.1 hn.2 (by omega) (Int.le_refl _) hn.1
  have hs : Ev (fun k => spec_l4Class.f k p i) (clS q) := by
    unfold spec_l4Class.f
    rw [hw1]
    by_cases e : i + 1 < p.size
    · refine Ev.if_pos e (Ev.if_pos (show 0 ≤ i + 1 by omega) ?_)
      have hnq : notQ p (i + 1) = (bt p (i + 1) == 94) := by unfold notQ; rw [decide_eq_true e]; rfl
      have hw2 := wr1 hp (i := i + 1) (by omega) (by omega)
      refine Ev.step (f := fun k => spec_l4Class.j1 k p (notI p (i + 1))) (fun k => ?_) (Ev.step (fun k => by simp only [spec_l4Class.j1]) hq2)
      simp only [spec_l4Class.j0]
      unfold notI
      rw [hnq, hw2]
      split <;> rfl
    · refine Ev.if_neg e ?_
      have hnq : notQ p (i + 1) = false := by unfold notQ; rw [decide_eq_false e]; rfl
      refine Ev.step (f := fun k => spec_l4Class.j1 k p (notI p (i + 1))) (fun k => ?_) (Ev.step (fun k => by simp only [spec_l4Class.j1]) hq2)
      simp only [spec_l4Class.j0]
      unfold notI
      rw [hnq]
      rfl
  have hc : Ev (fun k => claF k p (i + 1)) (q.map fun x => (if notQ p (i + 1) then x.1.map (!·) else x.1, x.2 + 1)) := by
    obtain ⟨K, hK⟩ := hq1
    refine ⟨K, fun k hk => ?_⟩
    have := hK k hk
    simp only [decide_true] at this
    show (clsF k p (notI p (i + 1)) true noB).map _ = _
    rw [this]; rfl
  refine ⟨_, hc, ?_⟩
  rcases q with ⟨c, a⟩ | ⟨s, j⟩
  · exact .inr ⟨c, a, rfl, hq3 c a rfl, hs⟩
  · exact .inl ⟨_, _, rfl, hs⟩
theorem l4Op_is (c : Int) : spec_l4Op.f c = some (isOp c) := by
  unfold spec_l4Op.f isOp
  by_cases h1 : c = 42
  · simp [h1]
  · by_cases h2 : c = 43
    · simp [h2]
    · simp [h1, h2, beq_eq_false_iff_ne.mpr h1, beq_eq_false_iff_ne.mpr h2]
/-- The reference comes to r from this state. -/
def SL (p : ByteArray) (o : Int) (at_ : Bool) (i : Int) (r : Int × Int) : Prop := Ev (fun k => spec_CheckRegex.l0 k p o at_ i) r
theorem sl_s (k : Nat) (o : Int) (at_ : Bool) (i : Int) (h0 : 0 ≤ i) (h1 : i < p.size) (ho : 0 ≤ o) (ho2 : o ≤ 20) : spec_CheckRegex.l0 (k + 1) p o at_ i =
    (if bt p i = 40 then (if o = 20 then some (3, i) else spec_CheckRegex.l0 k p (o + 1) false (i + 1))
    else if bt p i = 41 then (if o = 0 then some (2, i) else spec_CheckRegex.l0 k p (o - 1) true (i + 1))
    else if bt p i = 124 then spec_CheckRegex.l0 k p o false (i + 1)
    else if isOp (bt p i) = true then (if at_ = true then spec_CheckRegex.l0 k p o at_ (i + 1) else some (2, i))
    else if bt p i = 91 then ((spec_l4Class.f k p i).bind fun b => if b.2.1 = 0 then spec_CheckRegex.l0 k p o true b.1 else some (b.2.1, b.2.2))
    else if bt p i = 93 then some (2, i)
    else if bt p i = 92 then (if i + 1 = p.size then some (2, (p.size : Int)) else spec_CheckRegex.l0 k p o true (i + 2))
    else spec_CheckRegex.l0 k p o true (i + 1)) := by
  have hw1 := wr1 hp h0 (Int.le_of_lt h1)
  have hw2 := wr2 hp h0 (Int.le_of_lt h1)
  have hw3 : wrap64 (o + 1) = o + 1 := wrap_id _ (by omega) (by omega)
  have hw4 : wrap64 (o - 1) = o - 1 := wrap_id _ (by omega) (by omega)
  rw [spec_CheckRegex.l0, if_pos h1, if_pos h0, hw1, hw2, hw3, hw4, l4Op_is hp]
  rfl
theorem sl_end (o : Int) (at_ : Bool) (ho : 0 ≤ o) : SL p o at_ p.size (if o > 0 then (2, (p.size : Int)) else (0, 0)) := by
  refine Ev.step (f := fun _ => some (if o > 0 then (2, (p.size : Int)) else (0, 0))) (fun k => ?_) (Ev.now _)
  rw [spec_CheckRegex.l0, if_neg (by omega)]
  split <;> rfl
/-- Operators behind an atom. -/
theorem ops_spec : ∀ (d : Nat) (j : Int) (x : Rx) (o : Int), 0 ≤ o → o ≤ 20 → 0 ≤ j → j ≤ p.size → (p.size : Int) - j = d →
    ∃ x' j', Ev (fun k => opsF k p j x) (x', j') ∧ j ≤ j' ∧ j' ≤ p.size ∧ (j' < p.size → isOp (bt p j') = false) ∧ ∀ r, SL p o true j' r → SL p o true j r := by
  intro d
  induction d with
  | zero =>
    intro j x o o0 o1 h0 h1 hd
    refine ⟨x, j, Ev.step (f := fun _ => some (x, j)) (fun k => ?_) (Ev.now _), Int.le_refl _, h1, fun h => by omega, fun r h => h⟩
    simp only [opsF]
    rw [if_neg (by omega)]
  | succ d ih =>
    intro j x o o0 o1 h0 h1 hd
    have hlt : j < p.size := by omega
    by_cases hop : isOp (bt p j) = true
    · obtain ⟨x', j', he, a, b, c, hs⟩ := ih (j + 1) (.rep x (bt p j)) o o0 o1 (by omega) (by omega) (by omega)
      refine ⟨x', j', Ev.step (fun k => by simp only [opsF]; rw [if_pos ⟨hlt, hop⟩]) he, by omega, b, c, fun r h => Ev.step (fun k => ?_) (hs r h)⟩
      have hn : bt p j ≠ 40 ∧ bt p j ≠ 41 ∧ bt p j ≠ 124 := by
        refine ⟨fun e => ?_, fun e => ?_, fun e => ?_⟩ <;> (rw [e] at hop; revert hop; decide)
      rw [sl_s hp k o true j h0 hlt o0 o1, if_neg hn.1, if_neg hn.2.1, if_neg hn.2.2, if_pos hop, if_pos rfl]
    · refine ⟨x, j, Ev.step (f := fun _ => some (x, j)) (fun k => ?_) (Ev.now _), Int.le_refl _, h1, fun _ => by simpa using hop, fun r h => h⟩
      simp only [opsF]
      rw [if_neg (fun h => hop h.2)]
def AtomS (p : ByteArray) (i o : Int) (at_ : Bool) : Prop :=
  (∃ c a, Ev (fun k => atomF k p i o) (.error (c, a)) ∧ SL p o at_ i (c, a)) ∨
  (∃ x j, Ev (fun k => atomF k p i o) (.ok (x, j)) ∧ i < j ∧ j ≤ p.size ∧ ∀ r, SL p o true j r → SL p o at_ i r)
def SeqS (p : ByteArray) (i o : Int) (at_ : Bool) : Prop :=
  (∃ c a, (∀ acc, Ev (fun k => seqL k p i o acc) (.error (c, a))) ∧ SL p o at_ i (c, a)) ∨
  (∃ xs j, (∀ acc, Ev (fun k => seqL k p i o acc) (.ok (.seq (acc ++ xs), j))) ∧ i ≤ j ∧ j ≤ p.size ∧ (j < p.size → bt p j = 124 ∨ bt p j = 41) ∧ ∀ r, (∀ b, SL p o b j r) → SL p o at_ i r)
def AltS (p : ByteArray) (i o : Int) : Prop :=
  (∃ c a, (∀ acc, Ev (fun k => altL k p i o acc) (.error (c, a))) ∧ SL p o false i (c, a)) ∨
  (∃ xs j, (∀ acc, Ev (fun k => altL k p i o acc) (.ok (.alt (acc ++ xs), j))) ∧ i ≤ j ∧ j ≤ p.size ∧ (j < p.size → bt p j = 41) ∧ ∀ r, (∀ b, SL p o b j r) → SL p o false i r)
theorem atom_spec (i o : Int) (at_ : Bool) (h0 : 0 ≤ i) (h1 : i < p.size) (o0 : 0 ≤ o) (o1 : o ≤ 20) (hat : at_ = true → isOp (bt p i) = false) (n124 : bt p i ≠ 124) (n41 : bt p i ≠ 41)
    (IH : o < 20 → AltS p (i + 1) (o + 1)) : AtomS p i o at_ := by
  have hsl := fun k b => sl_s hp k o b i h0 h1 o0 o1
  by_cases n40 : bt p i = 40
  · by_cases e20 : o = 20
    · refine .inl ⟨3, i, Ev.step (f := fun _ => some (.error (3, i))) (fun k => by rw [atomF_s, if_pos n40, if_pos e20]) (Ev.now _), Ev.step (f := fun _ => some (3, i)) (fun k => by rw [hsl, if_pos n40, if_pos e20]) (Ev.now _)⟩
    · have ho : o < 20 := by omega
      rcases IH ho with ⟨c, a, ha, hs⟩ | ⟨xs, j, ha, a, b, hj, hs⟩
      · refine .inl ⟨c, a, Ev.step (fun k => by rw [atomF_s, if_pos n40, if_neg e20]) (Ev.obind_err (ha [])), Ev.step (fun k => by rw [hsl, if_pos n40, if_neg e20]) hs⟩
      · by_cases ej : j = p.size
        · refine .inl ⟨2, j, Ev.step (fun k => by rw [atomF_s, if_pos n40, if_neg e20]) (Ev.obind (ha []) (Ev.if_pos ej (Ev.now _))), Ev.step (fun k => by rw [hsl, if_pos n40, if_neg e20]) (hs _ fun b => ?_)⟩
          have := sl_end hp (o + 1) b (by omega)
          rw [if_pos (by omega)] at this
          rw [ej]; exact this
        · have hlt : j < p.size := by omega
          refine .inr ⟨_, j + 1, Ev.step (fun k => by rw [atomF_s, if_pos n40, if_neg e20]) (Ev.obind (ha []) (Ev.if_neg ej (Ev.now _))), by omega, by omega, fun r h => Ev.step (fun k => by rw [hsl, if_pos n40, if_neg e20]) (hs _ fun b => ?_)⟩
          have h41 := hj hlt
          refine Ev.step (fun k => ?_) h
          rw [sl_s hp k (o + 1) b j (by omega) hlt (by omega) (by omega), if_neg (by omega), if_pos h41, if_neg (by omega), show o + 1 - 1 = o by omega]
  · by_cases n91 : bt p i = 91
    · have hop : ¬ isOp (bt p i) = true := by rw [n91]; decide
      obtain ⟨q, hq, h⟩ := class_spec hp h0 h1
      have hA : ∀ k, atomF (k + 1) p i o = obind (claF k p (i + 1)) fun x => some (.ok (.one x.1 0 false, x.2)) := fun k => by rw [atomF_s, if_neg n40, if_pos n91]
      have hS : ∀ k, spec_CheckRegex.l0 (k + 1) p o at_ i = ((spec_l4Class.f k p i).bind fun b => if b.2.1 = 0 then spec_CheckRegex.l0 k p o true b.1 else some (b.2.1, b.2.2)) := fun k => by rw [hsl, if_neg n40, if_neg n41, if_neg n124, if_neg hop, if_pos n91]
      rcases h with ⟨s, j, rfl, hs⟩ | ⟨c, a, rfl, hc, hs⟩
      · obtain ⟨K, hK⟩ := hq
        obtain ⟨a, b, -⟩ := claF_ok (hK K (Nat.le_refl _)) (by omega) (by omega)
        have a' : i + 1 < j := a
        refine .inr ⟨_, j, Ev.step hA (Ev.obind ⟨K, hK⟩ (Ev.now _)), by omega, b, fun r h => Ev.step hS (Ev.bind hs (Ev.if_pos rfl h))⟩
      · refine .inl ⟨c, a, Ev.step hA (Ev.obind_err hq), Ev.step hS (Ev.bind hs (Ev.if_neg hc (Ev.now _)))⟩
    · by_cases n46 : bt p i = 46
      · have hop : ¬ isOp (bt p i) = true := by rw [n46]; decide
        refine .inr ⟨_, i + 1, Ev.step (fun k => by rw [atomF_s, if_neg n40, if_neg n91, if_pos n46]) (Ev.now _), by omega, by omega, fun r h => Ev.step (fun k => ?_) h⟩
        rw [hsl, if_neg n40, if_neg n41, if_neg n124, if_neg hop, if_neg n91, if_neg (by omega), if_neg (by omega)]
      · by_cases hop : isOp (bt p i) = true
        · have hb : at_ = false := by
            cases at_
            · rfl
            · have := hat rfl; rw [hop] at this; cases this
          subst hb
          refine .inl ⟨2, i, Ev.step (fun k => by rw [atomF_s, if_neg n40, if_neg n91, if_neg n46, if_pos (.inl hop)]) (Ev.now _), Ev.step (fun k => ?_) (Ev.now _)⟩
          rw [hsl, if_neg n40, if_neg n41, if_neg n124, if_pos hop, if_neg Bool.false_ne_true]
        · by_cases n93 : bt p i = 93
          · refine .inl ⟨2, i, Ev.step (fun k => by rw [atomF_s, if_neg n40, if_neg n91, if_neg n46, if_pos (.inr n93)]) (Ev.now _), Ev.step (fun k => ?_) (Ev.now _)⟩
            rw [hsl, if_neg n40, if_neg n41, if_neg n124, if_neg hop, if_neg n91, if_pos n93]
          · have hno : ¬ (isOp (bt p i) = true ∨ bt p i = 93) := fun h => h.elim hop n93
            by_cases n92 : bt p i = 92
            · by_cases e1 : i + 1 = p.size
              · refine .inl ⟨2, i + 1, Ev.step (fun k => by rw [atomF_s, if_neg n40, if_neg n91, if_neg n46, if_neg hno, if_pos n92, if_pos e1]) (Ev.now _), Ev.step (fun k => ?_) (Ev.now _)⟩
                rw [hsl, if_neg n40, if_neg n41, if_neg n124, if_neg hop, if_neg n91, if_neg n93, if_pos n92, if_pos e1, e1]
              · refine .inr ⟨_, i + 2, Ev.step (fun k => by rw [atomF_s, if_neg n40, if_neg n91, if_neg n46, if_neg hno, if_pos n92, if_neg e1]) (Ev.now _), by omega, by omega, fun r h => Ev.step (fun k => ?_) h⟩
                rw [hsl, if_neg n40, if_neg n41, if_neg n124, if_neg hop, if_neg n91, if_neg n93, if_pos n92, if_neg e1]
            · refine .inr ⟨_, i + 1, Ev.step (fun k => by rw [atomF_s, if_neg n40, if_neg n91, if_neg n46, if_neg hno, if_neg n92]) (Ev.now _), by omega, by omega, fun r h => Ev.step (fun k => ?_) h⟩
              rw [hsl, if_neg n40, if_neg n41, if_neg n124, if_neg hop, if_neg n91, if_neg n93, if_neg n92]
theorem par_spec : ∀ (d : Nat) (i : Int), 0 ≤ i → i ≤ p.size → (p.size : Int) - i = d → (∀ o at_, 0 ≤ o → o ≤ 20 → (at_ = true → i < p.size → isOp (bt p i) = false) → SeqS p i o at_) ∧ (∀ o, 0 ≤ o → o ≤ 20 → AltS p i o) := by
  intro d
  induction d using Nat.strongRecOn with
  | _ d ih =>
  intro i h0 h1 hd
  have hseq : ∀ o at_, 0 ≤ o → o ≤ 20 → (at_ = true → i < p.size → isOp (bt p i) = false) → SeqS p i o at_ := by
    intro o at_ o0 o1 hat
    by_cases hc : i < p.size ∧ (bt p i ≠ 124 ∧ bt p i ≠ 41)
    · have hS : ∀ k acc, seqL (k + 1) p i o acc = obind (atomF k p i o) fun x => (opsF k p x.2 x.1).bind fun y => seqL k p y.2 o (acc ++ [y.1]) := fun k acc => by rw [seqL_s, if_pos hc]
      rcases atom_spec hp i o at_ h0 hc.1 o0 o1 (fun h => hat h hc.1) hc.2.1 hc.2.2 (fun h20 => (ih ((p.size : Int) - (i + 1)).toNat (by omega) (i + 1) (by omega) (by omega) (by omega)).2 (o + 1) (by omega) (by omega)) with ⟨c, a, ha, hs⟩ | ⟨x, j, ha, a, b, hs⟩
      · exact .inl ⟨c, a, fun acc => Ev.step (fun k => hS k acc) (Ev.obind_err ha), hs⟩
      · obtain ⟨x', j', ho, a2, b2, c2, hs2⟩ := ops_spec hp ((p.size : Int) - j).toNat j x o o0 o1 (by omega) b (by omega)
        rcases (ih ((p.size : Int) - j').toNat (by omega) j' (by omega) b2 (by omega)).1 o true o0 o1 (fun _ h => c2 h) with ⟨c, e, hq, hs3⟩ | ⟨xs, j3, hq, a3, b3, c3, hs3⟩
        · exact .inl ⟨c, e, fun acc => Ev.step (fun k => hS k acc) (Ev.obind ha (Ev.bind ho (hq _))), hs _ (hs2 _ hs3)⟩
        · refine .inr ⟨x' :: xs, j3, fun acc => ?_, by omega, b3, c3, fun r h => hs _ (hs2 _ (hs3 r h))⟩
          have := hq (acc ++ [x'])
          rw [List.append_assoc] at this
          exact Ev.step (fun k => hS k acc) (Ev.obind ha (Ev.bind ho this))
    · refine .inr ⟨[], i, fun acc => ?_, Int.le_refl _, h1, fun hlt => ?_, fun r h => h _⟩
      · rw [List.append_nil]
        exact Ev.step (fun k => by rw [seqL_s, if_neg hc]) (Ev.now _)
      · by_cases e : bt p i = 124
        · exact .inl e
        · by_cases e2 : bt p i = 41
          · exact .inr e2
          · exact absurd ⟨hlt, e, e2⟩ hc
  refine ⟨hseq, fun o o0 o1 => ?_⟩
  rcases hseq o false o0 o1 (fun h => by cases h) with ⟨c, a, hq, hs⟩ | ⟨xs, j, hq, a, b, hj, hs⟩
  · exact .inl ⟨c, a, fun acc => Ev.step (fun k => altL_s k p i o acc) (Ev.obind_err (hq [])), hs⟩
  · by_cases hb : j = p.size ∨ bt p j ≠ 124
    · refine .inr ⟨[.seq xs], j, fun acc => Ev.step (fun k => altL_s k p i o acc) (Ev.obind (hq []) (Ev.if_pos hb (Ev.now _))), a, b, fun hlt => ?_, hs⟩
      rcases hj hlt with h | h
      · rcases hb with h' | h'
        · omega
        · exact absurd h h'
      · exact h
    · have e1 : j < p.size := by
        have : ¬ j = p.size := fun h => hb (.inl h)
        omega
      have e2 : bt p j = 124 := Classical.not_not.mp fun h => hb (.inr h)
      have hbar : ∀ r, SL p o false (j + 1) r → ∀ b, SL p o b j r := fun r h b => Ev.step (fun k => by rw [sl_s hp k o b j (by omega) e1 o0 o1, if_neg (by omega), if_neg (by omega), if_pos e2]) h
      rcases (ih ((p.size : Int) - (j + 1)).toNat (by omega) (j + 1) (by omega) (by omega) (by omega)).2 o o0 o1 with ⟨c, e, ha, hs3⟩ | ⟨ys, j3, ha, a3, b3, c3, hs3⟩
      · exact .inl ⟨c, e, fun acc => Ev.step (fun k => altL_s k p i o acc) (Ev.obind (hq []) (Ev.if_neg hb (ha _))), hs _ (hbar _ hs3)⟩
      · refine .inr ⟨.seq xs :: ys, j3, fun acc => ?_, by omega, b3, c3, fun r h => hs _ (hbar _ (hs3 r h))⟩
        have := ha (acc ++ [.seq xs])
        rw [List.append_assoc] at this
        exact Ev.step (fun k => altL_s k p i o acc) (Ev.obind (hq []) (Ev.if_neg hb this))
end
/-- The program's reading of a pattern and the reference's check tell the same fault. -/
theorem check_spec (p : ByteArray) : ∃ q, Ev (fun k => patR k p) q ∧ Ev (fun k => spec_CheckRegex.f k p) (match q with | .ok _ => (0, 0) | .error x => x) := by
  by_cases hb : 200 < p.size
  · refine ⟨.error (1, 0), ⟨0, fun k _ => ?_⟩, ⟨0, fun k _ => ?_⟩⟩
    · show patR k p = _
      unfold patR; rw [if_pos hb]
    · show spec_CheckRegex.f k p = _
      unfold spec_CheckRegex.f; rw [if_pos (by omega)]
  · have hp : p.size ≤ 200 := by omega
    have hR : ∀ k, patR k p = patF k p := fun k => by unfold patR; rw [if_neg hb]
    have hF : ∀ k, spec_CheckRegex.f k p = spec_CheckRegex.l0 k p 0 false 0 := fun k => by unfold spec_CheckRegex.f; rw [if_neg (by omega)]
    simp only [hR, hF]
    rcases (par_spec hp p.size 0 (Int.le_refl _) (by omega) (by omega)).2 0 (Int.le_refl _) (by omega) with ⟨c, a, ha, hs⟩ | ⟨xs, j, ha, a, b, hj, hs⟩
    · exact ⟨.error (c, a), Ev.obind_err (ha []), hs⟩
    · by_cases e : j < p.size
      · refine ⟨.error (2, j), Ev.obind (ha []) (Ev.if_pos e (Ev.now _)), hs _ fun b => Ev.step (fun k => ?_) (Ev.now _)⟩
        rw [sl_s hp k 0 b j a e (Int.le_refl _) (by omega), if_neg (by have := hj e; omega), if_pos (hj e), if_pos rfl]
      · refine ⟨.ok (.alt ([] ++ xs)), Ev.obind (ha []) (Ev.if_neg e (Ev.now _)), hs _ fun b => ?_⟩
        have := sl_end hp 0 b (Int.le_refl _)
        rw [if_neg (by omega)] at this
        rw [show j = p.size by omega]; exact this
end Go.Proofs.Ytcfbbbilonignaa.Q

namespace Go.Proofs.Ytcfbbbilonignaa.Q
open Go.RowKit Go.Proofs.YtcfbbbilonignaaW.PrintWords Go.Proofs.YtcfbbbilonignaaW.PrintLast Go.Proofs.YtcfbbbilonignaaW.PrintMore
theorem regex_same (p : ByteArray) : ∃ x : Int × Int, Ev (fun k => impl_CheckRegex.f k p) x ∧ Ev (fun k => spec_CheckRegex.f k p) x := by
  obtain ⟨q, hi, hs⟩ := check_spec p
  obtain ⟨K, hK⟩ := hi
  rcases q with x | x
  · exact ⟨x, ⟨K, fun k hk => by have h : patR k p = some (.error x) := hK k hk; show (patR k p).map _ = _; rw [h]; rfl⟩, hs⟩
  · exact ⟨(0, 0), ⟨K, fun k hk => by have h : patR k p = some (.ok x) := hK k hk; show (patR k p).map _ = _; rw [h]; rfl⟩, hs⟩
theorem bare_eq (a0 : Int) (a1 : ByteArray) (a2 : Bool) (a3 : ByteArray) (a4 a5 a6 : Int) (b1 b2 b3 b4 b5 : Bool) :
    spec_l5Bare.f a0 a1 a2 a3 a4 a5 a6 b1 b2 b3 b4 b5 = some ((b1 || a1.toList == []) && ((b2 || !a2) && ((b3 || a3.toList == []) && ((b4 || (a4 == 0 && a5 == 0)) && (b5 || a6 == 0))))) := by
  unfold spec_l5Bare.f
  cases b1 <;> cases b2 <;> cases b3 <;> cases b4 <;> cases b5 <;> grind
theorem node_same (a0 : Int) (a1 : ByteArray) (a2 : Bool) (a3 : ByteArray) (a4 a5 a6 : Int) : ∃ c, Ev (fun k => impl_Node_good.f k a0 a1 a2 a3 a4 a5 a6) (ndOk c a0 a1 a2 a3 a4 a5 a6) ∧ Ev (fun k => spec_l5GoodNode.f k a0 a1 a2 a3 a4 a5 a6) (ndOk c a0 a1 a2 a3 a4 a5 a6) := by
  obtain ⟨x, h1, ⟨K2, h2⟩⟩ := regex_same a1
  refine ⟨x.1 == 0, Ev.bind h1 (Ev.now _), ⟨K2 + 5, fun k hk => ?_⟩⟩
  obtain ⟨j, rfl⟩ : ∃ j, k = j + 5 := ⟨k - 5, by omega⟩
  have g3 : spec_CheckRegex.f (j + 3) a1 = some x := h2 _ (by omega)
  clear h1 h2 hk
  show spec_l5GoodNode.f (j + 5) a0 a1 a2 a3 a4 a5 a6 = _
  unfold spec_l5GoodNode.f
  simp only [spec_l5GoodNode.j0, spec_l5GoodNode.j1, spec_l5GoodNode.j2, spec_l5GoodNode.j3, bare_eq, Option.bind_some, g3, Bool.true_or, Bool.false_or, Bool.true_and]
  unfold ndOk ndX
  generalize Op.bytesLess a1.toList a3.toList = lt
  generalize a1.toList = L1
  generalize a3.toList = L3
  clear g3
  by_cases s1 : (a1.size : Int) > 200
  · simp only [s1, if_true]
  by_cases s3 : (a3.size : Int) > 200
  · simp only [s1, s3, if_true, if_false]
  simp only [s1, s3, if_false]
  clear s1 s3
  cases a2 <;> by_cases h3 : L3 = [] <;> by_cases h1 : L1 = [] <;> grind (splits := 60)
end Go.Proofs.Ytcfbbbilonignaa.Q

namespace Go.Proofs.Ytcfbbbilonignaa.Q
open Go.RowKit Go.Proofs.YtcfbbbilonignaaW.PrintWords Go.Proofs.YtcfbbbilonignaaW.PrintLast Go.Proofs.YtcfbbbilonignaaW.PrintMore
set_option linter.unusedVariables false
set_option linter.unusedSimpArgs false

/-! ### spec_l5Arity: function 92 -/
def spec_l5Arity.j0 : Nat → Int → Bool → Option (Int)
 | 0, _, _ => none
 | k + 1, x0, x8 => if x8 = true then (some 2) else (if x0 = 16 then (some 3) else (some 0))
def spec_l5Arity.f (k : Nat) (a0 : Int) : Option (Int) := if a0 = 14 then (spec_l5Arity.j0 k a0 true) else (spec_l5Arity.j0 k a0 (a0 == 15))
set_option maxHeartbeats 8000000 in
set_option maxRecDepth 100000 in
theorem spec_l5Arity.calls (k : Nat) (a0 : Int) (r : Int) (w : World) (h : spec_l5Arity.f k a0 = some r) :
  Calls Try.prog 92 #[.int .i64 a0] w fun e w' => e = .returned (.int .i64 r) ∧ Drawn0 w w' := by
 have H : (if a0 = 14 then (spec_l5Arity.j0 k a0 true) else (spec_l5Arity.j0 k a0 (a0 == 15))) = some r := h
 clear h
 have HC2 := Aside0.mk H
 clear H
 go_enter Try.func92, Try.ntmps92
 go_upto_region 1 with (fail)
 go_cut [8] (fun v8 wc => ∃ (kq : Nat) (x8_1 : Bool), v8 = .bool x8_1 ∧ Aside0 (spec_l5Arity.j0 kq a0 x8_1 = some r) ∧ Aside0 (kq ≤ k) ∧ Drawn0 w wc)
 case first =>
  have H := HC2.out
  clear HC2
  by_cases c3 : a0 = 14
  ·rw [if_pos c3] at H
   have c3b0 : (a0 == 14) = true := beq_iff_eq.mpr c3
   have c3b1 : (a0 != 14) = false := bne_eq_false_iff_eq.mpr c3
   clear c3
   (first | rw [c3b0] | (simp only [i64_w, i32_w]; rw [c3b0]) | skip)
   have H' := Aside0.mk H
   clear H
   go_wp2
   go_meet
   case rel => exact ⟨_, (true), (by first | rfl | (simp; done) | (simp [*]; done)), H', ⟨by first | omega | exact Nat.le_refl _⟩, by repeat (first | exact Drawn0.refl _ | apply Drawn0.step)⟩
  ·rw [if_neg c3] at H
   have c3b0 : (a0 == 14) = false := beq_eq_false_iff_ne.mpr c3
   have c3b1 : (a0 != 14) = true := bne_iff_ne.mpr c3
   (first | rw [c3b0] | (simp only [i64_w, i32_w]; rw [c3b0]) | skip)
   have H' := Aside0.mk H
   clear H
   go_wp2
   go_meet
   case rel => exact ⟨_, ((a0 == 15)), (by first | rfl | (simp; done) | (simp [*]; done)), H', ⟨by first | omega | exact Nat.le_refl _⟩, by repeat (first | exact Drawn0.refl _ | apply Drawn0.step)⟩
 case rest =>
  clear HC2
  try clear p2
  try clear c3
  try clear c3b0
  try clear c3b1
  obtain ⟨kq, x8_1, rfl, HA, HJ1, ⟨mc1, rfl⟩⟩ := hcut
  cases kq with
  | zero => exact absurd HA.out (by simp [spec_l5Arity.j0])
  | succ kj1 =>
   have H := HA.out
   clear HA
   simp only [spec_l5Arity.j0] at H
   by_cases c4 : x8_1 = true
   ·subst c4
    have H1 : (some 2) = some r := by rw [if_pos rfl] at H; exact H
    clear H
    have H := H1
    clear H1
    obtain rfl := Option.some.inj H
    go_wp2
    go_ret
    exact ⟨by first | rfl | (simp; done) | (simp [*]; done), by repeat (first | exact Drawn0.refl _ | apply Drawn0.step)⟩
   ·replace c4 := Bool.eq_false_iff.mpr c4
    subst c4
    have H1 : (if a0 = 16 then (some 3) else (some 0)) = some r := by rw [if_neg (show ¬ (false = true) by decide)] at H; exact H
    clear H
    have H := H1
    clear H1
    by_cases c5 : a0 = 16
    ·rw [if_pos c5] at H
     have c5b0 : (a0 == 16) = true := beq_iff_eq.mpr c5
     have c5b1 : (a0 != 16) = false := bne_eq_false_iff_eq.mpr c5
     clear c5
     obtain rfl := Option.some.inj H
     go_wp2
     go_ret
     exact ⟨by first | rfl | (simp; done) | (simp [*]; done), by repeat (first | exact Drawn0.refl _ | apply Drawn0.step)⟩
    ·rw [if_neg c5] at H
     have c5b0 : (a0 == 16) = false := beq_eq_false_iff_ne.mpr c5
     have c5b1 : (a0 != 16) = true := bne_iff_ne.mpr c5
     obtain rfl := Option.some.inj H
     go_wp2
     go_ret
     exact ⟨by first | rfl | (simp; done) | (simp [*]; done), by repeat (first | exact Drawn0.refl _ | apply Drawn0.step)⟩

end Go.Proofs.Ytcfbbbilonignaa.Q

namespace Go.Proofs.Ytcfbbbilonignaa.Q
open Go.RowKit Go.Proofs.YtcfbbbilonignaaW.PrintWords Go.Proofs.YtcfbbbilonignaaW.PrintLast Go.Proofs.YtcfbbbilonignaaW.PrintMore
set_option linter.unusedVariables false
set_option linter.unusedSimpArgs false

/-! ### spec_l5From: function 55 -/
def spec_l5From.l0 : Nat → List (S66) → Int → Int → Option (Int)
 | 0, _, _, _ => none
 | k + 1, x0, x3, x4 => if x3 > 0 then (if (wrap64 (x4 - 1)) < 0 then (some (-1)) else (if 0 ≤ (wrap64 (x4 - 1)) then (if (wrap64 (x4 - 1)) < (x0.length : Int) then ((spec_l5Arity.f k ((rd_T66 x0 (wrap64 (x4 - 1))).f0)).bind fun t129 => (spec_l5From.l0 k x0 (wrap64 ((wrap64 (x3 - 1)) + t129)) (wrap64 (x4 - 1)))) else (none)) else (none))) else (some x4)
def spec_l5From.f (k : Nat) (l0 : List (S66)) : Option (Int) := spec_l5From.l0 k l0 1 (l0.length : Int)
set_option maxHeartbeats 8000000 in
set_option maxRecDepth 100000 in
theorem spec_l5From.calls (k : Nat) (A0 : Option Addr) (c0 : Nat) (l0 : List (S66)) (r : Int) (w : World) (hr0 : Kd.C k66 w A0 l0.length l0) (hc0 : l0.length ≤ c0) (h : spec_l5From.f k l0 = some r) :
  Calls Try.prog 55 #[.slice A0 l0.length c0] w fun e w' => e = .returned (.int .i64 r) ∧ Drawn0 w w' := by
 have HR0 := Aside0.mk hr0
 have HC0 := Aside0.mk hc0
 clear hr0 hc0
 have H : (spec_l5From.l0 k l0 1 (l0.length : Int)) = some r := h
 clear h
 have H' := Aside0.mk H
 clear H
 go_enter Try.func55, Try.ntmps55
 go_wp2
 go_loopg [3, 4] k (fun kq v3 v4 w' => ∃ (x3_1 : Int) (x4_1 : Int), v3 = .int .i64 x3_1 ∧ v4 = .int .i64 x4_1 ∧ Aside0 (spec_l5From.l0 kq l0 x3_1 x4_1 = some r) ∧ Aside0 (kq ≤ k) ∧ Drawn0 w w')
 case atStart => exact ⟨(1), ((l0.length : Int)), (by first | rfl | (simp; done) | (simp [*]; done)), (by first | rfl | (simp; done) | (simp [*]; done)), H', ⟨Nat.le_refl _⟩, by repeat (first | exact Drawn0.refl _ | apply Drawn0.step)⟩
 case round =>
  clear H'
  obtain ⟨x3_1, x4_1, rfl, rfl, HA, HK1, ⟨m1, rfl⟩⟩ := hrel
  cases gk with
  | zero => exact absurd HA.out (by simp [spec_l5From.l0])
  | succ k1 =>
   have H := HA.out
   clear HA
   simp only [spec_l5From.l0] at H
   by_cases c2 : x3_1 > 0
   ·rw [if_pos c2] at H
    have c2b0 : decide (0 < x3_1) = true := decide_eq_true c2
    clear c2
    by_cases c3 : (wrap64 (x4_1 - 1)) < 0
    ·rw [if_pos c3] at H
     have c3b0 : decide ((wrap64 (x4_1 - 1)) < 0) = true := decide_eq_true c3
     clear c3
     obtain rfl := Option.some.inj H
     go_wp2
     go_ret
     exact ⟨by first | rfl | (simp; done) | (simp [*]; done), by repeat (first | exact Drawn0.refl _ | apply Drawn0.step)⟩
    ·rw [if_neg c3] at H
     have c3b0 : decide ((wrap64 (x4_1 - 1)) < 0) = false := decide_eq_false c3
     clear c3
     obtain ⟨ji4, hji4⟩ : ∃ j_ : Int, (wrap64 (x4_1 - 1)) = j_ := ⟨_, rfl⟩
     replace H : (if 0 ≤ (ji4) then (if (ji4) < (l0.length : Int) then ((spec_l5Arity.f k1 ((rd_T66 l0 (ji4)).f0)).bind fun t129 => (spec_l5From.l0 k1 l0 (wrap64 ((wrap64 (x3_1 - 1)) + t129)) ji4)) else (none)) else (none)) = some r := by first | (rw [hji4] at H; exact H) | (simp only [hji4] at H ⊢; exact H)
     (try rw [hji4] at c3b0)
     have hji4w : (IntKind.i64.wrap (x4_1 - 1)) = ji4 := (i64_w _).trans hji4
     by_cases c5 : 0 ≤ (ji4)
     ·rw [if_pos c5] at H
      have c5b0 : decide (0 ≤ (ji4)) = true := decide_eq_true c5
      clear c5
      by_cases c6 : (ji4) < (l0.length : Int)
      ·rw [if_pos c6] at H
       have c6b0 : decide ((ji4) < (l0.length : Int)) = true := decide_eq_true c6
       clear c6
       replace H := Option.bind_eq_some_iff.mp H
       obtain ⟨t129, A70, H⟩ := H
       replace H : (spec_l5From.l0 k1 l0 (wrap64 ((wrap64 (x3_1 - 1)) + t129)) ji4) = some r := H
       have A7 := Aside0.mk A70
       clear A70
       have H' := Aside0.mk H
       clear H
       have p128 : 0 ≤ ((ji4) : Int) := of_decide_eq_true (by first | (with_reducible assumption) | assumption)
       have q128 : (ji4) < (l0.length : Int) := of_decide_eq_true (by first | (with_reducible assumption) | assumption)
       obtain ⟨ad128, e128, hx128_0, hx128_1, hx128_2, hx128_3, hx128_4, hx128_5, hx128_6⟩ := at_T66 HR0.out (ji4) p128 q128
       cases e128
       replace p128 := eq_true p128
       replace q128 := eq_true q128
       go_wp2_with (first | ((with_reducible refine at_fn (f := 92) rfl ?_); refine goesL_ (some 20) rfl rfl Try.func92 (by kernel_rfl) rfl #[.int .i64 ((rd_T66 l0 (ji4)).f0)] rfl (by (try simp only [List.map_toArray, List.map_cons, List.map_nil]); first | done | (simp only [hji4]; rfl) | rfl | (simp only [List.length_drop, List.length_take]; rfl)) ?_; (with_reducible refine (spec_l5Arity.calls k1 ((rd_T66 l0 (ji4)).f0) t129 _ A7.out).mono ?_); rintro e w' ⟨rfl, ⟨nd, rfl⟩⟩; refine ⟨_, rfl, ?_⟩))
       go_roundg k1
       case measure => have := HK1.out; omega
       case rel => exact ⟨(wrap64 ((wrap64 (x3_1 - 1)) + t129)), (ji4), (by first | rfl | (simp; done) | (simp [*]; done)), (by first | rfl | (simp; done) | (simp only [← hji4] <;> (first | rfl | simp)) | (simp [*]; done)), H', ⟨by have := HK1.out; omega⟩, by repeat (first | exact Drawn0.refl _ | apply Drawn0.step)⟩
      ·rw [if_neg c6] at H
       exact absurd H (by simp)
     ·rw [if_neg c5] at H
      exact absurd H (by simp)
   ·rw [if_neg c2] at H
    have c2b0 : decide (0 < x3_1) = false := decide_eq_false c2
    clear c2
    obtain rfl := Option.some.inj H
    go_wp2
    go_ret
    exact ⟨by first | rfl | (simp; done) | (simp [*]; done), by repeat (first | exact Drawn0.refl _ | apply Drawn0.step)⟩

end Go.Proofs.Ytcfbbbilonignaa.Q

namespace Go.Proofs.Ytcfbbbilonignaa.Q
open Go.RowKit Go.Proofs.YtcfbbbilonignaaW.PrintWords Go.Proofs.YtcfbbbilonignaaW.PrintLast Go.Proofs.YtcfbbbilonignaaW.PrintMore
set_option linter.unusedVariables false
set_option linter.unusedSimpArgs false

/-! ### spec_l5Tree: function 25 -/
def spec_l5Tree.f (k : Nat) (l0 : List (S66)) : Option (Bool) := if (l0.length : Int) > 0 then ((spec_l5From.f k l0).bind fun t130 => (some (t130 == 0))) else (some false)
set_option maxHeartbeats 8000000 in
set_option maxRecDepth 100000 in
theorem spec_l5Tree.calls (k : Nat) (A0 : Option Addr) (c0 : Nat) (l0 : List (S66)) (r : Bool) (w : World) (hr0 : Kd.C k66 w A0 l0.length l0) (hc0 : l0.length ≤ c0) (h : spec_l5Tree.f k l0 = some r) :
  Calls Try.prog 25 #[.slice A0 l0.length c0] w fun e w' => e = .returned (.bool r) ∧ Drawn0 w w' := by
 have HR0 := Aside0.mk hr0
 have HC0 := Aside0.mk hc0
 clear hr0 hc0
 have H : (if (l0.length : Int) > 0 then ((spec_l5From.f k l0).bind fun t130 => (some (t130 == 0))) else (some false)) = some r := h
 clear h
 by_cases c2 : (l0.length : Int) > 0
 ·rw [if_pos c2] at H
  have c2b0 : decide (0 < (l0.length : Int)) = true := decide_eq_true c2
  have c2b1 : decide (0 < l0.length) = true := decide_eq_true (by omega)
  clear c2
  replace H := Option.bind_eq_some_iff.mp H
  obtain ⟨t130, A30, H⟩ := H
  replace H : (some (t130 == 0)) = some r := H
  have A3 := Aside0.mk A30
  clear A30
  obtain rfl := Option.some.inj H
  go_enter Try.func25, Try.ntmps25
  go_wp2_with (first | (go_at_call 55; (with_reducible refine (spec_l5From.calls k _ _ l0 t130 _ ?side1 ?side2 A3.out).mono ?_); (case side1 => repeat (first | exact HR0.out | (with_reducible refine Kd.C_alloc ?_ _) | (with_reducible refine Kd.C_drewN ?_ _) | (with_reducible refine Kd.C_drew ?_))); (case side2 => exact HC0.out); rintro e w' ⟨rfl, ⟨nd, rfl⟩⟩))
  go_ret
  exact ⟨by first | rfl | (simp; done) | (simp [*]; done), by repeat (first | exact Drawn0.refl _ | apply Drawn0.step)⟩
 ·rw [if_neg c2] at H
  have c2b0 : decide (0 < (l0.length : Int)) = false := decide_eq_false c2
  have c2b1 : decide (0 < l0.length) = false := decide_eq_false (by omega)
  clear c2
  obtain rfl := Option.some.inj H
  go_enter Try.func25, Try.ntmps25
  go_wp2
  go_ret
  exact ⟨by first | rfl | (simp; done) | (simp [*]; done), by repeat (first | exact Drawn0.refl _ | apply Drawn0.step)⟩

end Go.Proofs.Ytcfbbbilonignaa.Q

namespace Go.Proofs.Ytcfbbbilonignaa.Q
open Go.RowKit Go.Proofs.YtcfbbbilonignaaW.PrintWords Go.Proofs.YtcfbbbilonignaaW.PrintLast Go.Proofs.YtcfbbbilonignaaW.PrintMore
set_option linter.unusedVariables false
set_option linter.unusedSimpArgs false

/-! ### spec_l5Top: function 56 -/
def spec_l5Top.f (l0 : List (S66)) : Option (Int) := if 0 ≤ (wrap64 ((l0.length : Int) - 1)) then (if (wrap64 ((l0.length : Int) - 1)) < (l0.length : Int) then (some ((rd_T66 l0 (wrap64 ((l0.length : Int) - 1))).f0)) else (none)) else (none)
set_option maxHeartbeats 8000000 in
set_option maxRecDepth 100000 in
theorem spec_l5Top.calls (A0 : Option Addr) (c0 : Nat) (l0 : List (S66)) (r : Int) (w : World) (hr0 : Kd.C k66 w A0 l0.length l0) (hc0 : l0.length ≤ c0) (h : spec_l5Top.f l0 = some r) :
  Calls Try.prog 56 #[.slice A0 l0.length c0] w fun e w' => e = .returned (.int .i64 r) ∧ Drawn0 w w' := by
 have HR0 := Aside0.mk hr0
 have HC0 := Aside0.mk hc0
 clear hr0 hc0
 have H : (if 0 ≤ (wrap64 ((l0.length : Int) - 1)) then (if (wrap64 ((l0.length : Int) - 1)) < (l0.length : Int) then (some ((rd_T66 l0 (wrap64 ((l0.length : Int) - 1))).f0)) else (none)) else (none)) = some r := h
 clear h
 obtain ⟨ji2, hji2⟩ : ∃ j_ : Int, (wrap64 ((l0.length : Int) - 1)) = j_ := ⟨_, rfl⟩
 replace H : (if 0 ≤ (ji2) then (if (ji2) < (l0.length : Int) then (some ((rd_T66 l0 (ji2)).f0)) else (none)) else (none)) = some r := by first | (rw [hji2] at H; exact H) | (simp only [hji2] at H ⊢; exact H)
 have hji2w : (IntKind.i64.wrap ((l0.length : Int) - 1)) = ji2 := (i64_w _).trans hji2
 by_cases c3 : 0 ≤ (ji2)
 ·rw [if_pos c3] at H
  have c3b0 : decide (0 ≤ (ji2)) = true := decide_eq_true c3
  clear c3
  by_cases c4 : (ji2) < (l0.length : Int)
  ·rw [if_pos c4] at H
   have c4b0 : decide ((ji2) < (l0.length : Int)) = true := decide_eq_true c4
   clear c4
   obtain rfl := Option.some.inj H
   have p131 : 0 ≤ ((ji2) : Int) := of_decide_eq_true (by first | (with_reducible assumption) | assumption)
   have q131 : (ji2) < (l0.length : Int) := of_decide_eq_true (by first | (with_reducible assumption) | assumption)
   obtain ⟨ad131, e131, hx131_0, hx131_1, hx131_2, hx131_3, hx131_4, hx131_5, hx131_6⟩ := at_T66 HR0.out (ji2) p131 q131
   cases e131
   replace p131 := eq_true p131
   replace q131 := eq_true q131
   go_enter Try.func56, Try.ntmps56
   go_wp2
   go_ret
   exact ⟨by first | rfl | (simp; done) | (simp only [← hji2] <;> (first | rfl | simp)) | (simp [*]; done), by repeat (first | exact Drawn0.refl _ | apply Drawn0.step)⟩
  ·rw [if_neg c4] at H
   exact absurd H (by simp)
 ·rw [if_neg c3] at H
  exact absurd H (by simp)

end Go.Proofs.Ytcfbbbilonignaa.Q

namespace Go.Proofs.Ytcfbbbilonignaa.Q
open Go.RowKit Go.Proofs.YtcfbbbilonignaaW.PrintWords Go.Proofs.YtcfbbbilonignaaW.PrintLast Go.Proofs.YtcfbbbilonignaaW.PrintMore
set_option linter.unusedVariables false
set_option linter.unusedSimpArgs false

/-! ### spec_l5Kids: function 57 -/
def spec_l5Kids.l0 : Nat → List (S66) → List (List (S66)) → Int → Option ((List (List (S66))))
 | 0, _, _, _ => none
 | k + 1, x3, x4, x5 => if x5 > 0 then ((spec_l5From.f k x3).bind fun t142 => (if 0 ≤ t142 then (if t142 ≤ (x3.length : Int) then ((some (([(x3.drop (t142 : Int).toNat)] : List (List (S66))) : List (List (S66)))).bind fun y148 => (if y148.length + x4.length < 5864062014805 then (spec_l5Kids.l0 k (x3.take (t142 : Int).toNat) (y148 ++ x4) (wrap64 (x5 - 1))) else (none))) else (none)) else (none))) else (some x4)
def spec_l5Kids.f (k : Nat) (l0 : List (S66)) : Option ((List (List (S66)))) := if 0 ≤ (wrap64 ((l0.length : Int) - 1)) then (if (wrap64 ((l0.length : Int) - 1)) ≤ (l0.length : Int) then (if (wrap64 ((l0.length : Int) - 1)) < (l0.length : Int) then ((spec_l5Arity.f k ((rd_T66 l0 (wrap64 ((l0.length : Int) - 1))).f0)).bind fun t141 => (spec_l5Kids.l0 k (l0.take ((wrap64 ((l0.length : Int) - 1)) : Int).toNat) (([] : List (List (S66)))) t141)) else (none)) else (none)) else (none)
set_option maxHeartbeats 8000000 in
set_option maxRecDepth 100000 in
theorem spec_l5Kids.calls (k : Nat) (P0_ : Nat → Prop) (A0 : Option Addr) (c0 : Nat) (l0 : List (S66)) (r : List (List (S66))) (w : World) (hs0 : Kd.V k66 66 w w.heap.size (fun k_ => P0_ k_) (.slice A0 l0.length c0) l0) (h : spec_l5Kids.f k l0 = some r) :
  Calls Try.prog 57 #[.slice A0 l0.length c0] w fun e w' => ∃ v0_ : Value, e = .returned (v0_) ∧ Kd.N (Kd.slice 66 k66) 27 w' w.heap.size (fun k_ => (P0_ k_ ∨ w.heap.size ≤ k_)) v0_ r ∧ Below w.heap.size w w' := by
 have HO0 := Aside0.mk (show Kd.V k66 66 w w.heap.size (fun k_ => (P0_ k_ ∨ w.heap.size ≤ k_)) (.slice A0 l0.length c0) l0 from Kd.V_mono hs0 (fun k_ hk => .inl hk))
 have HB := Aside0.mk (Below.refl w.heap.size w)
 have H : (if 0 ≤ (wrap64 ((l0.length : Int) - 1)) then (if (wrap64 ((l0.length : Int) - 1)) ≤ (l0.length : Int) then (if (wrap64 ((l0.length : Int) - 1)) < (l0.length : Int) then ((spec_l5Arity.f k ((rd_T66 l0 (wrap64 ((l0.length : Int) - 1))).f0)).bind fun t141 => (spec_l5Kids.l0 k (l0.take ((wrap64 ((l0.length : Int) - 1)) : Int).toNat) (([] : List (List (S66)))) t141)) else (none)) else (none)) else (none)) = some r := h
 clear h
 obtain ⟨ji2, hji2⟩ : ∃ j_ : Int, (wrap64 ((l0.length : Int) - 1)) = j_ := ⟨_, rfl⟩
 replace H : (if 0 ≤ (ji2) then (if (ji2) ≤ (l0.length : Int) then (if (ji2) < (l0.length : Int) then ((spec_l5Arity.f k ((rd_T66 l0 (ji2)).f0)).bind fun t141 => (spec_l5Kids.l0 k (l0.take ((ji2) : Int).toNat) (([] : List (List (S66)))) t141)) else (none)) else (none)) else (none)) = some r := by first | (rw [hji2] at H; exact H) | (simp only [hji2] at H ⊢; exact H)
 have hji2w : (IntKind.i64.wrap ((l0.length : Int) - 1)) = ji2 := (i64_w _).trans hji2
 by_cases c3 : 0 ≤ (ji2)
 ·rw [if_pos c3] at H
  have c3b0 := eq_true c3
  have c3b1 : decide (0 ≤ (ji2)) = true := decide_eq_true c3
  clear c3
  by_cases c4 : (ji2) ≤ (l0.length : Int)
  ·rw [if_pos c4] at H
   have c4b0 := eq_true c4
   have c4b1 : decide ((ji2) ≤ (l0.length : Int)) = true := decide_eq_true c4
   clear c4
   obtain ⟨y132, hy132⟩ : ∃ y_ : List (S66), y_ = (l0.take ((ji2) : Int).toNat) := ⟨_, rfl⟩
   replace H : (if (ji2) < (l0.length : Int) then ((spec_l5Arity.f k ((rd_T66 l0 (ji2)).f0)).bind fun t141 => (spec_l5Kids.l0 k y132 (([] : List (List (S66)))) t141)) else (none)) = some r := by first | (rw [hy132]; with_reducible exact H) | (have H2_ := (Option.bind_some _ _).symm.trans H; rw [hy132]; with_reducible exact H2_) | (have H2_ := (Option.bind_some _ _).symm.trans H; with_reducible exact H2_) | with_reducible exact H | (rw [hy132]; exact H) | exact H
   have Ny132 := Aside0.mk hy132
   clear hy132
   obtain ⟨y137, hy137⟩ : ∃ y_ : List (List (S66)), y_ = (([] : List (List (S66)))) := ⟨_, rfl⟩
   replace H : (if (ji2) < (l0.length : Int) then ((spec_l5Arity.f k ((rd_T66 l0 (ji2)).f0)).bind fun t141 => (spec_l5Kids.l0 k y132 y137 t141)) else (none)) = some r := by first | (rw [hy137]; with_reducible exact H) | (have H2_ := (Option.bind_some _ _).symm.trans H; rw [hy137]; with_reducible exact H2_) | (have H2_ := (Option.bind_some _ _).symm.trans H; with_reducible exact H2_) | with_reducible exact H | (rw [hy137]; exact H) | exact H
   have Ny137 := Aside0.mk hy137
   clear hy137
   by_cases c5 : (ji2) < (l0.length : Int)
   ·rw [if_pos c5] at H
    have c5b0 : decide ((ji2) < (l0.length : Int)) = true := decide_eq_true c5
    clear c5
    replace H := Option.bind_eq_some_iff.mp H
    obtain ⟨t141, A60, H⟩ := H
    replace H : (spec_l5Kids.l0 k y132 y137 t141) = some r := H
    have A6 := Aside0.mk A60
    clear A60
    have H' := Aside0.mk H
    clear H
    have q7 : ((ji2) : Int) ≤ ((l0.length : Int) : Int) := of_decide_eq_true (by first | (with_reducible assumption) | assumption)
    obtain ⟨i07, hi07, _, hsz7, _⟩ := info_parts info66
    have hroom7 : l0.length ≤ c0 := (Kd.V_reads' HO0.out).2.1
    have hC7 : Kd.F k66 _ _ A0 l0.length l0 := (Kd.V_at (base := w.heap.size) HO0.out).2.2
    have hcut7 := cut_to (P := Try.prog) 27 66 .i64 Try.underlying27 hi07 A0 l0.length c0 (ji2) (of_decide_eq_true (by first | (with_reducible assumption) | assumption)) q7 hroom7
    have hr7 := Kd.F_take (m := ((ji2) : Int).toNat) hC7 (by omega)
    have hy7 : y132.length = ((ji2) : Int).toNat := (by rw [Ny132.out, List.length_take]; omega)
    rw [← Ny132.out] at hr7
    rw [← hy7] at hcut7
    have HO136 := Aside0.mk (show Kd.V k66 66 _ w.heap.size _ (.slice A0 y132.length c0) y132 from Kd.V_mk (by omega) hr7)
    have HC136 := Aside0.mk (show y132.length ≤ c0 from by omega)
    clear hr7 hC7 hroom7 hi07 hsz7
    have KY7 := Aside0.mk hy7
    clear hy7
    replace q7 := eq_true q7
    go_enter Try.func57, Try.ntmps57
    go_wp2_with (first | ((with_reducible refine gate_dst (N := 12) rfl ?_); refine Kd.N_lit (Kd.slice 66 k66) _ 27 ?hg (N' := 12) ?hd (xs := ([] : List (List (S66)))) (inner := []) (ok := (fun k_ => (P0_ k_ ∨ w.heap.size ≤ k_))) (okp := (fun k_ => (P0_ k_ ∨ w.heap.size ≤ k_))) ?hr ?hp (fun _ hk => hk) ((show ∀ k_, w.heap.size ≤ k_ → (fun k_ => (P0_ k_ ∨ w.heap.size ≤ k_)) k_ from fun k_ hk => (.inr (Nat.le_trans (below_size bw) hk))) _ (Nat.le_refl _)) (Below.refl _ _) (Nat.le_refl _) (by simp) ?_; (case hd => rfl); (case hg => rfl); (case hr => first | (go_simp; done) | (go_simp; rfl)); (case hp => exact (Reps.none _ _)); intro v138 w8 ho9 hb hg_ hnew_; clear hg_ hnew_; (first | rw [← Ny137.out] at ho9 | (simp only [Int.reduceToNat] at ho9; rw [← Ny137.out] at ho9)); have n0_ := Aside0.mk (Kd.V_elder' (by (with_reducible repeat (first | apply Kd.V_alloc | apply Kd.V_drewN | apply Kd.V_drew)); exact HO0.out) (Kd.N_base ho9) hb); have n1_ := Aside0.mk (Kd.V_elder' (by (with_reducible repeat (first | apply Kd.V_alloc | apply Kd.V_drewN | apply Kd.V_drew)); exact HO136.out) (Kd.N_base ho9) hb); have n2_ := Aside0.mk (Kd.N_lower ho9 (below_size bw)); have n3_ := Aside0.mk (below_step bw hb); clear HO0; clear HO136; clear HB; have HO0 := n0_; have HO136 := n1_; have HO139 := n2_; have HB := n3_; clear n0_ n1_ n2_ n3_; clear hb ho9; have p140 : 0 ≤ ((ji2) : Int) := of_decide_eq_true (by first | (with_reducible assumption) | assumption); have q140 : (ji2) < (l0.length : Int) := of_decide_eq_true (by first | (with_reducible assumption) | assumption); obtain ⟨ad140, e140, hx140_0, hx140_1, hx140_2, hx140_3, hx140_4, hx140_5, hx140_6⟩ := at_T66 (Kd.V_reads' HO0.out).2.2 (ji2) p140 q140; cases e140; replace p140 := eq_true p140; replace q140 := eq_true q140) | ((with_reducible refine at_fn (f := 92) rfl ?_); refine goesL_ (some 20) rfl rfl Try.func92 (by kernel_rfl) rfl #[.int .i64 ((rd_T66 l0 (ji2)).f0)] rfl (by (try simp only [List.map_toArray, List.map_cons, List.map_nil]); first | done | (simp only [hji2]; rfl) | rfl | (simp only [List.length_drop, List.length_take]; rfl)) ?_; (with_reducible refine (spec_l5Arity.calls k ((rd_T66 l0 (ji2)).f0) t141 _ A6.out).mono ?_); rintro e w' ⟨rfl, ⟨nd, rfl⟩⟩; refine ⟨_, rfl, ?_⟩))
    go_loopg [3, 4, 5] k (fun kq v3 v4 v5 w' => ∃ (x3_1 : List (S66)) (x4_1 : List (List (S66))) (x5_1 : Int), v5 = .int .i64 x5_1 ∧ Aside0 (spec_l5Kids.l0 kq x3_1 x4_1 x5_1 = some r) ∧ Aside0 (kq ≤ k) ∧ Aside0 (Kd.V k66 66 w' w.heap.size (fun k_ => (P0_ k_ ∨ w.heap.size ≤ k_) ∧ some k_ ≠ (v4 : Value).ownBlock) v3 x3_1) ∧ Aside0 (Kd.N (Kd.slice 66 k66) 27 w' w.heap.size (fun k_ => (P0_ k_ ∨ w.heap.size ≤ k_)) v4 x4_1) ∧ Aside0 (Below w.heap.size w w'))
    case atStart => exact ⟨(y132), (y137), (t141), (by first | rfl | (simp; done) | (simp [*]; done)), H', ⟨Nat.le_refl _⟩, ⟨by (with_reducible repeat (first | apply Kd.V_alloc | apply Kd.V_drewN | apply Kd.V_drew)); exact HO136.out⟩, ⟨by (with_reducible repeat (first | apply Kd.N_alloc | apply Kd.N_drewN | apply Kd.N_drew)); exact HO139.out⟩, ⟨bw⟩⟩
    case round =>
     clear H'
     try clear p1
     try clear q1
     try clear hx1
     try clear p2
     try clear c3
     try clear c3b0
     try clear c3b1
     try clear c4
     try clear c4b0
     try clear c4b1
     try clear c5
     try clear c5b0
     try clear p6
     try clear q7
     try clear c9
     try clear hx140_0
     try clear hx140_1
     try clear hx140_2
     try clear hx140_3
     try clear hx140_4
     try clear hx140_5
     try clear hx140_6
     try clear p140
     try clear q140
     try clear q7
     obtain ⟨x3_1, x4_1, x5_1, rfl, HA, HK1, HO_3, HO_4, HB⟩ := hrel
     cases gk with
     | zero => exact absurd HA.out (by simp [spec_l5Kids.l0])
     | succ k1 =>
      have H := HA.out
      clear HA
      simp only [spec_l5Kids.l0] at H
      by_cases c10 : x5_1 > 0
      ·rw [if_pos c10] at H
       have c10b0 : decide (0 < x5_1) = true := decide_eq_true c10
       clear c10
       replace H := Option.bind_eq_some_iff.mp H
       obtain ⟨t142, A110, H⟩ := H
       replace H : (if 0 ≤ t142 then (if t142 ≤ (x3_1.length : Int) then ((some (([(x3_1.drop (t142 : Int).toNat)] : List (List (S66))) : List (List (S66)))).bind fun y148 => (if y148.length + x4_1.length < 5864062014805 then (spec_l5Kids.l0 k1 (x3_1.take (t142 : Int).toNat) (y148 ++ x4_1) (wrap64 (x5_1 - 1))) else (none))) else (none)) else (none)) = some r := H
       have A11 := Aside0.mk A110
       clear A110
       by_cases c12 : 0 ≤ t142
       ·rw [if_pos c12] at H
        have c12b0 := eq_true c12
        have c12b1 : decide (0 ≤ t142) = true := decide_eq_true c12
        clear c12
        by_cases c13 : t142 ≤ (x3_1.length : Int)
        ·rw [if_pos c13] at H
         have c13b0 := eq_true c13
         have c13b1 : decide (t142 ≤ (x3_1.length : Int)) = true := decide_eq_true c13
         clear c13
         obtain ⟨y143, hy143⟩ : ∃ y_ : List (S66), y_ = (x3_1.drop (t142 : Int).toNat) := ⟨_, rfl⟩
         replace H : ((some (([y143] : List (List (S66))) : List (List (S66)))).bind fun y148 => (if y148.length + x4_1.length < 5864062014805 then (spec_l5Kids.l0 k1 (x3_1.take (t142 : Int).toNat) (y148 ++ x4_1) (wrap64 (x5_1 - 1))) else (none))) = some r := by first | (rw [hy143]; with_reducible exact H) | (have H2_ := (Option.bind_some _ _).symm.trans H; rw [hy143]; with_reducible exact H2_) | (have H2_ := (Option.bind_some _ _).symm.trans H; with_reducible exact H2_) | with_reducible exact H | (rw [hy143]; exact H) | exact H
         have Ny143 := Aside0.mk hy143
         clear hy143
         obtain ⟨y148, hy148⟩ : ∃ y_ : List (List (S66)), y_ = (([y143] : List (List (S66)))) := ⟨_, rfl⟩
         replace H : (if y148.length + x4_1.length < 5864062014805 then (spec_l5Kids.l0 k1 (x3_1.take (t142 : Int).toNat) (y148 ++ x4_1) (wrap64 (x5_1 - 1))) else (none)) = some r := by first | (rw [hy148]; with_reducible exact H) | (have H2_ := (Option.bind_some _ _).symm.trans H; rw [hy148]; with_reducible exact H2_) | (have H2_ := (Option.bind_some _ _).symm.trans H; with_reducible exact H2_) | with_reducible exact H | (rw [hy148]; exact H) | exact H
         have Ny148 := Aside0.mk hy148
         clear hy148
         by_cases c14 : y148.length + x4_1.length < 5864062014805
         ·rw [if_pos c14] at H
          have LMc14 := Aside0.mk c14
          clear c14
          obtain ⟨y151, hy151⟩ : ∃ y_ : List (List (S66)), y_ = (y148 ++ x4_1) := ⟨_, rfl⟩
          replace H : (spec_l5Kids.l0 k1 (x3_1.take (t142 : Int).toNat) y151 (wrap64 (x5_1 - 1))) = some r := by first | (rw [hy151]; with_reducible exact H) | (have H2_ := (Option.bind_some _ _).symm.trans H; rw [hy151]; with_reducible exact H2_) | (have H2_ := (Option.bind_some _ _).symm.trans H; with_reducible exact H2_) | with_reducible exact H | (rw [hy151]; exact H) | exact H
          have Ny151 := Aside0.mk hy151
          clear hy151
          have c15b0 := eq_true (of_decide_eq_true (by first | (with_reducible assumption) | assumption) : 0 ≤ t142)
          have c16b0 := eq_true (of_decide_eq_true (by first | (with_reducible assumption) | assumption) : t142 ≤ (x3_1.length : Int))
          obtain ⟨y154, hy154⟩ : ∃ y_ : List (S66), y_ = (x3_1.take (t142 : Int).toNat) := ⟨_, rfl⟩
          replace H : (spec_l5Kids.l0 k1 y154 y151 (wrap64 (x5_1 - 1))) = some r := by first | (rw [hy154]; with_reducible exact H) | (have H2_ := (Option.bind_some _ _).symm.trans H; rw [hy154]; with_reducible exact H2_) | (have H2_ := (Option.bind_some _ _).symm.trans H; with_reducible exact H2_) | with_reducible exact H | (rw [hy154]; exact H) | exact H
          have Ny154 := Aside0.mk hy154
          clear hy154
          have H' := Aside0.mk H
          clear H
          obtain ⟨Ao17, co17, eo17⟩ := Kd.V_slice HO_3.out
          subst eo17
          go_wp2_with (first | ((with_reducible refine at_fn (f := 55) rfl ?_); refine goesL_ (some 26) rfl rfl Try.func55 (by kernel_rfl) rfl #[.slice Ao17 x3_1.length co17] rfl (by (try simp only [List.map_toArray, List.map_cons, List.map_nil]); first | done | rfl | (simp only [List.length_drop, List.length_take]; rfl)) ?_; (with_reducible refine (spec_l5From.calls k1 _ _ x3_1 t142 _ ?side1 ?side2 A11.out).mono ?_); (case side1 => repeat (first | exact (Kd.V_reads' HO_3.out).2.2 | (with_reducible refine Kd.C_alloc ?_ _) | (with_reducible refine Kd.C_drewN ?_ _) | (with_reducible refine Kd.C_drew ?_))); (case side2 => exact (Kd.V_reads' HO_3.out).2.1); rintro e w' ⟨rfl, ⟨nd, rfl⟩⟩; refine ⟨_, rfl, ?_⟩; have q18 : (t142 : Int) ≤ ((x3_1.length : Int) : Int) := of_decide_eq_true (by first | (with_reducible assumption) | assumption); obtain ⟨i018, hi018, _, hsz18, _⟩ := info_parts info66; have hroom18 : x3_1.length ≤ co17 := (Kd.V_reads' HO_3.out).2.1; have hC18 : Kd.F k66 _ _ Ao17 x3_1.length x3_1 := (Kd.V_at (base := w.heap.size) HO_3.out).2.2; have q018 : (0 : Int) ≤ (t142 : Int) := of_decide_eq_true (by first | (with_reducible assumption) | assumption); have hcut18 := cut_from (P := Try.prog) 27 66 .i64 Try.underlying27 hi018 7 hsz18 Ao17 x3_1.length co17 t142 q018 q18; have hr18 := Kd.F_cut (m := (t142 : Int).toNat) (c := co17) hC18 (by omega) hroom18; obtain ⟨A18, hA18⟩ : ∃ A1, A1 = (if co17 = (t142 : Int).toNat then Ao17 else (Ao17 : Option Addr).map (·.add ((t142 : Int).toNat * 7))) := ⟨_, rfl⟩; obtain ⟨c18, hc18⟩ : ∃ c1, c1 = co17 - (t142 : Int).toNat := ⟨_, rfl⟩; have hy18 : y143.length = x3_1.length - (t142 : Int).toNat := (by rw [Ny143.out, List.length_drop] <;> omega); rw [show (x3_1).drop (t142 : Int).toNat = y143 from Ny143.out.symm] at hr18; replace hr18 : Kd.F k66 _ _ A18 y143.length y143 := (by rw [hA18]; exact hr18); rw [← hy18, ← hA18, ← hc18] at hcut18; have HO147 := Aside0.mk (show Kd.V k66 66 _ w.heap.size _ (.slice A18 y143.length c18) y143 from Kd.V_mk (by rw [hy18, hc18]; exact Nat.sub_le_sub_right hroom18 _) hr18); have HC147 := Aside0.mk (show y143.length ≤ c18 from by rw [hy18, hc18]; exact Nat.sub_le_sub_right hroom18 _); clear hr18 hC18 hroom18 hi018 hsz18 hc18; have KY18 := Aside0.mk hy18; have KA18 := Aside0.mk hA18; clear hy18 hA18; replace q18 := eq_true q18) | ((with_reducible refine gate_dst (N := 30) rfl ?_); refine Kd.N_lit (Kd.slice 66 k66) _ 27 ?hg (N' := 30) ?hd (xs := ([y143] : List (List (S66)))) (inner := [.slice A18 y143.length c18]) (ok := (fun k_ => (P0_ k_ ∨ w.heap.size ≤ k_) ∧ some k_ ≠ (u4 : Value).ownBlock)) (okp := (fun k_ => (P0_ k_ ∨ w.heap.size ≤ k_) ∧ some k_ ≠ (u4 : Value).ownBlock)) ?hr ?hp (fun _ hk => hk) ((show ∀ k_, wr.heap.size ≤ k_ → (fun k_ => (P0_ k_ ∨ w.heap.size ≤ k_) ∧ some k_ ≠ (u4 : Value).ownBlock) k_ from fun k_ hk => ⟨(.inr (Nat.le_trans (below_size bw) hk)), Kd.fresh' (Kd.N_lt (by (with_reducible repeat (first | apply Kd.N_alloc | apply Kd.N_drewN | apply Kd.N_drew)); exact HO_4.out)) k_ hk⟩) _ (Nat.le_refl _)) (Below.refl _ _) (Nat.le_refl _) (by simp) ?_; (case hd => rfl); (case hg => rfl); (case hr => first | (go_simp; done) | (go_simp; rfl)); (case hp => have HV_ := Kd.V_drewN HO147.out nd; exact (Reps.one (show Kd.FK (Kd.slice 66 k66) _ _ y143 [.slice A18 y143.length c18] from (Kd.FK_slice_mk (Kd.V_reads' (Kd.V_mono (ok' := (fun k_ => (P0_ k_ ∨ w.heap.size ≤ k_) ∧ some k_ ≠ (u4 : Value).ownBlock)) HV_ (fun k_ hk => ⟨hk.1, hk.2⟩))).2.1 (Kd.V_F (Kd.V_mono (ok' := (fun k_ => (P0_ k_ ∨ w.heap.size ≤ k_) ∧ some k_ ≠ (u4 : Value).ownBlock)) HV_ (fun k_ hk => ⟨hk.1, hk.2⟩))))) (Reps.none _ _))); intro v149 w19 ho20 hb hg_ hnew_; clear hg_ hnew_; (first | rw [← Ny148.out] at ho20 | (simp only [Int.reduceToNat] at ho20; rw [← Ny148.out] at ho20)); have n0_ := Aside0.mk (Kd.V_elder' (by (with_reducible repeat (first | apply Kd.V_alloc | apply Kd.V_drewN | apply Kd.V_drew)); exact HO_3.out) (Kd.N_base ho20) hb); have n1_ := Aside0.mk (Kd.N_elder' (by (with_reducible repeat (first | apply Kd.N_alloc | apply Kd.N_drewN | apply Kd.N_drew)); exact HO_4.out) (Kd.N_base ho20) hb); have n2_ := Aside0.mk (Kd.V_elder' (by (with_reducible repeat (first | apply Kd.V_alloc | apply Kd.V_drewN | apply Kd.V_drew)); exact HO147.out) (Kd.N_base ho20) hb); have n3_ := Aside0.mk (Kd.N_lower ho20 (below_size bw)); have n4_ := Aside0.mk (below_step bw hb); clear HO_3; clear HO_4; clear HO147; clear HB; have HO_3 := n0_; have HO_4 := n1_; have HO147 := n2_; have HO150 := n3_; have HB := n4_; clear n0_ n1_ n2_ n3_ n4_; clear hb ho20; obtain ⟨Ao22, co22, eo22⟩ := Kd.N_slice HO_4.out; subst eo22) | ((with_reducible refine gate_builtin (b := .append) (xs := #[.tmp 30, .tmp 31]) rfl ?_); at_builtin; refine Kd.N_append_rows (Kd.slice 66 k66) (w0 := w) w.heap.size rfl (.tmp 30) (.tmp 31) 103 27 (.slice none 0 0) 24 rfl Try.underlying103 info27 rfl (by decide) (by omega) v149 y148 x4_1 _ _ _ (fun k_ => (P0_ k_ ∨ w.heap.size ≤ k_)) (fun k_ => ((fun k_ => (P0_ k_ ∨ w.heap.size ≤ k_))) k_ ∧ some k_ ≠ (v149 : Value).ownBlock) rfl rfl ?aO ?aR (fun _ hk => hk) ?aF ?aB ?aS ?aL ?_; (case aR => exact (by skip; exact Kd.N_F (Kd.N_mono (ok' := (fun k_ => ((fun k_ => (P0_ k_ ∨ w.heap.size ≤ k_))) k_ ∧ some k_ ≠ (v149 : Value).ownBlock)) (HO_4.out) (fun k_ hk => ⟨hk.1, hk.2⟩)))); (case aB => exact bw); (case aF => exact (fun k_ hk => (.inr (Nat.le_trans (below_size bw) hk)))); (case aO => exact (by (with_reducible repeat (first | apply Kd.N_alloc | apply Kd.N_drewN | apply Kd.N_drew)); exact Kd.N_mono HO150.out (fun _ hk => hk.1))); (case aS => exact (below_size bw)); (case aL => have := LMc14.out; omega); intro v152 w21 ho hb hg hat; rw [← Ny151.out] at ho; have n0_ := Aside0.mk (Kd.V_afterv (ok := (fun k_ => (P0_ k_ ∨ w.heap.size ≤ k_) ∧ some k_ ≠ (.slice Ao22 x4_1.length co22 : Value).ownBlock)) (by (with_reducible repeat (first | apply Kd.V_alloc | apply Kd.V_drewN | apply Kd.V_drew)); exact HO_3.out) hg hat); have n1_ := Aside0.mk (Kd.N_afterv (ok := (fun k_ => (P0_ k_ ∨ w.heap.size ≤ k_))) (by (with_reducible repeat (first | apply Kd.N_alloc | apply Kd.N_drewN | apply Kd.N_drew)); exact HO_4.out) hg hat); have n2_ := Aside0.mk (Kd.V_afterv (ok := (fun k_ => (P0_ k_ ∨ w.heap.size ≤ k_) ∧ some k_ ≠ (.slice Ao22 x4_1.length co22 : Value).ownBlock)) (by (with_reducible repeat (first | apply Kd.V_alloc | apply Kd.V_drewN | apply Kd.V_drew)); exact HO147.out) hg hat); have n3_ := Aside0.mk (hb); have n4_ := Aside0.mk (ho); clear HO_3; clear HO_4; clear HO147; clear HB; clear HO150; have HO_3 := n0_; have HO_4 := n1_; have HO147 := n2_; have HB := n3_; have HO153 := n4_; clear n0_ n1_ n2_ n3_ n4_; clear ho hb hg hat; have q23 : (t142 : Int) ≤ ((x3_1.length : Int) : Int) := of_decide_eq_true (by first | (with_reducible assumption) | assumption); obtain ⟨i023, hi023, _, hsz23, _⟩ := info_parts info66; have hroom23 : x3_1.length ≤ co17 := (Kd.V_reads' HO_3.out).2.1; have hC23 : Kd.F k66 _ _ Ao17 x3_1.length x3_1 := (Kd.V_at (base := w.heap.size) HO_3.out).2.2; have hcut23 := cut_to (P := Try.prog) 27 66 .i64 Try.underlying27 hi023 Ao17 x3_1.length co17 t142 (of_decide_eq_true (by first | (with_reducible assumption) | assumption)) q23 hroom23; have hr23 := Kd.F_take (m := (t142 : Int).toNat) hC23 (by omega); have hy23 : y154.length = (t142 : Int).toNat := (by rw [Ny154.out, List.length_take]; omega); rw [← Ny154.out] at hr23; rw [← hy23] at hcut23; have HO158 := Aside0.mk (show Kd.V k66 66 _ w.heap.size _ (.slice Ao17 y154.length co17) y154 from Kd.V_mk (by omega) hr23); have HC158 := Aside0.mk (show y154.length ≤ co17 from by omega); clear hr23 hC23 hroom23 hi023 hsz23; have KY23 := Aside0.mk hy23; clear hy23; replace q23 := eq_true q23))
          go_roundg k1
          case measure => have := HK1.out; omega
          case rel => exact ⟨(y154), (y151), (wrap64 (x5_1 - 1)), (by first | rfl | (simp; done) | (simp [*]; done)), H', ⟨by have := HK1.out; omega⟩, ⟨by (with_reducible repeat (first | apply Kd.V_alloc | apply Kd.V_drewN | apply Kd.V_drew)); exact Kd.V_mono HO158.out (fun _ hk => ⟨hk.1.1, hk.2⟩)⟩, ⟨by (with_reducible repeat (first | apply Kd.N_alloc | apply Kd.N_drewN | apply Kd.N_drew)); exact HO153.out⟩, ⟨bw⟩⟩
         ·rw [if_neg c14] at H
          exact absurd H (by simp)
        ·rw [if_neg c13] at H
         exact absurd H (by simp)
       ·rw [if_neg c12] at H
        exact absurd H (by simp)
      ·rw [if_neg c10] at H
       have c10b0 : decide (0 < x5_1) = false := decide_eq_false c10
       clear c10
       obtain rfl := Option.some.inj H
       go_wp2
       go_ret
       exact ⟨_, by first | rfl | (simp [errW_none, errW_some] <;> rfl) | (simp only [← hji2]; first | rfl | (simp [errW_none, errW_some] <;> rfl)) | (simp [*, errW_none, errW_some] <;> rfl), by (with_reducible repeat (first | apply Kd.N_alloc | apply Kd.N_drewN | apply Kd.N_drew)); exact HO_4.out, bw⟩
   ·rw [if_neg c5] at H
    exact absurd H (by simp)
  ·rw [if_neg c4] at H
   exact absurd H (by simp)
 ·rw [if_neg c3] at H
  exact absurd H (by simp)

end Go.Proofs.Ytcfbbbilonignaa.Q

namespace Go.Proofs.Ytcfbbbilonignaa.Q
open Go.RowKit Go.Proofs.YtcfbbbilonignaaW.PrintWords Go.Proofs.YtcfbbbilonignaaW.PrintLast Go.Proofs.YtcfbbbilonignaaW.PrintMore
set_option linter.unusedVariables false
set_option linter.unusedSimpArgs false

/-! ### spec_l5Strength: function 93 -/
def spec_l5Strength.f (a0 : Int) : Option (Int) := if a0 = 15 then (some 1) else (if a0 = 14 then (some 2) else (some 3))
set_option maxHeartbeats 8000000 in
set_option maxRecDepth 100000 in
theorem spec_l5Strength.calls (a0 : Int) (r : Int) (w : World) (h : spec_l5Strength.f a0 = some r) :
  Calls Try.prog 93 #[.int .i64 a0] w fun e w' => e = .returned (.int .i64 r) ∧ Drawn0 w w' := by
 have H : (if a0 = 15 then (some 1) else (if a0 = 14 then (some 2) else (some 3))) = some r := h
 clear h
 by_cases c2 : a0 = 15
 ·rw [if_pos c2] at H
  have c2b0 : (a0 == 15) = true := beq_iff_eq.mpr c2
  have c2b1 : (a0 != 15) = false := bne_eq_false_iff_eq.mpr c2
  clear c2
  obtain rfl := Option.some.inj H
  go_enter Try.func93, Try.ntmps93
  go_wp2
  go_ret
  exact ⟨by first | rfl | (simp; done) | (simp [*]; done), by repeat (first | exact Drawn0.refl _ | apply Drawn0.step)⟩
 ·rw [if_neg c2] at H
  have c2b0 : (a0 == 15) = false := beq_eq_false_iff_ne.mpr c2
  have c2b1 : (a0 != 15) = true := bne_iff_ne.mpr c2
  by_cases c3 : a0 = 14
  ·rw [if_pos c3] at H
   have c3b0 : (a0 == 14) = true := beq_iff_eq.mpr c3
   have c3b1 : (a0 != 14) = false := bne_eq_false_iff_eq.mpr c3
   clear c3
   obtain rfl := Option.some.inj H
   go_enter Try.func93, Try.ntmps93
   go_wp2
   go_ret
   exact ⟨by first | rfl | (simp; done) | (simp [*]; done), by repeat (first | exact Drawn0.refl _ | apply Drawn0.step)⟩
  ·rw [if_neg c3] at H
   have c3b0 : (a0 == 14) = false := beq_eq_false_iff_ne.mpr c3
   have c3b1 : (a0 != 14) = true := bne_iff_ne.mpr c3
   obtain rfl := Option.some.inj H
   go_enter Try.func93, Try.ntmps93
   go_wp2
   go_ret
   exact ⟨by first | rfl | (simp; done) | (simp [*]; done), by repeat (first | exact Drawn0.refl _ | apply Drawn0.step)⟩

end Go.Proofs.Ytcfbbbilonignaa.Q

namespace Go.Proofs.Ytcfbbbilonignaa.Q
open Go.RowKit Go.Proofs.YtcfbbbilonignaaW.PrintWords Go.Proofs.YtcfbbbilonignaaW.PrintLast Go.Proofs.YtcfbbbilonignaaW.PrintMore
set_option linter.unusedVariables false
set_option linter.unusedSimpArgs false

/-! ### spec_l5Wrapped: function 58 -/
def spec_l5Wrapped.f (a0 : Int) (a1 : Int) (a2 : Int) : Option (Bool) := if a0 = 16 then (some false) else (if a1 = 0 then ((spec_l5Strength.f a2).bind fun t159 => ((spec_l5Strength.f a0).bind fun t160 => (some (decide (t159 < t160))))) else ((spec_l5Strength.f a2).bind fun t161 => ((spec_l5Strength.f a0).bind fun t162 => (some (decide (t161 ≤ t162))))))
set_option maxHeartbeats 8000000 in
set_option maxRecDepth 100000 in
theorem spec_l5Wrapped.calls (a0 : Int) (a1 : Int) (a2 : Int) (r : Bool) (w : World) (h : spec_l5Wrapped.f a0 a1 a2 = some r) :
  Calls Try.prog 58 #[.int .i64 a0, .int .i64 a1, .int .i64 a2] w fun e w' => e = .returned (.bool r) ∧ Drawn0 w w' := by
 have H : (if a0 = 16 then (some false) else (if a1 = 0 then ((spec_l5Strength.f a2).bind fun t159 => ((spec_l5Strength.f a0).bind fun t160 => (some (decide (t159 < t160))))) else ((spec_l5Strength.f a2).bind fun t161 => ((spec_l5Strength.f a0).bind fun t162 => (some (decide (t161 ≤ t162))))))) = some r := h
 clear h
 by_cases c4 : a0 = 16
 ·rw [if_pos c4] at H
  have c4b0 : (a0 == 16) = true := beq_iff_eq.mpr c4
  have c4b1 : (a0 != 16) = false := bne_eq_false_iff_eq.mpr c4
  clear c4
  obtain rfl := Option.some.inj H
  go_enter Try.func58, Try.ntmps58
  go_wp2
  go_ret
  exact ⟨by first | rfl | (simp; done) | (simp [*]; done), by repeat (first | exact Drawn0.refl _ | apply Drawn0.step)⟩
 ·rw [if_neg c4] at H
  have c4b0 : (a0 == 16) = false := beq_eq_false_iff_ne.mpr c4
  have c4b1 : (a0 != 16) = true := bne_iff_ne.mpr c4
  by_cases c5 : a1 = 0
  ·rw [if_pos c5] at H
   have c5b0 : (a1 == 0) = true := beq_iff_eq.mpr c5
   have c5b1 : (a1 != 0) = false := bne_eq_false_iff_eq.mpr c5
   clear c5
   replace H := Option.bind_eq_some_iff.mp H
   obtain ⟨t159, A60, H⟩ := H
   replace H : ((spec_l5Strength.f a0).bind fun t160 => (some (decide (t159 < t160)))) = some r := H
   have A6 := Aside0.mk A60
   clear A60
   replace H := Option.bind_eq_some_iff.mp H
   obtain ⟨t160, A70, H⟩ := H
   replace H : (some (decide (t159 < t160))) = some r := H
   have A7 := Aside0.mk A70
   clear A70
   obtain rfl := Option.some.inj H
   go_enter Try.func58, Try.ntmps58
   go_wp2_with (first | ((with_reducible refine at_fn (f := 93) rfl ?_); refine goesL_ (some 12) rfl rfl Try.func93 (by kernel_rfl) rfl #[.int .i64 a2] rfl (by (try simp only [List.map_toArray, List.map_cons, List.map_nil]); first | done | rfl | (simp only [List.length_drop, List.length_take]; rfl)) ?_; (with_reducible refine (spec_l5Strength.calls a2 t159 _ A6.out).mono ?_); rintro e w' ⟨rfl, ⟨nd, rfl⟩⟩; refine ⟨_, rfl, ?_⟩) | ((with_reducible refine at_fn (f := 93) rfl ?_); refine goesL_ (some 14) rfl rfl Try.func93 (by kernel_rfl) rfl #[.int .i64 a0] rfl (by (try simp only [List.map_toArray, List.map_cons, List.map_nil]); first | done | rfl | (simp only [List.length_drop, List.length_take]; rfl)) ?_; (with_reducible refine (spec_l5Strength.calls a0 t160 _ A7.out).mono ?_); rintro e w' ⟨rfl, ⟨nd, rfl⟩⟩; refine ⟨_, rfl, ?_⟩))
   go_ret
   exact ⟨by first | rfl | (simp; done) | (simp [*]; done), by repeat (first | exact Drawn0.refl _ | apply Drawn0.step)⟩
  ·rw [if_neg c5] at H
   have c5b0 : (a1 == 0) = false := beq_eq_false_iff_ne.mpr c5
   have c5b1 : (a1 != 0) = true := bne_iff_ne.mpr c5
   replace H := Option.bind_eq_some_iff.mp H
   obtain ⟨t161, A80, H⟩ := H
   replace H : ((spec_l5Strength.f a0).bind fun t162 => (some (decide (t161 ≤ t162)))) = some r := H
   have A8 := Aside0.mk A80
   clear A80
   replace H := Option.bind_eq_some_iff.mp H
   obtain ⟨t162, A90, H⟩ := H
   replace H : (some (decide (t161 ≤ t162))) = some r := H
   have A9 := Aside0.mk A90
   clear A90
   obtain rfl := Option.some.inj H
   go_enter Try.func58, Try.ntmps58
   go_wp2_with (first | ((with_reducible refine at_fn (f := 93) rfl ?_); refine goesL_ (some 17) rfl rfl Try.func93 (by kernel_rfl) rfl #[.int .i64 a2] rfl (by (try simp only [List.map_toArray, List.map_cons, List.map_nil]); first | done | rfl | (simp only [List.length_drop, List.length_take]; rfl)) ?_; (with_reducible refine (spec_l5Strength.calls a2 t161 _ A8.out).mono ?_); rintro e w' ⟨rfl, ⟨nd, rfl⟩⟩; refine ⟨_, rfl, ?_⟩) | ((with_reducible refine at_fn (f := 93) rfl ?_); refine goesL_ (some 19) rfl rfl Try.func93 (by kernel_rfl) rfl #[.int .i64 a0] rfl (by (try simp only [List.map_toArray, List.map_cons, List.map_nil]); first | done | rfl | (simp only [List.length_drop, List.length_take]; rfl)) ?_; (with_reducible refine (spec_l5Strength.calls a0 t162 _ A9.out).mono ?_); rintro e w' ⟨rfl, ⟨nd, rfl⟩⟩; refine ⟨_, rfl, ?_⟩))
   go_ret
   exact ⟨by first | rfl | (simp; done) | (simp [*]; done), by repeat (first | exact Drawn0.refl _ | apply Drawn0.step)⟩

end Go.Proofs.Ytcfbbbilonignaa.Q

namespace Go.Proofs.Ytcfbbbilonignaa.Q
open Go.RowKit Go.Proofs.YtcfbbbilonignaaW.PrintWords Go.Proofs.YtcfbbbilonignaaW.PrintLast Go.Proofs.YtcfbbbilonignaaW.PrintMore
set_option linter.unusedVariables false
set_option linter.unusedSimpArgs false

/-! ### spec_l5Nest: function 26 -/
mutual
def spec_l5Nest.l0 : Nat → Int → List (List (S66)) → Int → Int → Option (Int)
 | 0, _, _, _, _ => none
 | k + 1, x3, x4, x5, x6 => if x6 < (x4.length : Int) then (if 0 ≤ x6 then ((spec_l5Nest.f k (rd_L6 x4 x6)).bind fun t168 => (if x3 = 16 then (spec_l5Nest.j1 k x3 x4 x5 x6 t168 true) else ((spec_l5Top.f (rd_L6 x4 x6)).bind fun t170 => ((spec_l5Wrapped.f x3 x6 t170).bind fun t171 => (spec_l5Nest.j1 k x3 x4 x5 x6 t168 t171))))) else (none)) else (some x5)
def spec_l5Nest.j1 : Nat → Int → List (List (S66)) → Int → Int → Int → Bool → Option (Int)
 | 0, _, _, _, _, _, _ => none
 | k + 1, x3, x4, x5, x6, x7, x34 => if x34 = true then (spec_l5Nest.j2 k x3 x4 x5 x6 (wrap64 (x7 + 1))) else (spec_l5Nest.j2 k x3 x4 x5 x6 x7)
def spec_l5Nest.j2 : Nat → Int → List (List (S66)) → Int → Int → Int → Option (Int)
 | 0, _, _, _, _, _ => none
 | k + 1, x3, x4, x5, x6, x7 => if x7 > x5 then (spec_l5Nest.l0 k x3 x4 x7 (wrap64 (x6 + 1))) else (spec_l5Nest.l0 k x3 x4 x5 (wrap64 (x6 + 1)))
def spec_l5Nest.f : Nat → List (S66) → Option (Int)
 | 0, _ => none
 | k + 1, l0 => (spec_l5Top.f l0).bind fun t163 => ((spec_l5Kids.f k l0).bind fun t164 => (spec_l5Nest.l0 k t163 t164 0 0))
end
set_option maxHeartbeats 8000000 in
set_option maxRecDepth 100000 in
theorem spec_l5Nest.calls (k : Nat) : ∀ (A0 : Option Addr) (c0 : Nat) (l0 : List (S66)) (r : Int) (w : World) (hr0 : Kd.C k66 w A0 l0.length l0) (hc0 : l0.length ≤ c0) (h : spec_l5Nest.f k l0 = some r),
  Calls Try.prog 26 #[.slice A0 l0.length c0] w fun e w' => e = .returned (.int .i64 r) ∧ Below w.heap.size w w' := by
 induction k using Nat.strongRecOn with
 | _ k ih =>
 intro A0 c0 l0 r w hr0 hc0 h
 cases k with
 | zero => exact absurd h (by simp [spec_l5Nest.f])
 | succ k =>
 simp only [spec_l5Nest.f] at h
 have HR0 := Aside0.mk hr0
 have HC0 := Aside0.mk hc0
 clear hr0 hc0
 have HB := Aside0.mk (Below.refl w.heap.size w)
 have H : ((spec_l5Top.f l0).bind fun t163 => ((spec_l5Kids.f k l0).bind fun t164 => (spec_l5Nest.l0 k t163 t164 0 0))) = some r := h
 clear h
 replace H := Option.bind_eq_some_iff.mp H
 obtain ⟨t163, A20, H⟩ := H
 replace H : ((spec_l5Kids.f k l0).bind fun t164 => (spec_l5Nest.l0 k t163 t164 0 0)) = some r := H
 have A2 := Aside0.mk A20
 clear A20
 replace H := Option.bind_eq_some_iff.mp H
 obtain ⟨t164, A30, H⟩ := H
 replace H : (spec_l5Nest.l0 k t163 t164 0 0) = some r := H
 have A3 := Aside0.mk A30
 clear A30
 have H' := Aside0.mk H
 clear H
 go_enter Try.func26, Try.ntmps26
 go_wp2_with (first | ((with_reducible refine at_fn (f := 56) rfl ?_); refine goesL_ (some 9) rfl rfl Try.func56 (by kernel_rfl) rfl #[.slice A0 l0.length c0] rfl (by (try simp only [List.map_toArray, List.map_cons, List.map_nil]); first | done | rfl | (simp only [List.length_drop, List.length_take]; rfl)) ?_; (with_reducible refine (spec_l5Top.calls _ _ l0 t163 _ ?side1 ?side2 A2.out).mono ?_); (case side1 => repeat (first | exact HR0.out | (with_reducible refine Kd.C_alloc ?_ _) | (with_reducible refine Kd.C_drewN ?_ _) | (with_reducible refine Kd.C_drew ?_))); (case side2 => exact HC0.out); rintro e w' ⟨rfl, ⟨nd, rfl⟩⟩; refine ⟨_, rfl, ?_⟩) | ((with_reducible refine at_fn (f := 57) rfl ?_); refine goesL_ (some 11) rfl rfl Try.func57 (by kernel_rfl) rfl #[.slice A0 l0.length c0] rfl (by (try simp only [List.map_toArray, List.map_cons, List.map_nil]); first | done | rfl | (simp only [List.length_drop, List.length_take]; rfl)) ?_; (with_reducible refine (spec_l5Kids.calls k (fun k_ => k_ < w.heap.size) _ _ l0 t164 _ ?side1 A3.out).mono ?_); (case side1 => exact Kd.V_mk HC0.out (Kd.F_below (Kd.C_F k66_heap HR0.out) bw)); rintro e w4 ⟨v165, rfl, ho0, hb⟩; refine ⟨_, rfl, ?_⟩; have n0_ := Aside0.mk (Kd.N_lower (Kd.N_mono (ok' := fun k_ => True) ho0 (fun k_ hk_ => trivial)) (below_size bw)); have n1_ := Aside0.mk (below_step bw hb); clear HB; have HO166 := n0_; have HB := n1_; clear n0_ n1_; (try clear hb); (try clear hb2); (try clear hk); (try clear hi); (try clear ho0)))
 go_loopg [5, 6] k (fun kq v5 v6 w' => ∃ (x5_1 : Int) (x6_1 : Int), v5 = .int .i64 x5_1 ∧ v6 = .int .i64 x6_1 ∧ Aside0 (spec_l5Nest.l0 kq t163 t164 x5_1 x6_1 = some r) ∧ Aside0 (kq ≤ k) ∧ Aside0 (Kd.N (Kd.slice 66 k66) 27 w' w.heap.size (fun _ => True) v165 t164) ∧ Aside0 (Below w.heap.size w w'))
 case atStart => exact ⟨(0), (0), (by first | rfl | (simp; done) | (simp [*]; done)), (by first | rfl | (simp; done) | (simp [*]; done)), H', ⟨Nat.le_refl _⟩, ⟨by (with_reducible repeat (first | apply Kd.N_alloc | apply Kd.N_drewN | apply Kd.N_drew)); exact HO166.out⟩, ⟨bw⟩⟩
 case round =>
  clear H'
  try clear c2
  try clear p2
  obtain ⟨x5_1, x6_1, rfl, rfl, HA, HK1, HO_4, HB⟩ := hrel
  cases gk with
  | zero => exact absurd HA.out (by simp [spec_l5Nest.l0])
  | succ k1 =>
   have H := HA.out
   clear HA
   simp only [spec_l5Nest.l0] at H
   by_cases c5 : x6_1 < (t164.length : Int)
   ·rw [if_pos c5] at H
    have c5b0 : decide (x6_1 < (t164.length : Int)) = true := decide_eq_true c5
    clear c5
    by_cases c6 : 0 ≤ x6_1
    ·rw [if_pos c6] at H
     have c6b0 : decide (0 ≤ x6_1) = true := decide_eq_true c6
     clear c6
     replace H := Option.bind_eq_some_iff.mp H
     obtain ⟨t168, A70, H⟩ := H
     replace H : (if t163 = 16 then (spec_l5Nest.j1 k1 t163 t164 x5_1 x6_1 t168 true) else ((spec_l5Top.f (rd_L6 t164 x6_1)).bind fun t170 => ((spec_l5Wrapped.f t163 x6_1 t170).bind fun t171 => (spec_l5Nest.j1 k1 t163 t164 x5_1 x6_1 t168 t171)))) = some r := H
     have A7 := Aside0.mk A70
     clear A70
     have HC8 := Aside0.mk H
     clear H
     obtain ⟨Ao9, co9, eo9⟩ := Kd.N_slice HO_4.out
     subst eo9
     have p167 : 0 ≤ (x6_1 : Int) := of_decide_eq_true (by first | (with_reducible assumption) | assumption)
     have q167 : x6_1 < (t164.length : Int) := of_decide_eq_true (by first | (with_reducible assumption) | assumption)
     obtain ⟨ad167, A167_0, c167_0, e167, hx167_0, hl167_0, hi167_0⟩ := at_L6 (Kd.N_reads' HO_4.out).2.2 x6_1 p167 q167
     cases e167
     obtain ⟨ce167, hce167, hMe167, hcc167⟩ := Kd.N_get HO_4.out [] x6_1 p167 (by first | exact q167 | exact of_decide_eq_true (by first | (with_reducible assumption) | assumption) | (have e_ := (Kd.N_reads' HO_4.out).1; omega))
     obtain ⟨ua167_0, uc167_0, rfl, ul167_0, ge167_0⟩ := Kd.FK_slice_open hMe167
     have hv167_0 := hcc167 0 _ rfl
     rw [Nat.add_zero, show ((Kd.slice 66 k66)).sz = 1 from rfl, Nat.mul_one] at hv167_0
     replace hv167_0 := Option.some.inj (hv167_0.symm.trans hx167_0)
     injection hv167_0 with hva_ hvn_ hvc_
     rw [hva_] at ge167_0
     rw [hvc_] at ul167_0
     have HL167_0 := Aside0.mk (show Kd.V k66 66 _ w.heap.size _ _ (rd_L6 t164 x6_1) from Kd.V_mk ul167_0 ge167_0)
     clear hva_ hvn_ hvc_ ge167_0 ul167_0
     clear hcc167 hce167
     have HR167_0 := Aside0.mk hi167_0
     have HC167_0 := Aside0.mk hl167_0
     clear hi167_0 hl167_0
     replace p167 := eq_true p167
     replace q167 := eq_true q167
     go_upto_region 8 with (first | ((with_reducible refine at_fn (f := 26) rfl ?_); refine goesL_ (some 22) rfl rfl Try.func26 (by kernel_rfl) rfl #[.slice A167_0 (rd_L6 t164 x6_1).length c167_0] rfl (by (try simp only [List.map_toArray, List.map_cons, List.map_nil]); first | done | rfl | (simp only [List.length_drop, List.length_take]; rfl)) ?_; (with_reducible refine (ih k1 (by have := HK1.out; omega) _ _ (rd_L6 t164 x6_1) t168 _ ?side1 ?side2 A7.out).mono ?_); (case side1 => repeat (first | exact (by repeat (first | (with_reducible exact HR167_0.out) | (with_reducible refine Kd.C_alloc ?_ _) | (with_reducible refine Kd.C_drewN ?_ _) | (with_reducible refine Kd.C_drew ?_) | exact HR167_0.out)) | (with_reducible refine Kd.C_alloc ?_ _) | (with_reducible refine Kd.C_drewN ?_ _) | (with_reducible refine Kd.C_drew ?_))); (case side2 => exact HC167_0.out); rintro e w10 ⟨rfl, hb⟩; refine ⟨_, rfl, ?_⟩; have n0_ := Aside0.mk (Kd.N_below (by (with_reducible repeat (first | apply Kd.N_alloc | apply Kd.N_drewN | apply Kd.N_drew)); exact HO_4.out) hb); have n1_ := Aside0.mk (Kd.V_below (by (with_reducible repeat (first | apply Kd.V_alloc | apply Kd.V_drewN | apply Kd.V_drew)); exact HL167_0.out) hb); have n2_ := Aside0.mk (Kd.C_below (by repeat (first | (with_reducible exact HR167_0.out) | (with_reducible refine Kd.C_alloc ?_ _) | (with_reducible refine Kd.C_drewN ?_ _) | (with_reducible refine Kd.C_drew ?_) | exact HR167_0.out)) hb); have n3_ := Aside0.mk (below_step bw hb); clear HO_4; clear HL167_0; clear HR167_0; clear HB; have HO_4 := n0_; have HL167_0 := n1_; have HR167_0 := n2_; have HB := n3_; clear n0_ n1_ n2_ n3_; (try clear hb); (try clear hb2); (try clear hk); (try clear hi)))
     (try simp only [Act.put, List.setIfInBounds_toArray, List.set_cons_zero, List.set_cons_succ])
     go_cut [34] (fun v34 wc => ∃ (kq : Nat) (x34_7 : Bool), v34 = .bool x34_7 ∧ Aside0 (spec_l5Nest.j1 kq t163 t164 x5_1 x6_1 t168 x34_7 = some r) ∧ Aside0 (kq ≤ k1) ∧ Aside0 (Kd.N (Kd.slice 66 k66) 27 wc w.heap.size (fun _ => True) (.slice (some ad167) t164.length co9) t164) ∧ Aside0 (Kd.C k66 wc A167_0 (rd_L6 t164 x6_1).length (rd_L6 t164 x6_1)) ∧ Aside0 (Below w.heap.size w wc))
     case first =>
      have H := HC8.out
      clear HC8
      by_cases c11 : t163 = 16
      ·rw [if_pos c11] at H
       have c11b0 : (t163 == 16) = true := beq_iff_eq.mpr c11
       have c11b1 : (t163 != 16) = false := bne_eq_false_iff_eq.mpr c11
       clear c11
       (first | rw [c11b0] | (simp only [i64_w, i32_w]; rw [c11b0]) | skip)
       have H' := Aside0.mk H
       clear H
       go_wp2
       go_meet
       case rel => exact ⟨_, (true), (by first | rfl | (simp; done) | (simp [*]; done)), H', ⟨by have := HK1.out; first | omega | exact Nat.le_refl _⟩, ⟨by (with_reducible repeat (first | apply Kd.N_alloc | apply Kd.N_drewN | apply Kd.N_drew)); exact HO_4.out⟩, ⟨by repeat (first | (with_reducible exact HR167_0.out) | (with_reducible refine Kd.C_alloc ?_ _) | (with_reducible refine Kd.C_drewN ?_ _) | (with_reducible refine Kd.C_drew ?_) | exact HR167_0.out)⟩, ⟨bw⟩⟩
      ·rw [if_neg c11] at H
       have c11b0 : (t163 == 16) = false := beq_eq_false_iff_ne.mpr c11
       have c11b1 : (t163 != 16) = true := bne_iff_ne.mpr c11
       (first | rw [c11b0] | (simp only [i64_w, i32_w]; rw [c11b0]) | skip)
       replace H := Option.bind_eq_some_iff.mp H
       obtain ⟨t170, A120, H⟩ := H
       replace H : ((spec_l5Wrapped.f t163 x6_1 t170).bind fun t171 => (spec_l5Nest.j1 k1 t163 t164 x5_1 x6_1 t168 t171)) = some r := H
       have A12 := Aside0.mk A120
       clear A120
       replace H := Option.bind_eq_some_iff.mp H
       obtain ⟨t171, A130, H⟩ := H
       replace H : (spec_l5Nest.j1 k1 t163 t164 x5_1 x6_1 t168 t171) = some r := H
       have A13 := Aside0.mk A130
       clear A130
       have H' := Aside0.mk H
       clear H
       have p169 : 0 ≤ (x6_1 : Int) := of_decide_eq_true (by first | (with_reducible assumption) | assumption)
       have q169 : x6_1 < (t164.length : Int) := of_decide_eq_true (by first | (with_reducible assumption) | assumption)
       obtain ⟨ad169, A169_0, c169_0, e169, hx169_0, hl169_0, hi169_0⟩ := at_L6 (Kd.N_reads' HO_4.out).2.2 x6_1 p169 q169
       obtain rfl : ad167 = ad169 := (by injection e169)
       obtain ⟨ce169, hce169, hMe169, hcc169⟩ := Kd.N_get HO_4.out [] x6_1 p169 (by first | exact q169 | exact of_decide_eq_true (by first | (with_reducible assumption) | assumption) | (have e_ := (Kd.N_reads' HO_4.out).1; omega))
       obtain ⟨ua169_0, uc169_0, rfl, ul169_0, ge169_0⟩ := Kd.FK_slice_open hMe169
       have hv169_0 := hcc169 0 _ rfl
       rw [Nat.add_zero, show ((Kd.slice 66 k66)).sz = 1 from rfl, Nat.mul_one] at hv169_0
       replace hv169_0 := Option.some.inj (hv169_0.symm.trans hx169_0)
       injection hv169_0 with hva_ hvn_ hvc_
       rw [hva_] at ge169_0
       rw [hvc_] at ul169_0
       have HL169_0 := Aside0.mk (show Kd.V k66 66 _ w.heap.size _ _ (rd_L6 t164 x6_1) from Kd.V_mk ul169_0 ge169_0)
       clear hva_ hvn_ hvc_ ge169_0 ul169_0
       clear hcc169 hce169
       have HR169_0 := Aside0.mk hi169_0
       have HC169_0 := Aside0.mk hl169_0
       clear hi169_0 hl169_0
       replace p169 := eq_true p169
       replace q169 := eq_true q169
       go_wp2_with (first | (go_at_call 56; (with_reducible refine (spec_l5Top.calls _ _ (rd_L6 t164 x6_1) t170 _ ?side1 ?side2 A12.out).mono ?_); (case side1 => repeat (first | exact (by repeat (first | (with_reducible exact HR169_0.out) | (with_reducible refine Kd.C_alloc ?_ _) | (with_reducible refine Kd.C_drewN ?_ _) | (with_reducible refine Kd.C_drew ?_) | exact HR169_0.out)) | (with_reducible refine Kd.C_alloc ?_ _) | (with_reducible refine Kd.C_drewN ?_ _) | (with_reducible refine Kd.C_drew ?_))); (case side2 => exact HC169_0.out); rintro e w' ⟨rfl, ⟨nd, rfl⟩⟩) | (go_at_call 58; (with_reducible refine (spec_l5Wrapped.calls t163 x6_1 t170 t171 _ A13.out).mono ?_); rintro e w' ⟨rfl, ⟨nd, rfl⟩⟩))
       go_meet
       case rel => exact ⟨_, (t171), (by first | rfl | (simp; done) | (simp [*]; done)), H', ⟨by have := HK1.out; first | omega | exact Nat.le_refl _⟩, ⟨by (with_reducible repeat (first | apply Kd.N_alloc | apply Kd.N_drewN | apply Kd.N_drew)); exact HO_4.out⟩, ⟨by repeat (first | (with_reducible exact HR167_0.out) | (with_reducible refine Kd.C_alloc ?_ _) | (with_reducible refine Kd.C_drewN ?_ _) | (with_reducible refine Kd.C_drew ?_) | exact HR167_0.out)⟩, ⟨bw⟩⟩
     case rest =>
      clear HC8
      try clear c1
      try clear p1
      try clear q1
      try clear hx1
      try clear c2
      try clear p2
      try clear c5
      try clear c5b0
      try clear c6
      try clear c6b0
      try clear c11
      try clear c11b0
      try clear c11b1
      try clear hx167_0
      try clear hx169_0
      try clear p167
      try clear p169
      try clear p2
      try clear q167
      try clear q169
      obtain ⟨kq, x34_7, rfl, HA, HJ7, HO_4, HR167_0, HB⟩ := hcut
      cases kq with
      | zero => exact absurd HA.out (by simp [spec_l5Nest.j1])
      | succ kj7 =>
       have H := HA.out
       clear HA
       simp only [spec_l5Nest.j1] at H
       have HC14 := Aside0.mk H
       clear H
       go_upto_if 34 with (fail)
       go_cut [7] (fun v7 wc => ∃ (kq : Nat) (x7_13 : Int), v7 = .int .i64 x7_13 ∧ Aside0 (spec_l5Nest.j2 kq t163 t164 x5_1 x6_1 x7_13 = some r) ∧ Aside0 (kq ≤ kj7) ∧ Aside0 (Kd.N (Kd.slice 66 k66) 27 wc w.heap.size (fun _ => True) (.slice (some ad167) t164.length co9) t164) ∧ Aside0 (Kd.C k66 wc A167_0 (rd_L6 t164 x6_1).length (rd_L6 t164 x6_1)) ∧ Aside0 (Below w.heap.size w wc))
       case first =>
        have H := HC14.out
        clear HC14
        by_cases c15 : x34_7 = true
        ·subst c15
         have H1 : (spec_l5Nest.j2 kj7 t163 t164 x5_1 x6_1 (wrap64 (t168 + 1))) = some r := by rw [if_pos rfl] at H; exact H
         clear H
         have H := H1
         clear H1
         have H' := Aside0.mk H
         clear H
         go_wp2
         go_meet
         case rel => exact ⟨_, (wrap64 (t168 + 1)), (by first | rfl | (simp; done) | (simp [*]; done)), H', ⟨by have := HK1.out; have := HJ7.out; first | omega | exact Nat.le_refl _⟩, ⟨by (with_reducible repeat (first | apply Kd.N_alloc | apply Kd.N_drewN | apply Kd.N_drew)); exact HO_4.out⟩, ⟨by repeat (first | (with_reducible exact HR167_0.out) | (with_reducible refine Kd.C_alloc ?_ _) | (with_reducible refine Kd.C_drewN ?_ _) | (with_reducible refine Kd.C_drew ?_) | exact HR167_0.out)⟩, ⟨bw⟩⟩
        ·replace c15 := Bool.eq_false_iff.mpr c15
         subst c15
         have H1 : (spec_l5Nest.j2 kj7 t163 t164 x5_1 x6_1 t168) = some r := by rw [if_neg (show ¬ (false = true) by decide)] at H; exact H
         clear H
         have H := H1
         clear H1
         have H' := Aside0.mk H
         clear H
         go_wp2
         go_meet
         case rel => exact ⟨_, (t168), (by first | rfl | (simp; done) | (simp [*]; done)), H', ⟨by have := HK1.out; have := HJ7.out; first | omega | exact Nat.le_refl _⟩, ⟨by (with_reducible repeat (first | apply Kd.N_alloc | apply Kd.N_drewN | apply Kd.N_drew)); exact HO_4.out⟩, ⟨by repeat (first | (with_reducible exact HR167_0.out) | (with_reducible refine Kd.C_alloc ?_ _) | (with_reducible refine Kd.C_drewN ?_ _) | (with_reducible refine Kd.C_drew ?_) | exact HR167_0.out)⟩, ⟨bw⟩⟩
       case rest =>
        clear HC14
        try clear c1
        try clear p1
        try clear q1
        try clear hx1
        try clear c2
        try clear p2
        try clear c5
        try clear c5b0
        try clear c6
        try clear c6b0
        try clear p6
        try clear c11
        try clear c11b0
        try clear c11b1
        try clear c15
        try clear hx167_0
        try clear hx169_0
        try clear p1
        try clear p167
        try clear p169
        try clear p2
        try clear q1
        try clear q167
        try clear q169
        obtain ⟨kq, x7_13, rfl, HA, HJ13, HO_4, HR167_0, HB⟩ := hcut
        cases kq with
        | zero => exact absurd HA.out (by simp [spec_l5Nest.j2])
        | succ kj13 =>
         have H := HA.out
         clear HA
         simp only [spec_l5Nest.j2] at H
         by_cases c16 : x7_13 > x5_1
         ·rw [if_pos c16] at H
          have c16b0 : decide (x5_1 < x7_13) = true := decide_eq_true c16
          clear c16
          have H' := Aside0.mk H
          clear H
          go_wp2
          go_roundg kj13
          case measure => have := HK1.out; have := HJ7.out; have := HJ13.out; omega
          case rel => exact ⟨(x7_13), (wrap64 (x6_1 + 1)), (by first | rfl | (simp; done) | (simp [*]; done)), (by first | rfl | (simp; done) | (simp [*]; done)), H', ⟨by have := HK1.out; have := HJ7.out; have := HJ13.out; omega⟩, ⟨by (with_reducible repeat (first | apply Kd.N_alloc | apply Kd.N_drewN | apply Kd.N_drew)); exact HO_4.out⟩, ⟨bw⟩⟩
         ·rw [if_neg c16] at H
          have c16b0 : decide (x5_1 < x7_13) = false := decide_eq_false c16
          clear c16
          have H' := Aside0.mk H
          clear H
          go_wp2
          go_roundg kj13
          case measure => have := HK1.out; have := HJ7.out; have := HJ13.out; omega
          case rel => exact ⟨(x5_1), (wrap64 (x6_1 + 1)), (by first | rfl | (simp; done) | (simp [*]; done)), (by first | rfl | (simp; done) | (simp [*]; done)), H', ⟨by have := HK1.out; have := HJ7.out; have := HJ13.out; omega⟩, ⟨by (with_reducible repeat (first | apply Kd.N_alloc | apply Kd.N_drewN | apply Kd.N_drew)); exact HO_4.out⟩, ⟨bw⟩⟩
    ·rw [if_neg c6] at H
     exact absurd H (by simp)
   ·rw [if_neg c5] at H
    have c5b0 : decide (x6_1 < (t164.length : Int)) = false := decide_eq_false c5
    clear c5
    obtain rfl := Option.some.inj H
    obtain ⟨Ao17, co17, eo17⟩ := Kd.N_slice HO_4.out
    subst eo17
    go_wp2
    go_ret
    exact ⟨by first | rfl | (simp [errW_none, errW_some] <;> rfl) | (simp [*, errW_none, errW_some] <;> rfl), bw⟩

end Go.Proofs.Ytcfbbbilonignaa.Q

namespace Go.Proofs.Ytcfbbbilonignaa.Q
open Go.RowKit Go.Proofs.YtcfbbbilonignaaW.PrintWords Go.Proofs.YtcfbbbilonignaaW.PrintLast Go.Proofs.YtcfbbbilonignaaW.PrintMore
set_option linter.unusedVariables false
set_option linter.unusedSimpArgs false

/-! ### spec_ValidFilter: function 7 -/
def spec_ValidFilter.l0 : Nat → Int → List (S66) → Option (Bool)
 | 0, _, _ => none
 | k + 1, x3, x173000 => if x3 < (x173000.length : Int) then (if 0 ≤ x3 then ((spec_l5GoodNode.f k ((rd_T66 x173000 x3).f0) ((rd_T66 x173000 x3).f1) ((rd_T66 x173000 x3).f2) ((rd_T66 x173000 x3).f3) ((rd_T66 x173000 x3).f4) ((rd_T66 x173000 x3).f5) ((rd_T66 x173000 x3).f6)).bind fun t174 => (if t174 = true then (spec_ValidFilter.l0 k (wrap64 (x3 + 1)) x173000) else (some false))) else (none)) else ((spec_l5Tree.f k x173000).bind fun t175 => (if t175 = true then ((spec_l5Nest.f k x173000).bind fun t176 => (some (decide (t176 ≤ 20)))) else (some false)))
def spec_ValidFilter.f (k : Nat) (l0_0 : List (S66)) : Option (Bool) := if (l0_0.length : Int) > 200 then (some false) else (spec_ValidFilter.l0 k 0 l0_0)
set_option maxHeartbeats 8000000 in
set_option maxRecDepth 100000 in
theorem spec_ValidFilter.calls (k : Nat) (A0_0 : Option Addr) (c0_0 : Nat) (l0_0 : List (S66)) (r : Bool) (w : World) (hr0_0 : Kd.C k66 w A0_0 l0_0.length l0_0) (hc0_0 : l0_0.length ≤ c0_0) (h : spec_ValidFilter.f k l0_0 = some r) :
  Calls Try.prog 7 #[.agg #[.slice A0_0 l0_0.length c0_0]] w fun e w' => e = .returned (.bool r) ∧ Below w.heap.size w w' := by
 have hu29 := Try.underlying29
 have hu66 := Try.underlying66
 have HR0_0 := Aside0.mk hr0_0
 have HC0_0 := Aside0.mk hc0_0
 clear hr0_0 hc0_0
 have HB := Aside0.mk (Below.refl w.heap.size w)
 have H : (if (l0_0.length : Int) > 200 then (some false) else (spec_ValidFilter.l0 k 0 l0_0)) = some r := h
 clear h
 by_cases c2 : (l0_0.length : Int) > 200
 ·rw [if_pos c2] at H
  have c2b0 : decide (200 < (l0_0.length : Int)) = true := decide_eq_true c2
  have c2b1 : decide (200 < l0_0.length) = true := decide_eq_true (by omega)
  clear c2
  obtain rfl := Option.some.inj H
  go_enter Try.func7, Try.ntmps7
  go_wp2_with (first | ((with_reducible refine gate_dst (N := 1) rfl ?_); refine box_event ?hg (N := 1) ?hd (cs := #[.slice A0_0 l0_0.length c0_0]) (t := 29) ?hr ?_; (case hd => rfl); (case hg => rfl); (case hr => first | (go_simp; done) | (go_simp; rfl)); intro gb172 hg w3 hbox hb; have n0_ := Aside0.mk (below_step bw hb); have n1_ := Aside0.mk (hbox); have n2_ := Aside0.mk ((by rw [hg]; exact (below_size bw) : w.heap.size ≤ gb172)); have n3_ := Aside0.mk ((by rw [hg]; exact (below_size bw) : w.heap.size ≤ gb172)); clear HB; have HB := n0_; have BK172 := n1_; have GW172 := n2_; have GE172 := n3_; clear n0_ n1_ n2_ n3_; clear hb hbox hg; have hcz4_0 : w3.cell? ⟨gb172, 0, none⟩ = some (.slice A0_0 l0_0.length c0_0) := (blk_cell BK172.out 0).trans rfl; have hfz4_0 := blk_frozen BK172.out 0))
  go_ret
  exact ⟨by first | rfl | (simp [errW_none, errW_some] <;> rfl) | (simp [*, errW_none, errW_some] <;> rfl), bw⟩
 ·rw [if_neg c2] at H
  have c2b0 : decide (200 < (l0_0.length : Int)) = false := decide_eq_false c2
  have c2b1 : decide (200 < l0_0.length) = false := decide_eq_false (by omega)
  clear c2
  have H' := Aside0.mk H
  clear H
  go_enter Try.func7, Try.ntmps7
  go_wp2_with (first | ((with_reducible refine gate_dst (N := 1) rfl ?_); refine box_event ?hg (N := 1) ?hd (cs := #[.slice A0_0 l0_0.length c0_0]) (t := 29) ?hr ?_; (case hd => rfl); (case hg => rfl); (case hr => first | (go_simp; done) | (go_simp; rfl)); intro gb172 hg w5 hbox hb; have n0_ := Aside0.mk (below_step bw hb); have n1_ := Aside0.mk (hbox); have n2_ := Aside0.mk ((by rw [hg]; exact (below_size bw) : w.heap.size ≤ gb172)); have n3_ := Aside0.mk ((by rw [hg]; exact (below_size bw) : w.heap.size ≤ gb172)); clear HB; have HB := n0_; have BK172 := n1_; have GW172 := n2_; have GE172 := n3_; clear n0_ n1_ n2_ n3_; clear hb hbox hg; have hcz6_0 : w5.cell? ⟨gb172, 0, none⟩ = some (.slice A0_0 l0_0.length c0_0) := (blk_cell BK172.out 0).trans rfl; have hfz6_0 := blk_frozen BK172.out 0))
  go_loopg [3] k (fun kq v3 w' => ∃ (x3_1 : Int), v3 = .int .i64 x3_1 ∧ Aside0 (spec_ValidFilter.l0 kq x3_1 l0_0 = some r) ∧ Aside0 (kq ≤ k) ∧ Aside0 (w'.heap[gb172]? = some (.cells #[(.slice A0_0 l0_0.length c0_0)] 29 (0, 0))) ∧ Aside0 (Below w.heap.size w w'))
  case atStart => exact ⟨(0), (by first | rfl | (simp; done) | (simp [*]; done)), H', ⟨Nat.le_refl _⟩, ⟨lb BK172⟩, ⟨bw⟩⟩
  case round =>
   clear H'
   try clear c2
   try clear c2b0
   try clear c2b1
   try clear p2
   try clear hcz4_0
   try clear hcz6_0
   try clear hfz4_0
   try clear hfz6_0
   obtain ⟨x3_1, rfl, HA, HK1, BK172, HB⟩ := hrel
   cases gk with
   | zero => exact absurd HA.out (by simp [spec_ValidFilter.l0])
   | succ k1 =>
    have H := HA.out
    clear HA
    simp only [spec_ValidFilter.l0] at H
    by_cases c7 : x3_1 < (l0_0.length : Int)
    ·rw [if_pos c7] at H
     have c7b0 : decide (x3_1 < (l0_0.length : Int)) = true := decide_eq_true c7
     clear c7
     by_cases c8 : 0 ≤ x3_1
     ·rw [if_pos c8] at H
      have c8b0 : decide (0 ≤ x3_1) = true := decide_eq_true c8
      clear c8
      replace H := Option.bind_eq_some_iff.mp H
      obtain ⟨t174, A90, H⟩ := H
      replace H : (if t174 = true then (spec_ValidFilter.l0 k1 (wrap64 (x3_1 + 1)) l0_0) else (some false)) = some r := H
      have A9 := Aside0.mk A90
      clear A90
      by_cases c10 : t174 = true
      ·subst c10
       have H1 : (spec_ValidFilter.l0 k1 (wrap64 (x3_1 + 1)) l0_0) = some r := by rw [if_pos rfl] at H; exact H
       clear H
       have H := H1
       clear H1
       have H' := Aside0.mk H
       clear H
       have hcz11_0 : wr.cell? ⟨gb172, 0, none⟩ = some (.slice A0_0 l0_0.length c0_0) := (blk_cell BK172.out 0).trans rfl
       have hfz11_0 := blk_frozen BK172.out 0
       have p173 : 0 ≤ (x3_1 : Int) := of_decide_eq_true (by first | (with_reducible assumption) | assumption)
       have q173 : x3_1 < (l0_0.length : Int) := of_decide_eq_true (by first | (with_reducible assumption) | assumption)
       obtain ⟨ad173, e173, hx173_0, hx173_1, hx173_2, hx173_3, hx173_4, hx173_5, hx173_6⟩ := at_T66 HR0_0.out x3_1 p173 q173
       cases e173
       replace hx173_0 := (HB.out.cell (World.block_lt_of_cell? w _ hx173_0)).trans hx173_0
       replace hx173_1 := (HB.out.cell (World.block_lt_of_cell? w _ hx173_1)).trans hx173_1
       replace hx173_2 := (HB.out.cell (World.block_lt_of_cell? w _ hx173_2)).trans hx173_2
       replace hx173_3 := (HB.out.cell (World.block_lt_of_cell? w _ hx173_3)).trans hx173_3
       replace hx173_4 := (HB.out.cell (World.block_lt_of_cell? w _ hx173_4)).trans hx173_4
       replace hx173_5 := (HB.out.cell (World.block_lt_of_cell? w _ hx173_5)).trans hx173_5
       replace hx173_6 := (HB.out.cell (World.block_lt_of_cell? w _ hx173_6)).trans hx173_6
       replace p173 := eq_true p173
       replace q173 := eq_true q173
       go_wp2_with (first | ((with_reducible refine at_fn (f := 24) rfl ?_); refine goesL_ (some 20) rfl rfl Try.func24 (by kernel_rfl) rfl #[.agg #[.int .i64 ((rd_T66 l0_0 x3_1).f0), .string ((rd_T66 l0_0 x3_1).f1), .bool ((rd_T66 l0_0 x3_1).f2), .string ((rd_T66 l0_0 x3_1).f3), .int .u64 ((rd_T66 l0_0 x3_1).f4), .int .u64 ((rd_T66 l0_0 x3_1).f5), .int .i64 ((rd_T66 l0_0 x3_1).f6)]] rfl (by (try simp only [List.map_toArray, List.map_cons, List.map_nil]); first | done | rfl | (simp only [List.length_drop, List.length_take]; rfl)) ?_; (with_reducible refine (spec_l5GoodNode.calls k1 ((rd_T66 l0_0 x3_1).f0) ((rd_T66 l0_0 x3_1).f1) ((rd_T66 l0_0 x3_1).f2) ((rd_T66 l0_0 x3_1).f3) ((rd_T66 l0_0 x3_1).f4) ((rd_T66 l0_0 x3_1).f5) ((rd_T66 l0_0 x3_1).f6) true _ A9.out).mono ?_); rintro e w12 ⟨rfl, hb⟩; refine ⟨_, rfl, ?_⟩; have n0_ := Aside0.mk (blk_below (g := gb172) (o := .cells #[.slice (some ad173) l0_0.length c0_0] 29 (0, 0)) (lb BK172) hb); have n1_ := Aside0.mk (below_step bw hb); clear BK172; clear HB; have BK172 := n0_; have HB := n1_; clear n0_ n1_; (try clear hb); (try clear hb2); (try clear hk); (try clear hi)))
       go_roundg k1
       case measure => have := HK1.out; omega
       case rel => exact ⟨(wrap64 (x3_1 + 1)), (by first | rfl | (simp; done) | (simp [*]; done)), H', ⟨by have := HK1.out; omega⟩, ⟨lb BK172⟩, ⟨bw⟩⟩
      ·replace c10 := Bool.eq_false_iff.mpr c10
       subst c10
       have H1 : (some false) = some r := by rw [if_neg (show ¬ (false = true) by decide)] at H; exact H
       clear H
       have H := H1
       clear H1
       obtain rfl := Option.some.inj H
       have hcz13_0 : wr.cell? ⟨gb172, 0, none⟩ = some (.slice A0_0 l0_0.length c0_0) := (blk_cell BK172.out 0).trans rfl
       have hfz13_0 := blk_frozen BK172.out 0
       have p173 : 0 ≤ (x3_1 : Int) := of_decide_eq_true (by first | (with_reducible assumption) | assumption)
       have q173 : x3_1 < (l0_0.length : Int) := of_decide_eq_true (by first | (with_reducible assumption) | assumption)
       obtain ⟨ad173, e173, hx173_0, hx173_1, hx173_2, hx173_3, hx173_4, hx173_5, hx173_6⟩ := at_T66 HR0_0.out x3_1 p173 q173
       cases e173
       replace hx173_0 := (HB.out.cell (World.block_lt_of_cell? w _ hx173_0)).trans hx173_0
       replace hx173_1 := (HB.out.cell (World.block_lt_of_cell? w _ hx173_1)).trans hx173_1
       replace hx173_2 := (HB.out.cell (World.block_lt_of_cell? w _ hx173_2)).trans hx173_2
       replace hx173_3 := (HB.out.cell (World.block_lt_of_cell? w _ hx173_3)).trans hx173_3
       replace hx173_4 := (HB.out.cell (World.block_lt_of_cell? w _ hx173_4)).trans hx173_4
       replace hx173_5 := (HB.out.cell (World.block_lt_of_cell? w _ hx173_5)).trans hx173_5
       replace hx173_6 := (HB.out.cell (World.block_lt_of_cell? w _ hx173_6)).trans hx173_6
       replace p173 := eq_true p173
       replace q173 := eq_true q173
       go_wp2_with (first | ((with_reducible refine at_fn (f := 24) rfl ?_); refine goesL_ (some 20) rfl rfl Try.func24 (by kernel_rfl) rfl #[.agg #[.int .i64 ((rd_T66 l0_0 x3_1).f0), .string ((rd_T66 l0_0 x3_1).f1), .bool ((rd_T66 l0_0 x3_1).f2), .string ((rd_T66 l0_0 x3_1).f3), .int .u64 ((rd_T66 l0_0 x3_1).f4), .int .u64 ((rd_T66 l0_0 x3_1).f5), .int .i64 ((rd_T66 l0_0 x3_1).f6)]] rfl (by (try simp only [List.map_toArray, List.map_cons, List.map_nil]); first | done | rfl | (simp only [List.length_drop, List.length_take]; rfl)) ?_; (with_reducible refine (spec_l5GoodNode.calls k1 ((rd_T66 l0_0 x3_1).f0) ((rd_T66 l0_0 x3_1).f1) ((rd_T66 l0_0 x3_1).f2) ((rd_T66 l0_0 x3_1).f3) ((rd_T66 l0_0 x3_1).f4) ((rd_T66 l0_0 x3_1).f5) ((rd_T66 l0_0 x3_1).f6) false _ A9.out).mono ?_); rintro e w14 ⟨rfl, hb⟩; refine ⟨_, rfl, ?_⟩; have n0_ := Aside0.mk (blk_below (g := gb172) (o := .cells #[.slice (some ad173) l0_0.length c0_0] 29 (0, 0)) (lb BK172) hb); have n1_ := Aside0.mk (below_step bw hb); clear BK172; clear HB; have BK172 := n0_; have HB := n1_; clear n0_ n1_; (try clear hb); (try clear hb2); (try clear hk); (try clear hi)))
       go_ret
       exact ⟨by first | rfl | (simp [errW_none, errW_some] <;> rfl) | (simp [*, errW_none, errW_some] <;> rfl), bw⟩
     ·rw [if_neg c8] at H
      exact absurd H (by simp)
    ·rw [if_neg c7] at H
     have c7b0 : decide (x3_1 < (l0_0.length : Int)) = false := decide_eq_false c7
     clear c7
     replace H := Option.bind_eq_some_iff.mp H
     obtain ⟨t175, A150, H⟩ := H
     replace H : (if t175 = true then ((spec_l5Nest.f k1 l0_0).bind fun t176 => (some (decide (t176 ≤ 20)))) else (some false)) = some r := H
     have A15 := Aside0.mk A150
     clear A150
     by_cases c16 : t175 = true
     ·subst c16
      have H1 : ((spec_l5Nest.f k1 l0_0).bind fun t176 => (some (decide (t176 ≤ 20)))) = some r := by rw [if_pos rfl] at H; exact H
      clear H
      have H := H1
      clear H1
      replace H := Option.bind_eq_some_iff.mp H
      obtain ⟨t176, A170, H⟩ := H
      replace H : (some (decide (t176 ≤ 20))) = some r := H
      have A17 := Aside0.mk A170
      clear A170
      obtain rfl := Option.some.inj H
      have hcz18_0 : wr.cell? ⟨gb172, 0, none⟩ = some (.slice A0_0 l0_0.length c0_0) := (blk_cell BK172.out 0).trans rfl
      have hfz18_0 := blk_frozen BK172.out 0
      go_wp2_with (first | ((with_reducible refine at_fn (f := 25) rfl ?_); refine goesL_ (some 24) rfl rfl Try.func25 (by kernel_rfl) rfl #[.slice A0_0 l0_0.length c0_0] rfl (by (try simp only [List.map_toArray, List.map_cons, List.map_nil]); first | done | rfl | (simp only [List.length_drop, List.length_take]; rfl)) ?_; (with_reducible refine (spec_l5Tree.calls k1 _ _ l0_0 true _ ?side1 ?side2 A15.out).mono ?_); (case side1 => repeat (first | exact (Kd.C_below HR0_0.out HB.out) | (with_reducible refine Kd.C_alloc ?_ _) | (with_reducible refine Kd.C_drewN ?_ _) | (with_reducible refine Kd.C_drew ?_))); (case side2 => exact HC0_0.out); rintro e w' ⟨rfl, ⟨nd, rfl⟩⟩; refine ⟨_, rfl, ?_⟩) | (go_at_call 26; (with_reducible refine (spec_l5Nest.calls k1 _ _ l0_0 t176 _ ?side1 ?side2 A17.out).mono ?_); (case side1 => repeat (first | exact (Kd.C_below HR0_0.out bw) | (with_reducible refine Kd.C_alloc ?_ _) | (with_reducible refine Kd.C_drewN ?_ _) | (with_reducible refine Kd.C_drew ?_))); (case side2 => exact HC0_0.out); rintro e w19 ⟨rfl, hb⟩; have n0_ := Aside0.mk (blk_below (g := gb172) (o := .cells #[.slice A0_0 l0_0.length c0_0] 29 (0, 0)) (lb BK172) hb); have n1_ := Aside0.mk (below_step bw hb); clear BK172; clear HB; have BK172 := n0_; have HB := n1_; clear n0_ n1_; (try clear hb); (try clear hb2); (try clear hk); (try clear hi)))
      go_ret
      exact ⟨by first | rfl | (simp [errW_none, errW_some] <;> rfl) | (simp [*, errW_none, errW_some] <;> rfl), bw⟩
     ·replace c16 := Bool.eq_false_iff.mpr c16
      subst c16
      have H1 : (some false) = some r := by rw [if_neg (show ¬ (false = true) by decide)] at H; exact H
      clear H
      have H := H1
      clear H1
      obtain rfl := Option.some.inj H
      have hcz20_0 : wr.cell? ⟨gb172, 0, none⟩ = some (.slice A0_0 l0_0.length c0_0) := (blk_cell BK172.out 0).trans rfl
      have hfz20_0 := blk_frozen BK172.out 0
      go_wp2_with (first | ((with_reducible refine at_fn (f := 25) rfl ?_); refine goesL_ (some 24) rfl rfl Try.func25 (by kernel_rfl) rfl #[.slice A0_0 l0_0.length c0_0] rfl (by (try simp only [List.map_toArray, List.map_cons, List.map_nil]); first | done | rfl | (simp only [List.length_drop, List.length_take]; rfl)) ?_; (with_reducible refine (spec_l5Tree.calls k1 _ _ l0_0 false _ ?side1 ?side2 A15.out).mono ?_); (case side1 => repeat (first | exact (Kd.C_below HR0_0.out HB.out) | (with_reducible refine Kd.C_alloc ?_ _) | (with_reducible refine Kd.C_drewN ?_ _) | (with_reducible refine Kd.C_drew ?_))); (case side2 => exact HC0_0.out); rintro e w' ⟨rfl, ⟨nd, rfl⟩⟩; refine ⟨_, rfl, ?_⟩))
      go_ret
      exact ⟨by first | rfl | (simp [errW_none, errW_some] <;> rfl) | (simp [*, errW_none, errW_some] <;> rfl), bw⟩

end Go.Proofs.Ytcfbbbilonignaa.Q

namespace Go.Proofs.Ytcfbbbilonignaa.Q
open Go.RowKit Go.Proofs.YtcfbbbilonignaaW.PrintWords Go.Proofs.YtcfbbbilonignaaW.PrintLast Go.Proofs.YtcfbbbilonignaaW.PrintMore
set_option linter.unusedVariables false
set_option linter.unusedSimpArgs false

/-! ### spec_l6Counts: function 109 -/
def spec_l6Counts.f (a0_0 : Int) (a0_1 : ByteArray) (a0_2 : Bool) (a0_3 : ByteArray) (a0_4 : Int) (a0_5 : Int) (a0_6 : Int) : Option (Bool) := if a0_0 = 11 then (some true) else (if a0_0 = 12 then (some true) else (some (a0_0 == 13)))
set_option maxHeartbeats 8000000 in
set_option maxRecDepth 100000 in
theorem spec_l6Counts.calls (a0_0 : Int) (a0_1 : ByteArray) (a0_2 : Bool) (a0_3 : ByteArray) (a0_4 : Int) (a0_5 : Int) (a0_6 : Int) (r : Bool) (w : World) (h : spec_l6Counts.f a0_0 a0_1 a0_2 a0_3 a0_4 a0_5 a0_6 = some r) :
  Calls Try.prog 109 #[.agg #[.int .i64 a0_0, .string a0_1, .bool a0_2, .string a0_3, .int .u64 a0_4, .int .u64 a0_5, .int .i64 a0_6]] w fun e w' => e = .returned (.bool r) ∧ Below w.heap.size w w' := by
 have hu66 := Try.underlying66
 have HB := Aside0.mk (Below.refl w.heap.size w)
 have H : (if a0_0 = 11 then (some true) else (if a0_0 = 12 then (some true) else (some (a0_0 == 13)))) = some r := h
 clear h
 by_cases c2 : a0_0 = 11
 ·rw [if_pos c2] at H
  have c2b0 : (a0_0 == 11) = true := beq_iff_eq.mpr c2
  have c2b1 : (a0_0 != 11) = false := bne_eq_false_iff_eq.mpr c2
  clear c2
  obtain rfl := Option.some.inj H
  go_enter Try.func109, Try.ntmps109
  go_wp2_with (first | ((with_reducible refine gate_dst (N := 1) rfl ?_); refine box_event ?hg (N := 1) ?hd (cs := #[.int .i64 a0_0, .string a0_1, .bool a0_2, .string a0_3, .int .u64 a0_4, .int .u64 a0_5, .int .i64 a0_6]) (t := 66) ?hr ?_; (case hd => rfl); (case hg => rfl); (case hr => first | (go_simp; done) | (go_simp; rfl)); intro gb527 hg w3 hbox hb; have n0_ := Aside0.mk (below_step bw hb); have n1_ := Aside0.mk (hbox); have n2_ := Aside0.mk ((by rw [hg]; exact (below_size bw) : w.heap.size ≤ gb527)); have n3_ := Aside0.mk ((by rw [hg]; exact (below_size bw) : w.heap.size ≤ gb527)); clear HB; have HB := n0_; have BK527 := n1_; have GW527 := n2_; have GE527 := n3_; clear n0_ n1_ n2_ n3_; clear hb hbox hg; have hcz4_0 : w3.cell? ⟨gb527, 0, none⟩ = some (.int .i64 a0_0) := (blk_cell BK527.out 0).trans rfl; have hcz4_1 : w3.cell? ⟨gb527, 1, none⟩ = some (.string a0_1) := (blk_cell BK527.out 1).trans rfl; have hcz4_2 : w3.cell? ⟨gb527, 2, none⟩ = some (.bool a0_2) := (blk_cell BK527.out 2).trans rfl; have hcz4_3 : w3.cell? ⟨gb527, 3, none⟩ = some (.string a0_3) := (blk_cell BK527.out 3).trans rfl; have hcz4_4 : w3.cell? ⟨gb527, 4, none⟩ = some (.int .u64 a0_4) := (blk_cell BK527.out 4).trans rfl; have hcz4_5 : w3.cell? ⟨gb527, 5, none⟩ = some (.int .u64 a0_5) := (blk_cell BK527.out 5).trans rfl; have hcz4_6 : w3.cell? ⟨gb527, 6, none⟩ = some (.int .i64 a0_6) := (blk_cell BK527.out 6).trans rfl; have hfz4_0 := blk_frozen BK527.out 0; have hfz4_1 := blk_frozen BK527.out 1; have hfz4_2 := blk_frozen BK527.out 2; have hfz4_3 := blk_frozen BK527.out 3; have hfz4_4 := blk_frozen BK527.out 4; have hfz4_5 := blk_frozen BK527.out 5; have hfz4_6 := blk_frozen BK527.out 6))
  go_ret
  exact ⟨by first | rfl | (simp [errW_none, errW_some] <;> rfl) | (simp [*, errW_none, errW_some] <;> rfl), bw⟩
 ·rw [if_neg c2] at H
  have c2b0 : (a0_0 == 11) = false := beq_eq_false_iff_ne.mpr c2
  have c2b1 : (a0_0 != 11) = true := bne_iff_ne.mpr c2
  by_cases c5 : a0_0 = 12
  ·rw [if_pos c5] at H
   have c5b0 : (a0_0 == 12) = true := beq_iff_eq.mpr c5
   have c5b1 : (a0_0 != 12) = false := bne_eq_false_iff_eq.mpr c5
   clear c5
   obtain rfl := Option.some.inj H
   go_enter Try.func109, Try.ntmps109
   go_wp2_with (first | ((with_reducible refine gate_dst (N := 1) rfl ?_); refine box_event ?hg (N := 1) ?hd (cs := #[.int .i64 a0_0, .string a0_1, .bool a0_2, .string a0_3, .int .u64 a0_4, .int .u64 a0_5, .int .i64 a0_6]) (t := 66) ?hr ?_; (case hd => rfl); (case hg => rfl); (case hr => first | (go_simp; done) | (go_simp; rfl)); intro gb527 hg w6 hbox hb; have n0_ := Aside0.mk (below_step bw hb); have n1_ := Aside0.mk (hbox); have n2_ := Aside0.mk ((by rw [hg]; exact (below_size bw) : w.heap.size ≤ gb527)); have n3_ := Aside0.mk ((by rw [hg]; exact (below_size bw) : w.heap.size ≤ gb527)); clear HB; have HB := n0_; have BK527 := n1_; have GW527 := n2_; have GE527 := n3_; clear n0_ n1_ n2_ n3_; clear hb hbox hg; have hcz7_0 : w6.cell? ⟨gb527, 0, none⟩ = some (.int .i64 a0_0) := (blk_cell BK527.out 0).trans rfl; have hcz7_1 : w6.cell? ⟨gb527, 1, none⟩ = some (.string a0_1) := (blk_cell BK527.out 1).trans rfl; have hcz7_2 : w6.cell? ⟨gb527, 2, none⟩ = some (.bool a0_2) := (blk_cell BK527.out 2).trans rfl; have hcz7_3 : w6.cell? ⟨gb527, 3, none⟩ = some (.string a0_3) := (blk_cell BK527.out 3).trans rfl; have hcz7_4 : w6.cell? ⟨gb527, 4, none⟩ = some (.int .u64 a0_4) := (blk_cell BK527.out 4).trans rfl; have hcz7_5 : w6.cell? ⟨gb527, 5, none⟩ = some (.int .u64 a0_5) := (blk_cell BK527.out 5).trans rfl; have hcz7_6 : w6.cell? ⟨gb527, 6, none⟩ = some (.int .i64 a0_6) := (blk_cell BK527.out 6).trans rfl; have hfz7_0 := blk_frozen BK527.out 0; have hfz7_1 := blk_frozen BK527.out 1; have hfz7_2 := blk_frozen BK527.out 2; have hfz7_3 := blk_frozen BK527.out 3; have hfz7_4 := blk_frozen BK527.out 4; have hfz7_5 := blk_frozen BK527.out 5; have hfz7_6 := blk_frozen BK527.out 6))
   go_ret
   exact ⟨by first | rfl | (simp [errW_none, errW_some] <;> rfl) | (simp [*, errW_none, errW_some] <;> rfl), bw⟩
  ·rw [if_neg c5] at H
   have c5b0 : (a0_0 == 12) = false := beq_eq_false_iff_ne.mpr c5
   have c5b1 : (a0_0 != 12) = true := bne_iff_ne.mpr c5
   obtain rfl := Option.some.inj H
   go_enter Try.func109, Try.ntmps109
   go_wp2_with (first | ((with_reducible refine gate_dst (N := 1) rfl ?_); refine box_event ?hg (N := 1) ?hd (cs := #[.int .i64 a0_0, .string a0_1, .bool a0_2, .string a0_3, .int .u64 a0_4, .int .u64 a0_5, .int .i64 a0_6]) (t := 66) ?hr ?_; (case hd => rfl); (case hg => rfl); (case hr => first | (go_simp; done) | (go_simp; rfl)); intro gb527 hg w8 hbox hb; have n0_ := Aside0.mk (below_step bw hb); have n1_ := Aside0.mk (hbox); have n2_ := Aside0.mk ((by rw [hg]; exact (below_size bw) : w.heap.size ≤ gb527)); have n3_ := Aside0.mk ((by rw [hg]; exact (below_size bw) : w.heap.size ≤ gb527)); clear HB; have HB := n0_; have BK527 := n1_; have GW527 := n2_; have GE527 := n3_; clear n0_ n1_ n2_ n3_; clear hb hbox hg; have hcz9_0 : w8.cell? ⟨gb527, 0, none⟩ = some (.int .i64 a0_0) := (blk_cell BK527.out 0).trans rfl; have hcz9_1 : w8.cell? ⟨gb527, 1, none⟩ = some (.string a0_1) := (blk_cell BK527.out 1).trans rfl; have hcz9_2 : w8.cell? ⟨gb527, 2, none⟩ = some (.bool a0_2) := (blk_cell BK527.out 2).trans rfl; have hcz9_3 : w8.cell? ⟨gb527, 3, none⟩ = some (.string a0_3) := (blk_cell BK527.out 3).trans rfl; have hcz9_4 : w8.cell? ⟨gb527, 4, none⟩ = some (.int .u64 a0_4) := (blk_cell BK527.out 4).trans rfl; have hcz9_5 : w8.cell? ⟨gb527, 5, none⟩ = some (.int .u64 a0_5) := (blk_cell BK527.out 5).trans rfl; have hcz9_6 : w8.cell? ⟨gb527, 6, none⟩ = some (.int .i64 a0_6) := (blk_cell BK527.out 6).trans rfl; have hfz9_0 := blk_frozen BK527.out 0; have hfz9_1 := blk_frozen BK527.out 1; have hfz9_2 := blk_frozen BK527.out 2; have hfz9_3 := blk_frozen BK527.out 3; have hfz9_4 := blk_frozen BK527.out 4; have hfz9_5 := blk_frozen BK527.out 5; have hfz9_6 := blk_frozen BK527.out 6))
   go_ret
   exact ⟨by first | rfl | (simp [errW_none, errW_some] <;> rfl) | (simp [*, errW_none, errW_some] <;> rfl), bw⟩

end Go.Proofs.Ytcfbbbilonignaa.Q

namespace Go.Proofs.Ytcfbbbilonignaa.Q
open Go.RowKit Go.Proofs.YtcfbbbilonignaaW.PrintWords Go.Proofs.YtcfbbbilonignaaW.PrintLast Go.Proofs.YtcfbbbilonignaaW.PrintMore
set_option linter.unusedVariables false
set_option linter.unusedSimpArgs false
def znB (a0 : Int) (a1 : ByteArray) (a2 : Bool) (a3 : ByteArray) (a4 a5 a6 : Int) : Bool := a0 == 0 && (a1.toList == [] && (!a2 && (a3.toList == [] && (a4 == 0 && (a5 == 0 && (a6 == 0))))))
def cntB (a0 : Int) : Bool := a0 == 11 || (a0 == 12 || a0 == 13)
/-- Instructions but leaves. -/
def insB (z : Bool) (o a b : Int) (fr : Bool) (k n conds : Int) : Bool :=
  z && (!fr && (if o = 5 then decide (a ≥ 0) && (decide (a < conds) && (decide (b > k) && decide (b ≤ n)))
    else if o = 6 then a == 0 && (decide (b > k) && decide (b ≤ n))
    else decide (o ≥ 2) && (decide (o ≤ 4) && (a == 0 && b == 0))))
def leafB (v : Bool) (a b kind counters : Int) : Bool := v && (b == 0 && (if cntB kind = true then decide (a ≥ 0) && decide (a < counters) else a == 0))
def spec_l6GoodIns.f (k : Nat) (o a b : Int) (fr : Bool) (n0 : Int) (n1 : ByteArray) (n2 : Bool) (n3 : ByteArray) (n4 n5 n6 : Int) (a1 a2 a3 a4 : Int) : Option Bool :=
  if o = 1 then (spec_ValidFilter.f k [(⟨n0, n1, n2, n3, n4, n5, n6⟩ : S66)]).bind fun v => some (leafB v a b n0 a3) else some (insB (znB n0 n1 n2 n3 n4 n5 n6) o a b fr a1 a2 a4)
set_option maxHeartbeats 4000000 in
set_option maxRecDepth 100000 in
theorem goodIns_other (o a b : Int) (fr : Bool) (n0 : Int) (n1 : ByteArray) (n2 : Bool) (n3 : ByteArray) (n4 n5 n6 : Int) (a1 a2 a3 a4 : Int) (w : World) (ho : o ≠ 1) :
    Calls Try.prog 83 #[.agg #[.int .i64 o, .int .i64 a, .int .i64 b, .bool fr, .int .i64 n0, .string n1, .bool n2, .string n3, .int .u64 n4, .int .u64 n5, .int .i64 n6], .int .i64 a1, .int .i64 a2, .int .i64 a3, .int .i64 a4] w fun e w' => e = .returned (.bool (insB (znB n0 n1 n2 n3 n4 n5 n6) o a b fr a1 a2 a4)) ∧ Below w.heap.size w w' := by
  obtain ⟨z, hz⟩ : ∃ z, znB n0 n1 n2 n3 n4 n5 n6 = z := ⟨_, rfl⟩
  have hq : ∀ (d : Nat) (W : World), (Op.equalIn (d + 2) 66 (.agg #[.int .i64 n0, .string n1, .bool n2, .string n3, .int .u64 n4, .int .u64 n5, .int .i64 n6]) (.agg #[.int .i64 0, .string ⟨#[]⟩, .bool false, .string ⟨#[]⟩, .int .u64 0, .int .u64 0, .int .i64 0])).run Try.prog W = .ok z W := by
    intro d W
    rw [eqA66, ← hz]
    congr 1
    unfold znB
    rw [show (⟨#[]⟩ : ByteArray).toList = [] from by kernel_rfl]
    cases n2 <;> rfl
  rw [hz]
  have d0 : (o == 1) = false := beq_eq_false_iff_ne.mpr ho
  have kx : K0 (w.heap.size ≤ w.heap.size) := ⟨Nat.le_refl _⟩
  have kr : K0 (Below w.heap.size w w) := ⟨Below.refl _ _⟩
  clear hz
  go_enter Try.func83, Try.ntmps83
  go_upto_region 7 with (fail)
  go_wp2
  all_goals refine bodyPost_ret (by simp [results, Try.results83, go_sem]; rfl) rfl ⟨?_, kk⟩
  all_goals clear hq kx kr
  all_goals (first | rfl | (congr 2; unfold insB; simp_all (config := { failIfUnchanged := false }); done) | (congr 2; unfold insB; simp_all (config := { failIfUnchanged := false }) <;> omega) | skip)
theorem one_C (W : World) (g : Nat) (x : S66) (h : W.heap[g]? = some (.cells #[.int .i64 x.f0, .string x.f1, .bool x.f2, .string x.f3, .int .u64 x.f4, .int .u64 x.f5, .int .i64 x.f6] 66 (0, 0))) : Kd.C k66 W (some ⟨g, 0, none⟩) 1 [x] := by
  refine ⟨rfl, by omega, fun _ => ⟨_, rfl, fun j p hj => ?_⟩⟩
  obtain ⟨rfl, rfl⟩ : j = 0 ∧ p = x := by
    rcases j with _ | j
    · exact ⟨rfl, (Option.some.inj hj).symm⟩
    · simp at hj
  refine ⟨_, rfl, k66_mk W p, fun i u hu => ?_⟩
  have hi : i < 7 := (List.getElem?_eq_some_iff.mp hu).1
  rcases i with _ | _ | _ | _ | _ | _ | _ | i
  all_goals first | omega | exact (blk_cell h _).trans hu
set_option maxHeartbeats 4000000 in
set_option maxRecDepth 100000 in
theorem goodIns_leaf (k : Nat) (v : Bool) (a b : Int) (fr : Bool) (n0 : Int) (n1 : ByteArray) (n2 : Bool) (n3 : ByteArray) (n4 n5 n6 : Int) (a1 a2 a3 a4 : Int) (w : World) (hv : spec_ValidFilter.f k [(⟨n0, n1, n2, n3, n4, n5, n6⟩ : S66)] = some v) :
    Calls Try.prog 83 #[.agg #[.int .i64 1, .int .i64 a, .int .i64 b, .bool fr, .int .i64 n0, .string n1, .bool n2, .string n3, .int .u64 n4, .int .u64 n5, .int .i64 n6], .int .i64 a1, .int .i64 a2, .int .i64 a3, .int .i64 a4] w fun e w' => e = .returned (.bool (leafB v a b n0 a3)) ∧ Below w.heap.size w w' := by
  have kx : K0 (w.heap.size ≤ w.heap.size) := ⟨Nat.le_refl _⟩
  have kr : K0 (Below w.heap.size w w) := ⟨Below.refl _ _⟩
  obtain ⟨C, hC⟩ : ∃ C, C = (Obj.cells #[.int .i64 1, .int .i64 a, .int .i64 b, .bool fr, .int .i64 n0, .string n1, .bool n2, .string n3, .int .u64 n4, .int .u64 n5, .int .i64 n6] 138 : Obj) := ⟨_, rfl⟩
  have hk : Below w.heap.size w ((w.alloc C).alloc (.cells #[.int .i64 n0, .string n1, .bool n2, .string n3, .int .u64 n4, .int .u64 n5, .int .i64 n6] 66)) := kk
  have HK := Aside0.mk hk
  have HV := Aside0.mk hv
  have hn := heap_alloc_new (w.alloc C) (.cells #[.int .i64 n0, .string n1, .bool n2, .string n3, .int .u64 n4, .int .u64 n5, .int .i64 n6] 66)
  rw [sz_al] at hn
  have HN := Aside0.mk hn
  have ho : ((w.alloc C).alloc (.cells #[.int .i64 n0, .string n1, .bool n2, .string n3, .int .u64 n4, .int .u64 n5, .int .i64 n6] 66)).heap[w.heap.size]? = some C := by
    rw [heap_alloc_old _ _ (by rw [sz_al]; omega)]; exact heap_alloc_new _ _
  have HO := Aside0.mk ho
  clear hk hv hn ho
  go_enter Try.func83, Try.ntmps83
  go_wp2_with fail
  go_at_call 7
  rw [← hC]
  generalize (w.alloc C).alloc (.cells #[.int .i64 n0, .string n1, .bool n2, .string n3, .int .u64 n4, .int .u64 n5, .int .i64 n6] 66) = W at *
  refine (spec_ValidFilter.calls k _ 1 [⟨n0, n1, n2, n3, n4, n5, n6⟩] v W (one_C W _ ⟨n0, n1, n2, n3, n4, n5, n6⟩ HN.out) (Nat.le_refl _) HV.out).mono ?_
  rintro e W2 ⟨rfl, hb⟩
  have hb2 : Below w.heap.size w W2 := HK.out.trans (hb.mono (by have := (Array.getElem?_eq_some_iff.mp HO.out).1; omega))
  have h2 : W2.heap[w.heap.size]? = some C := (hb.block _ ((Array.getElem?_eq_some_iff.mp HO.out).1)).trans HO.out
  rw [hC] at h2
  clear hb HK HN HO HV hC
  have kb : K0 (Below w.heap.size w W2) := ⟨hb2⟩
  have c1 : W2.cell? ⟨w.heap.size, 1, none⟩ = some (.int .i64 a) := (blk_cell h2 1).trans rfl
  have c2 : W2.cell? ⟨w.heap.size, 2, none⟩ = some (.int .i64 b) := (blk_cell h2 2).trans rfl
  have c4 : W2.cell? ⟨w.heap.size, 4, none⟩ = some (.int .i64 n0) := (blk_cell h2 4).trans rfl
  have c5 : W2.cell? ⟨w.heap.size, 5, none⟩ = some (.string n1) := (blk_cell h2 5).trans rfl
  have c6 : W2.cell? ⟨w.heap.size, 6, none⟩ = some (.bool n2) := (blk_cell h2 6).trans rfl
  have c7 : W2.cell? ⟨w.heap.size, 7, none⟩ = some (.string n3) := (blk_cell h2 7).trans rfl
  have c8 : W2.cell? ⟨w.heap.size, 8, none⟩ = some (.int .u64 n4) := (blk_cell h2 8).trans rfl
  have c9 : W2.cell? ⟨w.heap.size, 9, none⟩ = some (.int .u64 n5) := (blk_cell h2 9).trans rfl
  have c10 : W2.cell? ⟨w.heap.size, 10, none⟩ = some (.int .i64 n6) := (blk_cell h2 10).trans rfl
  have f1 := blk_frozen h2 1
  have f2 := blk_frozen h2 2
  have hx : ∀ (W3 : World), Calls Try.prog 109 #[.agg #[.int .i64 n0, .string n1, .bool n2, .string n3, .int .u64 n4, .int .u64 n5, .int .i64 n6]] W3 fun e w' => e = .returned (.bool (cntB n0)) ∧ Below W3.heap.size W3 w' := fun W3 =>
    spec_l6Counts.calls n0 n1 n2 n3 n4 n5 n6 (cntB n0) W3 (by
    unfold spec_l6Counts.f cntB
    by_cases h1 : n0 = 11
    · rw [if_pos h1, h1]; rfl
    · rw [if_neg h1, beq_eq_false_iff_ne.mpr h1]
      by_cases h2 : n0 = 12
      · rw [if_pos h2, h2]; rfl
      · rw [if_neg h2, beq_eq_false_iff_ne.mpr h2]; rfl)
  have h2' := Aside0.mk h2
  clear h2
  cases v
  · go_wp2
    go_ret
    exact ⟨rfl, kk⟩
  cases hb0 : b != 0
  · go_wp2_with fail
    go_at_call 109
    refine (hx W2).mono ?_
    rintro e W3 ⟨rfl, hb3⟩
    have h3 : W3.heap[w.heap.size]? = some _ := (hb3.block _ (Array.getElem?_eq_some_iff.mp h2'.out).1).trans h2'.out
    have hb4 : Below w.heap.size w W3 := hb2.trans (hb3.mono (by have := (Array.getElem?_eq_some_iff.mp h2'.out).1; omega))
    clear hx hb3 h2' hb2 kb c1 c2 c4 c5 c6 c7 c8 c9 c10 f1 f2
    have kb : K0 (Below w.heap.size w W3) := ⟨hb4⟩
    have c1 : W3.cell? ⟨w.heap.size, 1, none⟩ = some (.int .i64 a) := (blk_cell h3 1).trans rfl
    have f1 := blk_frozen h3 1
    clear h3
    have hbz : (b == 0) = true := by simpa using hb0
    cases hc : cntB n0
    · go_wp2
      go_ret
      exact ⟨by simp [leafB, hc, hbz], kk⟩
    · go_wp2
      all_goals (go_ret; refine ⟨?_, kk⟩; first | (simp [leafB, hc, hbz, *]; done) | (simp [leafB, hc, hbz, *]; omega))
  · have hbz : (b == 0) = false := by simpa using hb0
    go_wp2
    go_ret
    exact ⟨by simp [leafB, hbz], kk⟩
theorem spec_l6GoodIns.calls (k : Nat) (a0_0 : Int) (a0_1 : Int) (a0_2 : Int) (a0_3 : Bool) (a0_4 : Int) (a0_5 : ByteArray) (a0_6 : Bool) (a0_7 : ByteArray) (a0_8 : Int) (a0_9 : Int) (a0_10 : Int) (a1 : Int) (a2 : Int) (a3 : Int) (a4 : Int) (r : Bool) (w : World) (h : spec_l6GoodIns.f k a0_0 a0_1 a0_2 a0_3 a0_4 a0_5 a0_6 a0_7 a0_8 a0_9 a0_10 a1 a2 a3 a4 = some r) :
    Calls Try.prog 83 #[.agg #[.int .i64 a0_0, .int .i64 a0_1, .int .i64 a0_2, .bool a0_3, .int .i64 a0_4, .string a0_5, .bool a0_6, .string a0_7, .int .u64 a0_8, .int .u64 a0_9, .int .i64 a0_10], .int .i64 a1, .int .i64 a2, .int .i64 a3, .int .i64 a4] w fun e w' => e = .returned (.bool r) ∧ Below w.heap.size w w' := by
  unfold spec_l6GoodIns.f at h
  by_cases ho : a0_0 = 1
  · rw [if_pos ho] at h
    obtain ⟨v, hv, h⟩ := Option.bind_eq_some_iff.mp h
    cases h
    subst ho
    exact goodIns_leaf k v _ _ _ _ _ _ _ _ _ _ _ _ _ _ w hv
  · rw [if_neg ho] at h
    cases h
    exact goodIns_other _ _ _ _ _ _ _ _ _ _ _ _ _ _ _ w ho
end Go.Proofs.Ytcfbbbilonignaa.Q

namespace Go.Proofs.Ytcfbbbilonignaa.Q
open Go.RowKit Go.Proofs.YtcfbbbilonignaaW.PrintWords Go.Proofs.YtcfbbbilonignaaW.PrintLast Go.Proofs.YtcfbbbilonignaaW.PrintMore
set_option linter.unusedVariables false
set_option linter.unusedSimpArgs false

/-! ### impl_Node_arity: function 96 -/
def impl_Node_arity.j0 : Nat → Int → Bool → Option (Int)
 | 0, _, _ => none
 | k + 1, x4, x5 => if x5 = true then (some 2) else (if x4 = 16 then (some 3) else (some 0))
def impl_Node_arity.f (k : Nat) (a0_0 : Int) (a0_1 : ByteArray) (a0_2 : Bool) (a0_3 : ByteArray) (a0_4 : Int) (a0_5 : Int) (a0_6 : Int) : Option (Int) := if a0_0 = 14 then (impl_Node_arity.j0 k a0_0 (a0_0 == 14)) else (impl_Node_arity.j0 k a0_0 (a0_0 == 15))
set_option maxHeartbeats 8000000 in
set_option maxRecDepth 100000 in
theorem impl_Node_arity.calls (k : Nat) (a0_0 : Int) (a0_1 : ByteArray) (a0_2 : Bool) (a0_3 : ByteArray) (a0_4 : Int) (a0_5 : Int) (a0_6 : Int) (r : Int) (w : World) (h : impl_Node_arity.f k a0_0 a0_1 a0_2 a0_3 a0_4 a0_5 a0_6 = some r) :
  Calls Try.prog 96 #[.agg #[.int .i64 a0_0, .string a0_1, .bool a0_2, .string a0_3, .int .u64 a0_4, .int .u64 a0_5, .int .i64 a0_6]] w fun e w' => e = .returned (.int .i64 r) ∧ Below w.heap.size w w' := by
 have hu66 := Try.underlying66
 have HB := Aside0.mk (Below.refl w.heap.size w)
 have H : (if a0_0 = 14 then (impl_Node_arity.j0 k a0_0 (a0_0 == 14)) else (impl_Node_arity.j0 k a0_0 (a0_0 == 15))) = some r := h
 clear h
 have HC2 := Aside0.mk H
 clear H
 go_enter Try.func96, Try.ntmps96
 go_upto_if 5 with (first | ((with_reducible refine gate_dst (N := 1) rfl ?_); refine box_event ?hg (N := 1) ?hd (cs := #[.int .i64 a0_0, .string a0_1, .bool a0_2, .string a0_3, .int .u64 a0_4, .int .u64 a0_5, .int .i64 a0_6]) (t := 66) ?hr ?_; (case hd => rfl); (case hg => rfl); (case hr => first | (go_simp; done) | (go_simp; rfl)); intro gb198 hg w3 hbox hb; have n0_ := Aside0.mk (below_step bw hb); have n1_ := Aside0.mk (hbox); have n2_ := Aside0.mk ((by rw [hg]; exact (below_size bw) : w.heap.size ≤ gb198)); have n3_ := Aside0.mk ((by rw [hg]; exact (below_size bw) : w.heap.size ≤ gb198)); clear HB; have HB := n0_; have BK198 := n1_; have GW198 := n2_; have GE198 := n3_; clear n0_ n1_ n2_ n3_; clear hb hbox hg; have hcz4_0 : w3.cell? ⟨gb198, 0, none⟩ = some (.int .i64 a0_0) := (blk_cell BK198.out 0).trans rfl; have hcz4_1 : w3.cell? ⟨gb198, 1, none⟩ = some (.string a0_1) := (blk_cell BK198.out 1).trans rfl; have hcz4_2 : w3.cell? ⟨gb198, 2, none⟩ = some (.bool a0_2) := (blk_cell BK198.out 2).trans rfl; have hcz4_3 : w3.cell? ⟨gb198, 3, none⟩ = some (.string a0_3) := (blk_cell BK198.out 3).trans rfl; have hcz4_4 : w3.cell? ⟨gb198, 4, none⟩ = some (.int .u64 a0_4) := (blk_cell BK198.out 4).trans rfl; have hcz4_5 : w3.cell? ⟨gb198, 5, none⟩ = some (.int .u64 a0_5) := (blk_cell BK198.out 5).trans rfl; have hcz4_6 : w3.cell? ⟨gb198, 6, none⟩ = some (.int .i64 a0_6) := (blk_cell BK198.out 6).trans rfl; have hfz4_0 := blk_frozen BK198.out 0; have hfz4_1 := blk_frozen BK198.out 1; have hfz4_2 := blk_frozen BK198.out 2; have hfz4_3 := blk_frozen BK198.out 3; have hfz4_4 := blk_frozen BK198.out 4; have hfz4_5 := blk_frozen BK198.out 5; have hfz4_6 := blk_frozen BK198.out 6))
 (try simp only [Act.put, List.setIfInBounds_toArray, List.set_cons_zero, List.set_cons_succ])
 go_cut [5] (fun v5 wc => ∃ (kq : Nat) (x5_1 : Bool), v5 = .bool x5_1 ∧ Aside0 (impl_Node_arity.j0 kq a0_0 x5_1 = some r) ∧ Aside0 (kq ≤ k) ∧ Aside0 (wc.heap[gb198]? = some (.cells #[.int .i64 a0_0, .string a0_1, .bool a0_2, .string a0_3, .int .u64 a0_4, .int .u64 a0_5, .int .i64 a0_6] 66 (0, 0))) ∧ Aside0 (Below w.heap.size w wc))
 case first =>
  have H := HC2.out
  clear HC2
  by_cases c5 : a0_0 = 14
  ·rw [if_pos c5] at H
   have c5b0 : (a0_0 == 14) = true := beq_iff_eq.mpr c5
   have c5b1 : (a0_0 != 14) = false := bne_eq_false_iff_eq.mpr c5
   clear c5
   (first | rw [c5b0] | (simp only [i64_w, i32_w]; rw [c5b0]) | skip)
   have H' := Aside0.mk H
   clear H
   go_wp2
   go_meet
   case rel => exact ⟨_, ((a0_0 == 14)), (by first | rfl | (simp; done) | (simp [*]; done)), H', ⟨by first | omega | exact Nat.le_refl _⟩, ⟨lb BK198⟩, ⟨bw⟩⟩
  ·rw [if_neg c5] at H
   have c5b0 : (a0_0 == 14) = false := beq_eq_false_iff_ne.mpr c5
   have c5b1 : (a0_0 != 14) = true := bne_iff_ne.mpr c5
   (first | rw [c5b0] | (simp only [i64_w, i32_w]; rw [c5b0]) | skip)
   have H' := Aside0.mk H
   clear H
   go_wp2
   go_meet
   case rel => exact ⟨_, ((a0_0 == 15)), (by first | rfl | (simp; done) | (simp [*]; done)), H', ⟨by first | omega | exact Nat.le_refl _⟩, ⟨lb BK198⟩, ⟨bw⟩⟩
 case rest =>
  clear HC2
  try clear p2
  try clear c5
  try clear c5b0
  try clear c5b1
  try clear hcz4_0
  try clear hcz4_1
  try clear hcz4_2
  try clear hcz4_3
  try clear hcz4_4
  try clear hcz4_5
  try clear hcz4_6
  try clear hfz4_0
  try clear hfz4_1
  try clear hfz4_2
  try clear hfz4_3
  try clear hfz4_4
  try clear hfz4_5
  try clear hfz4_6
  obtain ⟨kq, x5_1, rfl, HA, HJ1, BK198, HB⟩ := hcut
  cases kq with
  | zero => exact absurd HA.out (by simp [impl_Node_arity.j0])
  | succ kj1 =>
   have H := HA.out
   clear HA
   simp only [impl_Node_arity.j0] at H
   by_cases c6 : x5_1 = true
   ·subst c6
    have H1 : (some 2) = some r := by rw [if_pos rfl] at H; exact H
    clear H
    have H := H1
    clear H1
    obtain rfl := Option.some.inj H
    go_wp2
    go_ret
    exact ⟨by first | rfl | (simp [errW_none, errW_some] <;> rfl) | (simp [*, errW_none, errW_some] <;> rfl), bw⟩
   ·replace c6 := Bool.eq_false_iff.mpr c6
    subst c6
    have H1 : (if a0_0 = 16 then (some 3) else (some 0)) = some r := by rw [if_neg (show ¬ (false = true) by decide)] at H; exact H
    clear H
    have H := H1
    clear H1
    by_cases c7 : a0_0 = 16
    ·rw [if_pos c7] at H
     have c7b0 : (a0_0 == 16) = true := beq_iff_eq.mpr c7
     have c7b1 : (a0_0 != 16) = false := bne_eq_false_iff_eq.mpr c7
     clear c7
     obtain rfl := Option.some.inj H
     go_wp2
     go_ret
     exact ⟨by first | rfl | (simp [errW_none, errW_some] <;> rfl) | (simp [*, errW_none, errW_some] <;> rfl), bw⟩
    ·rw [if_neg c7] at H
     have c7b0 : (a0_0 == 16) = false := beq_eq_false_iff_ne.mpr c7
     have c7b1 : (a0_0 != 16) = true := bne_iff_ne.mpr c7
     obtain rfl := Option.some.inj H
     go_wp2
     go_ret
     exact ⟨by first | rfl | (simp [errW_none, errW_some] <;> rfl) | (simp [*, errW_none, errW_some] <;> rfl), bw⟩

end Go.Proofs.Ytcfbbbilonignaa.Q

namespace Go.Proofs.Ytcfbbbilonignaa.Q
open Go.RowKit Go.Proofs.YtcfbbbilonignaaW.PrintWords Go.Proofs.YtcfbbbilonignaaW.PrintLast Go.Proofs.YtcfbbbilonignaaW.PrintMore
set_option linter.unusedVariables false
set_option linter.unusedSimpArgs false

/-! ### impl_Node_counts: function 111 -/
def impl_Node_counts.f (a0_0 : Int) (a0_1 : ByteArray) (a0_2 : Bool) (a0_3 : ByteArray) (a0_4 : Int) (a0_5 : Int) (a0_6 : Int) : Option (Bool) := if a0_0 = 11 then (some true) else (if a0_0 = 12 then (some true) else (some (a0_0 == 13)))
set_option maxHeartbeats 8000000 in
set_option maxRecDepth 100000 in
theorem impl_Node_counts.calls (a0_0 : Int) (a0_1 : ByteArray) (a0_2 : Bool) (a0_3 : ByteArray) (a0_4 : Int) (a0_5 : Int) (a0_6 : Int) (r : Bool) (w : World) (h : impl_Node_counts.f a0_0 a0_1 a0_2 a0_3 a0_4 a0_5 a0_6 = some r) :
  Calls Try.prog 111 #[.agg #[.int .i64 a0_0, .string a0_1, .bool a0_2, .string a0_3, .int .u64 a0_4, .int .u64 a0_5, .int .i64 a0_6]] w fun e w' => e = .returned (.bool r) ∧ Below w.heap.size w w' := by
 have hu66 := Try.underlying66
 have HB := Aside0.mk (Below.refl w.heap.size w)
 have H : (if a0_0 = 11 then (some true) else (if a0_0 = 12 then (some true) else (some (a0_0 == 13)))) = some r := h
 clear h
 by_cases c2 : a0_0 = 11
 ·rw [if_pos c2] at H
  have c2b0 : (a0_0 == 11) = true := beq_iff_eq.mpr c2
  have c2b1 : (a0_0 != 11) = false := bne_eq_false_iff_eq.mpr c2
  clear c2
  obtain rfl := Option.some.inj H
  go_enter Try.func111, Try.ntmps111
  go_wp2_with (first | ((with_reducible refine gate_dst (N := 1) rfl ?_); refine box_event ?hg (N := 1) ?hd (cs := #[.int .i64 a0_0, .string a0_1, .bool a0_2, .string a0_3, .int .u64 a0_4, .int .u64 a0_5, .int .i64 a0_6]) (t := 66) ?hr ?_; (case hd => rfl); (case hg => rfl); (case hr => first | (go_simp; done) | (go_simp; rfl)); intro gb610 hg w3 hbox hb; have n0_ := Aside0.mk (below_step bw hb); have n1_ := Aside0.mk (hbox); have n2_ := Aside0.mk ((by rw [hg]; exact (below_size bw) : w.heap.size ≤ gb610)); have n3_ := Aside0.mk ((by rw [hg]; exact (below_size bw) : w.heap.size ≤ gb610)); clear HB; have HB := n0_; have BK610 := n1_; have GW610 := n2_; have GE610 := n3_; clear n0_ n1_ n2_ n3_; clear hb hbox hg; have hcz4_0 : w3.cell? ⟨gb610, 0, none⟩ = some (.int .i64 a0_0) := (blk_cell BK610.out 0).trans rfl; have hcz4_1 : w3.cell? ⟨gb610, 1, none⟩ = some (.string a0_1) := (blk_cell BK610.out 1).trans rfl; have hcz4_2 : w3.cell? ⟨gb610, 2, none⟩ = some (.bool a0_2) := (blk_cell BK610.out 2).trans rfl; have hcz4_3 : w3.cell? ⟨gb610, 3, none⟩ = some (.string a0_3) := (blk_cell BK610.out 3).trans rfl; have hcz4_4 : w3.cell? ⟨gb610, 4, none⟩ = some (.int .u64 a0_4) := (blk_cell BK610.out 4).trans rfl; have hcz4_5 : w3.cell? ⟨gb610, 5, none⟩ = some (.int .u64 a0_5) := (blk_cell BK610.out 5).trans rfl; have hcz4_6 : w3.cell? ⟨gb610, 6, none⟩ = some (.int .i64 a0_6) := (blk_cell BK610.out 6).trans rfl; have hfz4_0 := blk_frozen BK610.out 0; have hfz4_1 := blk_frozen BK610.out 1; have hfz4_2 := blk_frozen BK610.out 2; have hfz4_3 := blk_frozen BK610.out 3; have hfz4_4 := blk_frozen BK610.out 4; have hfz4_5 := blk_frozen BK610.out 5; have hfz4_6 := blk_frozen BK610.out 6))
  go_ret
  exact ⟨by first | rfl | (simp [errW_none, errW_some] <;> rfl) | (simp [*, errW_none, errW_some] <;> rfl), bw⟩
 ·rw [if_neg c2] at H
  have c2b0 : (a0_0 == 11) = false := beq_eq_false_iff_ne.mpr c2
  have c2b1 : (a0_0 != 11) = true := bne_iff_ne.mpr c2
  by_cases c5 : a0_0 = 12
  ·rw [if_pos c5] at H
   have c5b0 : (a0_0 == 12) = true := beq_iff_eq.mpr c5
   have c5b1 : (a0_0 != 12) = false := bne_eq_false_iff_eq.mpr c5
   clear c5
   obtain rfl := Option.some.inj H
   go_enter Try.func111, Try.ntmps111
   go_wp2_with (first | ((with_reducible refine gate_dst (N := 1) rfl ?_); refine box_event ?hg (N := 1) ?hd (cs := #[.int .i64 a0_0, .string a0_1, .bool a0_2, .string a0_3, .int .u64 a0_4, .int .u64 a0_5, .int .i64 a0_6]) (t := 66) ?hr ?_; (case hd => rfl); (case hg => rfl); (case hr => first | (go_simp; done) | (go_simp; rfl)); intro gb610 hg w6 hbox hb; have n0_ := Aside0.mk (below_step bw hb); have n1_ := Aside0.mk (hbox); have n2_ := Aside0.mk ((by rw [hg]; exact (below_size bw) : w.heap.size ≤ gb610)); have n3_ := Aside0.mk ((by rw [hg]; exact (below_size bw) : w.heap.size ≤ gb610)); clear HB; have HB := n0_; have BK610 := n1_; have GW610 := n2_; have GE610 := n3_; clear n0_ n1_ n2_ n3_; clear hb hbox hg; have hcz7_0 : w6.cell? ⟨gb610, 0, none⟩ = some (.int .i64 a0_0) := (blk_cell BK610.out 0).trans rfl; have hcz7_1 : w6.cell? ⟨gb610, 1, none⟩ = some (.string a0_1) := (blk_cell BK610.out 1).trans rfl; have hcz7_2 : w6.cell? ⟨gb610, 2, none⟩ = some (.bool a0_2) := (blk_cell BK610.out 2).trans rfl; have hcz7_3 : w6.cell? ⟨gb610, 3, none⟩ = some (.string a0_3) := (blk_cell BK610.out 3).trans rfl; have hcz7_4 : w6.cell? ⟨gb610, 4, none⟩ = some (.int .u64 a0_4) := (blk_cell BK610.out 4).trans rfl; have hcz7_5 : w6.cell? ⟨gb610, 5, none⟩ = some (.int .u64 a0_5) := (blk_cell BK610.out 5).trans rfl; have hcz7_6 : w6.cell? ⟨gb610, 6, none⟩ = some (.int .i64 a0_6) := (blk_cell BK610.out 6).trans rfl; have hfz7_0 := blk_frozen BK610.out 0; have hfz7_1 := blk_frozen BK610.out 1; have hfz7_2 := blk_frozen BK610.out 2; have hfz7_3 := blk_frozen BK610.out 3; have hfz7_4 := blk_frozen BK610.out 4; have hfz7_5 := blk_frozen BK610.out 5; have hfz7_6 := blk_frozen BK610.out 6))
   go_ret
   exact ⟨by first | rfl | (simp [errW_none, errW_some] <;> rfl) | (simp [*, errW_none, errW_some] <;> rfl), bw⟩
  ·rw [if_neg c5] at H
   have c5b0 : (a0_0 == 12) = false := beq_eq_false_iff_ne.mpr c5
   have c5b1 : (a0_0 != 12) = true := bne_iff_ne.mpr c5
   obtain rfl := Option.some.inj H
   go_enter Try.func111, Try.ntmps111
   go_wp2_with (first | ((with_reducible refine gate_dst (N := 1) rfl ?_); refine box_event ?hg (N := 1) ?hd (cs := #[.int .i64 a0_0, .string a0_1, .bool a0_2, .string a0_3, .int .u64 a0_4, .int .u64 a0_5, .int .i64 a0_6]) (t := 66) ?hr ?_; (case hd => rfl); (case hg => rfl); (case hr => first | (go_simp; done) | (go_simp; rfl)); intro gb610 hg w8 hbox hb; have n0_ := Aside0.mk (below_step bw hb); have n1_ := Aside0.mk (hbox); have n2_ := Aside0.mk ((by rw [hg]; exact (below_size bw) : w.heap.size ≤ gb610)); have n3_ := Aside0.mk ((by rw [hg]; exact (below_size bw) : w.heap.size ≤ gb610)); clear HB; have HB := n0_; have BK610 := n1_; have GW610 := n2_; have GE610 := n3_; clear n0_ n1_ n2_ n3_; clear hb hbox hg; have hcz9_0 : w8.cell? ⟨gb610, 0, none⟩ = some (.int .i64 a0_0) := (blk_cell BK610.out 0).trans rfl; have hcz9_1 : w8.cell? ⟨gb610, 1, none⟩ = some (.string a0_1) := (blk_cell BK610.out 1).trans rfl; have hcz9_2 : w8.cell? ⟨gb610, 2, none⟩ = some (.bool a0_2) := (blk_cell BK610.out 2).trans rfl; have hcz9_3 : w8.cell? ⟨gb610, 3, none⟩ = some (.string a0_3) := (blk_cell BK610.out 3).trans rfl; have hcz9_4 : w8.cell? ⟨gb610, 4, none⟩ = some (.int .u64 a0_4) := (blk_cell BK610.out 4).trans rfl; have hcz9_5 : w8.cell? ⟨gb610, 5, none⟩ = some (.int .u64 a0_5) := (blk_cell BK610.out 5).trans rfl; have hcz9_6 : w8.cell? ⟨gb610, 6, none⟩ = some (.int .i64 a0_6) := (blk_cell BK610.out 6).trans rfl; have hfz9_0 := blk_frozen BK610.out 0; have hfz9_1 := blk_frozen BK610.out 1; have hfz9_2 := blk_frozen BK610.out 2; have hfz9_3 := blk_frozen BK610.out 3; have hfz9_4 := blk_frozen BK610.out 4; have hfz9_5 := blk_frozen BK610.out 5; have hfz9_6 := blk_frozen BK610.out 6))
   go_ret
   exact ⟨by first | rfl | (simp [errW_none, errW_some] <;> rfl) | (simp [*, errW_none, errW_some] <;> rfl), bw⟩

end Go.Proofs.Ytcfbbbilonignaa.Q

namespace Go.Proofs.Ytcfbbbilonignaa.Q
open Go.RowKit Go.Proofs.YtcfbbbilonignaaW.PrintWords Go.Proofs.YtcfbbbilonignaaW.PrintLast Go.Proofs.YtcfbbbilonignaaW.PrintMore
set_option linter.unusedVariables false
set_option linter.unusedSimpArgs false

theorem eqA138 (d : Nat) (w : World) (x0 y0 : Int) (x1 y1 : Int) (x2 y2 : Int) (x3 y3 : Bool) (x4 y4 : Int) (x5 y5 : ByteArray) (x6 y6 : Bool) (x7 y7 : ByteArray) (x8 y8 : Int) (x9 y9 : Int) (x10 y10 : Int) :
    (Op.equalIn (d + 3) 138 (.agg #[.int .i64 x0, .int .i64 x1, .int .i64 x2, .bool x3, .int .i64 x4, .string x5, .bool x6, .string x7, .int .u64 x8, .int .u64 x9, .int .i64 x10]) (.agg #[.int .i64 y0, .int .i64 y1, .int .i64 y2, .bool y3, .int .i64 y4, .string y5, .bool y6, .string y7, .int .u64 y8, .int .u64 y9, .int .i64 y10])).run Try.prog w = .ok (x0 == y0 && (x1 == y1 && (x2 == y2 && (x3 == y3 && ((x4 == y4 && (x5.toList == y5.toList && (x6 == y6 && (x7.toList == y7.toList && (x8 == y8 && (x9 == y9 && (x10 == y10)))))))))))) w := by
  refine eqA_of Try.underlying138 (by kernel_rfl) ?_
  refine eqf_cons (by rfl) (by go_simp; rfl) (by go_simp; rfl) (by go_simp) ?_
  refine eqf_cons (by rfl) (by go_simp; rfl) (by go_simp; rfl) (by go_simp) ?_
  refine eqf_cons (by rfl) (by go_simp; rfl) (by go_simp; rfl) (by go_simp) ?_
  refine eqf_cons (by rfl) (by go_simp; rfl) (by go_simp; rfl) (by go_simp) ?_
  exact eqf_last (by rfl) (by go_simp) (by go_simp) (eqA66 (d + 0) w _ _ _ _ _ _ _ _ _ _ _ _ _ _)
end Go.Proofs.Ytcfbbbilonignaa.Q

namespace Go.Proofs.Ytcfbbbilonignaa.Q
open Go.RowKit Go.Proofs.YtcfbbbilonignaaW.PrintWords Go.Proofs.YtcfbbbilonignaaW.PrintLast Go.Proofs.YtcfbbbilonignaaW.PrintMore
set_option linter.unusedVariables false
set_option linter.unusedSimpArgs false
set_option maxHeartbeats 8000000 in
set_option maxRecDepth 100000 in
theorem insGood_other (o a b : Int) (fr : Bool) (n0 : Int) (n1 : ByteArray) (n2 : Bool) (n3 : ByteArray) (n4 n5 n6 : Int) (a1 a2 a3 a4 : Int) (w : World) (ho : o ≠ 1) :
    Calls Try.prog 88 #[.agg #[.int .i64 o, .int .i64 a, .int .i64 b, .bool fr, .int .i64 n0, .string n1, .bool n2, .string n3, .int .u64 n4, .int .u64 n5, .int .i64 n6], .int .i64 a1, .int .i64 a2, .int .i64 a3, .int .i64 a4] w fun e w' => e = .returned (.bool (insB (znB n0 n1 n2 n3 n4 n5 n6) o a b fr a1 a2 a4)) ∧ Below w.heap.size w w' := by
  obtain ⟨z, hz⟩ : ∃ z, znB n0 n1 n2 n3 n4 n5 n6 = z := ⟨_, rfl⟩
  have hq : ∀ (x y : Int) (d : Nat) (W : World), (Op.equalIn (d + 3) 138 (.agg #[.int .i64 o, .int .i64 a, .int .i64 b, .bool fr, .int .i64 n0, .string n1, .bool n2, .string n3, .int .u64 n4, .int .u64 n5, .int .i64 n6]) (.agg #[.int .i64 o, .int .i64 x, .int .i64 y, .bool false, .int .i64 0, .string ⟨#[]⟩, .bool false, .string ⟨#[]⟩, .int .u64 0, .int .u64 0, .int .i64 0])).run Try.prog W = .ok (a == x && (b == y && (!fr && z))) W := by
    intro x y d W
    rw [eqA138, ← hz, show (⟨#[]⟩ : ByteArray).toList = [] from by kernel_rfl, eqq]
    unfold znB
    cases fr <;> cases n2 <;> rfl
  rw [hz]
  have d0 : (o == 1) = false := beq_eq_false_iff_ne.mpr ho
  have kx : K0 (w.heap.size ≤ w.heap.size) := ⟨Nat.le_refl _⟩
  have kr : K0 (Below w.heap.size w w) := ⟨Below.refl _ _⟩
  clear hz
  go_enter Try.func88, Try.ntmps88
  go_wp2_with fail
  all_goals clear hq
  all_goals go_ret
  all_goals refine ⟨?_, kk⟩
  all_goals clear kx kr
  all_goals first | (simp [insB, *]; done) | (refine congrArg Ending.returned (congrArg Value.bool ?_); simp only [insB]; first | grind (splits := 60) | (simp only [beq_iff_eq, beq_eq_false_iff_ne] at *; by_cases e1 : a = 0 <;> by_cases e2 : b = 0 <;> cases fr <;> cases z <;> simp [*]; done) | (have e3 : (if o = 5 then decide (a ≥ 0) && (decide (a < a4) && (decide (b > a1) && decide (b ≤ a2))) else if o = 6 then a == 0 && (decide (b > a1) && decide (b ≤ a2)) else decide (o ≥ 2) && (decide (o ≤ 4) && (a == 0 && b == 0))) = (a == 0 && b == 0) := (by grind); rw [e3]; generalize (a == 0) = p; generalize (b == 0) = q; cases p <;> cases q <;> cases fr <;> cases z <;> rfl))
end Go.Proofs.Ytcfbbbilonignaa.Q

namespace Go.Proofs.Ytcfbbbilonignaa.Q
open Go.RowKit Go.Proofs.YtcfbbbilonignaaW.PrintWords Go.Proofs.YtcfbbbilonignaaW.PrintLast Go.Proofs.YtcfbbbilonignaaW.PrintMore
set_option linter.unusedVariables false
set_option linter.unusedSimpArgs false
/-- What a call leaves of a block. -/
theorem blk_call {W W2 : World} {g : Nat} {o : Obj} (h : W.heap[g]? = some o) (hb : Below W.heap.size W W2) : W2.heap[g]? = some o := (hb.block _ (Array.getElem?_eq_some_iff.mp h).1).trans h
theorem bel_call {w W W2 : World} {o : Obj} (h : W.heap[w.heap.size]? = some o) (hw : Below w.heap.size w W) (hb : Below W.heap.size W W2) : Below w.heap.size w W2 := hw.trans (hb.mono (by have := (Array.getElem?_eq_some_iff.mp h).1; omega))
theorem ins_cells {W : World} {g : Nat} {o a b : Int} {fr : Bool} {n0 : Int} {n1 : ByteArray} {n2 : Bool} {n3 : ByteArray} {n4 n5 n6 : Int} {C : Obj} (hC : C = (Obj.cells #[.int .i64 o, .int .i64 a, .int .i64 b, .bool fr, .int .i64 n0, .string n1, .bool n2, .string n3, .int .u64 n4, .int .u64 n5, .int .i64 n6] 138 : Obj)) (h : W.heap[g]? = some C) :
    W.cell? ⟨g, 1, none⟩ = some (.int .i64 a) ∧ W.cell? ⟨g, 2, none⟩ = some (.int .i64 b) ∧ W.cell? ⟨g, 4, none⟩ = some (.int .i64 n0) ∧ W.cell? ⟨g, 5, none⟩ = some (.string n1) ∧ W.cell? ⟨g, 6, none⟩ = some (.bool n2) ∧ W.cell? ⟨g, 7, none⟩ = some (.string n3) ∧ W.cell? ⟨g, 8, none⟩ = some (.int .u64 n4) ∧ W.cell? ⟨g, 9, none⟩ = some (.int .u64 n5) ∧ W.cell? ⟨g, 10, none⟩ = some (.int .i64 n6) ∧ W.frozen? ⟨g, 1, none⟩ = false ∧ W.frozen? ⟨g, 2, none⟩ = false := by
  subst hC
  exact ⟨(blk_cell h 1).trans rfl, (blk_cell h 2).trans rfl, (blk_cell h 4).trans rfl, (blk_cell h 5).trans rfl, (blk_cell h 6).trans rfl, (blk_cell h 7).trans rfl, (blk_cell h 8).trans rfl, (blk_cell h 9).trans rfl, (blk_cell h 10).trans rfl, blk_frozen h 1, blk_frozen h 2⟩
set_option maxHeartbeats 8000000 in
set_option maxRecDepth 100000 in
theorem insGood_leaf (k : Nat) (r : Int) (v : Bool) (a b : Int) (fr : Bool) (n0 : Int) (n1 : ByteArray) (n2 : Bool) (n3 : ByteArray) (n4 n5 n6 : Int) (a1 a2 a3 a4 : Int) (w : World) (hr : impl_Node_arity.f k n0 n1 n2 n3 n4 n5 n6 = some r) (hv : impl_Node_good.f k n0 n1 n2 n3 n4 n5 n6 = some v) :
    Calls Try.prog 88 #[.agg #[.int .i64 1, .int .i64 a, .int .i64 b, .bool fr, .int .i64 n0, .string n1, .bool n2, .string n3, .int .u64 n4, .int .u64 n5, .int .i64 n6], .int .i64 a1, .int .i64 a2, .int .i64 a3, .int .i64 a4] w fun e w' => e = .returned (.bool (leafB (decide (r ≤ 0) && v) a b n0 a3)) ∧ Below w.heap.size w w' := by
  have kx : K0 (w.heap.size ≤ w.heap.size) := ⟨Nat.le_refl _⟩
  have kr : K0 (Below w.heap.size w w) := ⟨Below.refl _ _⟩
  have HR := Aside0.mk (fun W => impl_Node_arity.calls k n0 n1 n2 n3 n4 n5 n6 r W hr)
  have HV := Aside0.mk (fun W => impl_Node_good.calls k n0 n1 n2 n3 n4 n5 n6 v W hv)
  have HC := Aside0.mk (fun W => impl_Node_counts.calls n0 n1 n2 n3 n4 n5 n6 (cntB n0) W (by
    unfold impl_Node_counts.f cntB
    by_cases h1 : n0 = 11
    · rw [if_pos h1, h1]; rfl
    · rw [if_neg h1, beq_eq_false_iff_ne.mpr h1]
      by_cases h2 : n0 = 12
      · rw [if_pos h2, h2]; rfl
      · rw [if_neg h2, beq_eq_false_iff_ne.mpr h2]; rfl))
  clear hr hv
  obtain ⟨C, hC⟩ : ∃ C, C = (Obj.cells #[.int .i64 1, .int .i64 a, .int .i64 b, .bool fr, .int .i64 n0, .string n1, .bool n2, .string n3, .int .u64 n4, .int .u64 n5, .int .i64 n6] 138 : Obj) := ⟨_, rfl⟩
  obtain ⟨D, hD⟩ : ∃ D, D = (Obj.cells #[.int .i64 1, .int .i64 0, .int .i64 0, .bool false, .int .i64 0, .string ⟨#[]⟩, .bool false, .string ⟨#[]⟩, .int .u64 0, .int .u64 0, .int .i64 0] 138 : Obj) := ⟨_, rfl⟩
  have HK := Aside0.mk (kk : Below w.heap.size w ((w.alloc C).alloc D))
  have ho : ((w.alloc C).alloc D).heap[w.heap.size]? = some C := by
    rw [heap_alloc_old _ _ (by rw [sz_al]; omega)]; exact heap_alloc_new _ _
  have HO := Aside0.mk ho
  clear ho
  go_enter Try.func88, Try.ntmps88
  go_wp2_with fail
  rw [← hC, ← hD]
  clear hD
  generalize (w.alloc C).alloc D = W at *
  have HQ := Aside0.mk hC
  clear hC
  refine (HR.out _).mono ?_
  rintro e W2 ⟨rfl, hb⟩
  have h2 := blk_call HO.out hb
  have HB2 := Aside0.mk (bel_call HO.out HK.out hb)
  obtain ⟨c1, c2, c4, c5, c6, c7, c8, c9, c10, f1, f2⟩ := ins_cells HQ.out h2
  have H2 := Aside0.mk h2
  have k2 : K0 (Below w.heap.size w W2) := ⟨HB2.out⟩
  clear hb h2 HR HO HK
  by_cases hr : r ≤ 0
  · have d1 : decide (r ≤ 0) = true := decide_eq_true hr
    go_wp2_with fail
    refine (HV.out _).mono ?_
    rintro e W3 ⟨rfl, hb⟩
    have h3 := blk_call H2.out hb
    have HB3 := Aside0.mk (bel_call H2.out HB2.out hb)
    clear c1 c2 c4 c5 c6 c7 c8 c9 c10 f1 f2
    obtain ⟨c1, c2, c4, c5, c6, c7, c8, c9, c10, f1, f2⟩ := ins_cells HQ.out h3
    have H3 := Aside0.mk h3
    have k3 : K0 (Below w.heap.size w W3) := ⟨HB3.out⟩
    clear hb h3 HV H2 HB2 k2
    cases v
    · go_wp2
      go_ret
      exact ⟨by simp [leafB], kk⟩
    cases hb0 : b != 0
    · have hbz : (b == 0) = true := by simpa using hb0
      go_wp2_with fail
      refine (HC.out _).mono ?_
      rintro e W4 ⟨rfl, hb⟩
      have h4 := blk_call H3.out hb
      have HB4 := Aside0.mk (bel_call H3.out HB3.out hb)
      clear c1 c2 c4 c5 c6 c7 c8 c9 c10 f1 f2
      obtain ⟨c1, c2, c4, c5, c6, c7, c8, c9, c10, f1, f2⟩ := ins_cells HQ.out h4
      have H4 := Aside0.mk h4
      have k4 : K0 (Below w.heap.size w W4) := ⟨HB4.out⟩
      clear hb h4 H3 HB3 k3
      cases hc : cntB n0
      · go_wp2_with fail
        refine (HC.out _).mono ?_
        rintro e W5 ⟨rfl, hb⟩
        have h5 := blk_call H4.out hb
        have HB5 := Aside0.mk (bel_call H4.out HB4.out hb)
        clear c1 c2 c4 c5 c6 c7 c8 c9 c10 f1 f2
        obtain ⟨c1, c2, c4, c5, c6, c7, c8, c9, c10, f1, f2⟩ := ins_cells HQ.out h5
        have k5 : K0 (Below w.heap.size w W5) := ⟨HB5.out⟩
        clear hb h5 H4 HB4 k4 HC
        rw [hc]
        go_wp2
        go_ret
        exact ⟨by simp [leafB, hc, hbz, d1], kk⟩
      · by_cases g0 : 0 ≤ a
        · by_cases g1 : a < a3
          · go_wp2
            go_ret
            exact ⟨by simp [leafB, hc, hbz, d1, g0, g1], kk⟩
          · have g2 : decide (a < a3) = false := decide_eq_false g1
            go_wp2_with fail
            refine (HC.out _).mono ?_
            rintro e W5 ⟨rfl, hb⟩
            have k5 : K0 (Below w.heap.size w W5) := ⟨bel_call H4.out HB4.out hb⟩
            clear hb
            rw [hc]
            go_wp2
            go_ret
            exact ⟨by simp [leafB, hc, hbz, d1, g0, g1], kk⟩
        · have g2 : decide (0 ≤ a) = false := decide_eq_false g0
          go_wp2_with fail
          refine (HC.out _).mono ?_
          rintro e W5 ⟨rfl, hb⟩
          have k5 : K0 (Below w.heap.size w W5) := ⟨bel_call H4.out HB4.out hb⟩
          clear hb
          rw [hc]
          go_wp2
          go_ret
          exact ⟨by simp [leafB, hc, hbz, d1]; omega, kk⟩
    · have hbz : (b == 0) = false := by simpa using hb0
      go_wp2
      go_ret
      exact ⟨by simp [leafB, hbz], kk⟩
  · have d1 : decide (r ≤ 0) = false := decide_eq_false hr
    go_wp2
    all_goals go_ret
    all_goals exact ⟨by simp [leafB, d1], kk⟩
def impl_Ins_good.f (k : Nat) (o a b : Int) (fr : Bool) (n0 : Int) (n1 : ByteArray) (n2 : Bool) (n3 : ByteArray) (n4 n5 n6 : Int) (a1 a2 a3 a4 : Int) : Option Bool :=
  if o = 1 then (impl_Node_arity.f k n0 n1 n2 n3 n4 n5 n6).bind fun r => (impl_Node_good.f k n0 n1 n2 n3 n4 n5 n6).bind fun v => some (leafB (decide (r ≤ 0) && v) a b n0 a3) else some (insB (znB n0 n1 n2 n3 n4 n5 n6) o a b fr a1 a2 a4)
theorem impl_Ins_good.calls (k : Nat) (a0_0 : Int) (a0_1 : Int) (a0_2 : Int) (a0_3 : Bool) (a0_4 : Int) (a0_5 : ByteArray) (a0_6 : Bool) (a0_7 : ByteArray) (a0_8 : Int) (a0_9 : Int) (a0_10 : Int) (a1 : Int) (a2 : Int) (a3 : Int) (a4 : Int) (r : Bool) (w : World) (h : impl_Ins_good.f k a0_0 a0_1 a0_2 a0_3 a0_4 a0_5 a0_6 a0_7 a0_8 a0_9 a0_10 a1 a2 a3 a4 = some r) :
    Calls Try.prog 88 #[.agg #[.int .i64 a0_0, .int .i64 a0_1, .int .i64 a0_2, .bool a0_3, .int .i64 a0_4, .string a0_5, .bool a0_6, .string a0_7, .int .u64 a0_8, .int .u64 a0_9, .int .i64 a0_10], .int .i64 a1, .int .i64 a2, .int .i64 a3, .int .i64 a4] w fun e w' => e = .returned (.bool r) ∧ Below w.heap.size w w' := by
  unfold impl_Ins_good.f at h
  by_cases ho : a0_0 = 1
  · rw [if_pos ho] at h
    obtain ⟨q, hq, h⟩ := Option.bind_eq_some_iff.mp h
    obtain ⟨v, hv, h⟩ := Option.bind_eq_some_iff.mp h
    cases h
    subst ho
    exact insGood_leaf k q v _ _ _ _ _ _ _ _ _ _ _ _ _ _ w hq hv
  · rw [if_neg ho] at h
    cases h
    exact insGood_other _ _ _ _ _ _ _ _ _ _ _ _ _ _ _ w ho
end Go.Proofs.Ytcfbbbilonignaa.Q

namespace Go.Proofs.Ytcfbbbilonignaa.Q
open Go.RowKit Go.Proofs.YtcfbbbilonignaaW.PrintWords Go.Proofs.YtcfbbbilonignaaW.PrintLast Go.Proofs.YtcfbbbilonignaaW.PrintMore
def arB (a : Int) : Int := if a = 14 ∨ a = 15 then 2 else if a = 16 then 3 else 0
theorem ar_spec (a : Int) (k : Nat) : spec_l5Arity.f (k + 1) a = some (arB a) := by
  unfold spec_l5Arity.f arB
  simp only [spec_l5Arity.j0]
  grind
theorem ar_impl (a0 : Int) (a1 : ByteArray) (a2 : Bool) (a3 : ByteArray) (a4 a5 a6 : Int) (k : Nat) : impl_Node_arity.f (k + 1) a0 a1 a2 a3 a4 a5 a6 = some (arB a0) := by
  unfold impl_Node_arity.f arB
  simp only [impl_Node_arity.j0]
  grind
theorem from_one (n : S66) (k : Nat) : spec_l5From.f (k + 3) [n] = some (if arB n.f0 = 0 then 0 else -1) := by
  unfold spec_l5From.f
  have hr : rd_T66 [n] 0 = n := rfl
  have hw : wrap64 ((1 : Int) - 1) = 0 := by kernel_rfl
  have hm : wrap64 ((0 : Int) - 1) = -1 := by kernel_rfl
  have hz : ∀ x : Int, wrap64 (0 + arB x) = arB x := fun x => by
    unfold arB; split
    · kernel_rfl
    · split <;> kernel_rfl
  have hl : (([n] : List S66).length : Int) = 1 := rfl
  rw [hl]
  simp only [spec_l5From.l0, hl, hw, hm, hr, ar_spec, Option.bind_some, hz]
  unfold arB
  grind
theorem nest_one (n : S66) (h : arB n.f0 = 0) (k : Nat) : spec_l5Nest.f (k + 3) [n] = some 0 := by
  have hr : rd_T66 [n] 0 = n := rfl
  have hw : wrap64 ((1 : Int) - 1) = 0 := by kernel_rfl
  have hl : (([n] : List S66).length : Int) = 1 := rfl
  have ht : spec_l5Top.f [n] = some n.f0 := by
    unfold spec_l5Top.f
    rw [hl]
    simp [show wrap64 0 = 0 from by kernel_rfl, hr]
  have hk : spec_l5Kids.f (k + 2) [n] = some [] := by
    unfold spec_l5Kids.f
    rw [hl]
    simp [show wrap64 0 = 0 from by kernel_rfl, hr, ar_spec, h, spec_l5Kids.l0]
  simp [spec_l5Nest.f, ht, hk, spec_l5Nest.l0]
/-- The test of a list of one node. -/
theorem filter_one (n : S66) (b : Bool) (hs : Ev (fun k => spec_l5GoodNode.f k n.f0 n.f1 n.f2 n.f3 n.f4 n.f5 n.f6) b) : Ev (fun k => spec_ValidFilter.f k [n]) (decide (arB n.f0 ≤ 0) && b) := by
  obtain ⟨K, hK⟩ := hs
  refine ⟨K + 6, fun k hk => ?_⟩
  obtain ⟨j, rfl⟩ : ∃ j, k = j + 6 := ⟨k - 6, by omega⟩
  have hg : spec_l5GoodNode.f (j + 5) n.f0 n.f1 n.f2 n.f3 n.f4 n.f5 n.f6 = some b := hK _ (by omega)
  have hr : rd_T66 [n] 0 = n := rfl
  have hw : wrap64 ((0 : Int) + 1) = 1 := by kernel_rfl
  have hl : (([n] : List S66).length : Int) = 1 := rfl
  show spec_ValidFilter.f (j + 6) [n] = _
  have ht : spec_l5Tree.f (j + 4) [n] = some (decide (arB n.f0 = 0)) := by
    unfold spec_l5Tree.f
    rw [hl, show j + 4 = (j + 1) + 3 from rfl, from_one]
    by_cases h0 : arB n.f0 = 0 <;> simp [h0]
  have h3 : 0 ≤ arB n.f0 := by unfold arB; grind
  unfold spec_ValidFilter.f
  simp only [spec_ValidFilter.l0, hl, hr, hg, Option.bind_some, hw, ht]
  cases b
  · simp
  · by_cases h0 : arB n.f0 = 0
    · have hn : spec_l5Nest.f (j + 4) [n] = some 0 := nest_one n h0 (j + 1)
      simp [h0, hn]
    · simp [h0]; omega
/-- The two tests of an instruction answer alike. -/
theorem ins_same (x : S138) (k n counters conds : Int) : ∃ b, Ev (fun f => impl_Ins_good.f f x.f0 x.f1 x.f2 x.f3 x.f4.f0 x.f4.f1 x.f4.f2 x.f4.f3 x.f4.f4 x.f4.f5 x.f4.f6 k n counters conds) b ∧ Ev (fun f => spec_l6GoodIns.f f x.f0 x.f1 x.f2 x.f3 x.f4.f0 x.f4.f1 x.f4.f2 x.f4.f3 x.f4.f4 x.f4.f5 x.f4.f6 k n counters conds) b ∧ (b = true → x.f0 = 5 ∨ x.f0 = 6 → k < x.f2 ∧ x.f2 ≤ n) ∧ (b = true → ¬ (x.f0 = 5 ∨ x.f0 = 6) → x.f2 = 0) ∧ (b = true → 1 ≤ x.f0 ∧ x.f0 ≤ 6) := by
  by_cases ho : x.f0 = 1
  · obtain ⟨c, hi, hs⟩ := node_same x.f4.f0 x.f4.f1 x.f4.f2 x.f4.f3 x.f4.f4 x.f4.f5 x.f4.f6
    refine ⟨leafB (decide (arB x.f4.f0 ≤ 0) && ndOk c x.f4.f0 x.f4.f1 x.f4.f2 x.f4.f3 x.f4.f4 x.f4.f5 x.f4.f6) x.f1 x.f2 x.f4.f0 counters, ?_, ?_, ?_, ?_, ?_⟩
    · unfold impl_Ins_good.f
      refine Ev.if_pos ho (Ev.bind (a := arB x.f4.f0) ⟨1, fun k hk => ?_⟩ (Ev.bind hi (Ev.now _)))
      obtain ⟨j, rfl⟩ : ∃ j, k = j + 1 := ⟨k - 1, by omega⟩
      exact ar_impl ..
    · unfold spec_l6GoodIns.f
      exact Ev.if_pos ho (Ev.bind (filter_one x.f4 _ hs) (Ev.now _))
    · intro _ h; omega
    · intro h _
      unfold leafB at h
      simp only [Bool.and_eq_true, beq_iff_eq] at h
      exact h.2.1
    · intro _; omega
  · refine ⟨insB (znB x.f4.f0 x.f4.f1 x.f4.f2 x.f4.f3 x.f4.f4 x.f4.f5 x.f4.f6) x.f0 x.f1 x.f2 x.f3 k n conds, ?_, ?_, ?_, ?_, ?_⟩
    · unfold impl_Ins_good.f; exact Ev.if_neg ho (Ev.now _)
    · unfold spec_l6GoodIns.f; exact Ev.if_neg ho (Ev.now _)
    all_goals (intro h; unfold insB at h; grind)
end Go.Proofs.Ytcfbbbilonignaa.Q

namespace Go.Proofs.Ytcfbbbilonignaa.Q
open Go.RowKit Go.Proofs.YtcfbbbilonignaaW.PrintWords Go.Proofs.YtcfbbbilonignaaW.PrintLast Go.Proofs.YtcfbbbilonignaaW.PrintMore
set_option linter.unusedVariables false
set_option linter.unusedSimpArgs false
/-- A row of whole numbers in block g. -/
def Dst (t : TypeId) (w : World) (g : Nat) (ds : List Int) : Prop :=
  ∃ cur : Array Value, w.heap[g]? = some (.cells cur t (0, 0)) ∧ ∀ (j : Nat) (x : Int), ds[j]? = some x → cur[j]? = some (Value.int .i64 x)
theorem Dst.cell {t : TypeId} {w : World} {g : Nat} {ds : List Int} (h : Dst t w g ds) {j : Nat} {x : Int} (hj : ds[j]? = some x) : w.cell? ⟨g, j, none⟩ = some (.int .i64 x) := by
  obtain ⟨cur, h1, h2⟩ := h
  exact (blk_cell h1 j).trans (h2 j x hj)
theorem Dst.frozen {t : TypeId} {w : World} {g : Nat} {ds : List Int} (h : Dst t w g ds) (j : Nat) : w.frozen? ⟨g, j, none⟩ = false := by
  obtain ⟨cur, h1, h2⟩ := h
  exact blk_frozen h1 j
theorem Dst.of {t : TypeId} {w w' : World} {g : Nat} {ds : List Int} (h : Dst t w g ds) (hb : w'.heap[g]? = w.heap[g]?) : Dst t w' g ds := by
  obtain ⟨cur, h1, h2⟩ := h
  exact ⟨cur, hb.trans h1, h2⟩
theorem Dst.lt {t : TypeId} {w : World} {g : Nat} {ds : List Int} (h : Dst t w g ds) : g < w.heap.size := by
  obtain ⟨cur, h1, h2⟩ := h
  exact (Array.getElem?_eq_some_iff.mp h1).1
theorem Dst.put {t : TypeId} {w : World} {g : Nat} {ds : List Int} (h : Dst t w g ds) (j : Nat) (d : Int) : Dst t (w.setCell ⟨g, j, none⟩ (.int .i64 d)) g (ds.set j d) := by
  obtain ⟨cur, h1, h2⟩ := h
  refine ⟨_, bk_put h1 _, fun i x hi => ?_⟩
  rw [List.getElem?_set] at hi
  rw [Array.getElem?_setIfInBounds]
  by_cases hij : j = i
  · subst hij
    simp only [if_pos] at hi ⊢
    by_cases hl : j < ds.length
    · have := h2 j _ (List.getElem?_eq_getElem hl)
      have hs := (Array.getElem?_eq_some_iff.mp this).1
      simp [hl] at hi
      simp [hs, hi]
    · simp [hl] at hi
  · simp only [if_neg hij] at hi ⊢
    exact h2 i x hi
/-- The row behind a note. -/
def ntL (ds : List Int) (p : Nat) (d : Int) : List Int := if ds[p]? = some 0 then ds.set p d else ds
def ntB (ds : List Int) (p : Nat) (d : Int) : Bool := decide ((ntL ds p d)[p]? = some d) && decide (d ≤ 250)
theorem nt_same {ds : List Int} {p : Nat} {v d : Int} (hv : ds[p]? = some v) (h : (v == 0) = false) : ntL ds p d = ds := by
  unfold ntL; rw [hv, if_neg]; simpa using h
theorem nt_new {ds : List Int} {p : Nat} {v d : Int} (hv : ds[p]? = some v) (h : (v == 0) = true) : ntL ds p d = ds.set p d := by
  unfold ntL; rw [hv, if_pos]; simpa using h
theorem ntB_same {ds : List Int} {p : Nat} {v d : Int} (hv : ds[p]? = some v) (h : (v == 0) = false) : ntB ds p d = (decide (v = d) && decide (d ≤ 250)) := by
  unfold ntB; rw [nt_same hv h, hv]; simp
theorem ntB_new {ds : List Int} {p : Nat} {v d : Int} (hv : ds[p]? = some v) (h : (v == 0) = true) : ntB ds p d = decide (d ≤ 250) := by
  have hl : p < ds.length := (List.getElem?_eq_some_iff.mp hv).1
  unfold ntB; rw [nt_new hv h]; simp [hl]
set_option maxHeartbeats 4000000 in
set_option maxRecDepth 100000 in
theorem note_call (g n c p : Nat) (d v : Int) (ds : List Int) (w : World) (hd : Dst 2 w g ds) (hp : p < n) (hv : ds[p]? = some v) (h1 : 1 ≤ d) :
    Calls Try.prog 84 #[.slice (some ⟨g, 0, none⟩) n c, .int .i64 p, .int .i64 d] w fun e w' => e = .returned (.bool (ntB ds p d)) ∧ Dst 2 w' g (ntL ds p d) ∧ Bx w.heap.size g w w' := by
  have kr : K0 (Bx w.heap.size g w w) := ⟨Bx.refl _ _ _⟩
  have c1 := hd.cell hv
  have f1 := hd.frozen p
  have HD := Aside0.mk hd
  have HV := Aside0.mk hv
  clear hd hv
  go_enter Try.func84, Try.ntmps84
  go_wp2_with fail
  · go_ret
    refine ⟨?_, ?_, kk⟩
    · rw [ntB_new HV.out ‹_›]; rfl
    · rw [nt_new HV.out ‹_›]
      exact HD.out.put _ _
  · go_ret
    refine ⟨?_, ?_, kk⟩
    · rw [ntB_same HV.out ‹_›]; simp [*]
    · rw [nt_same HV.out ‹_›]
      exact HD.out
  · go_ret
    refine ⟨?_, ?_, kk⟩
    · rw [ntB_same HV.out ‹_›]; simp [*]
    · rw [nt_same HV.out ‹_›]
      exact HD.out
set_option maxHeartbeats 4000000 in
set_option maxRecDepth 100000 in
/-- The closure: its one captured thing is the cell that holds the row. -/
theorem reach_call (q g n c p : Nat) (d v : Int) (ds : List Int) (w : World) (hq : w.cell? ⟨q, 0, none⟩ = some (.slice (some ⟨g, 0, none⟩) n c)) (hgq : q ≠ g) (hd : Dst 3 w g ds) (hp : p < n) (hv : ds[p]? = some v) :
    Calls Try.prog 87 #[.int .i64 p, .int .i64 d, .pointer (some ⟨q, 0, none⟩)] w fun e w' => e = .returned (.bool (ntB ds p d)) ∧ Dst 3 w' g (ntL ds p d) ∧ Bx w.heap.size g w w' := by
  have kr : K0 (Bx w.heap.size g w w) := ⟨Bx.refl _ _ _⟩
  have c0 := clkx hq hgq
  have c1 := hd.cell hv
  have f1 := hd.frozen p
  have HD := Aside0.mk hd
  have HV := Aside0.mk hv
  clear hd hv
  go_enter Try.func87, Try.ntmps87
  go_wp2_with fail
  · go_ret
    refine ⟨?_, ?_, kk⟩
    · rw [ntB_new HV.out ‹_›]; rfl
    · rw [nt_new HV.out ‹_›]
      exact HD.out.put _ _
  · go_ret
    refine ⟨?_, ?_, kk⟩
    · rw [ntB_same HV.out ‹_›]; simp [*]
    · rw [nt_same HV.out ‹_›]
      exact HD.out
  · go_ret
    refine ⟨?_, ?_, kk⟩
    · rw [ntB_same HV.out ‹_›]; simp [*]
    · rw [nt_same HV.out ‹_›]
      exact HD.out
end Go.Proofs.Ytcfbbbilonignaa.Q

namespace Go.Proofs.Ytcfbbbilonignaa.Q
open Go.RowKit Go.Proofs.YtcfbbbilonignaaW.PrintWords Go.Proofs.YtcfbbbilonignaaW.PrintLast Go.Proofs.YtcfbbbilonignaaW.PrintMore
set_option linter.unusedVariables false
/-- What both tests of an instruction say. -/
noncomputable def insOk (x : S138) (k n cn cd : Int) : Bool := Classical.choose (ins_same x k n cn cd)
theorem insOk_jump {x : S138} {k n cn cd : Int} (h : insOk x k n cn cd = true) (ho : x.f0 = 5 ∨ x.f0 = 6) : k < x.f2 ∧ x.f2 ≤ n := (Classical.choose_spec (ins_same x k n cn cd)).2.2.1 h ho
theorem insOk_still {x : S138} {k n cn cd : Int} (h : insOk x k n cn cd = true) (ho : ¬ (x.f0 = 5 ∨ x.f0 = 6)) : x.f2 = 0 := (Classical.choose_spec (ins_same x k n cn cd)).2.2.2.1 h ho
theorem insOk_op {x : S138} {k n cn cd : Int} (h : insOk x k n cn cd = true) : 1 ≤ x.f0 ∧ x.f0 ≤ 6 := (Classical.choose_spec (ins_same x k n cn cd)).2.2.2.2 h
theorem ins_impl_call (x : S138) (k n cn cd : Int) (w : World) :
    Calls Try.prog 88 #[.agg #[.int .i64 x.f0, .int .i64 x.f1, .int .i64 x.f2, .bool x.f3, .int .i64 x.f4.f0, .string x.f4.f1, .bool x.f4.f2, .string x.f4.f3, .int .u64 x.f4.f4, .int .u64 x.f4.f5, .int .i64 x.f4.f6], .int .i64 k, .int .i64 n, .int .i64 cn, .int .i64 cd] w fun e w' => e = .returned (.bool (insOk x k n cn cd)) ∧ Below w.heap.size w w' := by
  obtain ⟨K, hK⟩ := (Classical.choose_spec (ins_same x k n cn cd)).1
  exact impl_Ins_good.calls K _ _ _ _ _ _ _ _ _ _ _ _ _ _ _ _ w (hK K (Nat.le_refl _))
theorem ins_spec_call (x : S138) (k n cn cd : Int) (w : World) :
    Calls Try.prog 83 #[.agg #[.int .i64 x.f0, .int .i64 x.f1, .int .i64 x.f2, .bool x.f3, .int .i64 x.f4.f0, .string x.f4.f1, .bool x.f4.f2, .string x.f4.f3, .int .u64 x.f4.f4, .int .u64 x.f4.f5, .int .i64 x.f4.f6], .int .i64 k, .int .i64 n, .int .i64 cn, .int .i64 cd] w fun e w' => e = .returned (.bool (insOk x k n cn cd)) ∧ Below w.heap.size w w' := by
  obtain ⟨K, hK⟩ := (Classical.choose_spec (ins_same x k n cn cd)).2.1
  exact spec_l6GoodIns.calls K _ _ _ _ _ _ _ _ _ _ _ _ _ _ _ _ w (hK K (Nat.le_refl _))
/-- The depth behind an instruction. -/
def aft (o d : Int) : Int := if o = 2 then d + 1 else if o = 4 then d - 1 else d
/-- The rows of depths behind the two notes. -/
def ds1 (o d : Int) (k : Nat) (ds : List Int) : List Int := if o = 6 then ds else ntL ds (k + 1) (aft o d)
def ds2 (o b d : Int) (k : Nat) (ds : List Int) : List Int := if o = 5 ∨ o = 6 then ntL (ds1 o d k ds) b.toNat (aft o d) else ds1 o d k ds
def blkStep (z : Bool) (o b d : Int) (k : Nat) (ds : List Int) : Bool :=
  decide (d ≠ 0) && z && !(decide (o = 3 ∨ o = 4) && decide (d < 2)) && (decide (o = 6) || ntB ds (k + 1) (aft o d)) && (decide (¬ (o = 5 ∨ o = 6)) || ntB (ds1 o d k ds) b.toNat (aft o d))
noncomputable def blkGo (n : Nat) (cn cd : Int) : Nat → List S138 → List Int → Bool
  | k, [], ds => decide (ds[k]? = some 1)
  | k, x :: xs, ds => if blkStep (insOk x k n cn cd) x.f0 x.f2 (ds.getD k 0) k ds = true then blkGo n cn cd (k + 1) xs (ds2 x.f0 x.f2 (ds.getD k 0) k ds) else false
noncomputable def blkOk (xs : List S138) (cn cd : Int) : Bool :=
  if (xs.length : Int) < 1 ∨ (xs.length : Int) > 4000 ∨ cn < 0 ∨ cn > 200 then false else blkGo xs.length cn cd 0 xs (1 :: List.replicate xs.length 0)
/-- Depths are 0 to 250, one more than there are instructions. -/
def DsOk (n : Nat) (ds : List Int) : Prop := ds.length = n + 1 ∧ ∀ x ∈ ds, 0 ≤ x ∧ x ≤ 250
theorem ntL_ok {n p : Nat} {ds : List Int} {d : Int} (h : DsOk n ds) (h1 : 1 ≤ d) (hb : ntB ds p d = true) : DsOk n (ntL ds p d) := by
  unfold ntB at hb
  simp only [Bool.and_eq_true, decide_eq_true_eq] at hb
  unfold ntL
  split
  · refine ⟨by rw [List.length_set]; exact h.1, fun x hx => ?_⟩
    rcases List.mem_or_eq_of_mem_set hx with hx | rfl
    · exact h.2 x hx
    · omega
  · exact h
theorem DsOk.start (n : Nat) : DsOk n (1 :: List.replicate n 0) := by
  refine ⟨by simp, fun x hx => ?_⟩
  rcases List.mem_cons.mp hx with rfl | hx
  · omega
  · rw [List.eq_of_mem_replicate hx]; omega
theorem DsOk.get {n k : Nat} {ds : List Int} (h : DsOk n ds) (hk : k ≤ n) : ∃ v, ds[k]? = some v ∧ ds.getD k 0 = v ∧ 0 ≤ v ∧ v ≤ 250 := by
  have hl : k < ds.length := by rw [h.1]; omega
  refine ⟨ds[k], List.getElem?_eq_getElem hl, by simp [List.getD, hl], ?_⟩
  exact h.2 _ (List.getElem_mem hl)
end Go.Proofs.Ytcfbbbilonignaa.Q

namespace Go.Proofs.Ytcfbbbilonignaa.Q
open Go.RowKit Go.Proofs.YtcfbbbilonignaaW.PrintWords Go.Proofs.YtcfbbbilonignaaW.PrintLast Go.Proofs.YtcfbbbilonignaaW.PrintMore
set_option linter.unusedVariables false
set_option linter.unusedSimpArgs false

/-! ### spec_l6IsJump: function 85 -/
def spec_l6IsJump.f (a0 : Int) : Option (Bool) := if a0 = 5 then (some true) else (some (a0 == 6))
set_option maxHeartbeats 8000000 in
set_option maxRecDepth 100000 in
theorem spec_l6IsJump.calls (a0 : Int) (r : Bool) (w : World) (h : spec_l6IsJump.f a0 = some r) :
  Calls Try.prog 85 #[.int .i64 a0] w fun e w' => e = .returned (.bool r) ∧ Drawn0 w w' := by
 have H : (if a0 = 5 then (some true) else (some (a0 == 6))) = some r := h
 clear h
 by_cases c2 : a0 = 5
 ·rw [if_pos c2] at H
  have c2b0 : (a0 == 5) = true := beq_iff_eq.mpr c2
  have c2b1 : (a0 != 5) = false := bne_eq_false_iff_eq.mpr c2
  clear c2
  obtain rfl := Option.some.inj H
  go_enter Try.func85, Try.ntmps85
  go_wp2
  go_ret
  exact ⟨by first | rfl | (simp; done) | (simp [*]; done), by repeat (first | exact Drawn0.refl _ | apply Drawn0.step)⟩
 ·rw [if_neg c2] at H
  have c2b0 : (a0 == 5) = false := beq_eq_false_iff_ne.mpr c2
  have c2b1 : (a0 != 5) = true := bne_iff_ne.mpr c2
  obtain rfl := Option.some.inj H
  go_enter Try.func85, Try.ntmps85
  go_wp2
  go_ret
  exact ⟨by first | rfl | (simp; done) | (simp [*]; done), by repeat (first | exact Drawn0.refl _ | apply Drawn0.step)⟩

end Go.Proofs.Ytcfbbbilonignaa.Q

namespace Go.Proofs.Ytcfbbbilonignaa.Q
open Go.RowKit Go.Proofs.YtcfbbbilonignaaW.PrintWords Go.Proofs.YtcfbbbilonignaaW.PrintLast Go.Proofs.YtcfbbbilonignaaW.PrintMore
set_option linter.unusedVariables false
set_option linter.unusedSimpArgs false
theorem info2_is : (Try.prog.info? 2).map (fun i => (i.zero, i.size, i.bytes)) = some (some (.int .i64 0), 1, 8) := by kernel_rfl
theorem grown_below {w w1 w2 : World} {o : Obj} {row : Option Nat} (h : Below w.heap.size w w1) (hg : (w1.alloc o).grownBy w2 row) (hr : ∀ k, row = some k → w.heap.size ≤ k) : Below w.heap.size w w2 :=
  h.trans ⟨hg.os, hg.tape, hg.output, by have := hg.size; rw [sz_al] at this; omega, fun k hk => (hg.block k (by rw [sz_al]; have := h.size; omega) (fun e => by have := hr k e.symm; omega)).trans (heap_alloc_old w1 _ (by have := h.size; omega))⟩
/-- 1 and then noughts, in memory. -/
def rowV (j : Nat) : List Value := (1 :: List.replicate j 0 : List Int).map (Value.int .i64)
theorem rowV_step (j : Nat) : rowV j ++ [.int .i64 0] = rowV (j + 1) := by
  unfold rowV
  rw [show ([.int .i64 0] : List Value) = [(0 : Int)].map (Value.int .i64) from rfl, ← List.map_append, List.cons_append, ← List.replicate_succ']
theorem own_dst {w : World} {b j : Nat} {v : Value} (h : w.ownsRow b 2 1 v (j + 1) (rowV j)) : ∃ g c, v = .slice (some ⟨g, 0, none⟩) (j + 1) c ∧ b ≤ g ∧ Dst 2 w g (1 :: List.replicate j 0) := by
  rcases h.2 with ⟨_, h0⟩ | ⟨g, cap, cur, rfl, hg, hh, h1, h2, h3, h4⟩
  · omega
  · refine ⟨g, cap, rfl, hg, cur, hh, fun i x hi => ?_⟩
    have e : (rowV j)[i]? = some (Value.int .i64 x) := by unfold rowV; rw [List.getElem?_map, hi]; rfl
    rw [← h4, List.getElem?_take] at e
    split at e
    · rw [← Array.getElem?_toList]; exact e
    · cases e
theorem isj_call (o : Int) (r : Bool) (h : decide (o = 5 ∨ o = 6) = r) (w : World) : Calls Try.prog 85 #[.int .i64 o] w fun e w' => e = .returned (.bool r) ∧ Below w.heap.size w w' := by
  refine (spec_l6IsJump.calls o r w ?_).mono fun e w' h => ⟨h.1, h.2.below⟩
  rw [← h]; unfold spec_l6IsJump.f
  by_cases h5 : o = 5
  · simp [h5]
  · by_cases h6 : o = 6 <;> simp [h5, h6]
set_option maxHeartbeats 8000000 in
set_option maxRecDepth 100000 in
theorem block_spec_call (A : Option Addr) (c : Nat) (xs : List S138) (cn cd : Int) (w : World) (hr : Kd.C k138 w A xs.length xs) (hc : xs.length ≤ c) :
    Calls Try.prog 46 #[.agg #[.slice A xs.length c, .int .i64 cn], .int .i64 cd] w fun e w' => e = .returned (.bool (blkOk xs cn cd)) ∧ Below w.heap.size w w' := by
  have kr : K0 (Below w.heap.size w w) := ⟨Below.refl _ _⟩
  have HR := Aside0.mk hr
  have HC := Aside0.mk hc
  obtain ⟨i0, hi, hz0, hz1, hz2⟩ := info_parts info2_is
  have HI := Aside0.mk hi
  have HZ := Aside0.mk (And.intro hz0 (And.intro hz1 hz2))
  clear hr hc hi hz0 hz1 hz2
  obtain ⟨r, hR⟩ : ∃ r, blkOk xs cn cd = r := ⟨_, rfl⟩
  rw [hR]
  unfold blkOk at hR
  by_cases hbad : (xs.length : Int) < 1 ∨ (xs.length : Int) > 4000 ∨ cn < 0 ∨ cn > 200
  · rw [if_pos hbad] at hR
    subst hR
    go_enter Try.func46, Try.ntmps46
    go_upto_region 4 with (fail)
    all_goals first | (go_ret; exact ⟨rfl, kk⟩) | skip
    done
  rw [if_neg hbad] at hR
  have HGO := Aside0.mk hR
  have g1 : ¬ (xs.length : Int) < 1 := fun h => hbad (.inl h)
  have g2 : ¬ (xs.length : Int) > 4000 := fun h => hbad (.inr (.inl h))
  have g3 : ¬ cn < 0 := fun h => hbad (.inr (.inr (.inl h)))
  have g4 : ¬ cn > 200 := fun h => hbad (.inr (.inr (.inr h)))
  clear hbad hR
  have e1 : decide ((xs.length : Int) < 1) = false := decide_eq_false g1
  have e2 : decide ((4000 : Int) < (xs.length : Int)) = false := decide_eq_false g2
  have e3 : decide (cn < 0) = false := decide_eq_false g3
  have e4 : decide (200 < cn) = false := decide_eq_false g4
  go_enter Try.func46, Try.ntmps46
  go_upto_region 5 with (fail)
  have hB : Below w.heap.size w (w.alloc (.cells #[.slice A xs.length c, .int .i64 cn] 56)) := kk
  have hx0 := cell_of_row _ w.heap.size 0 _ 56 _ (heap_alloc_new w (.cells #[.slice A xs.length c, .int .i64 cn] 56))
  have hx1 := cell_of_row _ w.heap.size 1 _ 56 _ (heap_alloc_new w (.cells #[.slice A xs.length c, .int .i64 cn] 56))
  have hx0 : (w.alloc (.cells #[.slice A xs.length c, .int .i64 cn] 56)).cell? ⟨w.heap.size, 0, none⟩ = some (.slice A xs.length c) := hx0
  have hx1 : (w.alloc (.cells #[.slice A xs.length c, .int .i64 cn] 56)).cell? ⟨w.heap.size, 1, none⟩ = some (.int .i64 cn) := hx1
  have hsz := sz_al w (.cells #[.slice A xs.length c, .int .i64 cn] 56)
  generalize w.alloc (.cells #[.slice A xs.length c, .int .i64 cn] 56) = wb at *
  rw [← hsz]
  have HB := Aside0.mk hB
  have HX := Aside0.mk (And.intro hx0 hx1)
  have HS := Aside0.mk hsz
  have hown : (wb.alloc (.cells #[.int .i64 1] 2)).ownsRow wb.heap.size 2 1 (.slice (some ⟨wb.heap.size, 0, none⟩) 1 1) (0 + 1) (rowV 0) :=
    ⟨rfl, .inr ⟨wb.heap.size, 1, _, rfl, Nat.le_refl _, heap_alloc_new _ _, Nat.le_refl _, by decide, rfl, rfl⟩⟩
  have hB1 : Below wb.heap.size wb (wb.alloc (.cells #[.int .i64 1] 2)) := Below.alloc (Below.refl _ _) (Nat.le_refl _) _
  clear hB hx0 hx1 hsz kr
  go_wp2_with fail
  go_loopw [6, 7] (fun v6 v7 W => ∃ j : Nat, j ≤ xs.length ∧ v7 = .int .i64 j ∧ Aside0 (W.ownsRow wb.heap.size 2 1 v6 (j + 1) (rowV j)) ∧ Aside0 (Below wb.heap.size wb W)) (fun _ v7 _ => xs.length - (intOf v7).toNat)
  case atStart => exact ⟨0, by omega, rfl, ⟨hown⟩, ⟨hB1⟩⟩
  case round =>
    clear hown hB1
    obtain ⟨j, hj, rfl, HO, HW⟩ := hrel
    by_cases hlt : j < xs.length
    · have dl : decide ((j : Int) < (xs.length : Int)) = true := decide_eq_true (by omega)
      have hc1 : ∀ i u, ([.int .i64 0] : List Value)[i]? = some u → (wr.alloc (.cells #[.int .i64 0] 2)).cell? ((⟨wr.heap.size, 0, none⟩ : Addr).add i) = some u := by
        intro i u hi
        rcases i with _ | i
        · cases hi
          exact cell_of_row _ wr.heap.size 0 _ 2 _ (heap_alloc_new _ _)
        · simp at hi
      have HC1 := Aside0.mk hc1
      have HC2 := Aside0.mk (show ∀ u ∈ ([.int .i64 0] : List Value), u.oneCell' = true from by simp [Value.oneCell'])
      have HC3 := Aside0.mk (show j + 1 + 1 ≤ maxLen from by simp only [maxLen]; omega)
      have HC4 := Aside0.mk (show (j + 1 + 1) * 8 ≤ 140737488355328 from by omega)
      have HC5 := Aside0.mk (show wb.heap.size ≤ (wr.alloc (.cells #[.int .i64 0] 2)).heap.size from by rw [sz_al]; have := HW.out.size; omega)
      clear hc1
      have hw1 : IntKind.i64.wrap ((j : Int) + 1) = ((j + 1 : Nat) : Int) := by rw [IntKind.wrap_i64]; omega
      go_wp2_with (at_builtin; refine wpList_append_at rfl (.tmp 37) (.tmp 38) 136 rfl wb.heap.size 2 i0 (.int .i64 0) 1 8 Try.underlying136 HI.out HZ.out.1 HZ.out.2.1 HZ.out.2.2 rfl (by decide) _ (j + 1) (rowV j) rfl (HO.out.alloc _) ⟨wr.heap.size, 0, none⟩ 1 1 [.int .i64 0] rfl rfl HC1.out HC2.out HC3.out HC4.out HC5.out ?_; intro v2 w2 hown hgr hloc; have HG := Aside0.mk (And.intro hown (And.intro hgr hloc)); clear hown hgr hloc)
      go_roundw
      case measure => simp only [intOf]; omega
      case rel =>
        obtain ⟨h1, h2, h3⟩ := HG.out
        rw [rowV_step] at h1
        exact ⟨j + 1, by omega, by rw [Int.natCast_add]; rfl, ⟨h1⟩, ⟨grown_below HW.out h2 (fun k hk => (HO.out.lt k hk).1)⟩⟩
    · obtain rfl : j = xs.length := by omega
      obtain ⟨wc, hwc⟩ : ∃ wc, wc = wr := ⟨_, rfl⟩
      subst hwc
      obtain ⟨g, cc, rfl, hg, hd⟩ := own_dst HO.out
      have HD := Aside0.mk hd
      have hb0 := HX.out.1
      have hb1 := HX.out.2
      have hb0 := clk hb0
      have hb1 := clk hb1
      clear hd HO hx0 hx1 HI HZ
      go_wp2_with fail
      go_loopw [8] (fun v8 W => ∃ (j : Nat) (ds : List Int), j ≤ xs.length ∧ v8 = .int .i64 j ∧ Aside0 (DsOk xs.length ds) ∧ Aside0 (blkGo xs.length cn cd j (xs.drop j) ds = r) ∧ Aside0 (Dst 2 W g ds) ∧ Aside0 (Below wb.heap.size wb W)) (fun v8 _ => xs.length - (intOf v8).toNat)
      case atStart => exact ⟨0, _, by omega, rfl, ⟨DsOk.start _⟩, HGO, HD, HW⟩
      case round =>
        clear HGO HD HW
        obtain ⟨j, ds, hj, rfl, HK, HGO, HD, HW⟩ := hrel
        have kW : K0 (Below wb.heap.size wb wr) := ⟨HW.out⟩
        have kV : K0 (Below w.heap.size w wr) := ⟨HB.out.trans (HW.out.mono (by rw [HS.out]; omega))⟩
        by_cases hlt : j < xs.length
        · have hlt2 : j < xs.length + 1 := by omega
          obtain ⟨ad, e0, hx⟩ := at_T138 HR.out (j : Int) (by omega) (by omega)
          subst e0
          rw [Int.toNat_natCast] at hx
          obtain ⟨x, hX⟩ : ∃ x, rd_T138 xs (j : Int) = x := ⟨_, rfl⟩
          have hgo := HGO.out
          rw [List.drop_eq_getElem_cons hlt, show xs[j] = x from by rw [← hX]; unfold rd_T138; rw [Int.toNat_natCast]; simp [hlt]] at hgo
          rw [hX] at hx
          obtain ⟨y0, y1, y2, y3, y4, y5, y6, y7, y8, y9, y10⟩ := hx
          have y0 := clk y0
          have y1 := clk y1
          have y2 := clk y2
          have y3 := clk y3
          have y4 := clk y4
          have y5 := clk y5
          have y6 := clk y6
          have y7 := clk y7
          have y8 := clk y8
          have y9 := clk y9
          have y10 := clk y10
          obtain ⟨d, hd, hdd, hd0, hd1⟩ := HK.out.get hj
          have hdw := HD.out
          have HGD := Aside0.mk hdw.lt
          have c0 : (wr.alloc (.cells #[.int .i64 x.f0, .int .i64 x.f1, .int .i64 x.f2, .bool x.f3, .int .i64 x.f4.f0, .string x.f4.f1, .bool x.f4.f2, .string x.f4.f3, .int .u64 x.f4.f4, .int .u64 x.f4.f5, .int .i64 x.f4.f6] 138)).cell? ⟨g, j, none⟩ = some (.int .i64 d) := (hdw.of (heap_alloc_old _ _ hdw.lt)).cell hd
          go_wp2_with fail
          clear c0 y0 y1 y2 y3 y4 y5 y6 y7 y8 y9 y10 hb0 hb1
          have hwt : Below wb.heap.size wb (wr.alloc (.cells #[.int .i64 x.f0, .int .i64 x.f1, .int .i64 x.f2, .bool x.f3, .int .i64 x.f4.f0, .string x.f4.f1, .bool x.f4.f2, .string x.f4.f3, .int .u64 x.f4.f4, .int .u64 x.f4.f5, .int .i64 x.f4.f6] 138)) := kk
          have hh := heap_alloc_new wr (.cells #[.int .i64 x.f0, .int .i64 x.f1, .int .i64 x.f2, .bool x.f3, .int .i64 x.f4.f0, .string x.f4.f1, .bool x.f4.f2, .string x.f4.f3, .int .u64 x.f4.f4, .int .u64 x.f4.f5, .int .i64 x.f4.f6] 138)
          have hdt := hdw.of (heap_alloc_old wr (.cells #[.int .i64 x.f0, .int .i64 x.f1, .int .i64 x.f2, .bool x.f3, .int .i64 x.f4.f0, .string x.f4.f1, .bool x.f4.f2, .string x.f4.f3, .int .u64 x.f4.f4, .int .u64 x.f4.f5, .int .i64 x.f4.f6] 138) hdw.lt)
          generalize wr.alloc (.cells #[.int .i64 x.f0, .int .i64 x.f1, .int .i64 x.f2, .bool x.f3, .int .i64 x.f4.f0, .string x.f4.f1, .bool x.f4.f2, .string x.f4.f3, .int .u64 x.f4.f4, .int .u64 x.f4.f5, .int .i64 x.f4.f6] 138) = wt at *
          have hne : wr.heap.size ≠ g := by have := HGD.out; omega
          have z0 : wt.cell? ⟨wr.heap.size, 0, none⟩ = some (.int .i64 x.f0) := (blk_cell hh 0).trans rfl
          have z2 : wt.cell? ⟨wr.heap.size, 2, none⟩ = some (.int .i64 x.f2) := (blk_cell hh 2).trans rfl
          have z0 := clkx z0 hne
          have z2 := clkx z2 hne
          have HWT := Aside0.mk hwt
          have HDT := Aside0.mk hdt
          have tr : ∀ W [K0 (Bx wt.heap.size g wt W)], K0 (Below wb.heap.size wb W) := fun W k => ⟨HWT.out.trans (k.out.below HWT.out.size hg)⟩
          have tr2 : ∀ W [K0 (Below wb.heap.size wb W)], K0 (Below w.heap.size w W) := fun W k => ⟨HB.out.trans (k.out.mono (by rw [HS.out]; omega))⟩
          clear hdw hdt hwt kW kV hh HW HD
          refine (ins_spec_call x _ _ _ _ wt).mono ?_
          rintro e W2 ⟨rfl, hb⟩
          have k2 : K0 (Bx wt.heap.size g wt W2) := ⟨.of hb⟩
          have HD2 := Aside0.mk (HDT.out.of (hb.block g HDT.out.lt))
          clear hb HDT
          simp only [blkGo, hdd] at hgo
          have J1 := Aside0.mk (fun h => insOk_jump (x := x) (k := j) (n := xs.length) (cn := cn) (cd := cd) h)
          have J2 := Aside0.mk (fun h => insOk_still (x := x) (k := j) (n := xs.length) (cn := cn) (cd := cd) h)
          have J3 := Aside0.mk (fun h => insOk_op (x := x) (k := j) (n := xs.length) (cn := cn) (cd := cd) h)
          generalize insOk x j xs.length cn cd = z at *
          generalize x.f0 = o at *
          generalize x.f2 = b at *
          cases z
          · obtain rfl : r = false := by rw [← hgo]; simp [blkStep]
            go_wp2
            go_ret
            exact ⟨rfl, kk⟩
          replace J1 := J1.out rfl
          replace J2 := J2.out rfl
          replace J3 := J3.out rfl
          by_cases hd00 : d = 0
          · obtain rfl : r = false := by rw [← hgo]; simp [blkStep, hd00]
            go_wp2
            go_ret
            exact ⟨rfl, kk⟩
          have t0 : (d == 0) = false := beq_eq_false_iff_ne.mpr hd00
          by_cases hsw : (o = 3 ∨ o = 4) ∧ d < 2
          · obtain rfl : r = false := by rw [← hgo]; simp [blkStep, hsw]
            obtain ⟨hsw, hlt3⟩ := hsw
            rcases hsw with rfl | rfl <;> (go_wp2; go_ret; exact ⟨rfl, kk⟩)
          have hsw2 : (o = 3 ∨ o = 4) → 2 ≤ d := fun h => by by_cases hd2 : d < 2 <;> omega
          obtain ⟨a, ha⟩ : ∃ a, aft o d = a := ⟨_, rfl⟩
          have ha1 : 1 ≤ a := by rw [← ha]; unfold aft; split <;> (try split) <;> omega
          have hT : ∀ p q : Bool, blkStep true o b d j ds = ((decide (o = 6) || ntB ds (j + 1) a) && (decide (¬ (o = 5 ∨ o = 6)) || ntB (ds1 o d j ds) b.toNat a)) := fun _ _ => by
            unfold blkStep
            rw [ha, decide_eq_true hd00, Bool.true_and, Bool.true_and]
            have : (decide (o = 3 ∨ o = 4) && decide (d < 2)) = false := by rw [← Bool.decide_and]; exact decide_eq_false hsw
            rw [this]; simp
          have h2 : ds2 o b d j ds = if o = 5 ∨ o = 6 then ntL (ds1 o d j ds) b.toNat a else ds1 o d j ds := by unfold ds2; rw [ha]
          have h1 : ds1 o d j ds = if o = 6 then ds else ntL ds (j + 1) a := by unfold ds1; rw [ha]
          rw [hT true true, h2, h1] at hgo
          have HGO2 := Aside0.mk hgo
          have HSW := Aside0.mk hsw2
          have HA := Aside0.mk ha
          clear hgo hT h1 h2 hsw hsw2 ha HGO
          have hcl : (o == 3 || o == 4) = true → (d < 2) = False := fun h => by
            have h := HSW.out (by simpa using h)
            exact eq_false (by omega)
          go_upto_region 21 with (fail)
          all_goals (
            have ha := HA.out
            unfold aft at ha
            have e0 : (d = a ∧ o ≠ 2 ∧ o ≠ 4) ∨ (d + 1 = a ∧ o = 2) ∨ (d - 1 = a ∧ o = 4) := by
              by_cases q2 : o = 2
              · rw [if_pos q2] at ha; exact .inr (.inl ⟨ha, q2⟩)
              · rw [if_neg q2] at ha
                by_cases q4 : o = 4
                · rw [if_pos q4] at ha; exact .inr (.inr ⟨ha, q4⟩)
                · rw [if_neg q4] at ha; exact .inl ⟨ha, q2, q4⟩
            clear ha
            rcases e0 with ⟨e0, q⟩ | ⟨e0, q⟩ | ⟨e0, q⟩
            case' inl => obtain ⟨q2, q4⟩ := q
            all_goals first | (exfalso; simp_all (config := { failIfUnchanged := false }); done) | skip)
          all_goals first | rw [e0] | skip
          all_goals (
            clear e0
            by_cases ho6 : o = 6
            case' pos => first | (exfalso; omega) | (
              have hk : DsOk xs.length (if o = 6 then ds else ntL ds (j + 1) a) := by rw [if_pos ho6]; exact HK.out
              have hdd : Dst 2 W2 g (if o = 6 then ds else ntL ds (j + 1) a) := by rw [if_pos ho6]; exact HD2.out
              have hgo := HGO2.out
              rw [decide_eq_true ho6, Bool.true_or, Bool.true_and] at hgo
              obtain ⟨W3, hW3⟩ : ∃ W3, W3 = W2 := ⟨_, rfl⟩
              subst hW3
              have k3 := k2
              go_wp2_with fail)
            case' neg =>
              obtain ⟨v, hv, -⟩ := HK.out.get (k := j + 1) (by omega)
              have d6 : (o != 6) = true := by simpa using ho6
              go_wp2_with fail
              rw [show ((j : Int) + 1) = ((j + 1 : Nat) : Int) from rfl]
              refine (note_call g (xs.length + 1) cc (j + 1) a v ds _ HD2.out (by omega) hv ha1).mono ?_
              rintro e W3 ⟨rfl, hdd, hb3⟩
              have k3 : K0 (Bx wt.heap.size g wt W3) := ⟨k2.out.trans (hb3.lower k2.out.size)⟩
              have hgo := HGO2.out
              rw [decide_eq_false ho6, Bool.false_or] at hgo
              cases hnt : ntB ds (j + 1) a
              case' false =>
                obtain rfl : r = false := by rw [← hgo, hnt]; simp
                go_wp2
                go_ret
                exact ⟨rfl, kk⟩
              have hk : DsOk xs.length (if o = 6 then ds else ntL ds (j + 1) a) := by rw [if_neg ho6]; exact ntL_ok HK.out ha1 hnt
              rw [hnt, Bool.true_and] at hgo
              have hdd : Dst 2 W3 g (if o = 6 then ds else ntL ds (j + 1) a) := by rw [if_neg ho6]; exact hdd
              clear hb3
              go_wp2_with fail
            all_goals (
              generalize (if o = 6 then ds else ntL ds (j + 1) a) = e at *
              have HH := Aside0.mk hgo
              have HE := Aside0.mk hk
              have hw1 : IntKind.i64.wrap ((j : Int) + 1) = ((j + 1 : Nat) : Int) := by rw [IntKind.wrap_i64]; omega
              by_cases hj5 : o = 5 ∨ o = 6
              case' pos => first | (exfalso; omega) | (
                obtain ⟨b0, b1⟩ := J1 hj5
                obtain ⟨m, rfl⟩ : ∃ m : Nat, b = m := ⟨b.toNat, by omega⟩
                refine (isj_call _ true (by first | exact decide_eq_true hj5 | decide) W3).mono ?_
                rintro e' W4 ⟨rfl, hb4⟩
                have hdd := hdd.of (hb4.block g hdd.lt)
                have k4 : K0 (Bx wt.heap.size g wt W4) := ⟨k3.out.trans ((Bx.of hb4).lower k3.out.size)⟩
                obtain ⟨v2, hv2, -⟩ := HE.out.get (k := m) (by omega)
                clear hb4 hgo hk k3
                go_wp2_with fail
                refine (note_call g (xs.length + 1) cc m a v2 e _ hdd (by omega) hv2 ha1).mono ?_
                rintro e' W5 ⟨rfl, hd5, hb5⟩
                have k5 : K0 (Bx wt.heap.size g wt W5) := ⟨k4.out.trans (hb5.lower k4.out.size)⟩
                have hgo := HH.out
                rw [Int.toNat_natCast, if_pos hj5, decide_eq_false (not_not_intro hj5), Bool.false_or] at hgo
                cases hnt : ntB e m a
                case' false =>
                  obtain rfl : r = false := by rw [← hgo, hnt]; simp
                  go_wp2
                  go_ret
                  exact ⟨rfl, kk⟩
                rw [hnt, if_pos rfl] at hgo
                have hk2 := ntL_ok HE.out ha1 hnt
                clear hb5 k4
                go_wp2_with fail
                go_roundw
                case' measure => simp only [intOf]; omega
                case' rel => exact ⟨j + 1, _, by omega, by rw [Int.natCast_add]; rfl, ⟨hk2⟩, ⟨hgo⟩, ⟨hd5⟩, ⟨kk⟩⟩)
              case' neg => first | (exfalso; omega) | (
                refine (isj_call _ false (by first | exact decide_eq_false hj5 | decide) W3).mono ?_
                rintro e' W4 ⟨rfl, hb4⟩
                have hdd := hdd.of (hb4.block g hdd.lt)
                have k4 : K0 (Bx wt.heap.size g wt W4) := ⟨k3.out.trans ((Bx.of hb4).lower k3.out.size)⟩
                rw [if_neg hj5, decide_eq_true hj5, Bool.true_or, if_pos rfl] at hgo
                clear hb4 k3
                go_wp2_with fail
                go_roundw
                case' measure => simp only [intOf]; omega
                case' rel => exact ⟨j + 1, _, by omega, by rw [Int.natCast_add]; rfl, ⟨hk⟩, ⟨hgo⟩, ⟨hdd⟩, ⟨kk⟩⟩)))
        · obtain rfl : j = xs.length := by omega
          obtain ⟨v, hv, -⟩ := HK.out.get (k := xs.length) (Nat.le_refl _)
          have c0 := HD.out.cell hv
          have hgo := HGO.out
          rw [List.drop_length] at hgo
          simp only [blkGo, hv] at hgo
          have hl2 : xs.length < xs.length + 1 := by omega
          have tr2 : ∀ W [K0 (Below wb.heap.size wb W)], K0 (Below w.heap.size w W) := fun W k => ⟨HB.out.trans (k.out.mono (by rw [HS.out]; omega))⟩
          go_wp2_with fail
          go_ret
          refine ⟨?_, kk⟩
          rw [← hgo]
          by_cases h1 : v = 1 <;> simp [h1]
end Go.Proofs.Ytcfbbbilonignaa.Q

namespace Go.Proofs.Ytcfbbbilonignaa.Q
open Go.RowKit Go.Proofs.YtcfbbbilonignaaW.PrintWords Go.Proofs.YtcfbbbilonignaaW.PrintLast Go.Proofs.YtcfbbbilonignaaW.PrintMore
set_option linter.unusedVariables false
set_option linter.unusedSimpArgs false
theorem info3_is : (Try.prog.info? 3).map (fun i => (i.zero, i.size, i.bytes)) = some (some (.int .i64 0), 1, 8) := by kernel_rfl
theorem make_ints (n : Nat) (h : n ≤ 4000) (w : World) :
    (Instr.makeSlice 142 (.int .i64 ((n : Int) + 1)) (.int .i64 ((n : Int) + 1))).run Try.prog w = .ok (.slice (some ⟨w.heap.size, 0, none⟩) (n + 1) (n + 1)) (w.alloc (.cells (madeCells #[.int .i64 0] (n + 1)) 3)) :=
  run_make_row' 142 3 (.int .i64 0) 8 Try.underlying142 info3_is rfl .i64 .i64 (n + 1) (by omega) (by omega) w
set_option maxHeartbeats 8000000 in
set_option maxRecDepth 100000 in
theorem block_impl_call (A : Option Addr) (c : Nat) (xs : List S138) (cn cd : Int) (w : World) (hr : Kd.C k138 w A xs.length xs) (hc : xs.length ≤ c) :
    Calls Try.prog 49 #[.agg #[.slice A xs.length c, .int .i64 cn], .int .i64 cd] w fun e w' => e = .returned (.bool (blkOk xs cn cd)) ∧ Below w.heap.size w w' := by
  have kr : K0 (Below w.heap.size w w) := ⟨Below.refl _ _⟩
  have HR := Aside0.mk hr
  have HC := Aside0.mk hc
  clear hr hc
  obtain ⟨r, hR⟩ : ∃ r, blkOk xs cn cd = r := ⟨_, rfl⟩
  rw [hR]
  unfold blkOk at hR
  by_cases hbad : (xs.length : Int) < 1 ∨ (xs.length : Int) > 4000 ∨ cn < 0 ∨ cn > 200
  · rw [if_pos hbad] at hR
    subst hR
    go_enter Try.func49, Try.ntmps49
    go_upto_region 4 with (fail)
    all_goals first | (go_ret; exact ⟨rfl, kk⟩) | skip
    done
  rw [if_neg hbad] at hR
  have HGO := Aside0.mk hR
  have g1 : ¬ (xs.length : Int) < 1 := fun h => hbad (.inl h)
  have g2 : ¬ (xs.length : Int) > 4000 := fun h => hbad (.inr (.inl h))
  have g3 : ¬ cn < 0 := fun h => hbad (.inr (.inr (.inl h)))
  have g4 : ¬ cn > 200 := fun h => hbad (.inr (.inr (.inr h)))
  clear hbad hR
  have e1 : decide ((xs.length : Int) < 1) = false := decide_eq_false g1
  have e2 : decide ((4000 : Int) < (xs.length : Int)) = false := decide_eq_false g2
  have e3 : decide (cn < 0) = false := decide_eq_false g3
  have e4 : decide (200 < cn) = false := decide_eq_false g4
  have hw1 : IntKind.i64.wrap ((xs.length : Int) + 1) = ((xs.length + 1 : Nat) : Int) := by rw [IntKind.wrap_i64]; omega
  go_enter Try.func49, Try.ntmps49
  have hM := make_ints xs.length (by omega)
  go_upto_region 5 with (fail)
  clear hM hw1
  have hB : Below w.heap.size w (w.alloc (.cells #[.slice A xs.length c, .int .i64 cn] 56)) := kk
  have hx0 : (w.alloc (.cells #[.slice A xs.length c, .int .i64 cn] 56)).cell? ⟨w.heap.size, 0, none⟩ = some (.slice A xs.length c) := cell_of_row _ w.heap.size 0 _ 56 _ (heap_alloc_new w (.cells #[.slice A xs.length c, .int .i64 cn] 56))
  have hx1 : (w.alloc (.cells #[.slice A xs.length c, .int .i64 cn] 56)).cell? ⟨w.heap.size, 1, none⟩ = some (.int .i64 cn) := cell_of_row _ w.heap.size 1 _ 56 _ (heap_alloc_new w (.cells #[.slice A xs.length c, .int .i64 cn] 56))
  have hsz := sz_al w (.cells #[.slice A xs.length c, .int .i64 cn] 56)
  generalize w.alloc (.cells #[.slice A xs.length c, .int .i64 cn] 56) = wb at *
  rw [← hsz]
  obtain ⟨g, hg⟩ : ∃ g, wb.heap.size = g := ⟨_, rfl⟩
  have hd : Dst 3 (wb.alloc (.cells (madeCells #[.int .i64 0] (xs.length + 1)) 3)) g (List.replicate (xs.length + 1) 0) := by
    subst hg
    refine ⟨_, heap_alloc_new _ _, fun i x hi => ?_⟩
    rw [← Array.getElem?_toList, toList_madeCells_one, List.getElem?_replicate]
    rw [List.getElem?_replicate] at hi
    split at hi
    · rename_i h; cases hi; rw [if_pos h]
    · cases hi
  have hB1 : Below wb.heap.size wb (wb.alloc (.cells (madeCells #[.int .i64 0] (xs.length + 1)) 3)) := Below.alloc (Below.refl _ _) (Nat.le_refl _) _
  have hsz1 := sz_al wb (.cells (madeCells #[.int .i64 0] (xs.length + 1)) 3)
  generalize wb.alloc (.cells (madeCells #[.int .i64 0] (xs.length + 1)) 3) = w1 at *
  rw [← hsz1, hg]
  have hq : (w1.alloc (.cells #[.slice (some ⟨g, 0, none⟩) (xs.length + 1) (xs.length + 1)] 142)).cell? ⟨w1.heap.size, 0, none⟩ = some (.slice (some ⟨g, 0, none⟩) (xs.length + 1) (xs.length + 1)) := cell_of_row _ w1.heap.size 0 _ 142 _ (heap_alloc_new w1 _)
  have hd2 := hd.of (heap_alloc_old w1 (.cells #[.slice (some ⟨g, 0, none⟩) (xs.length + 1) (xs.length + 1)] 142) hd.lt)
  have hB2 : Below wb.heap.size wb (w1.alloc (.cells #[.slice (some ⟨g, 0, none⟩) (xs.length + 1) (xs.length + 1)] 142)) := Below.alloc hB1 (by omega) _
  generalize w1.alloc (.cells #[.slice (some ⟨g, 0, none⟩) (xs.length + 1) (xs.length + 1)] 142) = w2 at *
  have hqg : w1.heap.size ≠ g := by omega
  have kr : K0 (Bx w2.heap.size g w2 w2) := ⟨Bx.refl _ _ _⟩
  have tr0 : ∀ W [K0 (Bx w2.heap.size g w2 W)], K0 (Below wb.heap.size wb W) := fun W k => ⟨hB2.trans (k.out.below hB2.size (by omega))⟩
  have tr1 : ∀ W [K0 (Below wb.heap.size wb W)], K0 (Below w.heap.size w W) := fun W k => ⟨hB.trans (k.out.mono (by omega))⟩
  have y0 := clk hx0
  have y1 := clk hx1
  have yq := clkx hq hqg
  have f0 := hd2.frozen 0
  have c0 := hd2.cell (j := 0) (x := 0) rfl
  have hl0 : 0 < xs.length + 1 := by omega
  have HD := Aside0.mk (show Dst 3 (w2.setCell ⟨g, 0, none⟩ (.int .i64 1)) g (1 :: List.replicate xs.length 0) from hd2.put 0 1)
  have HX := Aside0.mk hd2.lt
  clear hB1 hsz1 hd hd2 hx0 hx1 hq HC
  go_wp2_with fail
  go_loopw [39] (fun v8 W => ∃ (j : Nat) (ds : List Int), j ≤ xs.length ∧ v8 = .int .i64 j ∧ Aside0 (DsOk xs.length ds) ∧ Aside0 (blkGo xs.length cn cd j (xs.drop j) ds = r) ∧ Aside0 (Dst 3 W g ds) ∧ Aside0 (Bx w2.heap.size g w2 W)) (fun v8 _ => xs.length - (intOf v8).toNat)
  case atStart => exact ⟨0, _, by omega, rfl, ⟨DsOk.start _⟩, HGO, HD, ⟨kk⟩⟩
  case round =>
    clear HGO HD kr f0 c0
    obtain ⟨j, ds, hj, rfl, HK, HGO, HD, HW⟩ := hrel
    have kW : K0 (Bx w2.heap.size g w2 wr) := ⟨HW.out⟩
    have k0 : K0 (Below w.heap.size w wr) := ⟨kk⟩
    by_cases hlt : j < xs.length
    · have hlt2 : j < xs.length + 1 := by omega
      obtain ⟨ad, e0, hx⟩ := at_T138 HR.out (j : Int) (by omega) (by omega)
      subst e0
      rw [Int.toNat_natCast] at hx
      obtain ⟨x, hX⟩ : ∃ x, rd_T138 xs (j : Int) = x := ⟨_, rfl⟩
      have hgo := HGO.out
      rw [List.drop_eq_getElem_cons hlt, show xs[j] = x from by rw [← hX]; unfold rd_T138; rw [Int.toNat_natCast]; simp [hlt]] at hgo
      rw [hX] at hx
      obtain ⟨x0, x1, x2, x3, x4, x5, x6, x7, x8, x9, x10⟩ := hx
      have x0 := clk x0
      have x1 := clk x1
      have x2 := clk x2
      have x3 := clk x3
      have x4 := clk x4
      have x5 := clk x5
      have x6 := clk x6
      have x7 := clk x7
      have x8 := clk x8
      have x9 := clk x9
      have x10 := clk x10
      obtain ⟨d, hd, hdd, hd0, hd1⟩ := HK.out.get hj
      go_upto_region 10 with (fail)
      have hwt : Bx w2.heap.size g w2 (wr.alloc (.cells #[.int .i64 x.f0, .int .i64 x.f1, .int .i64 x.f2, .bool x.f3, .int .i64 x.f4.f0, .string x.f4.f1, .bool x.f4.f2, .string x.f4.f3, .int .u64 x.f4.f4, .int .u64 x.f4.f5, .int .i64 x.f4.f6] 138)) := kk
      have hh := heap_alloc_new wr (.cells #[.int .i64 x.f0, .int .i64 x.f1, .int .i64 x.f2, .bool x.f3, .int .i64 x.f4.f0, .string x.f4.f1, .bool x.f4.f2, .string x.f4.f3, .int .u64 x.f4.f4, .int .u64 x.f4.f5, .int .i64 x.f4.f6] 138)
      have hdt := HD.out.of (heap_alloc_old wr (.cells #[.int .i64 x.f0, .int .i64 x.f1, .int .i64 x.f2, .bool x.f3, .int .i64 x.f4.f0, .string x.f4.f1, .bool x.f4.f2, .string x.f4.f3, .int .u64 x.f4.f4, .int .u64 x.f4.f5, .int .i64 x.f4.f6] 138) HD.out.lt)
      generalize wr.alloc (.cells #[.int .i64 x.f0, .int .i64 x.f1, .int .i64 x.f2, .bool x.f3, .int .i64 x.f4.f0, .string x.f4.f1, .bool x.f4.f2, .string x.f4.f3, .int .u64 x.f4.f4, .int .u64 x.f4.f5, .int .i64 x.f4.f6] 138) = wt at *
      have hne : wr.heap.size ≠ g := by have := HD.out.lt; omega
      have z0 : wt.cell? ⟨wr.heap.size, 0, none⟩ = some (.int .i64 x.f0) := (blk_cell hh 0).trans rfl
      have z1 : wt.cell? ⟨wr.heap.size, 1, none⟩ = some (.int .i64 x.f1) := (blk_cell hh 1).trans rfl
      have z2 : wt.cell? ⟨wr.heap.size, 2, none⟩ = some (.int .i64 x.f2) := (blk_cell hh 2).trans rfl
      have z3 : wt.cell? ⟨wr.heap.size, 3, none⟩ = some (.bool x.f3) := (blk_cell hh 3).trans rfl
      have z4 : wt.cell? ⟨wr.heap.size, 4, none⟩ = some (.int .i64 x.f4.f0) := (blk_cell hh 4).trans rfl
      have z5 : wt.cell? ⟨wr.heap.size, 5, none⟩ = some (.string x.f4.f1) := (blk_cell hh 5).trans rfl
      have z6 : wt.cell? ⟨wr.heap.size, 6, none⟩ = some (.bool x.f4.f2) := (blk_cell hh 6).trans rfl
      have z7 : wt.cell? ⟨wr.heap.size, 7, none⟩ = some (.string x.f4.f3) := (blk_cell hh 7).trans rfl
      have z8 : wt.cell? ⟨wr.heap.size, 8, none⟩ = some (.int .u64 x.f4.f4) := (blk_cell hh 8).trans rfl
      have z9 : wt.cell? ⟨wr.heap.size, 9, none⟩ = some (.int .u64 x.f4.f5) := (blk_cell hh 9).trans rfl
      have z10 : wt.cell? ⟨wr.heap.size, 10, none⟩ = some (.int .i64 x.f4.f6) := (blk_cell hh 10).trans rfl
      have c0 := hdt.cell hd
      have z0' := clkx z0 hne
      have z2' := clkx z2 hne
      have HWT := Aside0.mk hwt
      have HDT := Aside0.mk hdt
      have tr : ∀ W [K0 (Bx wt.heap.size g wt W)], K0 (Bx w2.heap.size g w2 W) := fun W k => ⟨HWT.out.trans (k.out.lower HWT.out.size)⟩
      have kt : K0 (Bx wt.heap.size g wt wt) := ⟨Bx.refl _ _ _⟩
      clear x0 x1 x2 x3 x4 x5 x6 x7 x8 x9 x10 kW k0 HW HD hwt hdt hh
      simp only [blkGo, hdd] at hgo
      by_cases hd00 : d = 0
      · obtain rfl : r = false := by rw [← hgo]; simp [blkStep, hd00]
        subst hd00
        go_wp2
        go_ret
        exact ⟨rfl, kk⟩
      have t0 : (d == 0) = false := beq_eq_false_iff_ne.mpr hd00
      go_wp2_with fail
      refine (ins_impl_call x _ _ _ _ _).mono ?_
      rintro e W2 ⟨rfl, hb⟩
      have k2 : K0 (Bx wt.heap.size g wt W2) := ⟨.of hb⟩
      have HD2 := Aside0.mk (HDT.out.of (hb.block g HDT.out.lt))
      have J1 := Aside0.mk (fun h => insOk_jump (x := x) (k := j) (n := xs.length) (cn := cn) (cd := cd) h)
      have J2 := Aside0.mk (fun h => insOk_still (x := x) (k := j) (n := xs.length) (cn := cn) (cd := cd) h)
      have J3 := Aside0.mk (fun h => insOk_op (x := x) (k := j) (n := xs.length) (cn := cn) (cd := cd) h)
      clear hb HDT z0 z1 z2 z3 z4 z5 z6 z7 z8 z9 z10 c0 kt hX y0 y1
      generalize insOk x j xs.length cn cd = z at *
      generalize x.f0 = o at *
      generalize x.f2 = b at *
      cases z
      · obtain rfl : r = false := by rw [← hgo]; simp [blkStep]
        go_wp2
        go_ret
        exact ⟨rfl, kk⟩
      replace J1 := J1.out rfl
      replace J2 := J2.out rfl
      replace J3 := J3.out rfl
      by_cases hsw : (o = 3 ∨ o = 4) ∧ d < 2
      · obtain rfl : r = false := by rw [← hgo]; simp [blkStep, hsw]
        obtain ⟨hsw, hlt3⟩ := hsw
        rcases hsw with rfl | rfl <;> (go_wp2; go_ret; exact ⟨rfl, kk⟩)
      have hsw2 : (o = 3 ∨ o = 4) → 2 ≤ d := fun h => by by_cases hd2 : d < 2 <;> omega
      obtain ⟨a, ha⟩ : ∃ a, aft o d = a := ⟨_, rfl⟩
      have ha1 : 1 ≤ a := by rw [← ha]; unfold aft; split <;> (try split) <;> omega
      have hT : blkStep true o b d j ds = ((decide (o = 6) || ntB ds (j + 1) a) && (decide (¬ (o = 5 ∨ o = 6)) || ntB (ds1 o d j ds) b.toNat a)) := by
        unfold blkStep
        rw [ha, decide_eq_true hd00, Bool.true_and, Bool.true_and]
        have : (decide (o = 3 ∨ o = 4) && decide (d < 2)) = false := by rw [← Bool.decide_and]; exact decide_eq_false hsw
        rw [this]; simp
      have h2 : ds2 o b d j ds = if o = 5 ∨ o = 6 then ntL (ds1 o d j ds) b.toNat a else ds1 o d j ds := by unfold ds2; rw [ha]
      have h1 : ds1 o d j ds = if o = 6 then ds else ntL ds (j + 1) a := by unfold ds1; rw [ha]
      rw [hT, h2, h1] at hgo
      have HGO2 := Aside0.mk hgo
      have HSW := Aside0.mk hsw2
      have HA := Aside0.mk ha
      clear hgo hT h1 h2 hsw hsw2 ha HGO
      have o3 : o = 3 → decide (d < 2) = false := fun h => decide_eq_false (by have := HSW.out (.inl h); omega)
      have o4 : o = 4 → decide (d < 2) = false := fun h => decide_eq_false (by have := HSW.out (.inr h); omega)
      have J3' := Aside0.mk J3
      have ho : o = 3 ∨ o = 4 ∨ (o ≠ 3 ∧ o ≠ 4) := by omega
      rcases ho with h3 | h4 | ⟨h3, h4⟩
      case' inl => have q3 := o3 h3; clear o3 o4
      case' inr.inl => have q3 := o4 h4; clear o3 o4
      all_goals go_upto_region 22 with (fail)
      all_goals (
        have ha := HA.out
        unfold aft at ha
        have e0 : (d = a ∧ o ≠ 2 ∧ o ≠ 4) ∨ (d + 1 = a ∧ o = 2) ∨ (d - 1 = a ∧ o = 4) := by
          by_cases q2 : o = 2
          · rw [if_pos q2] at ha; exact .inr (.inl ⟨ha, q2⟩)
          · rw [if_neg q2] at ha
            by_cases q4 : o = 4
            · rw [if_pos q4] at ha; exact .inr (.inr ⟨ha, q4⟩)
            · rw [if_neg q4] at ha; exact .inl ⟨ha, q2, q4⟩
        clear ha
        rcases e0 with ⟨e0, q⟩ | ⟨e0, q⟩ | ⟨e0, q⟩
        case' inl => obtain ⟨q2, q4⟩ := q
        all_goals first | (exfalso; simp_all (config := { failIfUnchanged := false }); done) | skip)
      all_goals first | rw [e0] | skip
      all_goals (
        clear e0
        have hw1 : IntKind.i64.wrap ((j : Int) + 1) = ((j + 1 : Nat) : Int) := by rw [IntKind.wrap_i64]; omega
        by_cases ho6 : o = 6
        case' pos => first | (exfalso; omega) | (
          have hk : DsOk xs.length (if o = 6 then ds else ntL ds (j + 1) a) := by rw [if_pos ho6]; exact HK.out
          have hdd : Dst 3 W2 g (if o = 6 then ds else ntL ds (j + 1) a) := by rw [if_pos ho6]; exact HD2.out
          have hgo := HGO2.out
          rw [decide_eq_true ho6, Bool.true_or, Bool.true_and] at hgo
          obtain ⟨b0, b1⟩ := J1 (.inr ho6)
          obtain ⟨m, rfl⟩ : ∃ m : Nat, b = m := ⟨b.toNat, by omega⟩
          have q0 : decide ((0 : Int) < (m : Int)) = true := decide_eq_true (by omega)
          obtain ⟨v2, hv2, -⟩ := hk.get (k := m) (by omega)
          have hdq := hdd
          rw [if_pos ho6] at hdq hv2
          go_wp2_with fail
          refine (reach_call w1.heap.size g (xs.length + 1) (xs.length + 1) m a v2 ds _ (yq _) hqg hdq (by omega) hv2).mono ?_
          rintro e' W5 ⟨rfl, hd5, hb5⟩
          have k5 : K0 (Bx wt.heap.size g wt W5) := ⟨k2.out.trans (hb5.lower k2.out.size)⟩
          rw [Int.toNat_natCast, if_pos (Or.inr ho6), decide_eq_false (not_not_intro (Or.inr ho6)), Bool.false_or, if_pos ho6] at hgo
          cases hnt : ntB ds m a
          case' false =>
            obtain rfl : r = false := by rw [← hgo, hnt]; simp
            go_wp2
            go_ret
            exact ⟨rfl, kk⟩
          rw [hnt, if_pos rfl] at hgo
          have hk2 := ntL_ok HK.out ha1 hnt
          clear hb5 hdq hdd
          go_wp2_with fail
          go_roundw
          case' measure => simp only [intOf]; omega
          case' rel => exact ⟨j + 1, _, by omega, by rw [Int.natCast_add]; rfl, ⟨hk2⟩, ⟨hgo⟩, ⟨hd5⟩, ⟨kk⟩⟩)
        case' neg =>
          obtain ⟨v, hv, -⟩ := HK.out.get (k := j + 1) (by omega)
          have d6 : (o != 6) = true := by simpa using ho6
          go_wp2_with fail
          rw [show ((j : Int) + 1) = ((j + 1 : Nat) : Int) from rfl]
          refine (reach_call w1.heap.size g (xs.length + 1) (xs.length + 1) (j + 1) a v ds _ (yq _) hqg HD2.out (by omega) hv).mono ?_
          rintro e W3 ⟨rfl, hdd, hb3⟩
          have k3 : K0 (Bx wt.heap.size g wt W3) := ⟨k2.out.trans (hb3.lower k2.out.size)⟩
          have hgo := HGO2.out
          rw [decide_eq_false ho6, Bool.false_or, if_neg ho6] at hgo
          cases hnt : ntB ds (j + 1) a
          case' false =>
            obtain rfl : r = false := by rw [← hgo, hnt]; simp
            go_wp2
            go_ret
            exact ⟨rfl, kk⟩
          have hk : DsOk xs.length (ntL ds (j + 1) a) := ntL_ok HK.out ha1 hnt
          rw [hnt, Bool.true_and] at hgo
          clear hb3
          by_cases hj5 : o = 5 ∨ o = 6
          case' pos => first | (exfalso; omega) | (
            obtain ⟨b0, b1⟩ := J1 hj5
            obtain ⟨m, rfl⟩ : ∃ m : Nat, b = m := ⟨b.toNat, by omega⟩
            have q0 : decide ((0 : Int) < (m : Int)) = true := decide_eq_true (by omega)
            obtain ⟨v2, hv2, -⟩ := hk.get (k := m) (by omega)
            go_wp2_with fail
            refine (reach_call w1.heap.size g (xs.length + 1) (xs.length + 1) m a v2 (ntL ds (j + 1) a) _ (yq _) hqg hdd (by omega) hv2).mono ?_
            rintro e' W5 ⟨rfl, hd5, hb5⟩
            have k5 : K0 (Bx wt.heap.size g wt W5) := ⟨k3.out.trans (hb5.lower k3.out.size)⟩
            rw [Int.toNat_natCast, if_pos hj5, decide_eq_false (not_not_intro hj5), Bool.false_or] at hgo
            cases hnt2 : ntB (ntL ds (j + 1) a) m a
            case' false =>
              obtain rfl : r = false := by rw [← hgo, hnt2]; simp
              go_wp2
              go_ret
              exact ⟨rfl, kk⟩
            rw [hnt2, if_pos rfl] at hgo
            have hk2 := ntL_ok hk ha1 hnt2
            clear hb5 k3
            go_wp2_with fail
            go_roundw
            case' measure => simp only [intOf]; omega
            case' rel => exact ⟨j + 1, _, by omega, by rw [Int.natCast_add]; rfl, ⟨hk2⟩, ⟨hgo⟩, ⟨hd5⟩, ⟨kk⟩⟩)
          case' neg => first | (exfalso; omega) | (
            obtain rfl : b = 0 := J2 hj5
            rw [if_neg hj5, decide_eq_true hj5, Bool.true_or, if_pos rfl] at hgo
            go_wp2_with fail
            go_roundw
            case' measure => simp only [intOf]; omega
            case' rel => exact ⟨j + 1, _, by omega, by rw [Int.natCast_add]; rfl, ⟨hk⟩, ⟨hgo⟩, ⟨hdd⟩, ⟨kk⟩⟩))
    · obtain rfl : j = xs.length := by omega
      obtain ⟨v, hv, -⟩ := HK.out.get (k := xs.length) (Nat.le_refl _)
      have c0 := HD.out.cell hv
      have hgo := HGO.out
      rw [List.drop_length] at hgo
      simp only [blkGo, hv] at hgo
      have hl2 : xs.length < xs.length + 1 := by omega
      go_wp2_with fail
      go_ret
      refine ⟨?_, kk⟩
      rw [← hgo]
      by_cases h1 : v = 1 <;> simp [h1]
end Go.Proofs.Ytcfbbbilonignaa.Q

namespace Go.Proofs.Ytcfbbbilonignaa.Q
open Go.RowKit Go.Proofs.YtcfbbbilonignaaW.PrintWords Go.Proofs.YtcfbbbilonignaaW.PrintLast Go.Proofs.YtcfbbbilonignaaW.PrintMore
set_option linter.unusedVariables false
set_option linter.unusedSimpArgs false
noncomputable def codeGo : Nat → List S56 → Bool
  | _, [] => true
  | k, b :: bs => if blkOk b.f0 b.f1 k = true then codeGo (k + 1) bs else false
noncomputable def codeOk (l : List S56) (m : List S138) (mc : Int) : Bool :=
  if (l.length : Int) > 200 then false else if blkOk m mc l.length = true then codeGo 0 l else false
set_option maxHeartbeats 4000000 in
set_option maxRecDepth 100000 in
theorem code_impl_call (A0 : Option Addr) (c0 : Nat) (l : List S56) (A1 : Option Addr) (c1 : Nat) (m : List S138) (mc : Int) (w : World) (hr : Kd.C k56 w A0 l.length l) (hc : l.length ≤ c0) (hr1 : Kd.C k138 w A1 m.length m) (hc1 : m.length ≤ c1) :
    Calls Try.prog 21 #[.agg #[.slice A0 l.length c0, .slice A1 m.length c1, .int .i64 mc]] w fun e w' => e = .returned (.bool (codeOk l m mc)) ∧ Below w.heap.size w w' := by
  have kr : K0 (Below w.heap.size w w) := ⟨Below.refl _ _⟩
  obtain ⟨r, hR⟩ : ∃ r, codeOk l m mc = r := ⟨_, rfl⟩
  rw [hR]
  unfold codeOk at hR
  have HR := Aside0.mk hr
  have HC := Aside0.mk hc
  have HC1 := Aside0.mk hc1
  by_cases hl : (l.length : Int) > 200
  · rw [if_pos hl] at hR
    subst hR
    have e1 : decide ((200 : Int) < (l.length : Int)) = true := decide_eq_true hl
    clear hr hr1 hc hc1
    go_enter Try.func21, Try.ntmps21
    go_wp2
    go_ret
    exact ⟨rfl, kk⟩
  rw [if_neg hl] at hR
  have e1 : decide ((200 : Int) < (l.length : Int)) = false := decide_eq_false hl
  have hB : Below w.heap.size w (w.alloc (.cells #[.slice A0 l.length c0, .slice A1 m.length c1, .int .i64 mc] 58)) := kk
  have x0 : (w.alloc (.cells #[.slice A0 l.length c0, .slice A1 m.length c1, .int .i64 mc] 58)).cell? ⟨w.heap.size, 0, none⟩ = some (.slice A0 l.length c0) := cell_of_row _ w.heap.size 0 _ 58 _ (heap_alloc_new w _)
  have x1 : (w.alloc (.cells #[.slice A0 l.length c0, .slice A1 m.length c1, .int .i64 mc] 58)).cell? ⟨w.heap.size, 1, none⟩ = some (.slice A1 m.length c1) := cell_of_row _ w.heap.size 1 _ 58 _ (heap_alloc_new w _)
  have x2 : (w.alloc (.cells #[.slice A0 l.length c0, .slice A1 m.length c1, .int .i64 mc] 58)).cell? ⟨w.heap.size, 2, none⟩ = some (.int .i64 mc) := cell_of_row _ w.heap.size 2 _ 58 _ (heap_alloc_new w _)
  have hr2 := Kd.C_alloc hr1 (.cells #[.slice A0 l.length c0, .slice A1 m.length c1, .int .i64 mc] 58)
  have HR2 := Aside0.mk hr2
  clear hr hr1 hc hc1 hr2
  go_enter Try.func21, Try.ntmps21
  go_wp2_with fail
  generalize w.alloc (.cells #[.slice A0 l.length c0, .slice A1 m.length c1, .int .i64 mc] 58) = wb at *
  have HB := Aside0.mk hB
  have y0 := clk x0
  clear hB x0 x1 x2 kr
  refine (block_impl_call A1 c1 m mc l.length wb HR2.out HC1.out).mono ?_
  rintro e W2 ⟨rfl, hb⟩
  have k2 : K0 (Below wb.heap.size wb W2) := ⟨hb⟩
  have tr1 : ∀ W [K0 (Below wb.heap.size wb W)], K0 (Below w.heap.size w W) := fun W k => ⟨HB.out.trans (k.out.mono HB.out.size)⟩
  cases hz : blkOk m mc l.length
  · rw [hz] at hR
    obtain rfl : r = false := by rw [← hR]; simp
    go_wp2
    go_ret
    exact ⟨rfl, kk⟩
  rw [hz, if_pos rfl] at hR
  have HGO := Aside0.mk (show codeGo 0 (l.drop 0) = r from hR)
  have HK := Aside0.mk hb
  clear hR hb hz HR2 HC1
  go_wp2_with fail
  go_loopw [21] (fun v8 W => ∃ (j : Nat), j ≤ l.length ∧ v8 = .int .i64 j ∧ Aside0 (codeGo j (l.drop j) = r) ∧ Aside0 (Below wb.heap.size wb W)) (fun v8 _ => l.length - (intOf v8).toNat)
  case atStart => exact ⟨0, by omega, rfl, HGO, HK⟩
  case round =>
    clear HGO HK k2
    obtain ⟨j, hj, rfl, HGO, HW⟩ := hrel
    have kW : K0 (Below wb.heap.size wb wr) := ⟨HW.out⟩
    have kV : K0 (Below w.heap.size w wr) := ⟨kk⟩
    by_cases hlt : j < l.length
    · obtain ⟨ad, A2, c2, e0, x0, x1, h2, h3⟩ := at_T56 HR.out (j : Int) (by omega) (by omega)
      subst e0
      rw [Int.toNat_natCast] at x0 x1
      obtain ⟨x, hX⟩ : ∃ x, rd_T56 l (j : Int) = x := ⟨_, rfl⟩
      have hgo := HGO.out
      rw [List.drop_eq_getElem_cons hlt, show l[j] = x from by rw [← hX]; unfold rd_T56; rw [Int.toNat_natCast]; simp [hlt]] at hgo
      rw [hX] at x0 x1 h2 h3
      have x0 := clk x0
      have x1 := clk x1
      have H3 := Aside0.mk h3
      have H2 := Aside0.mk h2
      have hw1 : IntKind.i64.wrap ((j : Int) + 1) = ((j + 1 : Nat) : Int) := by rw [IntKind.wrap_i64]; omega
      clear h2 h3
      go_wp2_with fail
      clear x0 x1
      have hwt : Below wb.heap.size wb (wr.alloc (.cells #[.slice A2 x.f0.length c2, .int .i64 x.f1] 56)) := kk
      generalize wr.alloc (.cells #[.slice A2 x.f0.length c2, .int .i64 x.f1] 56) = wt at *
      have hwv : Below w.heap.size w wt := HB.out.trans (hwt.mono HB.out.size)
      refine (block_impl_call A2 c2 x.f0 x.f1 j wt (Kd.C_below H3.out hwv) H2.out).mono ?_
      rintro e W2 ⟨rfl, hb⟩
      have k2 : K0 (Below wb.heap.size wb W2) := ⟨hwt.trans (hb.mono hwt.size)⟩
      simp only [codeGo] at hgo
      cases hz : blkOk x.f0 x.f1 j
      · rw [hz] at hgo
        obtain rfl : r = false := by rw [← hgo]; simp
        go_wp2
        go_ret
        exact ⟨rfl, kk⟩
      rw [hz, if_pos rfl] at hgo
      clear hz hb kW kV
      go_wp2_with fail
      go_roundw
      case measure => simp only [intOf]; omega
      case rel => exact ⟨j + 1, by omega, by rw [Int.natCast_add]; rfl, ⟨hgo⟩, ⟨kk⟩⟩
    · obtain rfl : j = l.length := by omega
      have hgo := HGO.out
      rw [List.drop_length] at hgo
      simp only [codeGo] at hgo
      subst hgo
      go_wp2
      go_ret
      exact ⟨rfl, kk⟩
set_option maxHeartbeats 4000000 in
set_option maxRecDepth 100000 in
theorem code_spec_call (A0 : Option Addr) (c0 : Nat) (l : List S56) (A1 : Option Addr) (c1 : Nat) (m : List S138) (mc : Int) (w : World) (hr : Kd.C k56 w A0 l.length l) (hc : l.length ≤ c0) (hr1 : Kd.C k138 w A1 m.length m) (hc1 : m.length ≤ c1) :
    Calls Try.prog 19 #[.agg #[.slice A0 l.length c0, .slice A1 m.length c1, .int .i64 mc]] w fun e w' => e = .returned (.bool (codeOk l m mc)) ∧ Below w.heap.size w w' := by
  have kr : K0 (Below w.heap.size w w) := ⟨Below.refl _ _⟩
  obtain ⟨r, hR⟩ : ∃ r, codeOk l m mc = r := ⟨_, rfl⟩
  rw [hR]
  unfold codeOk at hR
  have HR := Aside0.mk hr
  have HC := Aside0.mk hc
  have HC1 := Aside0.mk hc1
  by_cases hl : (l.length : Int) > 200
  · rw [if_pos hl] at hR
    subst hR
    have e1 : decide ((200 : Int) < (l.length : Int)) = true := decide_eq_true hl
    clear hr hr1 hc hc1
    go_enter Try.func19, Try.ntmps19
    go_wp2
    go_ret
    exact ⟨rfl, kk⟩
  rw [if_neg hl] at hR
  have e1 : decide ((200 : Int) < (l.length : Int)) = false := decide_eq_false hl
  have hB : Below w.heap.size w (w.alloc (.cells #[.slice A0 l.length c0, .slice A1 m.length c1, .int .i64 mc] 58)) := kk
  have x0 : (w.alloc (.cells #[.slice A0 l.length c0, .slice A1 m.length c1, .int .i64 mc] 58)).cell? ⟨w.heap.size, 0, none⟩ = some (.slice A0 l.length c0) := cell_of_row _ w.heap.size 0 _ 58 _ (heap_alloc_new w _)
  have x1 : (w.alloc (.cells #[.slice A0 l.length c0, .slice A1 m.length c1, .int .i64 mc] 58)).cell? ⟨w.heap.size, 1, none⟩ = some (.slice A1 m.length c1) := cell_of_row _ w.heap.size 1 _ 58 _ (heap_alloc_new w _)
  have x2 : (w.alloc (.cells #[.slice A0 l.length c0, .slice A1 m.length c1, .int .i64 mc] 58)).cell? ⟨w.heap.size, 2, none⟩ = some (.int .i64 mc) := cell_of_row _ w.heap.size 2 _ 58 _ (heap_alloc_new w _)
  have hr2 := Kd.C_alloc hr1 (.cells #[.slice A0 l.length c0, .slice A1 m.length c1, .int .i64 mc] 58)
  have HR2 := Aside0.mk hr2
  clear hr hr1 hc hc1 hr2
  go_enter Try.func19, Try.ntmps19
  go_wp2_with fail
  generalize w.alloc (.cells #[.slice A0 l.length c0, .slice A1 m.length c1, .int .i64 mc] 58) = wb at *
  have HB := Aside0.mk hB
  have y0 := clk x0
  clear hB x0 x1 x2 kr
  refine (block_spec_call A1 c1 m mc l.length wb HR2.out HC1.out).mono ?_
  rintro e W2 ⟨rfl, hb⟩
  have k2 : K0 (Below wb.heap.size wb W2) := ⟨hb⟩
  have tr1 : ∀ W [K0 (Below wb.heap.size wb W)], K0 (Below w.heap.size w W) := fun W k => ⟨HB.out.trans (k.out.mono HB.out.size)⟩
  cases hz : blkOk m mc l.length
  · rw [hz] at hR
    obtain rfl : r = false := by rw [← hR]; simp
    go_wp2
    go_ret
    exact ⟨rfl, kk⟩
  rw [hz, if_pos rfl] at hR
  have HGO := Aside0.mk (show codeGo 0 (l.drop 0) = r from hR)
  have HK := Aside0.mk hb
  clear hR hb hz HR2 HC1
  go_wp2_with fail
  go_loopw [3] (fun v8 W => ∃ (j : Nat), j ≤ l.length ∧ v8 = .int .i64 j ∧ Aside0 (codeGo j (l.drop j) = r) ∧ Aside0 (Below wb.heap.size wb W)) (fun v8 _ => l.length - (intOf v8).toNat)
  case atStart => exact ⟨0, by omega, rfl, HGO, HK⟩
  case round =>
    clear HGO HK k2
    obtain ⟨j, hj, rfl, HGO, HW⟩ := hrel
    have kW : K0 (Below wb.heap.size wb wr) := ⟨HW.out⟩
    have kV : K0 (Below w.heap.size w wr) := ⟨kk⟩
    by_cases hlt : j < l.length
    · obtain ⟨ad, A2, c2, e0, x0, x1, h2, h3⟩ := at_T56 HR.out (j : Int) (by omega) (by omega)
      subst e0
      rw [Int.toNat_natCast] at x0 x1
      obtain ⟨x, hX⟩ : ∃ x, rd_T56 l (j : Int) = x := ⟨_, rfl⟩
      have hgo := HGO.out
      rw [List.drop_eq_getElem_cons hlt, show l[j] = x from by rw [← hX]; unfold rd_T56; rw [Int.toNat_natCast]; simp [hlt]] at hgo
      rw [hX] at x0 x1 h2 h3
      have x0 := clk x0
      have x1 := clk x1
      have H3 := Aside0.mk h3
      have H2 := Aside0.mk h2
      have hw1 : IntKind.i64.wrap ((j : Int) + 1) = ((j + 1 : Nat) : Int) := by rw [IntKind.wrap_i64]; omega
      clear h2 h3
      go_wp2_with fail
      clear x0 x1
      refine (block_spec_call A2 c2 x.f0 x.f1 j wr (Kd.C_below H3.out kV.out) H2.out).mono ?_
      rintro e W2 ⟨rfl, hb⟩
      have k2 : K0 (Below wb.heap.size wb W2) := ⟨HW.out.trans (hb.mono HW.out.size)⟩
      simp only [codeGo] at hgo
      cases hz : blkOk x.f0 x.f1 j
      · rw [hz] at hgo
        obtain rfl : r = false := by rw [← hgo]; simp
        go_wp2
        go_ret
        exact ⟨rfl, kk⟩
      rw [hz, if_pos rfl] at hgo
      clear hz hb kW kV
      go_wp2_with fail
      go_roundw
      case measure => simp only [intOf]; omega
      case rel => exact ⟨j + 1, by omega, by rw [Int.natCast_add]; rfl, ⟨hgo⟩, ⟨kk⟩⟩
    · obtain rfl : j = l.length := by omega
      have hgo := HGO.out
      rw [List.drop_length] at hgo
      simp only [codeGo] at hgo
      subst hgo
      go_wp2
      go_ret
      exact ⟨rfl, kk⟩
noncomputable def impl_ValidCode.f (l0_0 : List S56) (l0_1 : List S138) (a0_2 : Int) : Option Bool := some (codeOk l0_0 l0_1 a0_2)
theorem impl_ValidCode.calls (A0_0 : Option Addr) (c0_0 : Nat) (l0_0 : List (S56)) (A0_1 : Option Addr) (c0_1 : Nat) (l0_1 : List (S138)) (a0_2 : Int) (r : Bool) (w : World) (hr0_0 : Kd.C k56 w A0_0 l0_0.length l0_0) (hc0_0 : l0_0.length ≤ c0_0) (hr0_1 : Kd.C k138 w A0_1 l0_1.length l0_1) (hc0_1 : l0_1.length ≤ c0_1) (h : impl_ValidCode.f l0_0 l0_1 a0_2 = some r) :
    Calls Try.prog 21 #[.agg #[.slice A0_0 l0_0.length c0_0, .slice A0_1 l0_1.length c0_1, .int .i64 a0_2]] w fun e w' => e = .returned (.bool r) ∧ Below w.heap.size w w' := by
  obtain rfl := Option.some.inj h
  exact code_impl_call A0_0 c0_0 l0_0 A0_1 c0_1 l0_1 a0_2 w hr0_0 hc0_0 hr0_1 hc0_1
noncomputable def spec_ValidCode.f (l0_0 : List S56) (l0_1 : List S138) (a0_2 : Int) : Option Bool := some (codeOk l0_0 l0_1 a0_2)
theorem spec_ValidCode.calls (A0_0 : Option Addr) (c0_0 : Nat) (l0_0 : List (S56)) (A0_1 : Option Addr) (c0_1 : Nat) (l0_1 : List (S138)) (a0_2 : Int) (r : Bool) (w : World) (hr0_0 : Kd.C k56 w A0_0 l0_0.length l0_0) (hc0_0 : l0_0.length ≤ c0_0) (hr0_1 : Kd.C k138 w A0_1 l0_1.length l0_1) (hc0_1 : l0_1.length ≤ c0_1) (h : spec_ValidCode.f l0_0 l0_1 a0_2 = some r) :
    Calls Try.prog 19 #[.agg #[.slice A0_0 l0_0.length c0_0, .slice A0_1 l0_1.length c0_1, .int .i64 a0_2]] w fun e w' => e = .returned (.bool r) ∧ Below w.heap.size w w' := by
  obtain rfl := Option.some.inj h
  exact code_spec_call A0_0 c0_0 l0_0 A0_1 c0_1 l0_1 a0_2 w hr0_0 hc0_0 hr0_1 hc0_1
end Go.Proofs.Ytcfbbbilonignaa.Q
