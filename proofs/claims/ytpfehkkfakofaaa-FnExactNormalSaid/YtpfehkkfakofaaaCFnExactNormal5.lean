/- FnExactNormal: the row of the law: its arguments opened, its walk, its statement over lists (PrFnExactNormal). No condition. -/
import Derived.Test.YtpfehkkfakofaaaCFnExactNormal4
import Derived.WalkSpells

namespace Go.Proofs.Ytpfehkkfakofaaa.Q
open Go.RowKit Go.Proofs.YtpfehkkfakofaaaW.PrintWords Go.Proofs.YtpfehkkfakofaaaW.PrintLast
set_option linter.unusedVariables false
set_option linter.unusedSimpArgs false
set_option linter.unusedSectionVars false
theorem Ev.obind {α β : Type} {x : Nat → Option (Except (Int × Int) α)} {f : Nat → α → Option (Except (Int × Int) β)} {a : α} {r : Except (Int × Int) β} (h : Ev x (.ok a)) (k : Ev (fun n => f n a) r) : Ev (fun n => Q.obind (x n) (f n)) r := by
  obtain ⟨K, h⟩ := h
  obtain ⟨K', k⟩ := k
  refine ⟨max K K', fun n hn => ?_⟩
  simp only []
  rw [h n (by omega)]
  exact k n (by omega)
theorem Ev.obind_err {α β : Type} {x : Nat → Option (Except (Int × Int) α)} {f : Nat → α → Option (Except (Int × Int) β)} {e : Int × Int} (h : Ev x (.error e)) : Ev (fun n => Q.obind (x n) (f n)) (.error e) := by
  obtain ⟨K, h⟩ := h
  refine ⟨K, fun n hn => ?_⟩
  simp only []
  rw [h n hn]
  rfl
section
variable {p : ByteArray} (hp : p.size ≤ 200)
include hp
theorem wr1 {i : Int} (h0 : 0 ≤ i) (h1 : i ≤ p.size) : wrap64 (i + 1) = i + 1 := wrap_id _ (by omega) (by omega)
theorem wr2 {i : Int} (h0 : 0 ≤ i) (h1 : i ≤ p.size) : wrap64 (i + 2) = i + 2 := wrap_id _ (by omega) (by omega)
/-- One ch: what the reference says. -/
def chS : Except (Int × Int) (Int × Int) → Int × Int × Bool
  | .ok (c, j) => (c, j, true)
  | .error (_, a) => (0, a, false)
theorem ch_code {i c a : Int} (h : chF p i = .error (c, a)) : c = 2 := by
  unfold chF at h
  split at h
  · split at h
    · cases h; rfl
    · cases h
  · split at h
    · cases h; rfl
    · cases h
theorem ch_spec {i : Int} (h0 : 0 ≤ i) (h1 : i ≤ p.size) : Ev (fun k => spec_l4Ch.f k p i) (chS (chF p i)) := by
  have hw1 := wr1 hp h0 h1
  have hw2 := wr2 hp h0 h1
  refine ⟨1, fun k hk => ?_⟩
  obtain ⟨k, rfl⟩ : ∃ m, k = m + 1 := ⟨k - 1, by omega⟩
  show spec_l4Ch.f (k + 1) p i = some (chS (chF p i))
  unfold spec_l4Ch.f chF
  by_cases e0 : i = p.size
  · rw [if_pos (by omega), if_neg (by omega), if_pos (.inl e0)]
    simp [spec_l4Ch.j0, chS]
  · rw [if_neg (by omega), if_pos h0, if_pos (by omega)]
    by_cases e93 : bt p i = 93
    · rw [if_pos e93, if_neg (by omega), if_pos (.inr (.inl e93))]
      simp [spec_l4Ch.j0, chS]
    · rw [if_neg e93]
      by_cases e45 : bt p i = 45
      · rw [if_neg (by omega), if_pos (.inr (.inr e45)), e45]
        simp [spec_l4Ch.j0, chS]
      · have hb : (bt p i == 45) = false := beq_eq_false_iff_ne.mpr e45
        rw [hb]
        simp only [spec_l4Ch.j0, Bool.false_eq_true, if_false]
        rw [hw1, hw2]
        have hlt : i < (p.size : Int) := by omega
        by_cases e92 : bt p i = 92
        · by_cases e1 : i + 1 = p.size
          · simp only [h0, hlt, e92, e1, if_true, and_self, ge_iff_le, Int.le_refl]; rfl
          · have e2 : ¬ (p.size : Int) ≤ i + 1 := by omega
            have e3 : 0 ≤ i + 1 := by omega
            have e4 : i + 1 < (p.size : Int) := by omega
            simp only [h0, hlt, e92, e1, e2, e3, e4, if_true, if_false, and_self, ge_iff_le]; rfl
        · have e5 : ¬ (i = p.size ∨ bt p i = 93 ∨ bt p i = 45) := by omega
          simp only [h0, hlt, e92, e5, if_true, if_false, and_false]; rfl
def clS : Except (Int × Int) (List Bool × Int) → Int × Int × Int
  | .ok (_, j) => (j + 1, 0, 0)
  | .error (c, a) => (0, c, a)
theorem cls_spec : ∀ (d : Nat) (i n : Int) (s : List Bool), 0 ≤ i → i ≤ p.size → (p.size : Int) - i = d → 0 ≤ n → n ≤ i →
    ∃ q, Ev (fun k => clsF k p i (decide (n = 0)) s) q ∧ Ev (fun k => spec_l4Class.l0 k p i n) (clS q) ∧ (∀ c a, q = .error (c, a) → c ≠ 0) := by
  intro d
  induction d using Nat.strongRecOn with
  | _ d ih =>
  intro i n s h0 h1 hd n0 n1
  have hcs := ch_spec hp h0 h1
  by_cases ee : i = p.size
  · have hch : chF p i = .error (2, i) := by unfold chF; rw [if_neg (by omega), if_pos (.inl ee)]
    refine ⟨.error (2, i), ⟨1, fun k hk => ?_⟩, ⟨1, fun k hk => ?_⟩, fun c a h => by cases h; decide⟩
    · obtain ⟨k, rfl⟩ : ∃ m, k = m + 1 := ⟨k - 1, by omega⟩
      show clsF (k + 1) p i _ s = _
      simp only [clsF]
      rw [if_pos (.inr (.inl ee)), hch]
    · obtain ⟨k, rfl⟩ : ∃ m, k = m + 1 := ⟨k - 1, by omega⟩
      show spec_l4Class.l0 (k + 1) p i n = _
      simp only [spec_l4Class.l0]
      rw [if_neg (by omega), ee]; rfl
  have hlt : i < p.size := by omega
  have hw1 := wr1 hp h0 h1
  by_cases ec : n = 0 ∨ bt p i ≠ 93
  · -- an item
    have hl0 : ∀ k, spec_l4Class.l0 (k + 1) p i n = spec_l4Class.j3 k p i n false := by
      intro k
      simp only [spec_l4Class.l0]
      rw [if_pos hlt, if_pos h0]
      by_cases e93 : bt p i = 93
      · rw [if_pos e93]
        have : n = 0 := by rcases ec with h | h
                           · exact h
                           · exact absurd e93 h
        rw [this]; rfl
      · rw [if_neg e93]
    have hcl : ∀ k, clsF (k + 1) p i (decide (n = 0)) s = (match chF p i with
      | .error x => some (.error x)
      | .ok (lo, j) =>
        if j < p.size ∧ bt p j = 45 then
          match chF p (j + 1) with
          | .error x => some (.error x)
          | .ok (hi, m) => if lo > hi then some (.error (4, i)) else clsF k p m false (setR s lo hi)
        else clsF k p j false (setR s lo lo)) := by
      intro k
      simp only [clsF]
      rw [if_pos (by rcases ec with h | h
                     · exact .inl (by simp [h])
                     · exact .inr (.inr h))]
      try rfl
    cases hch : chF p i with
    | error x =>
      obtain ⟨c, a⟩ := x
      have hc2 := ch_code hp hch
      subst hc2
      rw [hch] at hcs
      refine ⟨.error (2, a), Ev.step (fun k => by rw [hcl, hch]) (Ev.now _), Ev.step hl0 (Ev.step (fun k => by simp only [spec_l4Class.j3]; rw [if_neg Bool.false_ne_true]) (Ev.bind hcs ?_)), fun c a h => by cases h; decide⟩
      exact Ev.if_neg (by simp [chS]) (Ev.now _)
    | ok x =>
      obtain ⟨lo, j⟩ := x
      obtain ⟨l0, l1, l2, l3⟩ := chF_ok hch h0 h1
      rw [hch] at hcs
      have hw : wrap64 (n + 1) = n + 1 := wrap_id _ (by omega) (by omega)
      have hdn : decide (n + 1 = 0) = false := decide_eq_false (by omega)
      by_cases ed : j < p.size ∧ bt p j = 45
      · have hcs2 := ch_spec hp (i := j + 1) (by omega) (by omega)
        have hwj : wrap64 (j + 1) = j + 1 := wr1 hp (by omega) l3
        cases hch2 : chF p (j + 1) with
        | error x =>
          obtain ⟨c, a⟩ := x
          have hc2 := ch_code hp hch2
          subst hc2
          rw [hch2] at hcs2
          refine ⟨.error (2, a), Ev.step (fun k => by rw [hcl, hch]; simp only []; rw [if_pos ed, hch2]) (Ev.now _), Ev.step hl0 (Ev.step (fun k => by simp only [spec_l4Class.j3]; rw [if_neg Bool.false_ne_true]) (Ev.bind hcs ?_)), fun c a h => by cases h; decide⟩
          simp only [chS, if_true]
          refine Ev.if_pos ed.1 (Ev.if_pos (show 0 ≤ j by omega) ?_)
          rw [ed.2]
          refine Ev.step (fun k => by simp only [spec_l4Class.j4]; rw [if_pos (show ((45 : Int) == 45) = true by decide), hwj]) (Ev.bind hcs2 ?_)
          exact Ev.if_neg (by simp [chS]) (Ev.now _)
        | ok x =>
          obtain ⟨hi, m⟩ := x
          obtain ⟨q0, q1, q2, q3⟩ := chF_ok hch2 (by omega) (by omega)
          rw [hch2] at hcs2
          by_cases elh : lo > hi
          · refine ⟨.error (4, i), Ev.step (fun k => by rw [hcl, hch]; simp only []; rw [if_pos ed, hch2]; simp only []; rw [if_pos elh]) (Ev.now _), Ev.step hl0 (Ev.step (fun k => by simp only [spec_l4Class.j3]; rw [if_neg Bool.false_ne_true]) (Ev.bind hcs ?_)), fun c a h => by cases h; decide⟩
            simp only [chS, if_true]
            refine Ev.if_pos ed.1 (Ev.if_pos (show 0 ≤ j by omega) ?_)
            rw [ed.2]
            refine Ev.step (fun k => by simp only [spec_l4Class.j4]; rw [if_pos (show ((45 : Int) == 45) = true by decide), hwj]) (Ev.bind hcs2 ?_)
            simp only [chS, if_true]
            exact Ev.if_pos elh (Ev.now _)
          · obtain ⟨q, hq1, hq2, hq3⟩ := ih ((p.size : Int) - m).toNat (by omega) m (n + 1) (setR s lo hi) (by omega) q3 (by omega) (by omega) (by omega)
            rw [hdn] at hq1
            refine ⟨q, Ev.step (fun k => by rw [hcl, hch]; simp only []; rw [if_pos ed, hch2]; simp only []; rw [if_neg elh]) hq1, Ev.step hl0 (Ev.step (fun k => by simp only [spec_l4Class.j3]; rw [if_neg Bool.false_ne_true]) (Ev.bind hcs ?_)), hq3⟩
            simp only [chS, if_true]
            refine Ev.if_pos ed.1 (Ev.if_pos (show 0 ≤ j by omega) ?_)
            rw [ed.2]
            refine Ev.step (fun k => by simp only [spec_l4Class.j4]; rw [if_pos (show ((45 : Int) == 45) = true by decide), hwj]) (Ev.bind hcs2 ?_)
            simp only [chS, if_true]
            refine Ev.if_neg elh ?_
            rw [hw]; exact hq2
      · obtain ⟨q, hq1, hq2, hq3⟩ := ih ((p.size : Int) - j).toNat (by omega) j (n + 1) (setR s lo lo) (by omega) l3 (by omega) (by omega) (by omega)
        rw [hdn] at hq1
        refine ⟨q, Ev.step (fun k => by rw [hcl, hch]; simp only []; rw [if_neg ed]) hq1, Ev.step hl0 (Ev.step (fun k => by simp only [spec_l4Class.j3]; rw [if_neg Bool.false_ne_true]) (Ev.bind hcs ?_)), hq3⟩
        simp only [chS, if_true]
        by_cases ej : j < p.size
        · have hb : (bt p j == 45) = false := beq_eq_false_iff_ne.mpr (fun h => ed ⟨ej, h⟩)
          refine Ev.if_pos ej (Ev.if_pos (show 0 ≤ j by omega) ?_)
          rw [hb]
          refine Ev.step (fun k => by simp only [spec_l4Class.j4]; rw [if_neg Bool.false_ne_true, hw]) hq2
        · refine Ev.if_neg ej ?_
          refine Ev.step (fun k => by simp only [spec_l4Class.j4]; rw [if_neg Bool.false_ne_true, hw]) hq2
  · have hn : ¬ n = 0 := fun h => ec (.inl h)
    have h93 : bt p i = 93 := Classical.not_not.mp fun h => ec (.inr h)
    refine ⟨.ok (s, i), Ev.step (f := fun _ => some (.ok (s, i))) (fun k => ?_) (Ev.now _), Ev.step (f := fun k => spec_l4Class.j3 k p i n true) (fun k => ?_) (Ev.step (f := fun _ => some (i + 1, 0, 0)) (fun k => ?_) (Ev.now _)), fun c a h => by cases h⟩
    · simp only [clsF]
      rw [if_neg (by simp [hn, ee, h93])]
    · simp only [spec_l4Class.l0]
      rw [if_pos hlt, if_pos h0, if_pos h93, decide_eq_true (by omega)]
    · simp only [spec_l4Class.j3, if_true, hw1]
theorem class_spec {i : Int} (h0 : 0 ≤ i) (h1 : i < p.size) : ∃ q, Ev (fun k => claF k p (i + 1)) q ∧ ((∃ s j, q = .ok (s, j) ∧ Ev (fun k => spec_l4Class.f k p i) (j, 0, 0)) ∨ (∃ c a, q = .error (c, a) ∧ c ≠ 0 ∧ Ev (fun k => spec_l4Class.f k p i) (0, c, a))) := by
  have hw1 := wr1 hp h0 (Int.le_of_lt h1)
  have hn : 0 ≤ notI p (i + 1) ∧ notI p (i + 1) ≤ p.size := by
    unfold notI; split
    · rename_i hh; unfold notQ at hh; simp at hh; omega
    · omega
  obtain ⟨q, hq1, hq2, hq3⟩ := cls_spec hp ((p.size : Int) - notI p (i + 1)).toNat (notI p (i + 1)) 0 noB hn.1 hn.2 (by omega) (Int.le_refl _) hn.1
  have hs : Ev (fun k => spec_l4Class.f k p i) (clS q) := by
    unfold spec_l4Class.f
    rw [hw1]
    by_cases e : i + 1 < p.size
    · refine Ev.if_pos e (Ev.if_pos (show 0 ≤ i + 1 by omega) ?_)
      have hnq : notQ p (i + 1) = (bt p (i + 1) == 94) := by unfold notQ; rw [decide_eq_true e]; rfl
      have hw2 := wr1 hp (i := i + 1) (by omega) (by omega)
      refine Ev.step (f := fun k => spec_l4Class.j1 k p (notI p (i + 1))) (fun k => ?_) (Ev.step (fun k => by simp only [spec_l4Class.j1]) hq2)
      simp only [spec_l4Class.j0]
      unfold notI
      rw [hnq, hw2]
      split <;> rfl
    · refine Ev.if_neg e ?_
      have hnq : notQ p (i + 1) = false := by unfold notQ; rw [decide_eq_false e]; rfl
      refine Ev.step (f := fun k => spec_l4Class.j1 k p (notI p (i + 1))) (fun k => ?_) (Ev.step (fun k => by simp only [spec_l4Class.j1]) hq2)
      simp only [spec_l4Class.j0]
      unfold notI
      rw [hnq]
      rfl
  have hc : Ev (fun k => claF k p (i + 1)) (q.map fun x => (if notQ p (i + 1) then x.1.map (!·) else x.1, x.2 + 1)) := by
    obtain ⟨K, hK⟩ := hq1
    refine ⟨K, fun k hk => ?_⟩
    have := hK k hk
    simp only [decide_true] at this
    show (clsF k p (notI p (i + 1)) true noB).map _ = _
    rw [this]; rfl
  refine ⟨_, hc, ?_⟩
  rcases q with ⟨c, a⟩ | ⟨s, j⟩
  · exact .inr ⟨c, a, rfl, hq3 c a rfl, hs⟩
  · exact .inl ⟨_, _, rfl, hs⟩
theorem l4Op_is (c : Int) : spec_l4Op.f c = some (isOp c) := by
  unfold spec_l4Op.f isOp
  by_cases h1 : c = 42
  · simp [h1]
  · by_cases h2 : c = 43
    · simp [h2]
    · simp [h1, h2, beq_eq_false_iff_ne.mpr h1, beq_eq_false_iff_ne.mpr h2]
/-- The reference comes to r from this state. -/
def SL (p : ByteArray) (o : Int) (at_ : Bool) (i : Int) (r : Int × Int) : Prop := Ev (fun k => spec_CheckRegex.l0 k p o at_ i) r
theorem sl_s (k : Nat) (o : Int) (at_ : Bool) (i : Int) (h0 : 0 ≤ i) (h1 : i < p.size) (ho : 0 ≤ o) (ho2 : o ≤ 20) : spec_CheckRegex.l0 (k + 1) p o at_ i =
    (if bt p i = 40 then (if o = 20 then some (3, i) else spec_CheckRegex.l0 k p (o + 1) false (i + 1))
    else if bt p i = 41 then (if o = 0 then some (2, i) else spec_CheckRegex.l0 k p (o - 1) true (i + 1))
    else if bt p i = 124 then spec_CheckRegex.l0 k p o false (i + 1)
    else if isOp (bt p i) = true then (if at_ = true then spec_CheckRegex.l0 k p o at_ (i + 1) else some (2, i))
    else if bt p i = 91 then ((spec_l4Class.f k p i).bind fun b => if b.2.1 = 0 then spec_CheckRegex.l0 k p o true b.1 else some (b.2.1, b.2.2))
    else if bt p i = 93 then some (2, i)
    else if bt p i = 92 then (if i + 1 = p.size then some (2, (p.size : Int)) else spec_CheckRegex.l0 k p o true (i + 2))
    else spec_CheckRegex.l0 k p o true (i + 1)) := by
  have hw1 := wr1 hp h0 (Int.le_of_lt h1)
  have hw2 := wr2 hp h0 (Int.le_of_lt h1)
  have hw3 : wrap64 (o + 1) = o + 1 := wrap_id _ (by omega) (by omega)
  have hw4 : wrap64 (o - 1) = o - 1 := wrap_id _ (by omega) (by omega)
  rw [spec_CheckRegex.l0, if_pos h1, if_pos h0, hw1, hw2, hw3, hw4, l4Op_is hp]
  rfl
theorem sl_end (o : Int) (at_ : Bool) (ho : 0 ≤ o) : SL p o at_ p.size (if o > 0 then (2, (p.size : Int)) else (0, 0)) := by
  refine Ev.step (f := fun _ => some (if o > 0 then (2, (p.size : Int)) else (0, 0))) (fun k => ?_) (Ev.now _)
  rw [spec_CheckRegex.l0, if_neg (by omega)]
  split <;> rfl
/-- Operators behind an atom. -/
theorem ops_spec : ∀ (d : Nat) (j : Int) (x : Rx) (o : Int), 0 ≤ o → o ≤ 20 → 0 ≤ j → j ≤ p.size → (p.size : Int) - j = d →
    ∃ x' j', Ev (fun k => opsF k p j x) (x', j') ∧ j ≤ j' ∧ j' ≤ p.size ∧ (j' < p.size → isOp (bt p j') = false) ∧ ∀ r, SL p o true j' r → SL p o true j r := by
  intro d
  induction d with
  | zero =>
    intro j x o o0 o1 h0 h1 hd
    refine ⟨x, j, Ev.step (f := fun _ => some (x, j)) (fun k => ?_) (Ev.now _), Int.le_refl _, h1, fun h => by omega, fun r h => h⟩
    simp only [opsF]
    rw [if_neg (by omega)]
  | succ d ih =>
    intro j x o o0 o1 h0 h1 hd
    have hlt : j < p.size := by omega
    by_cases hop : isOp (bt p j) = true
    · obtain ⟨x', j', he, a, b, c, hs⟩ := ih (j + 1) (.rep x (bt p j)) o o0 o1 (by omega) (by omega) (by omega)
      refine ⟨x', j', Ev.step (fun k => by simp only [opsF]; rw [if_pos ⟨hlt, hop⟩]) he, by omega, b, c, fun r h => Ev.step (fun k => ?_) (hs r h)⟩
      have hn : bt p j ≠ 40 ∧ bt p j ≠ 41 ∧ bt p j ≠ 124 := by
        refine ⟨fun e => ?_, fun e => ?_, fun e => ?_⟩ <;> (rw [e] at hop; revert hop; decide)
      rw [sl_s hp k o true j h0 hlt o0 o1, if_neg hn.1, if_neg hn.2.1, if_neg hn.2.2, if_pos hop, if_pos rfl]
    · refine ⟨x, j, Ev.step (f := fun _ => some (x, j)) (fun k => ?_) (Ev.now _), Int.le_refl _, h1, fun _ => by simpa using hop, fun r h => h⟩
      simp only [opsF]
      rw [if_neg (fun h => hop h.2)]
def AtomS (p : ByteArray) (i o : Int) (at_ : Bool) : Prop :=
  (∃ c a, Ev (fun k => atomF k p i o) (.error (c, a)) ∧ SL p o at_ i (c, a)) ∨
  (∃ x j, Ev (fun k => atomF k p i o) (.ok (x, j)) ∧ i < j ∧ j ≤ p.size ∧ ∀ r, SL p o true j r → SL p o at_ i r)
def SeqS (p : ByteArray) (i o : Int) (at_ : Bool) : Prop :=
  (∃ c a, (∀ acc, Ev (fun k => seqL k p i o acc) (.error (c, a))) ∧ SL p o at_ i (c, a)) ∨
  (∃ xs j, (∀ acc, Ev (fun k => seqL k p i o acc) (.ok (.seq (acc ++ xs), j))) ∧ i ≤ j ∧ j ≤ p.size ∧ (j < p.size → bt p j = 124 ∨ bt p j = 41) ∧ ∀ r, (∀ b, SL p o b j r) → SL p o at_ i r)
def AltS (p : ByteArray) (i o : Int) : Prop :=
  (∃ c a, (∀ acc, Ev (fun k => altL k p i o acc) (.error (c, a))) ∧ SL p o false i (c, a)) ∨
  (∃ xs j, (∀ acc, Ev (fun k => altL k p i o acc) (.ok (.alt (acc ++ xs), j))) ∧ i ≤ j ∧ j ≤ p.size ∧ (j < p.size → bt p j = 41) ∧ ∀ r, (∀ b, SL p o b j r) → SL p o false i r)
theorem atom_spec (i o : Int) (at_ : Bool) (h0 : 0 ≤ i) (h1 : i < p.size) (o0 : 0 ≤ o) (o1 : o ≤ 20) (hat : at_ = true → isOp (bt p i) = false) (n124 : bt p i ≠ 124) (n41 : bt p i ≠ 41)
    (IH : o < 20 → AltS p (i + 1) (o + 1)) : AtomS p i o at_ := by
  have hsl := fun k b => sl_s hp k o b i h0 h1 o0 o1
  by_cases n40 : bt p i = 40
  · by_cases e20 : o = 20
    · refine .inl ⟨3, i, Ev.step (f := fun _ => some (.error (3, i))) (fun k => by rw [atomF_s, if_pos n40, if_pos e20]) (Ev.now _), Ev.step (f := fun _ => some (3, i)) (fun k => by rw [hsl, if_pos n40, if_pos e20]) (Ev.now _)⟩
    · have ho : o < 20 := by omega
      rcases IH ho with ⟨c, a, ha, hs⟩ | ⟨xs, j, ha, a, b, hj, hs⟩
      · refine .inl ⟨c, a, Ev.step (fun k => by rw [atomF_s, if_pos n40, if_neg e20]) (Ev.obind_err (ha [])), Ev.step (fun k => by rw [hsl, if_pos n40, if_neg e20]) hs⟩
      · by_cases ej : j = p.size
        · refine .inl ⟨2, j, Ev.step (fun k => by rw [atomF_s, if_pos n40, if_neg e20]) (Ev.obind (ha []) (Ev.if_pos ej (Ev.now _))), Ev.step (fun k => by rw [hsl, if_pos n40, if_neg e20]) (hs _ fun b => ?_)⟩
          have := sl_end hp (o + 1) b (by omega)
          rw [if_pos (by omega)] at this
          rw [ej]; exact this
        · have hlt : j < p.size := by omega
          refine .inr ⟨_, j + 1, Ev.step (fun k => by rw [atomF_s, if_pos n40, if_neg e20]) (Ev.obind (ha []) (Ev.if_neg ej (Ev.now _))), by omega, by omega, fun r h => Ev.step (fun k => by rw [hsl, if_pos n40, if_neg e20]) (hs _ fun b => ?_)⟩
          have h41 := hj hlt
          refine Ev.step (fun k => ?_) h
          rw [sl_s hp k (o + 1) b j (by omega) hlt (by omega) (by omega), if_neg (by omega), if_pos h41, if_neg (by omega), show o + 1 - 1 = o by omega]
  · by_cases n91 : bt p i = 91
    · have hop : ¬ isOp (bt p i) = true := by rw [n91]; decide
      obtain ⟨q, hq, h⟩ := class_spec hp h0 h1
      have hA : ∀ k, atomF (k + 1) p i o = obind (claF k p (i + 1)) fun x => some (.ok (.one x.1 0 false, x.2)) := fun k => by rw [atomF_s, if_neg n40, if_pos n91]
      have hS : ∀ k, spec_CheckRegex.l0 (k + 1) p o at_ i = ((spec_l4Class.f k p i).bind fun b => if b.2.1 = 0 then spec_CheckRegex.l0 k p o true b.1 else some (b.2.1, b.2.2)) := fun k => by rw [hsl, if_neg n40, if_neg n41, if_neg n124, if_neg hop, if_pos n91]
      rcases h with ⟨s, j, rfl, hs⟩ | ⟨c, a, rfl, hc, hs⟩
      · obtain ⟨K, hK⟩ := hq
        obtain ⟨a, b, -⟩ := claF_ok (hK K (Nat.le_refl _)) (by omega) (by omega)
        have a' : i + 1 < j := a
        refine .inr ⟨_, j, Ev.step hA (Ev.obind ⟨K, hK⟩ (Ev.now _)), by omega, b, fun r h => Ev.step hS (Ev.bind hs (Ev.if_pos rfl h))⟩
      · refine .inl ⟨c, a, Ev.step hA (Ev.obind_err hq), Ev.step hS (Ev.bind hs (Ev.if_neg hc (Ev.now _)))⟩
    · by_cases n46 : bt p i = 46
      · have hop : ¬ isOp (bt p i) = true := by rw [n46]; decide
        refine .inr ⟨_, i + 1, Ev.step (fun k => by rw [atomF_s, if_neg n40, if_neg n91, if_pos n46]) (Ev.now _), by omega, by omega, fun r h => Ev.step (fun k => ?_) h⟩
        rw [hsl, if_neg n40, if_neg n41, if_neg n124, if_neg hop, if_neg n91, if_neg (by omega), if_neg (by omega)]
      · by_cases hop : isOp (bt p i) = true
        · have hb : at_ = false := by
            cases at_
            · rfl
            · have := hat rfl; rw [hop] at this; cases this
          subst hb
          refine .inl ⟨2, i, Ev.step (fun k => by rw [atomF_s, if_neg n40, if_neg n91, if_neg n46, if_pos (.inl hop)]) (Ev.now _), Ev.step (fun k => ?_) (Ev.now _)⟩
          rw [hsl, if_neg n40, if_neg n41, if_neg n124, if_pos hop, if_neg Bool.false_ne_true]
        · by_cases n93 : bt p i = 93
          · refine .inl ⟨2, i, Ev.step (fun k => by rw [atomF_s, if_neg n40, if_neg n91, if_neg n46, if_pos (.inr n93)]) (Ev.now _), Ev.step (fun k => ?_) (Ev.now _)⟩
            rw [hsl, if_neg n40, if_neg n41, if_neg n124, if_neg hop, if_neg n91, if_pos n93]
          · have hno : ¬ (isOp (bt p i) = true ∨ bt p i = 93) := fun h => h.elim hop n93
            by_cases n92 : bt p i = 92
            · by_cases e1 : i + 1 = p.size
              · refine .inl ⟨2, i + 1, Ev.step (fun k => by rw [atomF_s, if_neg n40, if_neg n91, if_neg n46, if_neg hno, if_pos n92, if_pos e1]) (Ev.now _), Ev.step (fun k => ?_) (Ev.now _)⟩
                rw [hsl, if_neg n40, if_neg n41, if_neg n124, if_neg hop, if_neg n91, if_neg n93, if_pos n92, if_pos e1, e1]
              · refine .inr ⟨_, i + 2, Ev.step (fun k => by rw [atomF_s, if_neg n40, if_neg n91, if_neg n46, if_neg hno, if_pos n92, if_neg e1]) (Ev.now _), by omega, by omega, fun r h => Ev.step (fun k => ?_) h⟩
                rw [hsl, if_neg n40, if_neg n41, if_neg n124, if_neg hop, if_neg n91, if_neg n93, if_pos n92, if_neg e1]
            · refine .inr ⟨_, i + 1, Ev.step (fun k => by rw [atomF_s, if_neg n40, if_neg n91, if_neg n46, if_neg hno, if_neg n92]) (Ev.now _), by omega, by omega, fun r h => Ev.step (fun k => ?_) h⟩
              rw [hsl, if_neg n40, if_neg n41, if_neg n124, if_neg hop, if_neg n91, if_neg n93, if_neg n92]
theorem par_spec : ∀ (d : Nat) (i : Int), 0 ≤ i → i ≤ p.size → (p.size : Int) - i = d → (∀ o at_, 0 ≤ o → o ≤ 20 → (at_ = true → i < p.size → isOp (bt p i) = false) → SeqS p i o at_) ∧ (∀ o, 0 ≤ o → o ≤ 20 → AltS p i o) := by
  intro d
  induction d using Nat.strongRecOn with
  | _ d ih =>
  intro i h0 h1 hd
  have hseq : ∀ o at_, 0 ≤ o → o ≤ 20 → (at_ = true → i < p.size → isOp (bt p i) = false) → SeqS p i o at_ := by
    intro o at_ o0 o1 hat
    by_cases hc : i < p.size ∧ (bt p i ≠ 124 ∧ bt p i ≠ 41)
    · have hS : ∀ k acc, seqL (k + 1) p i o acc = obind (atomF k p i o) fun x => (opsF k p x.2 x.1).bind fun y => seqL k p y.2 o (acc ++ [y.1]) := fun k acc => by rw [seqL_s, if_pos hc]
      rcases atom_spec hp i o at_ h0 hc.1 o0 o1 (fun h => hat h hc.1) hc.2.1 hc.2.2 (fun h20 => (ih ((p.size : Int) - (i + 1)).toNat (by omega) (i + 1) (by omega) (by omega) (by omega)).2 (o + 1) (by omega) (by omega)) with ⟨c, a, ha, hs⟩ | ⟨x, j, ha, a, b, hs⟩
      · exact .inl ⟨c, a, fun acc => Ev.step (fun k => hS k acc) (Ev.obind_err ha), hs⟩
      · obtain ⟨x', j', ho, a2, b2, c2, hs2⟩ := ops_spec hp ((p.size : Int) - j).toNat j x o o0 o1 (by omega) b (by omega)
        rcases (ih ((p.size : Int) - j').toNat (by omega) j' (by omega) b2 (by omega)).1 o true o0 o1 (fun _ h => c2 h) with ⟨c, e, hq, hs3⟩ | ⟨xs, j3, hq, a3, b3, c3, hs3⟩
        · exact .inl ⟨c, e, fun acc => Ev.step (fun k => hS k acc) (Ev.obind ha (Ev.bind ho (hq _))), hs _ (hs2 _ hs3)⟩
        · refine .inr ⟨x' :: xs, j3, fun acc => ?_, by omega, b3, c3, fun r h => hs _ (hs2 _ (hs3 r h))⟩
          have := hq (acc ++ [x'])
          rw [List.append_assoc] at this
          exact Ev.step (fun k => hS k acc) (Ev.obind ha (Ev.bind ho this))
    · refine .inr ⟨[], i, fun acc => ?_, Int.le_refl _, h1, fun hlt => ?_, fun r h => h _⟩
      · rw [List.append_nil]
        exact Ev.step (fun k => by rw [seqL_s, if_neg hc]) (Ev.now _)
      · by_cases e : bt p i = 124
        · exact .inl e
        · by_cases e2 : bt p i = 41
          · exact .inr e2
          · exact absurd ⟨hlt, e, e2⟩ hc
  refine ⟨hseq, fun o o0 o1 => ?_⟩
  rcases hseq o false o0 o1 (fun h => by cases h) with ⟨c, a, hq, hs⟩ | ⟨xs, j, hq, a, b, hj, hs⟩
  · exact .inl ⟨c, a, fun acc => Ev.step (fun k => altL_s k p i o acc) (Ev.obind_err (hq [])), hs⟩
  · by_cases hb : j = p.size ∨ bt p j ≠ 124
    · refine .inr ⟨[.seq xs], j, fun acc => Ev.step (fun k => altL_s k p i o acc) (Ev.obind (hq []) (Ev.if_pos hb (Ev.now _))), a, b, fun hlt => ?_, hs⟩
      rcases hj hlt with h | h
      · rcases hb with h' | h'
        · omega
        · exact absurd h h'
      · exact h
    · have e1 : j < p.size := by
        have : ¬ j = p.size := fun h => hb (.inl h)
        omega
      have e2 : bt p j = 124 := Classical.not_not.mp fun h => hb (.inr h)
      have hbar : ∀ r, SL p o false (j + 1) r → ∀ b, SL p o b j r := fun r h b => Ev.step (fun k => by rw [sl_s hp k o b j (by omega) e1 o0 o1, if_neg (by omega), if_neg (by omega), if_pos e2]) h
      rcases (ih ((p.size : Int) - (j + 1)).toNat (by omega) (j + 1) (by omega) (by omega) (by omega)).2 o o0 o1 with ⟨c, e, ha, hs3⟩ | ⟨ys, j3, ha, a3, b3, c3, hs3⟩
      · exact .inl ⟨c, e, fun acc => Ev.step (fun k => altL_s k p i o acc) (Ev.obind (hq []) (Ev.if_neg hb (ha _))), hs _ (hbar _ hs3)⟩
      · refine .inr ⟨.seq xs :: ys, j3, fun acc => ?_, by omega, b3, c3, fun r h => hs _ (hbar _ (hs3 r h))⟩
        have := ha (acc ++ [.seq xs])
        rw [List.append_assoc] at this
        exact Ev.step (fun k => altL_s k p i o acc) (Ev.obind (hq []) (Ev.if_neg hb this))
end
/-- The program's reading of a pattern and the reference's check tell the same fault. -/
theorem check_spec (p : ByteArray) : ∃ q, Ev (fun k => patR k p) q ∧ Ev (fun k => spec_CheckRegex.f k p) (match q with | .ok _ => (0, 0) | .error x => x) := by
  by_cases hb : 200 < p.size
  · refine ⟨.error (1, 0), ⟨0, fun k _ => ?_⟩, ⟨0, fun k _ => ?_⟩⟩
    · show patR k p = _
      unfold patR; rw [if_pos hb]
    · show spec_CheckRegex.f k p = _
      unfold spec_CheckRegex.f; rw [if_pos (by omega)]
  · have hp : p.size ≤ 200 := by omega
    have hR : ∀ k, patR k p = patF k p := fun k => by unfold patR; rw [if_neg hb]
    have hF : ∀ k, spec_CheckRegex.f k p = spec_CheckRegex.l0 k p 0 false 0 := fun k => by unfold spec_CheckRegex.f; rw [if_neg (by omega)]
    simp only [hR, hF]
    rcases (par_spec hp p.size 0 (Int.le_refl _) (by omega) (by omega)).2 0 (Int.le_refl _) (by omega) with ⟨c, a, ha, hs⟩ | ⟨xs, j, ha, a, b, hj, hs⟩
    · exact ⟨.error (c, a), Ev.obind_err (ha []), hs⟩
    · by_cases e : j < p.size
      · refine ⟨.error (2, j), Ev.obind (ha []) (Ev.if_pos e (Ev.now _)), hs _ fun b => Ev.step (fun k => ?_) (Ev.now _)⟩
        rw [sl_s hp k 0 b j a e (Int.le_refl _) (by omega), if_neg (by have := hj e; omega), if_pos (hj e), if_pos rfl]
      · refine ⟨.ok (.alt ([] ++ xs)), Ev.obind (ha []) (Ev.if_neg e (Ev.now _)), hs _ fun b => ?_⟩
        have := sl_end hp 0 b (Int.le_refl _)
        rw [if_neg (by omega)] at this
        rw [show j = p.size by omega]; exact this
end Go.Proofs.Ytpfehkkfakofaaa.Q

namespace Go.Proofs.Ytpfehkkfakofaaa.Q
open Go.RowKit Go.Proofs.YtpfehkkfakofaaaW.PrintWords Go.Proofs.YtpfehkkfakofaaaW.PrintLast Go.Proofs.YtpfehkkfakofaaaW.PrintMore
theorem regex_same (p : ByteArray) : ∃ x : Int × Int, Ev (fun k => impl_CheckRegex.f k p) x ∧ Ev (fun k => spec_CheckRegex.f k p) x := by
  obtain ⟨q, hi, hs⟩ := check_spec p
  obtain ⟨K, hK⟩ := hi
  rcases q with x | x
  · exact ⟨x, ⟨K, fun k hk => by have h : patR k p = some (.error x) := hK k hk; show (patR k p).map _ = _; rw [h]; rfl⟩, hs⟩
  · exact ⟨(0, 0), ⟨K, fun k hk => by have h : patR k p = some (.ok x) := hK k hk; show (patR k p).map _ = _; rw [h]; rfl⟩, hs⟩
theorem bare_eq (a0 : Int) (a1 : ByteArray) (a2 : Bool) (a3 : ByteArray) (a4 a5 a6 : Int) (b1 b2 b3 b4 b5 : Bool) :
    spec_l5Bare.f a0 a1 a2 a3 a4 a5 a6 b1 b2 b3 b4 b5 = some ((b1 || a1.toList == []) && ((b2 || !a2) && ((b3 || a3.toList == []) && ((b4 || (a4 == 0 && a5 == 0)) && (b5 || a6 == 0))))) := by
  unfold spec_l5Bare.f
  cases b1 <;> cases b2 <;> cases b3 <;> cases b4 <;> cases b5 <;> grind
theorem node_same (a0 : Int) (a1 : ByteArray) (a2 : Bool) (a3 : ByteArray) (a4 a5 a6 : Int) : ∃ c, Ev (fun k => impl_Node_good.f k a0 a1 a2 a3 a4 a5 a6) (ndOk c a0 a1 a2 a3 a4 a5 a6) ∧ Ev (fun k => spec_l5GoodNode.f k a0 a1 a2 a3 a4 a5 a6) (ndOk c a0 a1 a2 a3 a4 a5 a6) := by
  obtain ⟨x, h1, ⟨K2, h2⟩⟩ := regex_same a1
  refine ⟨x.1 == 0, Ev.bind h1 (Ev.now _), ⟨K2 + 5, fun k hk => ?_⟩⟩
  obtain ⟨j, rfl⟩ : ∃ j, k = j + 5 := ⟨k - 5, by omega⟩
  have g3 : spec_CheckRegex.f (j + 3) a1 = some x := h2 _ (by omega)
  clear h1 h2 hk
  show spec_l5GoodNode.f (j + 5) a0 a1 a2 a3 a4 a5 a6 = _
  unfold spec_l5GoodNode.f
  simp only [spec_l5GoodNode.j0, spec_l5GoodNode.j1, spec_l5GoodNode.j2, spec_l5GoodNode.j3, bare_eq, Option.bind_some, g3, Bool.true_or, Bool.false_or, Bool.true_and]
  unfold ndOk ndX
  generalize Op.bytesLess a1.toList a3.toList = lt
  generalize a1.toList = L1
  generalize a3.toList = L3
  clear g3
  by_cases s1 : (a1.size : Int) > 200
  · simp only [s1, if_true]
  by_cases s3 : (a3.size : Int) > 200
  · simp only [s1, s3, if_true, if_false]
  simp only [s1, s3, if_false]
  clear s1 s3
  cases a2 <;> by_cases h3 : L3 = [] <;> by_cases h1 : L1 = [] <;> grind (splits := 60)
end Go.Proofs.Ytpfehkkfakofaaa.Q

namespace Go.Proofs.Ytpfehkkfakofaaa.Q
open Go.RowKit Go.Proofs.YtpfehkkfakofaaaW.PrintWords Go.Proofs.YtpfehkkfakofaaaW.PrintLast Go.Proofs.YtpfehkkfakofaaaW.PrintMore
set_option linter.unusedVariables false
set_option linter.unusedSimpArgs false

/-! ### spec_l5Arity: function 74 -/
def spec_l5Arity.j0 : Nat → Int → Bool → Option (Int)
 | 0, _, _ => none
 | k + 1, x0, x8 => if x8 = true then (some 2) else (if x0 = 16 then (some 3) else (some 0))
def spec_l5Arity.f (k : Nat) (a0 : Int) : Option (Int) := if a0 = 14 then (spec_l5Arity.j0 k a0 true) else (spec_l5Arity.j0 k a0 (a0 == 15))
set_option maxHeartbeats 8000000 in
set_option maxRecDepth 100000 in
theorem spec_l5Arity.calls (k : Nat) (a0 : Int) (r : Int) (w : World) (h : spec_l5Arity.f k a0 = some r) :
  Calls Try.prog 74 #[.int .i64 a0] w fun e w' => e = .returned (.int .i64 r) ∧ Drawn0 w w' := by
 have H : (if a0 = 14 then (spec_l5Arity.j0 k a0 true) else (spec_l5Arity.j0 k a0 (a0 == 15))) = some r := h
 clear h
 have HC2 := Aside0.mk H
 clear H
 go_enter Try.func74, Try.ntmps74
 go_upto_region 1 with (fail)
 go_cut [8] (fun v8 wc => ∃ (kq : Nat) (x8_1 : Bool), v8 = .bool x8_1 ∧ Aside0 (spec_l5Arity.j0 kq a0 x8_1 = some r) ∧ Aside0 (kq ≤ k) ∧ Drawn0 w wc)
 case first =>
  have H := HC2.out
  clear HC2
  by_cases c3 : a0 = 14
  ·rw [if_pos c3] at H
   have c3b0 : (a0 == 14) = true := beq_iff_eq.mpr c3
   have c3b1 : (a0 != 14) = false := bne_eq_false_iff_eq.mpr c3
   clear c3
   (first | rw [c3b0] | (simp only [i64_w, i32_w]; rw [c3b0]) | skip)
   have H' := Aside0.mk H
   clear H
   go_wp2
   go_meet
   case rel => exact ⟨_, (true), (by first | rfl | (simp; done) | (simp [*]; done)), H', ⟨by first | omega | exact Nat.le_refl _⟩, by repeat (first | exact Drawn0.refl _ | apply Drawn0.step)⟩
  ·rw [if_neg c3] at H
   have c3b0 : (a0 == 14) = false := beq_eq_false_iff_ne.mpr c3
   have c3b1 : (a0 != 14) = true := bne_iff_ne.mpr c3
   (first | rw [c3b0] | (simp only [i64_w, i32_w]; rw [c3b0]) | skip)
   have H' := Aside0.mk H
   clear H
   go_wp2
   go_meet
   case rel => exact ⟨_, ((a0 == 15)), (by first | rfl | (simp; done) | (simp [*]; done)), H', ⟨by first | omega | exact Nat.le_refl _⟩, by repeat (first | exact Drawn0.refl _ | apply Drawn0.step)⟩
 case rest =>
  clear HC2
  try clear p2
  try clear c3
  try clear c3b0
  try clear c3b1
  obtain ⟨kq, x8_1, rfl, HA, HJ1, ⟨mc1, rfl⟩⟩ := hcut
  cases kq with
  | zero => exact absurd HA.out (by simp [spec_l5Arity.j0])
  | succ kj1 =>
   have H := HA.out
   clear HA
   simp only [spec_l5Arity.j0] at H
   by_cases c4 : x8_1 = true
   ·subst c4
    have H1 : (some 2) = some r := by rw [if_pos rfl] at H; exact H
    clear H
    have H := H1
    clear H1
    obtain rfl := Option.some.inj H
    go_wp2
    go_ret
    exact ⟨by first | rfl | (simp; done) | (simp [*]; done), by repeat (first | exact Drawn0.refl _ | apply Drawn0.step)⟩
   ·replace c4 := Bool.eq_false_iff.mpr c4
    subst c4
    have H1 : (if a0 = 16 then (some 3) else (some 0)) = some r := by rw [if_neg (show ¬ (false = true) by decide)] at H; exact H
    clear H
    have H := H1
    clear H1
    by_cases c5 : a0 = 16
    ·rw [if_pos c5] at H
     have c5b0 : (a0 == 16) = true := beq_iff_eq.mpr c5
     have c5b1 : (a0 != 16) = false := bne_eq_false_iff_eq.mpr c5
     clear c5
     obtain rfl := Option.some.inj H
     go_wp2
     go_ret
     exact ⟨by first | rfl | (simp; done) | (simp [*]; done), by repeat (first | exact Drawn0.refl _ | apply Drawn0.step)⟩
    ·rw [if_neg c5] at H
     have c5b0 : (a0 == 16) = false := beq_eq_false_iff_ne.mpr c5
     have c5b1 : (a0 != 16) = true := bne_iff_ne.mpr c5
     obtain rfl := Option.some.inj H
     go_wp2
     go_ret
     exact ⟨by first | rfl | (simp; done) | (simp [*]; done), by repeat (first | exact Drawn0.refl _ | apply Drawn0.step)⟩

end Go.Proofs.Ytpfehkkfakofaaa.Q

namespace Go.Proofs.Ytpfehkkfakofaaa.Q
open Go.RowKit Go.Proofs.YtpfehkkfakofaaaW.PrintWords Go.Proofs.YtpfehkkfakofaaaW.PrintLast Go.Proofs.YtpfehkkfakofaaaW.PrintMore
set_option linter.unusedVariables false
set_option linter.unusedSimpArgs false

/-! ### impl_Node_arity: function 77 -/
def impl_Node_arity.j0 : Nat → Int → Bool → Option (Int)
 | 0, _, _ => none
 | k + 1, x4, x5 => if x5 = true then (some 2) else (if x4 = 16 then (some 3) else (some 0))
def impl_Node_arity.f (k : Nat) (a0_0 : Int) (a0_1 : ByteArray) (a0_2 : Bool) (a0_3 : ByteArray) (a0_4 : Int) (a0_5 : Int) (a0_6 : Int) : Option (Int) := if a0_0 = 14 then (impl_Node_arity.j0 k a0_0 (a0_0 == 14)) else (impl_Node_arity.j0 k a0_0 (a0_0 == 15))
set_option maxHeartbeats 8000000 in
set_option maxRecDepth 100000 in
theorem impl_Node_arity.calls (k : Nat) (a0_0 : Int) (a0_1 : ByteArray) (a0_2 : Bool) (a0_3 : ByteArray) (a0_4 : Int) (a0_5 : Int) (a0_6 : Int) (r : Int) (w : World) (h : impl_Node_arity.f k a0_0 a0_1 a0_2 a0_3 a0_4 a0_5 a0_6 = some r) :
  Calls Try.prog 77 #[.agg #[.int .i64 a0_0, .string a0_1, .bool a0_2, .string a0_3, .int .u64 a0_4, .int .u64 a0_5, .int .i64 a0_6]] w fun e w' => e = .returned (.int .i64 r) ∧ Below w.heap.size w w' := by
 have hu63 := Try.underlying63
 have HB := Aside0.mk (Below.refl w.heap.size w)
 have H : (if a0_0 = 14 then (impl_Node_arity.j0 k a0_0 (a0_0 == 14)) else (impl_Node_arity.j0 k a0_0 (a0_0 == 15))) = some r := h
 clear h
 have HC2 := Aside0.mk H
 clear H
 go_enter Try.func77, Try.ntmps77
 go_upto_if 5 with (first | ((with_reducible refine gate_dst (N := 1) rfl ?_); refine box_event ?hg (N := 1) ?hd (cs := #[.int .i64 a0_0, .string a0_1, .bool a0_2, .string a0_3, .int .u64 a0_4, .int .u64 a0_5, .int .i64 a0_6]) (t := 63) ?hr ?_; (case hd => rfl); (case hg => rfl); (case hr => first | (go_simp; done) | (go_simp; rfl)); intro gb262 hg w3 hbox hb; have n0_ := Aside0.mk (below_step bw hb); have n1_ := Aside0.mk (hbox); have n2_ := Aside0.mk ((by rw [hg]; exact (below_size bw) : w.heap.size ≤ gb262)); have n3_ := Aside0.mk ((by rw [hg]; exact (below_size bw) : w.heap.size ≤ gb262)); clear HB; have HB := n0_; have BK262 := n1_; have GW262 := n2_; have GE262 := n3_; clear n0_ n1_ n2_ n3_; clear hb hbox hg; have hcz4_0 : w3.cell? ⟨gb262, 0, none⟩ = some (.int .i64 a0_0) := (blk_cell BK262.out 0).trans rfl; have hcz4_1 : w3.cell? ⟨gb262, 1, none⟩ = some (.string a0_1) := (blk_cell BK262.out 1).trans rfl; have hcz4_2 : w3.cell? ⟨gb262, 2, none⟩ = some (.bool a0_2) := (blk_cell BK262.out 2).trans rfl; have hcz4_3 : w3.cell? ⟨gb262, 3, none⟩ = some (.string a0_3) := (blk_cell BK262.out 3).trans rfl; have hcz4_4 : w3.cell? ⟨gb262, 4, none⟩ = some (.int .u64 a0_4) := (blk_cell BK262.out 4).trans rfl; have hcz4_5 : w3.cell? ⟨gb262, 5, none⟩ = some (.int .u64 a0_5) := (blk_cell BK262.out 5).trans rfl; have hcz4_6 : w3.cell? ⟨gb262, 6, none⟩ = some (.int .i64 a0_6) := (blk_cell BK262.out 6).trans rfl; have hfz4_0 := blk_frozen BK262.out 0; have hfz4_1 := blk_frozen BK262.out 1; have hfz4_2 := blk_frozen BK262.out 2; have hfz4_3 := blk_frozen BK262.out 3; have hfz4_4 := blk_frozen BK262.out 4; have hfz4_5 := blk_frozen BK262.out 5; have hfz4_6 := blk_frozen BK262.out 6))
 (try simp only [Act.put, List.setIfInBounds_toArray, List.set_cons_zero, List.set_cons_succ])
 go_cut [5] (fun v5 wc => ∃ (kq : Nat) (x5_1 : Bool), v5 = .bool x5_1 ∧ Aside0 (impl_Node_arity.j0 kq a0_0 x5_1 = some r) ∧ Aside0 (kq ≤ k) ∧ Aside0 (wc.heap[gb262]? = some (.cells #[.int .i64 a0_0, .string a0_1, .bool a0_2, .string a0_3, .int .u64 a0_4, .int .u64 a0_5, .int .i64 a0_6] 63 (0, 0))) ∧ Aside0 (Below w.heap.size w wc))
 case first =>
  have H := HC2.out
  clear HC2
  by_cases c5 : a0_0 = 14
  ·rw [if_pos c5] at H
   have c5b0 : (a0_0 == 14) = true := beq_iff_eq.mpr c5
   have c5b1 : (a0_0 != 14) = false := bne_eq_false_iff_eq.mpr c5
   clear c5
   (first | rw [c5b0] | (simp only [i64_w, i32_w]; rw [c5b0]) | skip)
   have H' := Aside0.mk H
   clear H
   go_wp2
   go_meet
   case rel => exact ⟨_, ((a0_0 == 14)), (by first | rfl | (simp; done) | (simp [*]; done)), H', ⟨by first | omega | exact Nat.le_refl _⟩, ⟨lb BK262⟩, ⟨bw⟩⟩
  ·rw [if_neg c5] at H
   have c5b0 : (a0_0 == 14) = false := beq_eq_false_iff_ne.mpr c5
   have c5b1 : (a0_0 != 14) = true := bne_iff_ne.mpr c5
   (first | rw [c5b0] | (simp only [i64_w, i32_w]; rw [c5b0]) | skip)
   have H' := Aside0.mk H
   clear H
   go_wp2
   go_meet
   case rel => exact ⟨_, ((a0_0 == 15)), (by first | rfl | (simp; done) | (simp [*]; done)), H', ⟨by first | omega | exact Nat.le_refl _⟩, ⟨lb BK262⟩, ⟨bw⟩⟩
 case rest =>
  clear HC2
  try clear p2
  try clear c5
  try clear c5b0
  try clear c5b1
  try clear hcz4_0
  try clear hcz4_1
  try clear hcz4_2
  try clear hcz4_3
  try clear hcz4_4
  try clear hcz4_5
  try clear hcz4_6
  try clear hfz4_0
  try clear hfz4_1
  try clear hfz4_2
  try clear hfz4_3
  try clear hfz4_4
  try clear hfz4_5
  try clear hfz4_6
  obtain ⟨kq, x5_1, rfl, HA, HJ1, BK262, HB⟩ := hcut
  cases kq with
  | zero => exact absurd HA.out (by simp [impl_Node_arity.j0])
  | succ kj1 =>
   have H := HA.out
   clear HA
   simp only [impl_Node_arity.j0] at H
   by_cases c6 : x5_1 = true
   ·subst c6
    have H1 : (some 2) = some r := by rw [if_pos rfl] at H; exact H
    clear H
    have H := H1
    clear H1
    obtain rfl := Option.some.inj H
    go_wp2
    go_ret
    exact ⟨by first | rfl | (simp [errW_none, errW_some] <;> rfl) | (simp [*, errW_none, errW_some] <;> rfl), bw⟩
   ·replace c6 := Bool.eq_false_iff.mpr c6
    subst c6
    have H1 : (if a0_0 = 16 then (some 3) else (some 0)) = some r := by rw [if_neg (show ¬ (false = true) by decide)] at H; exact H
    clear H
    have H := H1
    clear H1
    by_cases c7 : a0_0 = 16
    ·rw [if_pos c7] at H
     have c7b0 : (a0_0 == 16) = true := beq_iff_eq.mpr c7
     have c7b1 : (a0_0 != 16) = false := bne_eq_false_iff_eq.mpr c7
     clear c7
     obtain rfl := Option.some.inj H
     go_wp2
     go_ret
     exact ⟨by first | rfl | (simp [errW_none, errW_some] <;> rfl) | (simp [*, errW_none, errW_some] <;> rfl), bw⟩
    ·rw [if_neg c7] at H
     have c7b0 : (a0_0 == 16) = false := beq_eq_false_iff_ne.mpr c7
     have c7b1 : (a0_0 != 16) = true := bne_iff_ne.mpr c7
     obtain rfl := Option.some.inj H
     go_wp2
     go_ret
     exact ⟨by first | rfl | (simp [errW_none, errW_some] <;> rfl) | (simp [*, errW_none, errW_some] <;> rfl), bw⟩

end Go.Proofs.Ytpfehkkfakofaaa.Q

namespace Go.Proofs.Ytpfehkkfakofaaa.Q
open Go.RowKit Go.Proofs.YtpfehkkfakofaaaW.PrintWords Go.Proofs.YtpfehkkfakofaaaW.PrintLast Go.Proofs.YtpfehkkfakofaaaW.PrintMore
def arB (a : Int) : Int := if a = 14 ∨ a = 15 then 2 else if a = 16 then 3 else 0
theorem ar_spec (a : Int) (k : Nat) : spec_l5Arity.f (k + 1) a = some (arB a) := by
  unfold spec_l5Arity.f arB
  simp only [spec_l5Arity.j0]
  grind
theorem ar_impl (a0 : Int) (a1 : ByteArray) (a2 : Bool) (a3 : ByteArray) (a4 a5 a6 : Int) (k : Nat) : impl_Node_arity.f (k + 1) a0 a1 a2 a3 a4 a5 a6 = some (arB a0) := by
  unfold impl_Node_arity.f arB
  simp only [impl_Node_arity.j0]
  grind
end Go.Proofs.Ytpfehkkfakofaaa.Q

namespace Go.Proofs.Ytpfehkkfakofaaa.Q
open Go.RowKit Go.Proofs.YtpfehkkfakofaaaW.PrintWords Go.Proofs.YtpfehkkfakofaaaW.PrintLast Go.Proofs.YtpfehkkfakofaaaW.PrintMore
set_option linter.unusedVariables false
set_option linter.unusedSimpArgs false
inductive Tr where
  | node (n : S63) (ks : List Tr)
def Tr.top : Tr → S63
  | .node n _ => n
mutual
def flatT : Tr → List S63
  | .node n ks => flatTs ks ++ [n]
def flatTs : List Tr → List S63
  | [] => []
  | t :: ts => flatT t ++ flatTs ts
end
mutual
def wfT : Tr → Prop
  | .node n ks => (ks.length : Int) = arB n.f0 ∧ wfTs ks
def wfTs : List Tr → Prop
  | [] => True
  | t :: ts => wfT t ∧ wfTs ts
end
theorem flatTs_app : ∀ xs ys : List Tr, flatTs (xs ++ ys) = flatTs xs ++ flatTs ys
  | [], ys => by simp [flatTs]
  | x :: xs, ys => by simp [flatTs, flatTs_app xs ys]
theorem wfTs_app : ∀ xs ys : List Tr, wfTs (xs ++ ys) ↔ wfTs xs ∧ wfTs ys
  | [], ys => by simp [wfTs]
  | x :: xs, ys => by simp [wfTs, wfTs_app xs ys, and_assoc]
theorem flatT_ne (t : Tr) : flatT t ≠ [] := by
  cases t; simp [flatT]
/-- One node more on the stack of trees. -/
def pushT (st : List Tr) (n : S63) : Option (List Tr) :=
  if (st.length : Int) < arB n.f0 then none else some (st.take (st.length - (arB n.f0).toNat) ++ [.node n (st.drop (st.length - (arB n.f0).toNat))])
def treesOf : List S63 → List Tr → Option (List Tr)
  | [], st => some st
  | n :: ns, st => (pushT st n).bind fun st' => treesOf ns st'
theorem arB_nn (a : Int) : 0 ≤ arB a := by unfold arB; split <;> (try split) <;> omega
theorem arB_le (a : Int) : arB a ≤ 3 := by unfold arB; split <;> (try split) <;> omega
theorem pushT_flat {st st' : List Tr} {n : S63} (h : pushT st n = some st') (hw : wfTs st) : flatTs st' = flatTs st ++ [n] ∧ wfTs st' := by
  unfold pushT at h
  split at h
  · cases h
  · rename_i hl
    cases h
    have h0 := arB_nn n.f0
    have e : flatTs st = flatTs (st.take (st.length - (arB n.f0).toNat)) ++ flatTs (st.drop (st.length - (arB n.f0).toNat)) := by
      rw [← flatTs_app, List.take_append_drop]
    have w : wfTs (st.take (st.length - (arB n.f0).toNat)) ∧ wfTs (st.drop (st.length - (arB n.f0).toNat)) := by
      rw [← wfTs_app, List.take_append_drop]; exact hw
    refine ⟨?_, ?_⟩
    · rw [flatTs_app]; simp [flatTs, flatT, e]
    · rw [wfTs_app]
      refine ⟨w.1, ⟨⟨?_, w.2⟩, trivial⟩⟩
      rw [List.length_drop]; omega
theorem treesOf_flat : ∀ (ns : List S63) (st st' : List Tr), treesOf ns st = some st' → wfTs st → flatTs st' = flatTs st ++ ns ∧ wfTs st'
  | [], st, st', h, hw => by cases h; simp [hw]
  | n :: ns, st, st', h, hw => by
    unfold treesOf at h
    obtain ⟨s1, h1, h2⟩ := Option.bind_eq_some_iff.mp h
    obtain ⟨e1, w1⟩ := pushT_flat h1 hw
    obtain ⟨e2, w2⟩ := treesOf_flat ns s1 st' h2 w1
    exact ⟨by rw [e2, e1]; simp, w2⟩
/-- Nodes from the last one on, as many as are needed. -/
def scanN (need : Int) : List S63 → Int
  | [] => if need > 0 then -1 else 0
  | x :: r => if need > 0 then scanN (need - 1 + arB x.f0) r else (x :: r).length
theorem scanN_zero (r : List S63) : scanN 0 r = r.length := by
  cases r <;> simp [scanN]
mutual
theorem scanN_T : ∀ (t : Tr) (need : Int) (r : List S63), wfT t → 1 ≤ need → scanN need ((flatT t).reverse ++ r) = scanN (need - 1) r
  | .node n ks, need, r, hw, h => by
    obtain ⟨h1, h2⟩ : (ks.length : Int) = arB n.f0 ∧ wfTs ks := hw
    have e := scanN_Ts ks (need - 1 + arB n.f0) r h2 (by omega)
    simp only [flatT, List.reverse_append, List.reverse_cons, List.reverse_nil, List.nil_append, List.cons_append]
    have e2 : need - 1 + arB n.f0 - (ks.length : Int) = need - 1 := by omega
    rw [e2] at e
    conv => lhs; unfold scanN
    rw [if_pos (by omega), e]
theorem scanN_Ts : ∀ (ts : List Tr) (need : Int) (r : List S63), wfTs ts → (ts.length : Int) ≤ need → scanN need ((flatTs ts).reverse ++ r) = scanN (need - ts.length) r
  | [], need, r, _, h => by simp [flatTs]
  | t :: ts, need, r, hw, h => by
    obtain ⟨h1, h2⟩ : wfT t ∧ wfTs ts := hw
    have hl : ((t :: ts).length : Int) = (ts.length : Int) + 1 := by simp
    rw [hl] at h ⊢
    simp only [flatTs, List.reverse_append, List.append_assoc]
    rw [scanN_Ts ts need _ h2 (by omega), scanN_T t _ r h1 (by omega)]
    congr 1; omega
end
/-- What a list of nodes weighs: how many trees it is. -/
def wgt : List S63 → Int
  | [] => 0
  | x :: r => 1 - arB x.f0 + wgt r
theorem wgt_app : ∀ a b : List S63, wgt (a ++ b) = wgt a + wgt b
  | [], b => by simp [wgt]
  | x :: a, b => by simp only [List.cons_append, wgt, wgt_app a b]; omega
theorem wgt_rev : ∀ a : List S63, wgt a.reverse = wgt a
  | [] => rfl
  | x :: a => by rw [List.reverse_cons, wgt_app, wgt_rev a]; simp only [wgt]; omega
theorem scanN_all : ∀ (r : List S63) (need : Int), 0 ≤ need → scanN need r = 0 → need - wgt r = 0 ∧ ∀ p q : List S63, r = p ++ q → q ≠ [] → 0 < need - wgt p
  | [], need, h0, h => by
    unfold scanN at h
    split at h
    · omega
    · refine ⟨by simp only [wgt]; omega, fun p q e hq => ?_⟩
      have := List.append_eq_nil_iff.mp e.symm
      exact absurd this.2 hq
  | x :: r, need, h0, h => by
    unfold scanN at h
    split at h
    · have ha := arB_nn x.f0
      obtain ⟨h1, h2⟩ := scanN_all r _ (by omega) h
      refine ⟨by simp only [wgt]; omega, fun p q e hq => ?_⟩
      rcases p with _ | ⟨y, p⟩
      · simp only [wgt]; omega
      · obtain ⟨rfl, e2⟩ : x = y ∧ r = p ++ q := List.cons.inj e
        have := h2 p q e2 hq
        simp only [wgt]; omega
    · simp at h; omega
theorem pushT_len {st st' : List Tr} {n : S63} (h : pushT st n = some st') : (st'.length : Int) = st.length + (1 - arB n.f0) := by
  unfold pushT at h
  split at h
  · cases h
  · cases h
    have h0 := arB_nn n.f0
    rw [List.length_append, List.length_take]
    simp only [List.length_cons, List.length_nil]
    omega
/-- Where nodes are no trees, scanning from the last one does not end at the first. -/
theorem treesOf_none : ∀ (ns : List S63) (st : List Tr), treesOf ns st = none → ∃ a n b, ns = a ++ n :: b ∧ (st.length : Int) + wgt (a ++ [n]) ≤ 0
  | [], st, h => by cases h
  | n :: ns, st, h => by
    unfold treesOf at h
    cases hp : pushT st n with
    | none =>
      refine ⟨[], n, ns, rfl, ?_⟩
      unfold pushT at hp
      split at hp
      · simp only [List.nil_append, wgt]; omega
      · cases hp
    | some s1 =>
      rw [hp] at h
      obtain ⟨a, m, b, e, hw⟩ := treesOf_none ns s1 h
      have := pushT_len hp
      refine ⟨n :: a, m, b, by rw [e]; rfl, ?_⟩
      simp only [List.cons_append, wgt]; omega
theorem scan_one (ns : List S63) (hn : ns ≠ []) : scanN 1 ns.reverse = 0 ↔ ∃ t, treesOf ns [] = some [t] := by
  cases h : treesOf ns [] with
  | none =>
    constructor
    · intro hs
      exfalso
      obtain ⟨a, n, b, e, hw⟩ := treesOf_none ns [] h
      obtain ⟨h1, h2⟩ := scanN_all _ _ (by omega) hs
      rw [wgt_rev] at h1
      have e2 : ns = (a ++ [n]) ++ b := by rw [e]; simp
      have h3 := h2 b.reverse (a ++ [n]).reverse (by rw [e2]; simp) (by simp)
      rw [wgt_rev] at h3
      rw [e2, wgt_app] at h1
      simp only [List.length_nil] at hw
      omega
    · rintro ⟨t, ht⟩; cases ht
  | some st =>
    obtain ⟨e, w⟩ := treesOf_flat ns [] st h trivial
    have e : flatTs st = ns := by simpa [flatTs] using e
    rcases List.eq_nil_or_concat st with rfl | ⟨i, t, rfl⟩
    · exact absurd (by simpa [flatTs] using e.symm) hn
    · rw [List.concat_eq_append] at h e w ⊢
      rw [wfTs_app] at w
      have hs : scanN 1 ns.reverse = ((flatTs i).length : Int) := by
        rw [← e, flatTs_app]
        simp only [flatTs, List.append_nil, List.reverse_append]
        rw [scanN_T t 1 _ w.2.1 (by omega), show (1 : Int) - 1 = 0 from rfl, scanN_zero]
        simp
      rw [hs]
      constructor
      · intro h0
        have h0 : flatTs i = [] := List.eq_nil_of_length_eq_zero (by omega)
        rcases i with _ | ⟨y, i⟩
        · exact ⟨t, rfl⟩
        · simp [flatTs, flatT_ne] at h0
      · rintro ⟨u, hu⟩
        have hu := Option.some.inj hu
        rcases i with _ | ⟨y, i⟩
        · simp [flatTs]
        · simp at hu
end Go.Proofs.Ytpfehkkfakofaaa.Q

namespace Go.Proofs.Ytpfehkkfakofaaa.Q
open Go.RowKit Go.Proofs.YtpfehkkfakofaaaW.PrintWords Go.Proofs.YtpfehkkfakofaaaW.PrintLast
set_option linter.unusedVariables false
set_option linter.unusedSimpArgs false
theorem Ev.of_all {α : Type} {g : Nat → Option α} {r : α} (h : ∀ k, g k = some r) : Ev g r := ⟨0, fun k _ => h k⟩
/-- What is left of the room behind all elements. -/
theorem sz_all {α : Type} (xs : List α) (z : α) (P : α → Prop) (S : Nat → α → Int → Option Int) (L : Nat → Int → Int → Option Int) (hb : xs.length < 4611686018427387904)
    (hL : ∀ k n (i : Nat), i < xs.length → L (k + 1) n i = (S k (xs.getD i z) n).bind fun t => if t < 0 then some (-1) else L k t ((i + 1 : Nat) : Int))
    (hE : ∀ k n, L (k + 1) n (xs.length : Int) = some n)
    (hS : ∀ x ∈ xs, ∀ n : Int, 0 ≤ n → n ≤ 1048576 → ∃ t, Ev (fun k => S k x n) t ∧ (t < 0 ∨ (0 ≤ t ∧ t ≤ n ∧ P x))) :
    ∀ (rest pre : List α) (n : Int), xs = pre ++ rest → 0 ≤ n → n ≤ 1048576 → ∃ t, Ev (fun k => L k n (pre.length : Int)) t ∧ (t < 0 ∨ (0 ≤ t ∧ t ≤ n ∧ ∀ x ∈ rest, P x)) := by
  intro rest
  induction rest with
  | nil => intro pre n e h0 h1; exact ⟨n, Ev.shift 1 fun k => by rw [show pre.length = xs.length by rw [e]; simp, hE], .inr ⟨h0, Int.le_refl _, by simp⟩⟩
  | cons x rest ih =>
    intro pre n e h0 h1
    have hlt : pre.length < xs.length := by rw [e]; exact len_cut _ _ _
    have hr : xs.getD pre.length z = x := by rw [e, getD_cut]
    obtain ⟨t, ht, h2⟩ := hS x (by rw [e]; simp) n h0 h1
    rcases h2 with h2 | ⟨h2, h3, h4⟩
    · exact ⟨-1, Ev.round (f := fun k => (S k x n).bind fun t => if t < 0 then some (-1) else L k t ((pre.length + 1 : Nat) : Int)) (fun k => by rw [hL _ _ _ hlt, hr]) (Ev.bind ht (Ev.if_pos h2 (Ev.now _))), .inl (by omega)⟩
    · obtain ⟨u, hu, h5⟩ := ih (pre ++ [x]) t (by simp [e]) h2 (by omega)
      rw [List.length_append, List.length_singleton] at hu
      refine ⟨u, Ev.round (f := fun k => (S k x n).bind fun t => if t < 0 then some (-1) else L k t ((pre.length + 1 : Nat) : Int)) (fun k => by rw [hL _ _ _ hlt, hr]) (Ev.bind ht (Ev.if_neg (by omega) hu)), ?_⟩
      rcases h5 with h5 | ⟨h5, h6, h7⟩
      · exact .inl h5
      · refine .inr ⟨h5, by omega, fun y hy => ?_⟩
        rcases List.mem_cons.mp hy with rfl | hy
        · exact h4
        · exact h7 y hy
/-- A row that is filled, element by element. -/
theorem to_all {α β γ : Type} (xs : List α) (z : α) (z' : β) (T : Nat → α → Option γ) (mk : γ → β) (g : α → β) (L : Nat → List β → Int → Option (List β)) (hb : xs.length < 4611686018427387904)
    (hL : ∀ k ys (i : Nat), i < xs.length → i < ys.length → L (k + 1) ys i = (T k (xs.getD i z)).bind fun t => L k (ys.set i (mk t)) ((i + 1 : Nat) : Int))
    (hE : ∀ k ys, L (k + 1) ys (xs.length : Int) = some ys)
    (hT : ∀ x ∈ xs, ∃ t, Ev (fun k => T k x) t ∧ mk t = g x) :
    ∀ (rest pre : List α), xs = pre ++ rest → Ev (fun k => L k (pre.map g ++ List.replicate rest.length z') (pre.length : Int)) (xs.map g) := by
  intro rest
  induction rest with
  | nil => intro pre e; exact Ev.shift 1 fun k => by rw [show pre.length = xs.length by rw [e]; simp, hE, e]; simp
  | cons x rest ih =>
    intro pre e
    have hlt : pre.length < xs.length := by rw [e]; exact len_cut _ _ _
    have hr : xs.getD pre.length z = x := by rw [e, getD_cut]
    obtain ⟨t, ht, hg⟩ := hT x (by rw [e]; simp)
    have h := ih (pre ++ [x]) (by simp [e])
    rw [List.length_append, List.length_singleton, List.map_append] at h
    have hs := set_fill (pre.map g) z' (g x) rest.length
    rw [List.length_map] at hs
    refine Ev.round (f := fun k => (T k x).bind fun t => L k ((pre.map g ++ List.replicate (rest.length + 1) z').set pre.length (mk t)) ((pre.length + 1 : Nat) : Int)) (fun k => by rw [List.length_cons, hL _ _ _ hlt (by simp), hr]) (Ev.bind ht ?_)
    rw [hg, hs]
    exact h
/-- All elements of a list pass, and then what follows. -/
theorem all_loop {α : Type} (xs : List α) (z : α) (p : α → Bool) (V : Nat → α → Option Bool) (L : Nat → Int → Option Bool) (F : Nat → Option Bool) (r : Bool) (hb : xs.length < 4611686018427387904)
    (hL : ∀ k (i : Nat), i < xs.length → L (k + 1) i = (V k (xs.getD i z)).bind fun t => if t = true then L k ((i + 1 : Nat) : Int) else some false)
    (hF : ∀ k, L (k + 1) (xs.length : Int) = F k) (hV : ∀ x ∈ xs, Ev (fun k => V k x) (p x)) (hr : Ev F r) :
    ∀ (rest pre : List α), xs = pre ++ rest → Ev (fun k => L k (pre.length : Int)) (rest.all p && r) := by
  intro rest
  induction rest with
  | nil => intro pre e; rw [show pre.length = xs.length by rw [e]; simp]; simpa using Ev.round hF hr
  | cons x rest ih =>
    intro pre e
    have hlt : pre.length < xs.length := by rw [e]; exact len_cut _ _ _
    have hx : xs.getD pre.length z = x := by rw [e, getD_cut]
    have h := ih (pre ++ [x]) (by simp [e])
    rw [List.length_append, List.length_singleton] at h
    refine Ev.round (f := fun k => (V k x).bind fun t => if t = true then L k ((pre.length + 1 : Nat) : Int) else some false) (fun k => by rw [hL _ _ hlt, hx]) (Ev.bind (hV x (by rw [e]; simp)) ?_)
    rw [List.all_cons]
    cases hp : p x with
    | true => exact Ev.if_pos rfl (by simpa using h)
    | false => exact Ev.if_neg (by decide) (Ev.now _)
/-! the order of strings -/
/-! ranges of rows -/
end Go.Proofs.Ytpfehkkfakofaaa.Q

namespace Go.Proofs.Ytpfehkkfakofaaa.Q
open Go.RowKit Go.Proofs.YtpfehkkfakofaaaW.PrintWords Go.Proofs.YtpfehkkfakofaaaW.PrintLast Go.Proofs.YtpfehkkfakofaaaW.PrintMore
set_option linter.unusedVariables false
set_option linter.unusedSimpArgs false

/-! ### spec_l5From: function 72 -/
def spec_l5From.l0 : Nat → List (S63) → Int → Int → Option (Int)
 | 0, _, _, _ => none
 | k + 1, x0, x3, x4 => if x3 > 0 then (if (wrap64 (x4 - 1)) < 0 then (some (-1)) else (if 0 ≤ (wrap64 (x4 - 1)) then (if (wrap64 (x4 - 1)) < (x0.length : Int) then ((spec_l5Arity.f k ((rd_T63 x0 (wrap64 (x4 - 1))).f0)).bind fun t128 => (spec_l5From.l0 k x0 (wrap64 ((wrap64 (x3 - 1)) + t128)) (wrap64 (x4 - 1)))) else (none)) else (none))) else (some x4)
def spec_l5From.f (k : Nat) (l0 : List (S63)) : Option (Int) := spec_l5From.l0 k l0 1 (l0.length : Int)
set_option maxHeartbeats 8000000 in
set_option maxRecDepth 100000 in
theorem spec_l5From.calls (k : Nat) (A0 : Option Addr) (c0 : Nat) (l0 : List (S63)) (r : Int) (w : World) (hr0 : Kd.C k63 w A0 l0.length l0) (hc0 : l0.length ≤ c0) (h : spec_l5From.f k l0 = some r) :
  Calls Try.prog 72 #[.slice A0 l0.length c0] w fun e w' => e = .returned (.int .i64 r) ∧ Drawn0 w w' := by
 have HR0 := Aside0.mk hr0
 have HC0 := Aside0.mk hc0
 clear hr0 hc0
 have H : (spec_l5From.l0 k l0 1 (l0.length : Int)) = some r := h
 clear h
 have H' := Aside0.mk H
 clear H
 go_enter Try.func72, Try.ntmps72
 go_wp2
 go_loopg [3, 4] k (fun kq v3 v4 w' => ∃ (x3_1 : Int) (x4_1 : Int), v3 = .int .i64 x3_1 ∧ v4 = .int .i64 x4_1 ∧ Aside0 (spec_l5From.l0 kq l0 x3_1 x4_1 = some r) ∧ Aside0 (kq ≤ k) ∧ Drawn0 w w')
 case atStart => exact ⟨(1), ((l0.length : Int)), (by first | rfl | (simp; done) | (simp [*]; done)), (by first | rfl | (simp; done) | (simp [*]; done)), H', ⟨Nat.le_refl _⟩, by repeat (first | exact Drawn0.refl _ | apply Drawn0.step)⟩
 case round =>
  clear H'
  obtain ⟨x3_1, x4_1, rfl, rfl, HA, HK1, ⟨m1, rfl⟩⟩ := hrel
  cases gk with
  | zero => exact absurd HA.out (by simp [spec_l5From.l0])
  | succ k1 =>
   have H := HA.out
   clear HA
   simp only [spec_l5From.l0] at H
   by_cases c2 : x3_1 > 0
   ·rw [if_pos c2] at H
    have c2b0 : decide (0 < x3_1) = true := decide_eq_true c2
    clear c2
    by_cases c3 : (wrap64 (x4_1 - 1)) < 0
    ·rw [if_pos c3] at H
     have c3b0 : decide ((wrap64 (x4_1 - 1)) < 0) = true := decide_eq_true c3
     clear c3
     obtain rfl := Option.some.inj H
     go_wp2
     go_ret
     exact ⟨by first | rfl | (simp; done) | (simp [*]; done), by repeat (first | exact Drawn0.refl _ | apply Drawn0.step)⟩
    ·rw [if_neg c3] at H
     have c3b0 : decide ((wrap64 (x4_1 - 1)) < 0) = false := decide_eq_false c3
     clear c3
     obtain ⟨ji4, hji4⟩ : ∃ j_ : Int, (wrap64 (x4_1 - 1)) = j_ := ⟨_, rfl⟩
     replace H : (if 0 ≤ (ji4) then (if (ji4) < (l0.length : Int) then ((spec_l5Arity.f k1 ((rd_T63 l0 (ji4)).f0)).bind fun t128 => (spec_l5From.l0 k1 l0 (wrap64 ((wrap64 (x3_1 - 1)) + t128)) ji4)) else (none)) else (none)) = some r := by first | (rw [hji4] at H; exact H) | (simp only [hji4] at H ⊢; exact H)
     (try rw [hji4] at c3b0)
     have hji4w : (IntKind.i64.wrap (x4_1 - 1)) = ji4 := (i64_w _).trans hji4
     by_cases c5 : 0 ≤ (ji4)
     ·rw [if_pos c5] at H
      have c5b0 : decide (0 ≤ (ji4)) = true := decide_eq_true c5
      clear c5
      by_cases c6 : (ji4) < (l0.length : Int)
      ·rw [if_pos c6] at H
       have c6b0 : decide ((ji4) < (l0.length : Int)) = true := decide_eq_true c6
       clear c6
       replace H := Option.bind_eq_some_iff.mp H
       obtain ⟨t128, A70, H⟩ := H
       replace H : (spec_l5From.l0 k1 l0 (wrap64 ((wrap64 (x3_1 - 1)) + t128)) ji4) = some r := H
       have A7 := Aside0.mk A70
       clear A70
       have H' := Aside0.mk H
       clear H
       have p127 : 0 ≤ ((ji4) : Int) := of_decide_eq_true (by first | (with_reducible assumption) | assumption)
       have q127 : (ji4) < (l0.length : Int) := of_decide_eq_true (by first | (with_reducible assumption) | assumption)
       obtain ⟨ad127, e127, hx127_0, hx127_1, hx127_2, hx127_3, hx127_4, hx127_5, hx127_6⟩ := at_T63 HR0.out (ji4) p127 q127
       cases e127
       replace p127 := eq_true p127
       replace q127 := eq_true q127
       go_wp2_with (first | ((with_reducible refine at_fn (f := 74) rfl ?_); refine goesL_ (some 20) rfl rfl Try.func74 (by kernel_rfl) rfl #[.int .i64 ((rd_T63 l0 (ji4)).f0)] rfl (by (try simp only [List.map_toArray, List.map_cons, List.map_nil]); first | done | (simp only [hji4]; rfl) | rfl | (simp only [List.length_drop, List.length_take]; rfl)) ?_; (with_reducible refine (spec_l5Arity.calls k1 ((rd_T63 l0 (ji4)).f0) t128 _ A7.out).mono ?_); rintro e w' ⟨rfl, ⟨nd, rfl⟩⟩; refine ⟨_, rfl, ?_⟩))
       go_roundg k1
       case measure => have := HK1.out; omega
       case rel => exact ⟨(wrap64 ((wrap64 (x3_1 - 1)) + t128)), (ji4), (by first | rfl | (simp; done) | (simp [*]; done)), (by first | rfl | (simp; done) | (simp only [← hji4] <;> (first | rfl | simp)) | (simp [*]; done)), H', ⟨by have := HK1.out; omega⟩, by repeat (first | exact Drawn0.refl _ | apply Drawn0.step)⟩
      ·rw [if_neg c6] at H
       exact absurd H (by simp)
     ·rw [if_neg c5] at H
      exact absurd H (by simp)
   ·rw [if_neg c2] at H
    have c2b0 : decide (0 < x3_1) = false := decide_eq_false c2
    clear c2
    obtain rfl := Option.some.inj H
    go_wp2
    go_ret
    exact ⟨by first | rfl | (simp; done) | (simp [*]; done), by repeat (first | exact Drawn0.refl _ | apply Drawn0.step)⟩

end Go.Proofs.Ytpfehkkfakofaaa.Q

namespace Go.Proofs.Ytpfehkkfakofaaa.Q
open Go.RowKit Go.Proofs.YtpfehkkfakofaaaW.PrintWords Go.Proofs.YtpfehkkfakofaaaW.PrintLast Go.Proofs.YtpfehkkfakofaaaW.PrintMore
set_option linter.unusedVariables false
set_option linter.unusedSimpArgs false

/-! ### spec_l5Tree: function 41 -/
def spec_l5Tree.f (k : Nat) (l0 : List (S63)) : Option (Bool) := if (l0.length : Int) > 0 then ((spec_l5From.f k l0).bind fun t129 => (some (t129 == 0))) else (some false)
set_option maxHeartbeats 8000000 in
set_option maxRecDepth 100000 in
theorem spec_l5Tree.calls (k : Nat) (A0 : Option Addr) (c0 : Nat) (l0 : List (S63)) (r : Bool) (w : World) (hr0 : Kd.C k63 w A0 l0.length l0) (hc0 : l0.length ≤ c0) (h : spec_l5Tree.f k l0 = some r) :
  Calls Try.prog 41 #[.slice A0 l0.length c0] w fun e w' => e = .returned (.bool r) ∧ Drawn0 w w' := by
 have HR0 := Aside0.mk hr0
 have HC0 := Aside0.mk hc0
 clear hr0 hc0
 have H : (if (l0.length : Int) > 0 then ((spec_l5From.f k l0).bind fun t129 => (some (t129 == 0))) else (some false)) = some r := h
 clear h
 by_cases c2 : (l0.length : Int) > 0
 ·rw [if_pos c2] at H
  have c2b0 : decide (0 < (l0.length : Int)) = true := decide_eq_true c2
  have c2b1 : decide (0 < l0.length) = true := decide_eq_true (by omega)
  clear c2
  replace H := Option.bind_eq_some_iff.mp H
  obtain ⟨t129, A30, H⟩ := H
  replace H : (some (t129 == 0)) = some r := H
  have A3 := Aside0.mk A30
  clear A30
  obtain rfl := Option.some.inj H
  go_enter Try.func41, Try.ntmps41
  go_wp2_with (first | (go_at_call 72; (with_reducible refine (spec_l5From.calls k _ _ l0 t129 _ ?side1 ?side2 A3.out).mono ?_); (case side1 => repeat (first | exact HR0.out | (with_reducible refine Kd.C_alloc ?_ _) | (with_reducible refine Kd.C_drewN ?_ _) | (with_reducible refine Kd.C_drew ?_))); (case side2 => exact HC0.out); rintro e w' ⟨rfl, ⟨nd, rfl⟩⟩))
  go_ret
  exact ⟨by first | rfl | (simp; done) | (simp [*]; done), by repeat (first | exact Drawn0.refl _ | apply Drawn0.step)⟩
 ·rw [if_neg c2] at H
  have c2b0 : decide (0 < (l0.length : Int)) = false := decide_eq_false c2
  have c2b1 : decide (0 < l0.length) = false := decide_eq_false (by omega)
  clear c2
  obtain rfl := Option.some.inj H
  go_enter Try.func41, Try.ntmps41
  go_wp2
  go_ret
  exact ⟨by first | rfl | (simp; done) | (simp [*]; done), by repeat (first | exact Drawn0.refl _ | apply Drawn0.step)⟩

end Go.Proofs.Ytpfehkkfakofaaa.Q

namespace Go.Proofs.Ytpfehkkfakofaaa.Q
open Go.RowKit Go.Proofs.YtpfehkkfakofaaaW.PrintWords Go.Proofs.YtpfehkkfakofaaaW.PrintLast Go.Proofs.YtpfehkkfakofaaaW.PrintMore
set_option linter.unusedVariables false
set_option linter.unusedSimpArgs false

/-! ### spec_l5Kids: function 43 -/
def spec_l5Kids.l0 : Nat → List (S63) → List (List (S63)) → Int → Option ((List (List (S63))))
 | 0, _, _, _ => none
 | k + 1, x3, x4, x5 => if x5 > 0 then ((spec_l5From.f k x3).bind fun t140 => (if 0 ≤ t140 then (if t140 ≤ (x3.length : Int) then ((some (([(x3.drop (t140 : Int).toNat)] : List (List (S63))) : List (List (S63)))).bind fun y146 => (if y146.length + x4.length < 5864062014805 then (spec_l5Kids.l0 k (x3.take (t140 : Int).toNat) (y146 ++ x4) (wrap64 (x5 - 1))) else (none))) else (none)) else (none))) else (some x4)
def spec_l5Kids.f (k : Nat) (l0 : List (S63)) : Option ((List (List (S63)))) := if 0 ≤ (wrap64 ((l0.length : Int) - 1)) then (if (wrap64 ((l0.length : Int) - 1)) ≤ (l0.length : Int) then (if (wrap64 ((l0.length : Int) - 1)) < (l0.length : Int) then ((spec_l5Arity.f k ((rd_T63 l0 (wrap64 ((l0.length : Int) - 1))).f0)).bind fun t139 => (spec_l5Kids.l0 k (l0.take ((wrap64 ((l0.length : Int) - 1)) : Int).toNat) (([] : List (List (S63)))) t139)) else (none)) else (none)) else (none)
set_option maxHeartbeats 8000000 in
set_option maxRecDepth 100000 in
theorem spec_l5Kids.calls (k : Nat) (P0_ : Nat → Prop) (A0 : Option Addr) (c0 : Nat) (l0 : List (S63)) (r : List (List (S63))) (w : World) (hs0 : Kd.V k63 63 w w.heap.size (fun k_ => P0_ k_) (.slice A0 l0.length c0) l0) (h : spec_l5Kids.f k l0 = some r) :
  Calls Try.prog 43 #[.slice A0 l0.length c0] w fun e w' => ∃ v0_ : Value, e = .returned (v0_) ∧ Kd.N (Kd.slice 63 k63) 26 w' w.heap.size (fun k_ => (P0_ k_ ∨ w.heap.size ≤ k_)) v0_ r ∧ Below w.heap.size w w' := by
 have HO0 := Aside0.mk (show Kd.V k63 63 w w.heap.size (fun k_ => (P0_ k_ ∨ w.heap.size ≤ k_)) (.slice A0 l0.length c0) l0 from Kd.V_mono hs0 (fun k_ hk => .inl hk))
 have HB := Aside0.mk (Below.refl w.heap.size w)
 have H : (if 0 ≤ (wrap64 ((l0.length : Int) - 1)) then (if (wrap64 ((l0.length : Int) - 1)) ≤ (l0.length : Int) then (if (wrap64 ((l0.length : Int) - 1)) < (l0.length : Int) then ((spec_l5Arity.f k ((rd_T63 l0 (wrap64 ((l0.length : Int) - 1))).f0)).bind fun t139 => (spec_l5Kids.l0 k (l0.take ((wrap64 ((l0.length : Int) - 1)) : Int).toNat) (([] : List (List (S63)))) t139)) else (none)) else (none)) else (none)) = some r := h
 clear h
 obtain ⟨ji2, hji2⟩ : ∃ j_ : Int, (wrap64 ((l0.length : Int) - 1)) = j_ := ⟨_, rfl⟩
 replace H : (if 0 ≤ (ji2) then (if (ji2) ≤ (l0.length : Int) then (if (ji2) < (l0.length : Int) then ((spec_l5Arity.f k ((rd_T63 l0 (ji2)).f0)).bind fun t139 => (spec_l5Kids.l0 k (l0.take ((ji2) : Int).toNat) (([] : List (List (S63)))) t139)) else (none)) else (none)) else (none)) = some r := by first | (rw [hji2] at H; exact H) | (simp only [hji2] at H ⊢; exact H)
 have hji2w : (IntKind.i64.wrap ((l0.length : Int) - 1)) = ji2 := (i64_w _).trans hji2
 by_cases c3 : 0 ≤ (ji2)
 ·rw [if_pos c3] at H
  have c3b0 := eq_true c3
  have c3b1 : decide (0 ≤ (ji2)) = true := decide_eq_true c3
  clear c3
  by_cases c4 : (ji2) ≤ (l0.length : Int)
  ·rw [if_pos c4] at H
   have c4b0 := eq_true c4
   have c4b1 : decide ((ji2) ≤ (l0.length : Int)) = true := decide_eq_true c4
   clear c4
   obtain ⟨y130, hy130⟩ : ∃ y_ : List (S63), y_ = (l0.take ((ji2) : Int).toNat) := ⟨_, rfl⟩
   replace H : (if (ji2) < (l0.length : Int) then ((spec_l5Arity.f k ((rd_T63 l0 (ji2)).f0)).bind fun t139 => (spec_l5Kids.l0 k y130 (([] : List (List (S63)))) t139)) else (none)) = some r := by first | (rw [hy130]; with_reducible exact H) | (have H2_ := (Option.bind_some _ _).symm.trans H; rw [hy130]; with_reducible exact H2_) | (have H2_ := (Option.bind_some _ _).symm.trans H; with_reducible exact H2_) | with_reducible exact H | (rw [hy130]; exact H) | exact H
   have Ny130 := Aside0.mk hy130
   clear hy130
   obtain ⟨y135, hy135⟩ : ∃ y_ : List (List (S63)), y_ = (([] : List (List (S63)))) := ⟨_, rfl⟩
   replace H : (if (ji2) < (l0.length : Int) then ((spec_l5Arity.f k ((rd_T63 l0 (ji2)).f0)).bind fun t139 => (spec_l5Kids.l0 k y130 y135 t139)) else (none)) = some r := by first | (rw [hy135]; with_reducible exact H) | (have H2_ := (Option.bind_some _ _).symm.trans H; rw [hy135]; with_reducible exact H2_) | (have H2_ := (Option.bind_some _ _).symm.trans H; with_reducible exact H2_) | with_reducible exact H | (rw [hy135]; exact H) | exact H
   have Ny135 := Aside0.mk hy135
   clear hy135
   by_cases c5 : (ji2) < (l0.length : Int)
   ·rw [if_pos c5] at H
    have c5b0 : decide ((ji2) < (l0.length : Int)) = true := decide_eq_true c5
    clear c5
    replace H := Option.bind_eq_some_iff.mp H
    obtain ⟨t139, A60, H⟩ := H
    replace H : (spec_l5Kids.l0 k y130 y135 t139) = some r := H
    have A6 := Aside0.mk A60
    clear A60
    have H' := Aside0.mk H
    clear H
    have q7 : ((ji2) : Int) ≤ ((l0.length : Int) : Int) := of_decide_eq_true (by first | (with_reducible assumption) | assumption)
    obtain ⟨i07, hi07, _, hsz7, _⟩ := info_parts info63
    have hroom7 : l0.length ≤ c0 := (Kd.V_reads' HO0.out).2.1
    have hC7 : Kd.F k63 _ _ A0 l0.length l0 := (Kd.V_at (base := w.heap.size) HO0.out).2.2
    have hcut7 := cut_to (P := Try.prog) 26 63 .i64 Try.underlying26 hi07 A0 l0.length c0 (ji2) (of_decide_eq_true (by first | (with_reducible assumption) | assumption)) q7 hroom7
    have hr7 := Kd.F_take (m := ((ji2) : Int).toNat) hC7 (by omega)
    have hy7 : y130.length = ((ji2) : Int).toNat := (by rw [Ny130.out, List.length_take]; omega)
    rw [← Ny130.out] at hr7
    rw [← hy7] at hcut7
    have HO134 := Aside0.mk (show Kd.V k63 63 _ w.heap.size _ (.slice A0 y130.length c0) y130 from Kd.V_mk (by omega) hr7)
    have HC134 := Aside0.mk (show y130.length ≤ c0 from by omega)
    clear hr7 hC7 hroom7 hi07 hsz7
    have KY7 := Aside0.mk hy7
    clear hy7
    replace q7 := eq_true q7
    go_enter Try.func43, Try.ntmps43
    go_wp2_with (first | ((with_reducible refine gate_dst (N := 12) rfl ?_); refine Kd.N_lit (Kd.slice 63 k63) _ 26 ?hg (N' := 12) ?hd (xs := ([] : List (List (S63)))) (inner := []) (ok := (fun k_ => (P0_ k_ ∨ w.heap.size ≤ k_))) (okp := (fun k_ => (P0_ k_ ∨ w.heap.size ≤ k_))) ?hr ?hp (fun _ hk => hk) ((show ∀ k_, w.heap.size ≤ k_ → (fun k_ => (P0_ k_ ∨ w.heap.size ≤ k_)) k_ from fun k_ hk => (.inr (Nat.le_trans (below_size bw) hk))) _ (Nat.le_refl _)) (Below.refl _ _) (Nat.le_refl _) (by simp) ?_; (case hd => rfl); (case hg => rfl); (case hr => first | (go_simp; done) | (go_simp; rfl)); (case hp => exact (Reps.none _ _)); intro v136 w8 ho9 hb hg_ hnew_; clear hg_ hnew_; (first | rw [← Ny135.out] at ho9 | (simp only [Int.reduceToNat] at ho9; rw [← Ny135.out] at ho9)); have n0_ := Aside0.mk (Kd.V_elder' (by (with_reducible repeat (first | apply Kd.V_alloc | apply Kd.V_drewN | apply Kd.V_drew)); exact HO0.out) (Kd.N_base ho9) hb); have n1_ := Aside0.mk (Kd.V_elder' (by (with_reducible repeat (first | apply Kd.V_alloc | apply Kd.V_drewN | apply Kd.V_drew)); exact HO134.out) (Kd.N_base ho9) hb); have n2_ := Aside0.mk (Kd.N_lower ho9 (below_size bw)); have n3_ := Aside0.mk (below_step bw hb); clear HO0; clear HO134; clear HB; have HO0 := n0_; have HO134 := n1_; have HO137 := n2_; have HB := n3_; clear n0_ n1_ n2_ n3_; clear hb ho9; have p138 : 0 ≤ ((ji2) : Int) := of_decide_eq_true (by first | (with_reducible assumption) | assumption); have q138 : (ji2) < (l0.length : Int) := of_decide_eq_true (by first | (with_reducible assumption) | assumption); obtain ⟨ad138, e138, hx138_0, hx138_1, hx138_2, hx138_3, hx138_4, hx138_5, hx138_6⟩ := at_T63 (Kd.V_reads' HO0.out).2.2 (ji2) p138 q138; cases e138; replace p138 := eq_true p138; replace q138 := eq_true q138) | ((with_reducible refine at_fn (f := 74) rfl ?_); refine goesL_ (some 20) rfl rfl Try.func74 (by kernel_rfl) rfl #[.int .i64 ((rd_T63 l0 (ji2)).f0)] rfl (by (try simp only [List.map_toArray, List.map_cons, List.map_nil]); first | done | (simp only [hji2]; rfl) | rfl | (simp only [List.length_drop, List.length_take]; rfl)) ?_; (with_reducible refine (spec_l5Arity.calls k ((rd_T63 l0 (ji2)).f0) t139 _ A6.out).mono ?_); rintro e w' ⟨rfl, ⟨nd, rfl⟩⟩; refine ⟨_, rfl, ?_⟩))
    go_loopg [3, 4, 5] k (fun kq v3 v4 v5 w' => ∃ (x3_1 : List (S63)) (x4_1 : List (List (S63))) (x5_1 : Int), v5 = .int .i64 x5_1 ∧ Aside0 (spec_l5Kids.l0 kq x3_1 x4_1 x5_1 = some r) ∧ Aside0 (kq ≤ k) ∧ Aside0 (Kd.V k63 63 w' w.heap.size (fun k_ => (P0_ k_ ∨ w.heap.size ≤ k_) ∧ some k_ ≠ (v4 : Value).ownBlock) v3 x3_1) ∧ Aside0 (Kd.N (Kd.slice 63 k63) 26 w' w.heap.size (fun k_ => (P0_ k_ ∨ w.heap.size ≤ k_)) v4 x4_1) ∧ Aside0 (Below w.heap.size w w'))
    case atStart => exact ⟨(y130), (y135), (t139), (by first | rfl | (simp; done) | (simp [*]; done)), H', ⟨Nat.le_refl _⟩, ⟨by (with_reducible repeat (first | apply Kd.V_alloc | apply Kd.V_drewN | apply Kd.V_drew)); exact HO134.out⟩, ⟨by (with_reducible repeat (first | apply Kd.N_alloc | apply Kd.N_drewN | apply Kd.N_drew)); exact HO137.out⟩, ⟨bw⟩⟩
    case round =>
     clear H'
     try clear p1
     try clear q1
     try clear hx1
     try clear p2
     try clear c3
     try clear c3b0
     try clear c3b1
     try clear c4
     try clear c4b0
     try clear c4b1
     try clear c5
     try clear c5b0
     try clear p6
     try clear c7
     try clear q7
     try clear hx138_0
     try clear hx138_1
     try clear hx138_2
     try clear hx138_3
     try clear hx138_4
     try clear hx138_5
     try clear hx138_6
     try clear p138
     try clear q138
     try clear q7
     obtain ⟨x3_1, x4_1, x5_1, rfl, HA, HK1, HO_3, HO_4, HB⟩ := hrel
     cases gk with
     | zero => exact absurd HA.out (by simp [spec_l5Kids.l0])
     | succ k1 =>
      have H := HA.out
      clear HA
      simp only [spec_l5Kids.l0] at H
      by_cases c10 : x5_1 > 0
      ·rw [if_pos c10] at H
       have c10b0 : decide (0 < x5_1) = true := decide_eq_true c10
       clear c10
       replace H := Option.bind_eq_some_iff.mp H
       obtain ⟨t140, A110, H⟩ := H
       replace H : (if 0 ≤ t140 then (if t140 ≤ (x3_1.length : Int) then ((some (([(x3_1.drop (t140 : Int).toNat)] : List (List (S63))) : List (List (S63)))).bind fun y146 => (if y146.length + x4_1.length < 5864062014805 then (spec_l5Kids.l0 k1 (x3_1.take (t140 : Int).toNat) (y146 ++ x4_1) (wrap64 (x5_1 - 1))) else (none))) else (none)) else (none)) = some r := H
       have A11 := Aside0.mk A110
       clear A110
       by_cases c12 : 0 ≤ t140
       ·rw [if_pos c12] at H
        have c12b0 := eq_true c12
        have c12b1 : decide (0 ≤ t140) = true := decide_eq_true c12
        clear c12
        by_cases c13 : t140 ≤ (x3_1.length : Int)
        ·rw [if_pos c13] at H
         have c13b0 := eq_true c13
         have c13b1 : decide (t140 ≤ (x3_1.length : Int)) = true := decide_eq_true c13
         clear c13
         obtain ⟨y141, hy141⟩ : ∃ y_ : List (S63), y_ = (x3_1.drop (t140 : Int).toNat) := ⟨_, rfl⟩
         replace H : ((some (([y141] : List (List (S63))) : List (List (S63)))).bind fun y146 => (if y146.length + x4_1.length < 5864062014805 then (spec_l5Kids.l0 k1 (x3_1.take (t140 : Int).toNat) (y146 ++ x4_1) (wrap64 (x5_1 - 1))) else (none))) = some r := by first | (rw [hy141]; with_reducible exact H) | (have H2_ := (Option.bind_some _ _).symm.trans H; rw [hy141]; with_reducible exact H2_) | (have H2_ := (Option.bind_some _ _).symm.trans H; with_reducible exact H2_) | with_reducible exact H | (rw [hy141]; exact H) | exact H
         have Ny141 := Aside0.mk hy141
         clear hy141
         obtain ⟨y146, hy146⟩ : ∃ y_ : List (List (S63)), y_ = (([y141] : List (List (S63)))) := ⟨_, rfl⟩
         replace H : (if y146.length + x4_1.length < 5864062014805 then (spec_l5Kids.l0 k1 (x3_1.take (t140 : Int).toNat) (y146 ++ x4_1) (wrap64 (x5_1 - 1))) else (none)) = some r := by first | (rw [hy146]; with_reducible exact H) | (have H2_ := (Option.bind_some _ _).symm.trans H; rw [hy146]; with_reducible exact H2_) | (have H2_ := (Option.bind_some _ _).symm.trans H; with_reducible exact H2_) | with_reducible exact H | (rw [hy146]; exact H) | exact H
         have Ny146 := Aside0.mk hy146
         clear hy146
         by_cases c14 : y146.length + x4_1.length < 5864062014805
         ·rw [if_pos c14] at H
          have LMc14 := Aside0.mk c14
          clear c14
          obtain ⟨y149, hy149⟩ : ∃ y_ : List (List (S63)), y_ = (y146 ++ x4_1) := ⟨_, rfl⟩
          replace H : (spec_l5Kids.l0 k1 (x3_1.take (t140 : Int).toNat) y149 (wrap64 (x5_1 - 1))) = some r := by first | (rw [hy149]; with_reducible exact H) | (have H2_ := (Option.bind_some _ _).symm.trans H; rw [hy149]; with_reducible exact H2_) | (have H2_ := (Option.bind_some _ _).symm.trans H; with_reducible exact H2_) | with_reducible exact H | (rw [hy149]; exact H) | exact H
          have Ny149 := Aside0.mk hy149
          clear hy149
          have c15b0 := eq_true (of_decide_eq_true (by first | (with_reducible assumption) | assumption) : 0 ≤ t140)
          have c16b0 := eq_true (of_decide_eq_true (by first | (with_reducible assumption) | assumption) : t140 ≤ (x3_1.length : Int))
          obtain ⟨y152, hy152⟩ : ∃ y_ : List (S63), y_ = (x3_1.take (t140 : Int).toNat) := ⟨_, rfl⟩
          replace H : (spec_l5Kids.l0 k1 y152 y149 (wrap64 (x5_1 - 1))) = some r := by first | (rw [hy152]; with_reducible exact H) | (have H2_ := (Option.bind_some _ _).symm.trans H; rw [hy152]; with_reducible exact H2_) | (have H2_ := (Option.bind_some _ _).symm.trans H; with_reducible exact H2_) | with_reducible exact H | (rw [hy152]; exact H) | exact H
          have Ny152 := Aside0.mk hy152
          clear hy152
          have H' := Aside0.mk H
          clear H
          obtain ⟨Ao17, co17, eo17⟩ := Kd.V_slice HO_3.out
          subst eo17
          go_wp2_with (first | ((with_reducible refine at_fn (f := 72) rfl ?_); refine goesL_ (some 26) rfl rfl Try.func72 (by kernel_rfl) rfl #[.slice Ao17 x3_1.length co17] rfl (by (try simp only [List.map_toArray, List.map_cons, List.map_nil]); first | done | rfl | (simp only [List.length_drop, List.length_take]; rfl)) ?_; (with_reducible refine (spec_l5From.calls k1 _ _ x3_1 t140 _ ?side1 ?side2 A11.out).mono ?_); (case side1 => repeat (first | exact (Kd.V_reads' HO_3.out).2.2 | (with_reducible refine Kd.C_alloc ?_ _) | (with_reducible refine Kd.C_drewN ?_ _) | (with_reducible refine Kd.C_drew ?_))); (case side2 => exact (Kd.V_reads' HO_3.out).2.1); rintro e w' ⟨rfl, ⟨nd, rfl⟩⟩; refine ⟨_, rfl, ?_⟩; have q18 : (t140 : Int) ≤ ((x3_1.length : Int) : Int) := of_decide_eq_true (by first | (with_reducible assumption) | assumption); obtain ⟨i018, hi018, _, hsz18, _⟩ := info_parts info63; have hroom18 : x3_1.length ≤ co17 := (Kd.V_reads' HO_3.out).2.1; have hC18 : Kd.F k63 _ _ Ao17 x3_1.length x3_1 := (Kd.V_at (base := w.heap.size) HO_3.out).2.2; have q018 : (0 : Int) ≤ (t140 : Int) := of_decide_eq_true (by first | (with_reducible assumption) | assumption); have hcut18 := cut_from (P := Try.prog) 26 63 .i64 Try.underlying26 hi018 7 hsz18 Ao17 x3_1.length co17 t140 q018 q18; have hr18 := Kd.F_cut (m := (t140 : Int).toNat) (c := co17) hC18 (by omega) hroom18; obtain ⟨A18, hA18⟩ : ∃ A1, A1 = (if co17 = (t140 : Int).toNat then Ao17 else (Ao17 : Option Addr).map (·.add ((t140 : Int).toNat * 7))) := ⟨_, rfl⟩; obtain ⟨c18, hc18⟩ : ∃ c1, c1 = co17 - (t140 : Int).toNat := ⟨_, rfl⟩; have hy18 : y141.length = x3_1.length - (t140 : Int).toNat := (by rw [Ny141.out, List.length_drop] <;> omega); rw [show (x3_1).drop (t140 : Int).toNat = y141 from Ny141.out.symm] at hr18; replace hr18 : Kd.F k63 _ _ A18 y141.length y141 := (by rw [hA18]; exact hr18); rw [← hy18, ← hA18, ← hc18] at hcut18; have HO145 := Aside0.mk (show Kd.V k63 63 _ w.heap.size _ (.slice A18 y141.length c18) y141 from Kd.V_mk (by rw [hy18, hc18]; exact Nat.sub_le_sub_right hroom18 _) hr18); have HC145 := Aside0.mk (show y141.length ≤ c18 from by rw [hy18, hc18]; exact Nat.sub_le_sub_right hroom18 _); clear hr18 hC18 hroom18 hi018 hsz18 hc18; have KY18 := Aside0.mk hy18; have KA18 := Aside0.mk hA18; clear hy18 hA18; replace q18 := eq_true q18) | ((with_reducible refine gate_dst (N := 30) rfl ?_); refine Kd.N_lit (Kd.slice 63 k63) _ 26 ?hg (N' := 30) ?hd (xs := ([y141] : List (List (S63)))) (inner := [.slice A18 y141.length c18]) (ok := (fun k_ => (P0_ k_ ∨ w.heap.size ≤ k_) ∧ some k_ ≠ (u4 : Value).ownBlock)) (okp := (fun k_ => (P0_ k_ ∨ w.heap.size ≤ k_) ∧ some k_ ≠ (u4 : Value).ownBlock)) ?hr ?hp (fun _ hk => hk) ((show ∀ k_, wr.heap.size ≤ k_ → (fun k_ => (P0_ k_ ∨ w.heap.size ≤ k_) ∧ some k_ ≠ (u4 : Value).ownBlock) k_ from fun k_ hk => ⟨(.inr (Nat.le_trans (below_size bw) hk)), Kd.fresh' (Kd.N_lt (by (with_reducible repeat (first | apply Kd.N_alloc | apply Kd.N_drewN | apply Kd.N_drew)); exact HO_4.out)) k_ hk⟩) _ (Nat.le_refl _)) (Below.refl _ _) (Nat.le_refl _) (by simp) ?_; (case hd => rfl); (case hg => rfl); (case hr => first | (go_simp; done) | (go_simp; rfl)); (case hp => have HV_ := Kd.V_drewN HO145.out nd; exact (Reps.one (show Kd.FK (Kd.slice 63 k63) _ _ y141 [.slice A18 y141.length c18] from (Kd.FK_slice_mk (Kd.V_reads' (Kd.V_mono (ok' := (fun k_ => (P0_ k_ ∨ w.heap.size ≤ k_) ∧ some k_ ≠ (u4 : Value).ownBlock)) HV_ (fun k_ hk => ⟨hk.1, hk.2⟩))).2.1 (Kd.V_F (Kd.V_mono (ok' := (fun k_ => (P0_ k_ ∨ w.heap.size ≤ k_) ∧ some k_ ≠ (u4 : Value).ownBlock)) HV_ (fun k_ hk => ⟨hk.1, hk.2⟩))))) (Reps.none _ _))); intro v147 w19 ho20 hb hg_ hnew_; clear hg_ hnew_; (first | rw [← Ny146.out] at ho20 | (simp only [Int.reduceToNat] at ho20; rw [← Ny146.out] at ho20)); have n0_ := Aside0.mk (Kd.V_elder' (by (with_reducible repeat (first | apply Kd.V_alloc | apply Kd.V_drewN | apply Kd.V_drew)); exact HO_3.out) (Kd.N_base ho20) hb); have n1_ := Aside0.mk (Kd.N_elder' (by (with_reducible repeat (first | apply Kd.N_alloc | apply Kd.N_drewN | apply Kd.N_drew)); exact HO_4.out) (Kd.N_base ho20) hb); have n2_ := Aside0.mk (Kd.V_elder' (by (with_reducible repeat (first | apply Kd.V_alloc | apply Kd.V_drewN | apply Kd.V_drew)); exact HO145.out) (Kd.N_base ho20) hb); have n3_ := Aside0.mk (Kd.N_lower ho20 (below_size bw)); have n4_ := Aside0.mk (below_step bw hb); clear HO_3; clear HO_4; clear HO145; clear HB; have HO_3 := n0_; have HO_4 := n1_; have HO145 := n2_; have HO148 := n3_; have HB := n4_; clear n0_ n1_ n2_ n3_ n4_; clear hb ho20; obtain ⟨Ao22, co22, eo22⟩ := Kd.N_slice HO_4.out; subst eo22) | ((with_reducible refine gate_builtin (b := .append) (xs := #[.tmp 30, .tmp 31]) rfl ?_); at_builtin; refine Kd.N_append_rows (Kd.slice 63 k63) (w0 := w) w.heap.size rfl (.tmp 30) (.tmp 31) 76 26 (.slice none 0 0) 24 rfl Try.underlying76 info26 rfl (by decide) (by omega) v147 y146 x4_1 _ _ _ (fun k_ => (P0_ k_ ∨ w.heap.size ≤ k_)) (fun k_ => ((fun k_ => (P0_ k_ ∨ w.heap.size ≤ k_))) k_ ∧ some k_ ≠ (v147 : Value).ownBlock) rfl rfl ?aO ?aR (fun _ hk => hk) ?aF ?aB ?aS ?aL ?_; (case aR => exact (by skip; exact Kd.N_F (Kd.N_mono (ok' := (fun k_ => ((fun k_ => (P0_ k_ ∨ w.heap.size ≤ k_))) k_ ∧ some k_ ≠ (v147 : Value).ownBlock)) (HO_4.out) (fun k_ hk => ⟨hk.1, hk.2⟩)))); (case aB => exact bw); (case aF => exact (fun k_ hk => (.inr (Nat.le_trans (below_size bw) hk)))); (case aO => exact (by (with_reducible repeat (first | apply Kd.N_alloc | apply Kd.N_drewN | apply Kd.N_drew)); exact Kd.N_mono HO148.out (fun _ hk => hk.1))); (case aS => exact (below_size bw)); (case aL => have := LMc14.out; omega); intro v150 w21 ho hb hg hat; rw [← Ny149.out] at ho; have n0_ := Aside0.mk (Kd.V_afterv (ok := (fun k_ => (P0_ k_ ∨ w.heap.size ≤ k_) ∧ some k_ ≠ (.slice Ao22 x4_1.length co22 : Value).ownBlock)) (by (with_reducible repeat (first | apply Kd.V_alloc | apply Kd.V_drewN | apply Kd.V_drew)); exact HO_3.out) hg hat); have n1_ := Aside0.mk (Kd.N_afterv (ok := (fun k_ => (P0_ k_ ∨ w.heap.size ≤ k_))) (by (with_reducible repeat (first | apply Kd.N_alloc | apply Kd.N_drewN | apply Kd.N_drew)); exact HO_4.out) hg hat); have n2_ := Aside0.mk (Kd.V_afterv (ok := (fun k_ => (P0_ k_ ∨ w.heap.size ≤ k_) ∧ some k_ ≠ (.slice Ao22 x4_1.length co22 : Value).ownBlock)) (by (with_reducible repeat (first | apply Kd.V_alloc | apply Kd.V_drewN | apply Kd.V_drew)); exact HO145.out) hg hat); have n3_ := Aside0.mk (hb); have n4_ := Aside0.mk (ho); clear HO_3; clear HO_4; clear HO145; clear HB; clear HO148; have HO_3 := n0_; have HO_4 := n1_; have HO145 := n2_; have HB := n3_; have HO151 := n4_; clear n0_ n1_ n2_ n3_ n4_; clear ho hb hg hat; have q23 : (t140 : Int) ≤ ((x3_1.length : Int) : Int) := of_decide_eq_true (by first | (with_reducible assumption) | assumption); obtain ⟨i023, hi023, _, hsz23, _⟩ := info_parts info63; have hroom23 : x3_1.length ≤ co17 := (Kd.V_reads' HO_3.out).2.1; have hC23 : Kd.F k63 _ _ Ao17 x3_1.length x3_1 := (Kd.V_at (base := w.heap.size) HO_3.out).2.2; have hcut23 := cut_to (P := Try.prog) 26 63 .i64 Try.underlying26 hi023 Ao17 x3_1.length co17 t140 (of_decide_eq_true (by first | (with_reducible assumption) | assumption)) q23 hroom23; have hr23 := Kd.F_take (m := (t140 : Int).toNat) hC23 (by omega); have hy23 : y152.length = (t140 : Int).toNat := (by rw [Ny152.out, List.length_take]; omega); rw [← Ny152.out] at hr23; rw [← hy23] at hcut23; have HO156 := Aside0.mk (show Kd.V k63 63 _ w.heap.size _ (.slice Ao17 y152.length co17) y152 from Kd.V_mk (by omega) hr23); have HC156 := Aside0.mk (show y152.length ≤ co17 from by omega); clear hr23 hC23 hroom23 hi023 hsz23; have KY23 := Aside0.mk hy23; clear hy23; replace q23 := eq_true q23))
          go_roundg k1
          case measure => have := HK1.out; omega
          case rel => exact ⟨(y152), (y149), (wrap64 (x5_1 - 1)), (by first | rfl | (simp; done) | (simp [*]; done)), H', ⟨by have := HK1.out; omega⟩, ⟨by (with_reducible repeat (first | apply Kd.V_alloc | apply Kd.V_drewN | apply Kd.V_drew)); exact Kd.V_mono HO156.out (fun _ hk => ⟨hk.1.1, hk.2⟩)⟩, ⟨by (with_reducible repeat (first | apply Kd.N_alloc | apply Kd.N_drewN | apply Kd.N_drew)); exact HO151.out⟩, ⟨bw⟩⟩
         ·rw [if_neg c14] at H
          exact absurd H (by simp)
        ·rw [if_neg c13] at H
         exact absurd H (by simp)
       ·rw [if_neg c12] at H
        exact absurd H (by simp)
      ·rw [if_neg c10] at H
       have c10b0 : decide (0 < x5_1) = false := decide_eq_false c10
       clear c10
       obtain rfl := Option.some.inj H
       go_wp2
       go_ret
       exact ⟨_, by first | rfl | (simp [errW_none, errW_some] <;> rfl) | (simp only [← hji2]; first | rfl | (simp [errW_none, errW_some] <;> rfl)) | (simp [*, errW_none, errW_some] <;> rfl), by (with_reducible repeat (first | apply Kd.N_alloc | apply Kd.N_drewN | apply Kd.N_drew)); exact HO_4.out, bw⟩
   ·rw [if_neg c5] at H
    exact absurd H (by simp)
  ·rw [if_neg c4] at H
   exact absurd H (by simp)
 ·rw [if_neg c3] at H
  exact absurd H (by simp)

end Go.Proofs.Ytpfehkkfakofaaa.Q

namespace Go.Proofs.Ytpfehkkfakofaaa.Q
open Go.RowKit Go.Proofs.YtpfehkkfakofaaaW.PrintWords Go.Proofs.YtpfehkkfakofaaaW.PrintLast Go.Proofs.YtpfehkkfakofaaaW.PrintMore
set_option linter.unusedVariables false
set_option linter.unusedSimpArgs false

/-! ### spec_l5Top: function 44 -/
def spec_l5Top.f (l0 : List (S63)) : Option (Int) := if 0 ≤ (wrap64 ((l0.length : Int) - 1)) then (if (wrap64 ((l0.length : Int) - 1)) < (l0.length : Int) then (some ((rd_T63 l0 (wrap64 ((l0.length : Int) - 1))).f0)) else (none)) else (none)
set_option maxHeartbeats 8000000 in
set_option maxRecDepth 100000 in
theorem spec_l5Top.calls (A0 : Option Addr) (c0 : Nat) (l0 : List (S63)) (r : Int) (w : World) (hr0 : Kd.C k63 w A0 l0.length l0) (hc0 : l0.length ≤ c0) (h : spec_l5Top.f l0 = some r) :
  Calls Try.prog 44 #[.slice A0 l0.length c0] w fun e w' => e = .returned (.int .i64 r) ∧ Drawn0 w w' := by
 have HR0 := Aside0.mk hr0
 have HC0 := Aside0.mk hc0
 clear hr0 hc0
 have H : (if 0 ≤ (wrap64 ((l0.length : Int) - 1)) then (if (wrap64 ((l0.length : Int) - 1)) < (l0.length : Int) then (some ((rd_T63 l0 (wrap64 ((l0.length : Int) - 1))).f0)) else (none)) else (none)) = some r := h
 clear h
 obtain ⟨ji2, hji2⟩ : ∃ j_ : Int, (wrap64 ((l0.length : Int) - 1)) = j_ := ⟨_, rfl⟩
 replace H : (if 0 ≤ (ji2) then (if (ji2) < (l0.length : Int) then (some ((rd_T63 l0 (ji2)).f0)) else (none)) else (none)) = some r := by first | (rw [hji2] at H; exact H) | (simp only [hji2] at H ⊢; exact H)
 have hji2w : (IntKind.i64.wrap ((l0.length : Int) - 1)) = ji2 := (i64_w _).trans hji2
 by_cases c3 : 0 ≤ (ji2)
 ·rw [if_pos c3] at H
  have c3b0 : decide (0 ≤ (ji2)) = true := decide_eq_true c3
  clear c3
  by_cases c4 : (ji2) < (l0.length : Int)
  ·rw [if_pos c4] at H
   have c4b0 : decide ((ji2) < (l0.length : Int)) = true := decide_eq_true c4
   clear c4
   obtain rfl := Option.some.inj H
   have p157 : 0 ≤ ((ji2) : Int) := of_decide_eq_true (by first | (with_reducible assumption) | assumption)
   have q157 : (ji2) < (l0.length : Int) := of_decide_eq_true (by first | (with_reducible assumption) | assumption)
   obtain ⟨ad157, e157, hx157_0, hx157_1, hx157_2, hx157_3, hx157_4, hx157_5, hx157_6⟩ := at_T63 HR0.out (ji2) p157 q157
   cases e157
   replace p157 := eq_true p157
   replace q157 := eq_true q157
   go_enter Try.func44, Try.ntmps44
   go_wp2
   go_ret
   exact ⟨by first | rfl | (simp; done) | (simp only [← hji2] <;> (first | rfl | simp)) | (simp [*]; done), by repeat (first | exact Drawn0.refl _ | apply Drawn0.step)⟩
  ·rw [if_neg c4] at H
   exact absurd H (by simp)
 ·rw [if_neg c3] at H
  exact absurd H (by simp)

end Go.Proofs.Ytpfehkkfakofaaa.Q

namespace Go.Proofs.Ytpfehkkfakofaaa.Q
open Go.RowKit Go.Proofs.YtpfehkkfakofaaaW.PrintWords Go.Proofs.YtpfehkkfakofaaaW.PrintLast Go.Proofs.YtpfehkkfakofaaaW.PrintMore
set_option linter.unusedVariables false
set_option linter.unusedSimpArgs false

/-! ### spec_l5Strength: function 86 -/
def spec_l5Strength.f (a0 : Int) : Option (Int) := if a0 = 15 then (some 1) else (if a0 = 14 then (some 2) else (some 3))
set_option maxHeartbeats 8000000 in
set_option maxRecDepth 100000 in
theorem spec_l5Strength.calls (a0 : Int) (r : Int) (w : World) (h : spec_l5Strength.f a0 = some r) :
  Calls Try.prog 86 #[.int .i64 a0] w fun e w' => e = .returned (.int .i64 r) ∧ Drawn0 w w' := by
 have H : (if a0 = 15 then (some 1) else (if a0 = 14 then (some 2) else (some 3))) = some r := h
 clear h
 by_cases c2 : a0 = 15
 ·rw [if_pos c2] at H
  have c2b0 : (a0 == 15) = true := beq_iff_eq.mpr c2
  have c2b1 : (a0 != 15) = false := bne_eq_false_iff_eq.mpr c2
  clear c2
  obtain rfl := Option.some.inj H
  go_enter Try.func86, Try.ntmps86
  go_wp2
  go_ret
  exact ⟨by first | rfl | (simp; done) | (simp [*]; done), by repeat (first | exact Drawn0.refl _ | apply Drawn0.step)⟩
 ·rw [if_neg c2] at H
  have c2b0 : (a0 == 15) = false := beq_eq_false_iff_ne.mpr c2
  have c2b1 : (a0 != 15) = true := bne_iff_ne.mpr c2
  by_cases c3 : a0 = 14
  ·rw [if_pos c3] at H
   have c3b0 : (a0 == 14) = true := beq_iff_eq.mpr c3
   have c3b1 : (a0 != 14) = false := bne_eq_false_iff_eq.mpr c3
   clear c3
   obtain rfl := Option.some.inj H
   go_enter Try.func86, Try.ntmps86
   go_wp2
   go_ret
   exact ⟨by first | rfl | (simp; done) | (simp [*]; done), by repeat (first | exact Drawn0.refl _ | apply Drawn0.step)⟩
  ·rw [if_neg c3] at H
   have c3b0 : (a0 == 14) = false := beq_eq_false_iff_ne.mpr c3
   have c3b1 : (a0 != 14) = true := bne_iff_ne.mpr c3
   obtain rfl := Option.some.inj H
   go_enter Try.func86, Try.ntmps86
   go_wp2
   go_ret
   exact ⟨by first | rfl | (simp; done) | (simp [*]; done), by repeat (first | exact Drawn0.refl _ | apply Drawn0.step)⟩

end Go.Proofs.Ytpfehkkfakofaaa.Q

namespace Go.Proofs.Ytpfehkkfakofaaa.Q
open Go.RowKit Go.Proofs.YtpfehkkfakofaaaW.PrintWords Go.Proofs.YtpfehkkfakofaaaW.PrintLast Go.Proofs.YtpfehkkfakofaaaW.PrintMore
set_option linter.unusedVariables false
set_option linter.unusedSimpArgs false

/-! ### spec_l5Wrapped: function 73 -/
def spec_l5Wrapped.f (a0 : Int) (a1 : Int) (a2 : Int) : Option (Bool) := if a0 = 16 then (some false) else (if a1 = 0 then ((spec_l5Strength.f a2).bind fun t158 => ((spec_l5Strength.f a0).bind fun t159 => (some (decide (t158 < t159))))) else ((spec_l5Strength.f a2).bind fun t160 => ((spec_l5Strength.f a0).bind fun t161 => (some (decide (t160 ≤ t161))))))
set_option maxHeartbeats 8000000 in
set_option maxRecDepth 100000 in
theorem spec_l5Wrapped.calls (a0 : Int) (a1 : Int) (a2 : Int) (r : Bool) (w : World) (h : spec_l5Wrapped.f a0 a1 a2 = some r) :
  Calls Try.prog 73 #[.int .i64 a0, .int .i64 a1, .int .i64 a2] w fun e w' => e = .returned (.bool r) ∧ Drawn0 w w' := by
 have H : (if a0 = 16 then (some false) else (if a1 = 0 then ((spec_l5Strength.f a2).bind fun t158 => ((spec_l5Strength.f a0).bind fun t159 => (some (decide (t158 < t159))))) else ((spec_l5Strength.f a2).bind fun t160 => ((spec_l5Strength.f a0).bind fun t161 => (some (decide (t160 ≤ t161))))))) = some r := h
 clear h
 by_cases c4 : a0 = 16
 ·rw [if_pos c4] at H
  have c4b0 : (a0 == 16) = true := beq_iff_eq.mpr c4
  have c4b1 : (a0 != 16) = false := bne_eq_false_iff_eq.mpr c4
  clear c4
  obtain rfl := Option.some.inj H
  go_enter Try.func73, Try.ntmps73
  go_wp2
  go_ret
  exact ⟨by first | rfl | (simp; done) | (simp [*]; done), by repeat (first | exact Drawn0.refl _ | apply Drawn0.step)⟩
 ·rw [if_neg c4] at H
  have c4b0 : (a0 == 16) = false := beq_eq_false_iff_ne.mpr c4
  have c4b1 : (a0 != 16) = true := bne_iff_ne.mpr c4
  by_cases c5 : a1 = 0
  ·rw [if_pos c5] at H
   have c5b0 : (a1 == 0) = true := beq_iff_eq.mpr c5
   have c5b1 : (a1 != 0) = false := bne_eq_false_iff_eq.mpr c5
   clear c5
   replace H := Option.bind_eq_some_iff.mp H
   obtain ⟨t158, A60, H⟩ := H
   replace H : ((spec_l5Strength.f a0).bind fun t159 => (some (decide (t158 < t159)))) = some r := H
   have A6 := Aside0.mk A60
   clear A60
   replace H := Option.bind_eq_some_iff.mp H
   obtain ⟨t159, A70, H⟩ := H
   replace H : (some (decide (t158 < t159))) = some r := H
   have A7 := Aside0.mk A70
   clear A70
   obtain rfl := Option.some.inj H
   go_enter Try.func73, Try.ntmps73
   go_wp2_with (first | ((with_reducible refine at_fn (f := 86) rfl ?_); refine goesL_ (some 12) rfl rfl Try.func86 (by kernel_rfl) rfl #[.int .i64 a2] rfl (by (try simp only [List.map_toArray, List.map_cons, List.map_nil]); first | done | rfl | (simp only [List.length_drop, List.length_take]; rfl)) ?_; (with_reducible refine (spec_l5Strength.calls a2 t158 _ A6.out).mono ?_); rintro e w' ⟨rfl, ⟨nd, rfl⟩⟩; refine ⟨_, rfl, ?_⟩) | ((with_reducible refine at_fn (f := 86) rfl ?_); refine goesL_ (some 14) rfl rfl Try.func86 (by kernel_rfl) rfl #[.int .i64 a0] rfl (by (try simp only [List.map_toArray, List.map_cons, List.map_nil]); first | done | rfl | (simp only [List.length_drop, List.length_take]; rfl)) ?_; (with_reducible refine (spec_l5Strength.calls a0 t159 _ A7.out).mono ?_); rintro e w' ⟨rfl, ⟨nd, rfl⟩⟩; refine ⟨_, rfl, ?_⟩))
   go_ret
   exact ⟨by first | rfl | (simp; done) | (simp [*]; done), by repeat (first | exact Drawn0.refl _ | apply Drawn0.step)⟩
  ·rw [if_neg c5] at H
   have c5b0 : (a1 == 0) = false := beq_eq_false_iff_ne.mpr c5
   have c5b1 : (a1 != 0) = true := bne_iff_ne.mpr c5
   replace H := Option.bind_eq_some_iff.mp H
   obtain ⟨t160, A80, H⟩ := H
   replace H : ((spec_l5Strength.f a0).bind fun t161 => (some (decide (t160 ≤ t161)))) = some r := H
   have A8 := Aside0.mk A80
   clear A80
   replace H := Option.bind_eq_some_iff.mp H
   obtain ⟨t161, A90, H⟩ := H
   replace H : (some (decide (t160 ≤ t161))) = some r := H
   have A9 := Aside0.mk A90
   clear A90
   obtain rfl := Option.some.inj H
   go_enter Try.func73, Try.ntmps73
   go_wp2_with (first | ((with_reducible refine at_fn (f := 86) rfl ?_); refine goesL_ (some 17) rfl rfl Try.func86 (by kernel_rfl) rfl #[.int .i64 a2] rfl (by (try simp only [List.map_toArray, List.map_cons, List.map_nil]); first | done | rfl | (simp only [List.length_drop, List.length_take]; rfl)) ?_; (with_reducible refine (spec_l5Strength.calls a2 t160 _ A8.out).mono ?_); rintro e w' ⟨rfl, ⟨nd, rfl⟩⟩; refine ⟨_, rfl, ?_⟩) | ((with_reducible refine at_fn (f := 86) rfl ?_); refine goesL_ (some 19) rfl rfl Try.func86 (by kernel_rfl) rfl #[.int .i64 a0] rfl (by (try simp only [List.map_toArray, List.map_cons, List.map_nil]); first | done | rfl | (simp only [List.length_drop, List.length_take]; rfl)) ?_; (with_reducible refine (spec_l5Strength.calls a0 t161 _ A9.out).mono ?_); rintro e w' ⟨rfl, ⟨nd, rfl⟩⟩; refine ⟨_, rfl, ?_⟩))
   go_ret
   exact ⟨by first | rfl | (simp; done) | (simp [*]; done), by repeat (first | exact Drawn0.refl _ | apply Drawn0.step)⟩

end Go.Proofs.Ytpfehkkfakofaaa.Q

namespace Go.Proofs.Ytpfehkkfakofaaa.Q
open Go.RowKit Go.Proofs.YtpfehkkfakofaaaW.PrintWords Go.Proofs.YtpfehkkfakofaaaW.PrintLast Go.Proofs.YtpfehkkfakofaaaW.PrintMore
set_option linter.unusedVariables false
set_option linter.unusedSimpArgs false

/-! ### spec_l5Nest: function 42 -/
mutual
def spec_l5Nest.l0 : Nat → Int → List (List (S63)) → Int → Int → Option (Int)
 | 0, _, _, _, _ => none
 | k + 1, x3, x4, x5, x6 => if x6 < (x4.length : Int) then (if 0 ≤ x6 then ((spec_l5Nest.f k (rd_L6 x4 x6)).bind fun t167 => (if x3 = 16 then (spec_l5Nest.j1 k x3 x4 x5 x6 t167 true) else ((spec_l5Top.f (rd_L6 x4 x6)).bind fun t169 => ((spec_l5Wrapped.f x3 x6 t169).bind fun t170 => (spec_l5Nest.j1 k x3 x4 x5 x6 t167 t170))))) else (none)) else (some x5)
def spec_l5Nest.j1 : Nat → Int → List (List (S63)) → Int → Int → Int → Bool → Option (Int)
 | 0, _, _, _, _, _, _ => none
 | k + 1, x3, x4, x5, x6, x7, x34 => if x34 = true then (spec_l5Nest.j2 k x3 x4 x5 x6 (wrap64 (x7 + 1))) else (spec_l5Nest.j2 k x3 x4 x5 x6 x7)
def spec_l5Nest.j2 : Nat → Int → List (List (S63)) → Int → Int → Int → Option (Int)
 | 0, _, _, _, _, _ => none
 | k + 1, x3, x4, x5, x6, x7 => if x7 > x5 then (spec_l5Nest.l0 k x3 x4 x7 (wrap64 (x6 + 1))) else (spec_l5Nest.l0 k x3 x4 x5 (wrap64 (x6 + 1)))
def spec_l5Nest.f : Nat → List (S63) → Option (Int)
 | 0, _ => none
 | k + 1, l0 => (spec_l5Top.f l0).bind fun t162 => ((spec_l5Kids.f k l0).bind fun t163 => (spec_l5Nest.l0 k t162 t163 0 0))
end
set_option maxHeartbeats 8000000 in
set_option maxRecDepth 100000 in
theorem spec_l5Nest.calls (k : Nat) : ∀ (A0 : Option Addr) (c0 : Nat) (l0 : List (S63)) (r : Int) (w : World) (hr0 : Kd.C k63 w A0 l0.length l0) (hc0 : l0.length ≤ c0) (h : spec_l5Nest.f k l0 = some r),
  Calls Try.prog 42 #[.slice A0 l0.length c0] w fun e w' => e = .returned (.int .i64 r) ∧ Below w.heap.size w w' := by
 induction k using Nat.strongRecOn with
 | _ k ih =>
 intro A0 c0 l0 r w hr0 hc0 h
 cases k with
 | zero => exact absurd h (by simp [spec_l5Nest.f])
 | succ k =>
 simp only [spec_l5Nest.f] at h
 have HR0 := Aside0.mk hr0
 have HC0 := Aside0.mk hc0
 clear hr0 hc0
 have HB := Aside0.mk (Below.refl w.heap.size w)
 have H : ((spec_l5Top.f l0).bind fun t162 => ((spec_l5Kids.f k l0).bind fun t163 => (spec_l5Nest.l0 k t162 t163 0 0))) = some r := h
 clear h
 replace H := Option.bind_eq_some_iff.mp H
 obtain ⟨t162, A20, H⟩ := H
 replace H : ((spec_l5Kids.f k l0).bind fun t163 => (spec_l5Nest.l0 k t162 t163 0 0)) = some r := H
 have A2 := Aside0.mk A20
 clear A20
 replace H := Option.bind_eq_some_iff.mp H
 obtain ⟨t163, A30, H⟩ := H
 replace H : (spec_l5Nest.l0 k t162 t163 0 0) = some r := H
 have A3 := Aside0.mk A30
 clear A30
 have H' := Aside0.mk H
 clear H
 go_enter Try.func42, Try.ntmps42
 go_wp2_with (first | ((with_reducible refine at_fn (f := 44) rfl ?_); refine goesL_ (some 9) rfl rfl Try.func44 (by kernel_rfl) rfl #[.slice A0 l0.length c0] rfl (by (try simp only [List.map_toArray, List.map_cons, List.map_nil]); first | done | rfl | (simp only [List.length_drop, List.length_take]; rfl)) ?_; (with_reducible refine (spec_l5Top.calls _ _ l0 t162 _ ?side1 ?side2 A2.out).mono ?_); (case side1 => repeat (first | exact HR0.out | (with_reducible refine Kd.C_alloc ?_ _) | (with_reducible refine Kd.C_drewN ?_ _) | (with_reducible refine Kd.C_drew ?_))); (case side2 => exact HC0.out); rintro e w' ⟨rfl, ⟨nd, rfl⟩⟩; refine ⟨_, rfl, ?_⟩) | ((with_reducible refine at_fn (f := 43) rfl ?_); refine goesL_ (some 11) rfl rfl Try.func43 (by kernel_rfl) rfl #[.slice A0 l0.length c0] rfl (by (try simp only [List.map_toArray, List.map_cons, List.map_nil]); first | done | rfl | (simp only [List.length_drop, List.length_take]; rfl)) ?_; (with_reducible refine (spec_l5Kids.calls k (fun k_ => k_ < w.heap.size) _ _ l0 t163 _ ?side1 A3.out).mono ?_); (case side1 => exact Kd.V_mk HC0.out (Kd.F_below (Kd.C_F k63_heap HR0.out) bw)); rintro e w4 ⟨v164, rfl, ho0, hb⟩; refine ⟨_, rfl, ?_⟩; have n0_ := Aside0.mk (Kd.N_lower (Kd.N_mono (ok' := fun k_ => True) ho0 (fun k_ hk_ => trivial)) (below_size bw)); have n1_ := Aside0.mk (below_step bw hb); clear HB; have HO165 := n0_; have HB := n1_; clear n0_ n1_; (try clear hb); (try clear hb2); (try clear hk); (try clear hi); (try clear ho0)))
 go_loopg [5, 6] k (fun kq v5 v6 w' => ∃ (x5_1 : Int) (x6_1 : Int), v5 = .int .i64 x5_1 ∧ v6 = .int .i64 x6_1 ∧ Aside0 (spec_l5Nest.l0 kq t162 t163 x5_1 x6_1 = some r) ∧ Aside0 (kq ≤ k) ∧ Aside0 (Kd.N (Kd.slice 63 k63) 26 w' w.heap.size (fun _ => True) v164 t163) ∧ Aside0 (Below w.heap.size w w'))
 case atStart => exact ⟨(0), (0), (by first | rfl | (simp; done) | (simp [*]; done)), (by first | rfl | (simp; done) | (simp [*]; done)), H', ⟨Nat.le_refl _⟩, ⟨by (with_reducible repeat (first | apply Kd.N_alloc | apply Kd.N_drewN | apply Kd.N_drew)); exact HO165.out⟩, ⟨bw⟩⟩
 case round =>
  clear H'
  try clear p2
  try clear c4
  obtain ⟨x5_1, x6_1, rfl, rfl, HA, HK1, HO_4, HB⟩ := hrel
  cases gk with
  | zero => exact absurd HA.out (by simp [spec_l5Nest.l0])
  | succ k1 =>
   have H := HA.out
   clear HA
   simp only [spec_l5Nest.l0] at H
   by_cases c5 : x6_1 < (t163.length : Int)
   ·rw [if_pos c5] at H
    have c5b0 : decide (x6_1 < (t163.length : Int)) = true := decide_eq_true c5
    clear c5
    by_cases c6 : 0 ≤ x6_1
    ·rw [if_pos c6] at H
     have c6b0 : decide (0 ≤ x6_1) = true := decide_eq_true c6
     clear c6
     replace H := Option.bind_eq_some_iff.mp H
     obtain ⟨t167, A70, H⟩ := H
     replace H : (if t162 = 16 then (spec_l5Nest.j1 k1 t162 t163 x5_1 x6_1 t167 true) else ((spec_l5Top.f (rd_L6 t163 x6_1)).bind fun t169 => ((spec_l5Wrapped.f t162 x6_1 t169).bind fun t170 => (spec_l5Nest.j1 k1 t162 t163 x5_1 x6_1 t167 t170)))) = some r := H
     have A7 := Aside0.mk A70
     clear A70
     have HC8 := Aside0.mk H
     clear H
     obtain ⟨Ao9, co9, eo9⟩ := Kd.N_slice HO_4.out
     subst eo9
     have p166 : 0 ≤ (x6_1 : Int) := of_decide_eq_true (by first | (with_reducible assumption) | assumption)
     have q166 : x6_1 < (t163.length : Int) := of_decide_eq_true (by first | (with_reducible assumption) | assumption)
     obtain ⟨ad166, A166_0, c166_0, e166, hx166_0, hl166_0, hi166_0⟩ := at_L6 (Kd.N_reads' HO_4.out).2.2 x6_1 p166 q166
     cases e166
     obtain ⟨ce166, hce166, hMe166, hcc166⟩ := Kd.N_get HO_4.out [] x6_1 p166 (by first | exact q166 | exact of_decide_eq_true (by first | (with_reducible assumption) | assumption) | (have e_ := (Kd.N_reads' HO_4.out).1; omega))
     obtain ⟨ua166_0, uc166_0, rfl, ul166_0, ge166_0⟩ := Kd.FK_slice_open hMe166
     have hv166_0 := hcc166 0 _ rfl
     rw [Nat.add_zero, show ((Kd.slice 63 k63)).sz = 1 from rfl, Nat.mul_one] at hv166_0
     replace hv166_0 := Option.some.inj (hv166_0.symm.trans hx166_0)
     injection hv166_0 with hva_ hvn_ hvc_
     rw [hva_] at ge166_0
     rw [hvc_] at ul166_0
     have HL166_0 := Aside0.mk (show Kd.V k63 63 _ w.heap.size _ _ (rd_L6 t163 x6_1) from Kd.V_mk ul166_0 ge166_0)
     clear hva_ hvn_ hvc_ ge166_0 ul166_0
     clear hcc166 hce166
     have HR166_0 := Aside0.mk hi166_0
     have HC166_0 := Aside0.mk hl166_0
     clear hi166_0 hl166_0
     replace p166 := eq_true p166
     replace q166 := eq_true q166
     go_upto_region 8 with (first | ((with_reducible refine at_fn (f := 42) rfl ?_); refine goesL_ (some 22) rfl rfl Try.func42 (by kernel_rfl) rfl #[.slice A166_0 (rd_L6 t163 x6_1).length c166_0] rfl (by (try simp only [List.map_toArray, List.map_cons, List.map_nil]); first | done | rfl | (simp only [List.length_drop, List.length_take]; rfl)) ?_; (with_reducible refine (ih k1 (by have := HK1.out; omega) _ _ (rd_L6 t163 x6_1) t167 _ ?side1 ?side2 A7.out).mono ?_); (case side1 => repeat (first | exact (by repeat (first | (with_reducible exact HR166_0.out) | (with_reducible refine Kd.C_alloc ?_ _) | (with_reducible refine Kd.C_drewN ?_ _) | (with_reducible refine Kd.C_drew ?_) | exact HR166_0.out)) | (with_reducible refine Kd.C_alloc ?_ _) | (with_reducible refine Kd.C_drewN ?_ _) | (with_reducible refine Kd.C_drew ?_))); (case side2 => exact HC166_0.out); rintro e w10 ⟨rfl, hb⟩; refine ⟨_, rfl, ?_⟩; have n0_ := Aside0.mk (Kd.N_below (by (with_reducible repeat (first | apply Kd.N_alloc | apply Kd.N_drewN | apply Kd.N_drew)); exact HO_4.out) hb); have n1_ := Aside0.mk (Kd.V_below (by (with_reducible repeat (first | apply Kd.V_alloc | apply Kd.V_drewN | apply Kd.V_drew)); exact HL166_0.out) hb); have n2_ := Aside0.mk (Kd.C_below (by repeat (first | (with_reducible exact HR166_0.out) | (with_reducible refine Kd.C_alloc ?_ _) | (with_reducible refine Kd.C_drewN ?_ _) | (with_reducible refine Kd.C_drew ?_) | exact HR166_0.out)) hb); have n3_ := Aside0.mk (below_step bw hb); clear HO_4; clear HL166_0; clear HR166_0; clear HB; have HO_4 := n0_; have HL166_0 := n1_; have HR166_0 := n2_; have HB := n3_; clear n0_ n1_ n2_ n3_; (try clear hb); (try clear hb2); (try clear hk); (try clear hi)))
     (try simp only [Act.put, List.setIfInBounds_toArray, List.set_cons_zero, List.set_cons_succ])
     go_cut [34] (fun v34 wc => ∃ (kq : Nat) (x34_7 : Bool), v34 = .bool x34_7 ∧ Aside0 (spec_l5Nest.j1 kq t162 t163 x5_1 x6_1 t167 x34_7 = some r) ∧ Aside0 (kq ≤ k1) ∧ Aside0 (Kd.N (Kd.slice 63 k63) 26 wc w.heap.size (fun _ => True) (.slice (some ad166) t163.length co9) t163) ∧ Aside0 (Kd.C k63 wc A166_0 (rd_L6 t163 x6_1).length (rd_L6 t163 x6_1)) ∧ Aside0 (Below w.heap.size w wc))
     case first =>
      have H := HC8.out
      clear HC8
      by_cases c11 : t162 = 16
      ·rw [if_pos c11] at H
       have c11b0 : (t162 == 16) = true := beq_iff_eq.mpr c11
       have c11b1 : (t162 != 16) = false := bne_eq_false_iff_eq.mpr c11
       clear c11
       (first | rw [c11b0] | (simp only [i64_w, i32_w]; rw [c11b0]) | skip)
       have H' := Aside0.mk H
       clear H
       go_wp2
       go_meet
       case rel => exact ⟨_, (true), (by first | rfl | (simp; done) | (simp [*]; done)), H', ⟨by have := HK1.out; first | omega | exact Nat.le_refl _⟩, ⟨by (with_reducible repeat (first | apply Kd.N_alloc | apply Kd.N_drewN | apply Kd.N_drew)); exact HO_4.out⟩, ⟨by repeat (first | (with_reducible exact HR166_0.out) | (with_reducible refine Kd.C_alloc ?_ _) | (with_reducible refine Kd.C_drewN ?_ _) | (with_reducible refine Kd.C_drew ?_) | exact HR166_0.out)⟩, ⟨bw⟩⟩
      ·rw [if_neg c11] at H
       have c11b0 : (t162 == 16) = false := beq_eq_false_iff_ne.mpr c11
       have c11b1 : (t162 != 16) = true := bne_iff_ne.mpr c11
       (first | rw [c11b0] | (simp only [i64_w, i32_w]; rw [c11b0]) | skip)
       replace H := Option.bind_eq_some_iff.mp H
       obtain ⟨t169, A120, H⟩ := H
       replace H : ((spec_l5Wrapped.f t162 x6_1 t169).bind fun t170 => (spec_l5Nest.j1 k1 t162 t163 x5_1 x6_1 t167 t170)) = some r := H
       have A12 := Aside0.mk A120
       clear A120
       replace H := Option.bind_eq_some_iff.mp H
       obtain ⟨t170, A130, H⟩ := H
       replace H : (spec_l5Nest.j1 k1 t162 t163 x5_1 x6_1 t167 t170) = some r := H
       have A13 := Aside0.mk A130
       clear A130
       have H' := Aside0.mk H
       clear H
       have p168 : 0 ≤ (x6_1 : Int) := of_decide_eq_true (by first | (with_reducible assumption) | assumption)
       have q168 : x6_1 < (t163.length : Int) := of_decide_eq_true (by first | (with_reducible assumption) | assumption)
       obtain ⟨ad168, A168_0, c168_0, e168, hx168_0, hl168_0, hi168_0⟩ := at_L6 (Kd.N_reads' HO_4.out).2.2 x6_1 p168 q168
       obtain rfl : ad166 = ad168 := (by injection e168)
       obtain ⟨ce168, hce168, hMe168, hcc168⟩ := Kd.N_get HO_4.out [] x6_1 p168 (by first | exact q168 | exact of_decide_eq_true (by first | (with_reducible assumption) | assumption) | (have e_ := (Kd.N_reads' HO_4.out).1; omega))
       obtain ⟨ua168_0, uc168_0, rfl, ul168_0, ge168_0⟩ := Kd.FK_slice_open hMe168
       have hv168_0 := hcc168 0 _ rfl
       rw [Nat.add_zero, show ((Kd.slice 63 k63)).sz = 1 from rfl, Nat.mul_one] at hv168_0
       replace hv168_0 := Option.some.inj (hv168_0.symm.trans hx168_0)
       injection hv168_0 with hva_ hvn_ hvc_
       rw [hva_] at ge168_0
       rw [hvc_] at ul168_0
       have HL168_0 := Aside0.mk (show Kd.V k63 63 _ w.heap.size _ _ (rd_L6 t163 x6_1) from Kd.V_mk ul168_0 ge168_0)
       clear hva_ hvn_ hvc_ ge168_0 ul168_0
       clear hcc168 hce168
       have HR168_0 := Aside0.mk hi168_0
       have HC168_0 := Aside0.mk hl168_0
       clear hi168_0 hl168_0
       replace p168 := eq_true p168
       replace q168 := eq_true q168
       go_wp2_with (first | (go_at_call 44; (with_reducible refine (spec_l5Top.calls _ _ (rd_L6 t163 x6_1) t169 _ ?side1 ?side2 A12.out).mono ?_); (case side1 => repeat (first | exact (by repeat (first | (with_reducible exact HR168_0.out) | (with_reducible refine Kd.C_alloc ?_ _) | (with_reducible refine Kd.C_drewN ?_ _) | (with_reducible refine Kd.C_drew ?_) | exact HR168_0.out)) | (with_reducible refine Kd.C_alloc ?_ _) | (with_reducible refine Kd.C_drewN ?_ _) | (with_reducible refine Kd.C_drew ?_))); (case side2 => exact HC168_0.out); rintro e w' ⟨rfl, ⟨nd, rfl⟩⟩) | (go_at_call 73; (with_reducible refine (spec_l5Wrapped.calls t162 x6_1 t169 t170 _ A13.out).mono ?_); rintro e w' ⟨rfl, ⟨nd, rfl⟩⟩))
       go_meet
       case rel => exact ⟨_, (t170), (by first | rfl | (simp; done) | (simp [*]; done)), H', ⟨by have := HK1.out; first | omega | exact Nat.le_refl _⟩, ⟨by (with_reducible repeat (first | apply Kd.N_alloc | apply Kd.N_drewN | apply Kd.N_drew)); exact HO_4.out⟩, ⟨by repeat (first | (with_reducible exact HR166_0.out) | (with_reducible refine Kd.C_alloc ?_ _) | (with_reducible refine Kd.C_drewN ?_ _) | (with_reducible refine Kd.C_drew ?_) | exact HR166_0.out)⟩, ⟨bw⟩⟩
     case rest =>
      clear HC8
      try clear c1
      try clear p1
      try clear q1
      try clear hx1
      try clear p2
      try clear c4
      try clear c5
      try clear c5b0
      try clear c6
      try clear c6b0
      try clear c11
      try clear c11b0
      try clear c11b1
      try clear hx166_0
      try clear hx168_0
      try clear p166
      try clear p168
      try clear p2
      try clear q166
      try clear q168
      obtain ⟨kq, x34_7, rfl, HA, HJ7, HO_4, HR166_0, HB⟩ := hcut
      cases kq with
      | zero => exact absurd HA.out (by simp [spec_l5Nest.j1])
      | succ kj7 =>
       have H := HA.out
       clear HA
       simp only [spec_l5Nest.j1] at H
       have HC14 := Aside0.mk H
       clear H
       go_upto_if 34 with (fail)
       go_cut [7] (fun v7 wc => ∃ (kq : Nat) (x7_13 : Int), v7 = .int .i64 x7_13 ∧ Aside0 (spec_l5Nest.j2 kq t162 t163 x5_1 x6_1 x7_13 = some r) ∧ Aside0 (kq ≤ kj7) ∧ Aside0 (Kd.N (Kd.slice 63 k63) 26 wc w.heap.size (fun _ => True) (.slice (some ad166) t163.length co9) t163) ∧ Aside0 (Kd.C k63 wc A166_0 (rd_L6 t163 x6_1).length (rd_L6 t163 x6_1)) ∧ Aside0 (Below w.heap.size w wc))
       case first =>
        have H := HC14.out
        clear HC14
        by_cases c15 : x34_7 = true
        ·subst c15
         have H1 : (spec_l5Nest.j2 kj7 t162 t163 x5_1 x6_1 (wrap64 (t167 + 1))) = some r := by rw [if_pos rfl] at H; exact H
         clear H
         have H := H1
         clear H1
         have H' := Aside0.mk H
         clear H
         go_wp2
         go_meet
         case rel => exact ⟨_, (wrap64 (t167 + 1)), (by first | rfl | (simp; done) | (simp [*]; done)), H', ⟨by have := HK1.out; have := HJ7.out; first | omega | exact Nat.le_refl _⟩, ⟨by (with_reducible repeat (first | apply Kd.N_alloc | apply Kd.N_drewN | apply Kd.N_drew)); exact HO_4.out⟩, ⟨by repeat (first | (with_reducible exact HR166_0.out) | (with_reducible refine Kd.C_alloc ?_ _) | (with_reducible refine Kd.C_drewN ?_ _) | (with_reducible refine Kd.C_drew ?_) | exact HR166_0.out)⟩, ⟨bw⟩⟩
        ·replace c15 := Bool.eq_false_iff.mpr c15
         subst c15
         have H1 : (spec_l5Nest.j2 kj7 t162 t163 x5_1 x6_1 t167) = some r := by rw [if_neg (show ¬ (false = true) by decide)] at H; exact H
         clear H
         have H := H1
         clear H1
         have H' := Aside0.mk H
         clear H
         go_wp2
         go_meet
         case rel => exact ⟨_, (t167), (by first | rfl | (simp; done) | (simp [*]; done)), H', ⟨by have := HK1.out; have := HJ7.out; first | omega | exact Nat.le_refl _⟩, ⟨by (with_reducible repeat (first | apply Kd.N_alloc | apply Kd.N_drewN | apply Kd.N_drew)); exact HO_4.out⟩, ⟨by repeat (first | (with_reducible exact HR166_0.out) | (with_reducible refine Kd.C_alloc ?_ _) | (with_reducible refine Kd.C_drewN ?_ _) | (with_reducible refine Kd.C_drew ?_) | exact HR166_0.out)⟩, ⟨bw⟩⟩
       case rest =>
        clear HC14
        try clear c1
        try clear p1
        try clear q1
        try clear hx1
        try clear p2
        try clear c4
        try clear c5
        try clear c5b0
        try clear c6
        try clear c6b0
        try clear p6
        try clear c11
        try clear c11b0
        try clear c11b1
        try clear c15
        try clear hx166_0
        try clear hx168_0
        try clear p1
        try clear p166
        try clear p168
        try clear p2
        try clear q1
        try clear q166
        try clear q168
        obtain ⟨kq, x7_13, rfl, HA, HJ13, HO_4, HR166_0, HB⟩ := hcut
        cases kq with
        | zero => exact absurd HA.out (by simp [spec_l5Nest.j2])
        | succ kj13 =>
         have H := HA.out
         clear HA
         simp only [spec_l5Nest.j2] at H
         by_cases c16 : x7_13 > x5_1
         ·rw [if_pos c16] at H
          have c16b0 : decide (x5_1 < x7_13) = true := decide_eq_true c16
          clear c16
          have H' := Aside0.mk H
          clear H
          go_wp2
          go_roundg kj13
          case measure => have := HK1.out; have := HJ7.out; have := HJ13.out; omega
          case rel => exact ⟨(x7_13), (wrap64 (x6_1 + 1)), (by first | rfl | (simp; done) | (simp [*]; done)), (by first | rfl | (simp; done) | (simp [*]; done)), H', ⟨by have := HK1.out; have := HJ7.out; have := HJ13.out; omega⟩, ⟨by (with_reducible repeat (first | apply Kd.N_alloc | apply Kd.N_drewN | apply Kd.N_drew)); exact HO_4.out⟩, ⟨bw⟩⟩
         ·rw [if_neg c16] at H
          have c16b0 : decide (x5_1 < x7_13) = false := decide_eq_false c16
          clear c16
          have H' := Aside0.mk H
          clear H
          go_wp2
          go_roundg kj13
          case measure => have := HK1.out; have := HJ7.out; have := HJ13.out; omega
          case rel => exact ⟨(x5_1), (wrap64 (x6_1 + 1)), (by first | rfl | (simp; done) | (simp [*]; done)), (by first | rfl | (simp; done) | (simp [*]; done)), H', ⟨by have := HK1.out; have := HJ7.out; have := HJ13.out; omega⟩, ⟨by (with_reducible repeat (first | apply Kd.N_alloc | apply Kd.N_drewN | apply Kd.N_drew)); exact HO_4.out⟩, ⟨bw⟩⟩
    ·rw [if_neg c6] at H
     exact absurd H (by simp)
   ·rw [if_neg c5] at H
    have c5b0 : decide (x6_1 < (t163.length : Int)) = false := decide_eq_false c5
    clear c5
    obtain rfl := Option.some.inj H
    obtain ⟨Ao17, co17, eo17⟩ := Kd.N_slice HO_4.out
    subst eo17
    go_wp2
    go_ret
    exact ⟨by first | rfl | (simp [errW_none, errW_some] <;> rfl) | (simp [*, errW_none, errW_some] <;> rfl), bw⟩

end Go.Proofs.Ytpfehkkfakofaaa.Q

namespace Go.Proofs.Ytpfehkkfakofaaa.Q
open Go.RowKit Go.Proofs.YtpfehkkfakofaaaW.PrintWords Go.Proofs.YtpfehkkfakofaaaW.PrintLast Go.Proofs.YtpfehkkfakofaaaW.PrintMore
set_option linter.unusedVariables false
set_option linter.unusedSimpArgs false

/-! ### spec_ValidFilter: function 18 -/
def spec_ValidFilter.l0 : Nat → Int → List (S63) → Option (Bool)
 | 0, _, _ => none
 | k + 1, x3, x172000 => if x3 < (x172000.length : Int) then (if 0 ≤ x3 then ((spec_l5GoodNode.f k ((rd_T63 x172000 x3).f0) ((rd_T63 x172000 x3).f1) ((rd_T63 x172000 x3).f2) ((rd_T63 x172000 x3).f3) ((rd_T63 x172000 x3).f4) ((rd_T63 x172000 x3).f5) ((rd_T63 x172000 x3).f6)).bind fun t173 => (if t173 = true then (spec_ValidFilter.l0 k (wrap64 (x3 + 1)) x172000) else (some false))) else (none)) else ((spec_l5Tree.f k x172000).bind fun t174 => (if t174 = true then ((spec_l5Nest.f k x172000).bind fun t175 => (some (decide (t175 ≤ 20)))) else (some false)))
def spec_ValidFilter.f (k : Nat) (l0_0 : List (S63)) : Option (Bool) := if (l0_0.length : Int) > 200 then (some false) else (spec_ValidFilter.l0 k 0 l0_0)
set_option maxHeartbeats 8000000 in
set_option maxRecDepth 100000 in
theorem spec_ValidFilter.calls (k : Nat) (A0_0 : Option Addr) (c0_0 : Nat) (l0_0 : List (S63)) (r : Bool) (w : World) (hr0_0 : Kd.C k63 w A0_0 l0_0.length l0_0) (hc0_0 : l0_0.length ≤ c0_0) (h : spec_ValidFilter.f k l0_0 = some r) :
  Calls Try.prog 18 #[.agg #[.slice A0_0 l0_0.length c0_0]] w fun e w' => e = .returned (.bool r) ∧ Below w.heap.size w w' := by
 have hu28 := Try.underlying28
 have hu63 := Try.underlying63
 have HR0_0 := Aside0.mk hr0_0
 have HC0_0 := Aside0.mk hc0_0
 clear hr0_0 hc0_0
 have HB := Aside0.mk (Below.refl w.heap.size w)
 have H : (if (l0_0.length : Int) > 200 then (some false) else (spec_ValidFilter.l0 k 0 l0_0)) = some r := h
 clear h
 by_cases c2 : (l0_0.length : Int) > 200
 ·rw [if_pos c2] at H
  have c2b0 : decide (200 < (l0_0.length : Int)) = true := decide_eq_true c2
  have c2b1 : decide (200 < l0_0.length) = true := decide_eq_true (by omega)
  clear c2
  obtain rfl := Option.some.inj H
  go_enter Try.func18, Try.ntmps18
  go_wp2_with (first | ((with_reducible refine gate_dst (N := 1) rfl ?_); refine box_event ?hg (N := 1) ?hd (cs := #[.slice A0_0 l0_0.length c0_0]) (t := 28) ?hr ?_; (case hd => rfl); (case hg => rfl); (case hr => first | (go_simp; done) | (go_simp; rfl)); intro gb171 hg w3 hbox hb; have n0_ := Aside0.mk (below_step bw hb); have n1_ := Aside0.mk (hbox); have n2_ := Aside0.mk ((by rw [hg]; exact (below_size bw) : w.heap.size ≤ gb171)); have n3_ := Aside0.mk ((by rw [hg]; exact (below_size bw) : w.heap.size ≤ gb171)); clear HB; have HB := n0_; have BK171 := n1_; have GW171 := n2_; have GE171 := n3_; clear n0_ n1_ n2_ n3_; clear hb hbox hg; have hcz4_0 : w3.cell? ⟨gb171, 0, none⟩ = some (.slice A0_0 l0_0.length c0_0) := (blk_cell BK171.out 0).trans rfl; have hfz4_0 := blk_frozen BK171.out 0))
  go_ret
  exact ⟨by first | rfl | (simp [errW_none, errW_some] <;> rfl) | (simp [*, errW_none, errW_some] <;> rfl), bw⟩
 ·rw [if_neg c2] at H
  have c2b0 : decide (200 < (l0_0.length : Int)) = false := decide_eq_false c2
  have c2b1 : decide (200 < l0_0.length) = false := decide_eq_false (by omega)
  clear c2
  have H' := Aside0.mk H
  clear H
  go_enter Try.func18, Try.ntmps18
  go_wp2_with (first | ((with_reducible refine gate_dst (N := 1) rfl ?_); refine box_event ?hg (N := 1) ?hd (cs := #[.slice A0_0 l0_0.length c0_0]) (t := 28) ?hr ?_; (case hd => rfl); (case hg => rfl); (case hr => first | (go_simp; done) | (go_simp; rfl)); intro gb171 hg w5 hbox hb; have n0_ := Aside0.mk (below_step bw hb); have n1_ := Aside0.mk (hbox); have n2_ := Aside0.mk ((by rw [hg]; exact (below_size bw) : w.heap.size ≤ gb171)); have n3_ := Aside0.mk ((by rw [hg]; exact (below_size bw) : w.heap.size ≤ gb171)); clear HB; have HB := n0_; have BK171 := n1_; have GW171 := n2_; have GE171 := n3_; clear n0_ n1_ n2_ n3_; clear hb hbox hg; have hcz6_0 : w5.cell? ⟨gb171, 0, none⟩ = some (.slice A0_0 l0_0.length c0_0) := (blk_cell BK171.out 0).trans rfl; have hfz6_0 := blk_frozen BK171.out 0))
  go_loopg [3] k (fun kq v3 w' => ∃ (x3_1 : Int), v3 = .int .i64 x3_1 ∧ Aside0 (spec_ValidFilter.l0 kq x3_1 l0_0 = some r) ∧ Aside0 (kq ≤ k) ∧ Aside0 (w'.heap[gb171]? = some (.cells #[(.slice A0_0 l0_0.length c0_0)] 28 (0, 0))) ∧ Aside0 (Below w.heap.size w w'))
  case atStart => exact ⟨(0), (by first | rfl | (simp; done) | (simp [*]; done)), H', ⟨Nat.le_refl _⟩, ⟨lb BK171⟩, ⟨bw⟩⟩
  case round =>
   clear H'
   try clear c1
   try clear c2
   try clear c2b0
   try clear c2b1
   try clear p2
   try clear hcz4_0
   try clear hcz6_0
   try clear hfz4_0
   try clear hfz6_0
   obtain ⟨x3_1, rfl, HA, HK1, BK171, HB⟩ := hrel
   cases gk with
   | zero => exact absurd HA.out (by simp [spec_ValidFilter.l0])
   | succ k1 =>
    have H := HA.out
    clear HA
    simp only [spec_ValidFilter.l0] at H
    by_cases c7 : x3_1 < (l0_0.length : Int)
    ·rw [if_pos c7] at H
     have c7b0 : decide (x3_1 < (l0_0.length : Int)) = true := decide_eq_true c7
     clear c7
     by_cases c8 : 0 ≤ x3_1
     ·rw [if_pos c8] at H
      have c8b0 : decide (0 ≤ x3_1) = true := decide_eq_true c8
      clear c8
      replace H := Option.bind_eq_some_iff.mp H
      obtain ⟨t173, A90, H⟩ := H
      replace H : (if t173 = true then (spec_ValidFilter.l0 k1 (wrap64 (x3_1 + 1)) l0_0) else (some false)) = some r := H
      have A9 := Aside0.mk A90
      clear A90
      by_cases c10 : t173 = true
      ·subst c10
       have H1 : (spec_ValidFilter.l0 k1 (wrap64 (x3_1 + 1)) l0_0) = some r := by rw [if_pos rfl] at H; exact H
       clear H
       have H := H1
       clear H1
       have H' := Aside0.mk H
       clear H
       have hcz11_0 : wr.cell? ⟨gb171, 0, none⟩ = some (.slice A0_0 l0_0.length c0_0) := (blk_cell BK171.out 0).trans rfl
       have hfz11_0 := blk_frozen BK171.out 0
       have p172 : 0 ≤ (x3_1 : Int) := of_decide_eq_true (by first | (with_reducible assumption) | assumption)
       have q172 : x3_1 < (l0_0.length : Int) := of_decide_eq_true (by first | (with_reducible assumption) | assumption)
       obtain ⟨ad172, e172, hx172_0, hx172_1, hx172_2, hx172_3, hx172_4, hx172_5, hx172_6⟩ := at_T63 HR0_0.out x3_1 p172 q172
       cases e172
       replace hx172_0 := (HB.out.cell (World.block_lt_of_cell? w _ hx172_0)).trans hx172_0
       replace hx172_1 := (HB.out.cell (World.block_lt_of_cell? w _ hx172_1)).trans hx172_1
       replace hx172_2 := (HB.out.cell (World.block_lt_of_cell? w _ hx172_2)).trans hx172_2
       replace hx172_3 := (HB.out.cell (World.block_lt_of_cell? w _ hx172_3)).trans hx172_3
       replace hx172_4 := (HB.out.cell (World.block_lt_of_cell? w _ hx172_4)).trans hx172_4
       replace hx172_5 := (HB.out.cell (World.block_lt_of_cell? w _ hx172_5)).trans hx172_5
       replace hx172_6 := (HB.out.cell (World.block_lt_of_cell? w _ hx172_6)).trans hx172_6
       replace p172 := eq_true p172
       replace q172 := eq_true q172
       go_wp2_with (first | ((with_reducible refine at_fn (f := 40) rfl ?_); refine goesL_ (some 20) rfl rfl Try.func40 (by kernel_rfl) rfl #[.agg #[.int .i64 ((rd_T63 l0_0 x3_1).f0), .string ((rd_T63 l0_0 x3_1).f1), .bool ((rd_T63 l0_0 x3_1).f2), .string ((rd_T63 l0_0 x3_1).f3), .int .u64 ((rd_T63 l0_0 x3_1).f4), .int .u64 ((rd_T63 l0_0 x3_1).f5), .int .i64 ((rd_T63 l0_0 x3_1).f6)]] rfl (by (try simp only [List.map_toArray, List.map_cons, List.map_nil]); first | done | rfl | (simp only [List.length_drop, List.length_take]; rfl)) ?_; (with_reducible refine (spec_l5GoodNode.calls k1 ((rd_T63 l0_0 x3_1).f0) ((rd_T63 l0_0 x3_1).f1) ((rd_T63 l0_0 x3_1).f2) ((rd_T63 l0_0 x3_1).f3) ((rd_T63 l0_0 x3_1).f4) ((rd_T63 l0_0 x3_1).f5) ((rd_T63 l0_0 x3_1).f6) true _ A9.out).mono ?_); rintro e w12 ⟨rfl, hb⟩; refine ⟨_, rfl, ?_⟩; have n0_ := Aside0.mk (blk_below (g := gb171) (o := .cells #[.slice (some ad172) l0_0.length c0_0] 28 (0, 0)) (lb BK171) hb); have n1_ := Aside0.mk (below_step bw hb); clear BK171; clear HB; have BK171 := n0_; have HB := n1_; clear n0_ n1_; (try clear hb); (try clear hb2); (try clear hk); (try clear hi)))
       go_roundg k1
       case measure => have := HK1.out; omega
       case rel => exact ⟨(wrap64 (x3_1 + 1)), (by first | rfl | (simp; done) | (simp [*]; done)), H', ⟨by have := HK1.out; omega⟩, ⟨lb BK171⟩, ⟨bw⟩⟩
      ·replace c10 := Bool.eq_false_iff.mpr c10
       subst c10
       have H1 : (some false) = some r := by rw [if_neg (show ¬ (false = true) by decide)] at H; exact H
       clear H
       have H := H1
       clear H1
       obtain rfl := Option.some.inj H
       have hcz13_0 : wr.cell? ⟨gb171, 0, none⟩ = some (.slice A0_0 l0_0.length c0_0) := (blk_cell BK171.out 0).trans rfl
       have hfz13_0 := blk_frozen BK171.out 0
       have p172 : 0 ≤ (x3_1 : Int) := of_decide_eq_true (by first | (with_reducible assumption) | assumption)
       have q172 : x3_1 < (l0_0.length : Int) := of_decide_eq_true (by first | (with_reducible assumption) | assumption)
       obtain ⟨ad172, e172, hx172_0, hx172_1, hx172_2, hx172_3, hx172_4, hx172_5, hx172_6⟩ := at_T63 HR0_0.out x3_1 p172 q172
       cases e172
       replace hx172_0 := (HB.out.cell (World.block_lt_of_cell? w _ hx172_0)).trans hx172_0
       replace hx172_1 := (HB.out.cell (World.block_lt_of_cell? w _ hx172_1)).trans hx172_1
       replace hx172_2 := (HB.out.cell (World.block_lt_of_cell? w _ hx172_2)).trans hx172_2
       replace hx172_3 := (HB.out.cell (World.block_lt_of_cell? w _ hx172_3)).trans hx172_3
       replace hx172_4 := (HB.out.cell (World.block_lt_of_cell? w _ hx172_4)).trans hx172_4
       replace hx172_5 := (HB.out.cell (World.block_lt_of_cell? w _ hx172_5)).trans hx172_5
       replace hx172_6 := (HB.out.cell (World.block_lt_of_cell? w _ hx172_6)).trans hx172_6
       replace p172 := eq_true p172
       replace q172 := eq_true q172
       go_wp2_with (first | ((with_reducible refine at_fn (f := 40) rfl ?_); refine goesL_ (some 20) rfl rfl Try.func40 (by kernel_rfl) rfl #[.agg #[.int .i64 ((rd_T63 l0_0 x3_1).f0), .string ((rd_T63 l0_0 x3_1).f1), .bool ((rd_T63 l0_0 x3_1).f2), .string ((rd_T63 l0_0 x3_1).f3), .int .u64 ((rd_T63 l0_0 x3_1).f4), .int .u64 ((rd_T63 l0_0 x3_1).f5), .int .i64 ((rd_T63 l0_0 x3_1).f6)]] rfl (by (try simp only [List.map_toArray, List.map_cons, List.map_nil]); first | done | rfl | (simp only [List.length_drop, List.length_take]; rfl)) ?_; (with_reducible refine (spec_l5GoodNode.calls k1 ((rd_T63 l0_0 x3_1).f0) ((rd_T63 l0_0 x3_1).f1) ((rd_T63 l0_0 x3_1).f2) ((rd_T63 l0_0 x3_1).f3) ((rd_T63 l0_0 x3_1).f4) ((rd_T63 l0_0 x3_1).f5) ((rd_T63 l0_0 x3_1).f6) false _ A9.out).mono ?_); rintro e w14 ⟨rfl, hb⟩; refine ⟨_, rfl, ?_⟩; have n0_ := Aside0.mk (blk_below (g := gb171) (o := .cells #[.slice (some ad172) l0_0.length c0_0] 28 (0, 0)) (lb BK171) hb); have n1_ := Aside0.mk (below_step bw hb); clear BK171; clear HB; have BK171 := n0_; have HB := n1_; clear n0_ n1_; (try clear hb); (try clear hb2); (try clear hk); (try clear hi)))
       go_ret
       exact ⟨by first | rfl | (simp [errW_none, errW_some] <;> rfl) | (simp [*, errW_none, errW_some] <;> rfl), bw⟩
     ·rw [if_neg c8] at H
      exact absurd H (by simp)
    ·rw [if_neg c7] at H
     have c7b0 : decide (x3_1 < (l0_0.length : Int)) = false := decide_eq_false c7
     clear c7
     replace H := Option.bind_eq_some_iff.mp H
     obtain ⟨t174, A150, H⟩ := H
     replace H : (if t174 = true then ((spec_l5Nest.f k1 l0_0).bind fun t175 => (some (decide (t175 ≤ 20)))) else (some false)) = some r := H
     have A15 := Aside0.mk A150
     clear A150
     by_cases c16 : t174 = true
     ·subst c16
      have H1 : ((spec_l5Nest.f k1 l0_0).bind fun t175 => (some (decide (t175 ≤ 20)))) = some r := by rw [if_pos rfl] at H; exact H
      clear H
      have H := H1
      clear H1
      replace H := Option.bind_eq_some_iff.mp H
      obtain ⟨t175, A170, H⟩ := H
      replace H : (some (decide (t175 ≤ 20))) = some r := H
      have A17 := Aside0.mk A170
      clear A170
      obtain rfl := Option.some.inj H
      have hcz18_0 : wr.cell? ⟨gb171, 0, none⟩ = some (.slice A0_0 l0_0.length c0_0) := (blk_cell BK171.out 0).trans rfl
      have hfz18_0 := blk_frozen BK171.out 0
      go_wp2_with (first | ((with_reducible refine at_fn (f := 41) rfl ?_); refine goesL_ (some 24) rfl rfl Try.func41 (by kernel_rfl) rfl #[.slice A0_0 l0_0.length c0_0] rfl (by (try simp only [List.map_toArray, List.map_cons, List.map_nil]); first | done | rfl | (simp only [List.length_drop, List.length_take]; rfl)) ?_; (with_reducible refine (spec_l5Tree.calls k1 _ _ l0_0 true _ ?side1 ?side2 A15.out).mono ?_); (case side1 => repeat (first | exact (Kd.C_below HR0_0.out HB.out) | (with_reducible refine Kd.C_alloc ?_ _) | (with_reducible refine Kd.C_drewN ?_ _) | (with_reducible refine Kd.C_drew ?_))); (case side2 => exact HC0_0.out); rintro e w' ⟨rfl, ⟨nd, rfl⟩⟩; refine ⟨_, rfl, ?_⟩) | (go_at_call 42; (with_reducible refine (spec_l5Nest.calls k1 _ _ l0_0 t175 _ ?side1 ?side2 A17.out).mono ?_); (case side1 => repeat (first | exact (Kd.C_below HR0_0.out bw) | (with_reducible refine Kd.C_alloc ?_ _) | (with_reducible refine Kd.C_drewN ?_ _) | (with_reducible refine Kd.C_drew ?_))); (case side2 => exact HC0_0.out); rintro e w19 ⟨rfl, hb⟩; have n0_ := Aside0.mk (blk_below (g := gb171) (o := .cells #[.slice A0_0 l0_0.length c0_0] 28 (0, 0)) (lb BK171) hb); have n1_ := Aside0.mk (below_step bw hb); clear BK171; clear HB; have BK171 := n0_; have HB := n1_; clear n0_ n1_; (try clear hb); (try clear hb2); (try clear hk); (try clear hi)))
      go_ret
      exact ⟨by first | rfl | (simp [errW_none, errW_some] <;> rfl) | (simp [*, errW_none, errW_some] <;> rfl), bw⟩
     ·replace c16 := Bool.eq_false_iff.mpr c16
      subst c16
      have H1 : (some false) = some r := by rw [if_neg (show ¬ (false = true) by decide)] at H; exact H
      clear H
      have H := H1
      clear H1
      obtain rfl := Option.some.inj H
      have hcz20_0 : wr.cell? ⟨gb171, 0, none⟩ = some (.slice A0_0 l0_0.length c0_0) := (blk_cell BK171.out 0).trans rfl
      have hfz20_0 := blk_frozen BK171.out 0
      go_wp2_with (first | ((with_reducible refine at_fn (f := 41) rfl ?_); refine goesL_ (some 24) rfl rfl Try.func41 (by kernel_rfl) rfl #[.slice A0_0 l0_0.length c0_0] rfl (by (try simp only [List.map_toArray, List.map_cons, List.map_nil]); first | done | rfl | (simp only [List.length_drop, List.length_take]; rfl)) ?_; (with_reducible refine (spec_l5Tree.calls k1 _ _ l0_0 false _ ?side1 ?side2 A15.out).mono ?_); (case side1 => repeat (first | exact (Kd.C_below HR0_0.out HB.out) | (with_reducible refine Kd.C_alloc ?_ _) | (with_reducible refine Kd.C_drewN ?_ _) | (with_reducible refine Kd.C_drew ?_))); (case side2 => exact HC0_0.out); rintro e w' ⟨rfl, ⟨nd, rfl⟩⟩; refine ⟨_, rfl, ?_⟩))
      go_ret
      exact ⟨by first | rfl | (simp [errW_none, errW_some] <;> rfl) | (simp [*, errW_none, errW_some] <;> rfl), bw⟩

end Go.Proofs.Ytpfehkkfakofaaa.Q

namespace Go.Proofs.Ytpfehkkfakofaaa.Q
open Go.RowKit Go.Proofs.YtpfehkkfakofaaaW.PrintWords Go.Proofs.YtpfehkkfakofaaaW.PrintLast Go.Proofs.YtpfehkkfakofaaaW.PrintMore
set_option linter.unusedVariables false
set_option linter.unusedSimpArgs false
def strT (a : Int) : Int := if a = 15 then 1 else if a = 14 then 2 else 3
def wrapB (op : Int) (i : Int) (kid : Int) : Bool := if op = 16 then false else if i = 0 then decide (strT kid < strT op) else decide (strT kid ≤ strT op)
mutual
def nestT : Tr → Int
  | .node n ks => nestTs n.f0 0 0 ks
def nestTs (op : Int) (i : Nat) (most : Int) : List Tr → Int
  | [] => most
  | t :: ts => nestTs op (i + 1) (max most (nestT t + if op = 16 ∨ wrapB op i t.top.f0 = true then 1 else 0)) ts
end
mutual
theorem nestT_le : ∀ t : Tr, 0 ≤ nestT t ∧ nestT t + 1 ≤ (flatT t).length
  | .node n ks => by
    have h := nestTs_le ks n.f0 0 0 (Int.le_refl _)
    simp only [nestT, flatT, List.length_append, List.length_cons, List.length_nil]
    omega
theorem nestTs_le : ∀ (ts : List Tr) (op : Int) (i : Nat) (most : Int), 0 ≤ most → 0 ≤ nestTs op i most ts ∧ nestTs op i most ts ≤ max most ((flatTs ts).length : Int)
  | [], op, i, most, h => by simp only [nestTs, flatTs, List.length_nil]; omega
  | t :: ts, op, i, most, h => by
    have h1 := nestT_le t
    have h2 := nestTs_le ts op (i + 1) (max most (nestT t + if op = 16 ∨ wrapB op i t.top.f0 = true then 1 else 0)) (by omega)
    simp only [nestTs, flatTs, List.length_append]
    split at h2 <;> (rename_i hc; simp only [hc, if_true, if_false]; omega)
end
/-! where the last tree begins -/
theorem from_loop (ns : List S63) (hn : ns.length ≤ 4611686018427387904) : ∀ (i : Nat) (need : Int), i ≤ ns.length → 0 ≤ need → need + 3 * i ≤ 4611686018427387904 → Ev (fun k => spec_l5From.l0 k ns need i) (scanN need (ns.take i).reverse)
  | 0, need, hi, h0, h1 => by
    by_cases h : need > 0
    · refine Ev.shift 1 fun k => ?_
      simp only [spec_l5From.l0]
      rw [if_pos h, wrap_id _ (by omega) (by omega), if_pos (by omega)]
      simp [scanN, h]
    · refine Ev.shift 1 fun k => ?_
      simp only [spec_l5From.l0]
      rw [if_neg h]
      simp [scanN, h]
  | i + 1, need, hi, h0, h1 => by
    have hlt : i < ns.length := by omega
    by_cases h : need > 0
    · have ht : (ns.take (i + 1)).reverse = ns[i] :: (ns.take i).reverse := by
        rw [List.take_succ_eq_append_getElem hlt]; simp
      have ha := arB_nn ns[i].f0
      have hb := arB_le ns[i].f0
      rw [ht]
      unfold scanN
      rw [if_pos h]
      have ih := from_loop ns hn i (need - 1 + arB ns[i].f0) (by omega) (by omega) (by omega)
      refine Ev.round (f := fun k => (spec_l5Arity.f k ns[i].f0).bind fun a => spec_l5From.l0 k ns (wrap64 ((wrap64 (need - 1)) + a)) i) (fun k => ?_) (Ev.bind (a := arB ns[i].f0) (Ev.shift 1 fun k => ar_spec _ k) ?_)
      · simp only [spec_l5From.l0]
        have e : wrap64 (((i + 1 : Nat) : Int) - 1) = (i : Int) := by rw [wrap_id _ (by omega) (by omega)]; omega
        have hr : rd_T63 ns (i : Int) = ns[i] := by unfold rd_T63; rw [Int.toNat_natCast]; simp [hlt]
        rw [if_pos h, e, if_neg (by omega), if_pos (by omega), if_pos (by omega), hr]
      · rw [wrap_id (need - 1) (by omega) (by omega), wrap_id _ (by omega) (by omega)]
        exact ih
    · refine Ev.shift 1 fun k => ?_
      simp only [spec_l5From.l0]
      rw [if_neg h]
      have : (ns.take (i + 1)).reverse ≠ [] := by simp; intro h; rw [h] at hlt; simp at hlt
      rcases hq : (ns.take (i + 1)).reverse with _ | ⟨x, r⟩
      · exact absurd hq this
      · have hl : (x :: r).length = i + 1 := by rw [← hq, List.length_reverse, List.length_take]; omega
        unfold scanN; rw [if_neg h, hl]
theorem from_is (ns : List S63) (hn : ns.length ≤ 1000000) : Ev (fun k => spec_l5From.f k ns) (scanN 1 ns.reverse) := by
  have h := from_loop ns (by omega) ns.length 1 (Nat.le_refl _) (by omega) (by omega)
  rw [List.take_length] at h
  exact h
theorem from_last (i : List Tr) (t : Tr) (hw : wfTs i ∧ wfT t) : scanN 1 (flatTs i ++ flatT t).reverse = ((flatTs i).length : Int) := by
  rw [List.reverse_append, scanN_T t 1 _ hw.2 (by omega), show (1 : Int) - 1 = 0 from rfl, scanN_zero]
  simp
/-! the operands -/
theorem kids_loop : ∀ (i r : List Tr), wfTs i → (flatTs i).length ≤ 1000000 → i.length + r.length ≤ 3 → Ev (fun k => spec_l5Kids.l0 k (flatTs i) (r.map flatT) i.length) ((i ++ r).map flatT) := by
  intro i
  induction hl : i.length generalizing i with
  | zero =>
    intro r hw hn hr
    obtain rfl := List.eq_nil_of_length_eq_zero hl
    refine Ev.shift 1 fun k => ?_
    simp [spec_l5Kids.l0]
  | succ m ih =>
    intro r hw hn hr
    rcases List.eq_nil_or_concat i with rfl | ⟨j, t, rfl⟩
    · simp at hl
    rw [List.concat_eq_append] at hl hw hn ⊢
    rw [wfTs_app] at hw
    have hj : j.length = m := by simp at hl; omega
    have e : flatTs (j ++ [t]) = flatTs j ++ flatT t := by rw [flatTs_app]; simp [flatTs]
    rw [e] at hn ⊢
    rw [List.length_append] at hn
    have hf := from_is (flatTs j ++ flatT t) (by rw [List.length_append]; omega)
    rw [from_last j t ⟨hw.1, hw.2.1⟩] at hf
    have hr3 : m + (t :: r).length ≤ 3 := by simp; omega
    · have h := ih j hj (t :: r) hw.1 (by omega) hr3
      rw [List.append_assoc, List.singleton_append]
      refine Ev.round (f := fun k => (spec_l5From.f k (flatTs j ++ flatT t)).bind fun q => if 0 ≤ q then (if q ≤ ((flatTs j ++ flatT t).length : Int) then spec_l5Kids.l0 k ((flatTs j ++ flatT t).take q.toNat) ([(flatTs j ++ flatT t).drop q.toNat] ++ r.map flatT) (m : Int) else none) else none) (fun k => ?_) (Ev.bind hf ?_)
      · simp only [spec_l5Kids.l0]
        have e2 : wrap64 (((m + 1 : Nat) : Int) - 1) = (m : Int) := by rw [wrap_id _ (by simp at hr3; omega) (by simp at hr3; omega)]; omega
        rw [if_pos (by omega), e2]
        simp only [Option.bind_some]
        congr 1; funext q
        rw [if_pos (show (([(flatTs j ++ flatT t).drop q.toNat] : List (List S63)).length + (r.map flatT).length < 5864062014805) from by simp; omega)]
      · refine Ev.if_pos (by omega) (Ev.if_pos (by rw [List.length_append]; omega) ?_)
        rw [Int.toNat_natCast, List.take_left, List.drop_left]
        exact h
theorem kids_is (n : S63) (ks : List Tr) (hw : wfT (.node n ks)) (hn : (flatT (.node n ks)).length ≤ 1000000) : Ev (fun k => spec_l5Kids.f k (flatT (.node n ks))) (ks.map flatT) := by
  obtain ⟨h1, h2⟩ : (ks.length : Int) = arB n.f0 ∧ wfTs ks := hw
  have ha := arB_le n.f0
  simp only [flatT] at hn ⊢
  rw [List.length_append] at hn
  simp only [List.length_cons, List.length_nil] at hn
  have hl : ((flatTs ks ++ [n]).length : Int) = (flatTs ks).length + 1 := by simp
  have h := kids_loop ks [] h2 (by omega) (by simp; omega)
  unfold spec_l5Kids.f
  have hr : rd_T63 (flatTs ks ++ [n]) ((flatTs ks).length : Int) = n := by unfold rd_T63; rw [Int.toNat_natCast]; simp
  have ew : wrap64 (((flatTs ks ++ [n]).length : Int) - 1) = ((flatTs ks).length : Int) := by rw [wrap_id _ (by omega) (by omega)]; omega
  simp only [ew, hr]
  refine Ev.if_pos (by omega) (Ev.if_pos (by omega) (Ev.if_pos (by omega) (Ev.bind (a := arB n.f0) (Ev.shift 1 fun k => ar_spec _ k) ?_)))
  rw [Int.toNat_natCast, List.take_left, ← h1]
  simpa using h
/-! the nesting -/
theorem top_is (t : Tr) (hn : (flatT t).length ≤ 1000000) : spec_l5Top.f (flatT t) = some t.top.f0 := by
  cases t with
  | node n ks =>
    simp only [flatT, Tr.top] at hn ⊢
    rw [List.length_append] at hn
    simp only [List.length_cons, List.length_nil] at hn
    have hl : ((flatTs ks ++ [n]).length : Int) = (flatTs ks).length + 1 := by simp
    have hr : rd_T63 (flatTs ks ++ [n]) ((flatTs ks).length : Int) = n := by unfold rd_T63; rw [Int.toNat_natCast]; simp
    have ew : wrap64 (((flatTs ks ++ [n]).length : Int) - 1) = ((flatTs ks).length : Int) := by rw [wrap_id _ (by omega) (by omega)]; omega
    unfold spec_l5Top.f
    simp only [ew, hr]
    rw [if_pos (by omega), if_pos (by omega)]
theorem str_is (a : Int) : spec_l5Strength.f a = some (strT a) := by
  unfold spec_l5Strength.f strT; split <;> (try split) <;> rfl
theorem wrapped_is (op i kid : Int) : spec_l5Wrapped.f op i kid = some (wrapB op i kid) := by
  unfold spec_l5Wrapped.f wrapB
  simp only [str_is, Option.bind_some]
  split <;> (try split) <;> rfl
mutual
theorem nest_is : ∀ t : Tr, wfT t → (flatT t).length ≤ 1000000 → Ev (fun k => spec_l5Nest.f k (flatT t)) (nestT t)
  | .node n ks, hw, hn => by
    have hl : (flatTs ks).length ≤ 1000000 := by
      simp only [flatT] at hn
      rw [List.length_append] at hn; omega
    have hk : ks.length ≤ 3 := by
      have h := hw.1
      have := arB_le n.f0
      omega
    refine Ev.round (f := fun k => (spec_l5Top.f (flatT (.node n ks))).bind fun a => (spec_l5Kids.f k (flatT (.node n ks))).bind fun b => spec_l5Nest.l0 k a b 0 0) (fun k => by simp only [spec_l5Nest.f]) ?_
    rw [top_is _ hn]
    refine Ev.bind (Ev.now _) (Ev.bind (kids_is n ks hw hn) ?_)
    exact nests_is ks [] n.f0 0 hw.2 hl (by simpa using hk) (Int.le_refl _) (by omega)
theorem nests_is : ∀ (ts pre : List Tr) (op most : Int), wfTs ts → (flatTs ts).length ≤ 1000000 → (pre ++ ts).length ≤ 3 → 0 ≤ most → most ≤ 2000000 → Ev (fun k => spec_l5Nest.l0 k op ((pre ++ ts).map flatT) most pre.length) (nestTs op pre.length most ts)
  | [], pre, op, most, hw, hn, hk, h0, h1 => by
    refine Ev.shift 1 fun k => ?_
    simp only [spec_l5Nest.l0, nestTs]
    rw [if_neg (by simp)]
  | t :: ts, pre, op, most, hw, hn, hk, h0, h1 => by
    obtain ⟨w1, w2⟩ : wfT t ∧ wfTs ts := hw
    simp only [flatTs] at hn
    rw [List.length_append] at hn
    have hb := nestT_le t
    have ih := nest_is t w1 (by omega)
    have hpl : pre.length < 3 := by rw [List.length_append] at hk; simp at hk; omega
    have hr : rd_L6 ((pre ++ t :: ts).map flatT) (pre.length : Int) = flatT t := by unfold rd_L6; rw [Int.toNat_natCast]; simp
    have hj2 : ∀ x : Int, 0 ≤ x → x ≤ 2000000 → Ev (fun k => spec_l5Nest.j2 k op ((pre ++ t :: ts).map flatT) most pre.length x) (nestTs op (pre.length + 1) (max most x) ts) := by
      intro x hx hx2
      have h3 := nests_is ts (pre ++ [t]) op (max most x) w2 (by omega) (by simpa using hk) (by omega) (by omega)
      rw [List.append_assoc, List.singleton_append, List.length_append, List.length_singleton] at h3
      refine Ev.round (f := fun k => spec_l5Nest.l0 k op ((pre ++ t :: ts).map flatT) (max most x) ((pre.length + 1 : Nat) : Int)) (fun k => ?_) h3
      simp only [spec_l5Nest.j2]
      rw [wrap_nat _ (by omega)]
      by_cases h : x > most
      · rw [if_pos h, show max most x = x by omega]
      · rw [if_neg h, show max most x = most by omega]
    have hj1 : ∀ b : Bool, Ev (fun k => spec_l5Nest.j1 k op ((pre ++ t :: ts).map flatT) most pre.length (nestT t) b) (nestTs op (pre.length + 1) (max most (nestT t + if b = true then 1 else 0)) ts) := by
      intro b
      refine Ev.round (f := fun k => spec_l5Nest.j2 k op ((pre ++ t :: ts).map flatT) most pre.length (nestT t + if b = true then 1 else 0)) (fun k => ?_) (hj2 _ (by split <;> omega) (by split <;> omega))
      simp only [spec_l5Nest.j1]
      cases b
      · simp
      · simp only [if_true]; rw [wrap_id _ (by omega) (by omega)]
    refine Ev.round (f := fun k => (spec_l5Nest.f k (flatT t)).bind fun q => if op = 16 then spec_l5Nest.j1 k op ((pre ++ t :: ts).map flatT) most pre.length q true else (spec_l5Top.f (flatT t)).bind fun u => (spec_l5Wrapped.f op pre.length u).bind fun v => spec_l5Nest.j1 k op ((pre ++ t :: ts).map flatT) most pre.length q v) (fun k => ?_) (Ev.bind ih ?_)
    · simp only [spec_l5Nest.l0]
      rw [if_pos (by simp; omega), if_pos (by omega), hr]
    · simp only [nestTs]
      by_cases ho : op = 16
      · have h := hj1 true
        refine Ev.if_pos ho ?_
        simpa [ho] using h
      · refine Ev.if_neg ho ?_
        rw [top_is t (by omega)]
        simp only [wrapped_is, Option.bind_some]
        have h := hj1 (wrapB op pre.length t.top.f0)
        simpa [ho] using h
end
end Go.Proofs.Ytpfehkkfakofaaa.Q

namespace Go.Proofs.Ytpfehkkfakofaaa.Q
open Go.RowKit Go.Proofs.YtpfehkkfakofaaaW.PrintWords Go.Proofs.YtpfehkkfakofaaaW.PrintLast Go.Proofs.YtpfehkkfakofaaaW.PrintMore
set_option linter.unusedVariables false
set_option linter.unusedSimpArgs false
def nodeV (n : S63) (u : Value) : Array Value := #[.int .i64 n.f0, .string n.f1, .bool n.f2, .string n.f3, .int .u64 n.f4, .int .u64 n.f5, .int .i64 n.f6, u]
mutual
def RepT (w : World) (ok : Nat → Prop) : Tr → Value → Prop
  | .node n ks, v => ∃ (a : Nat) (u : Value) (vs : List Value), v = .pointer (some ⟨a, 0, none⟩) ∧ ok a ∧ w.heap[a]? = some (.cells (nodeV n u) 65 (0, 0)) ∧ w.ownsRow 0 47 1 u vs.length vs ∧ (∀ k, u.ownBlock = some k → ok k) ∧ RepTs w ok ks vs
def RepTs (w : World) (ok : Nat → Prop) : List Tr → List Value → Prop
  | [], vs => vs = []
  | x :: xs, vs => ∃ u us, vs = u :: us ∧ RepT w ok x u ∧ RepTs w ok xs us
end
mutual
theorem RepT_move {w w1 : World} {ok ok' : Nat → Prop} (hm : ∀ k, ok k → k < w.heap.size → ok' k ∧ w1.heap[k]? = w.heap[k]?) : ∀ (x : Tr) (v : Value), RepT w ok x v → RepT w1 ok' x v
  | .node n ks, v, h => by
    unfold RepT at h ⊢
    obtain ⟨a, u, vs, h1, h2, h3, h4, h5, h6⟩ := h
    have ha := hm a h2 (lt_of_some h3)
    exact ⟨a, u, vs, h1, ha.1, ha.2.trans h3, own_move h4 (fun k hk => (hm k (h5 k hk) (h4.lt k hk).2).2), fun k hk => (hm k (h5 k hk) (h4.lt k hk).2).1, RepTs_move hm ks vs h6⟩
theorem RepTs_move {w w1 : World} {ok ok' : Nat → Prop} (hm : ∀ k, ok k → k < w.heap.size → ok' k ∧ w1.heap[k]? = w.heap[k]?) : ∀ (xs : List Tr) (vs : List Value), RepTs w ok xs vs → RepTs w1 ok' xs vs
  | [], vs, h => by unfold RepTs at h ⊢; exact h
  | x :: xs, vs, h => by
    unfold RepTs at h ⊢
    obtain ⟨u, us, h1, h2, h3⟩ := h
    exact ⟨u, us, h1, RepT_move hm x u h2, RepTs_move hm xs us h3⟩
end
theorem RepTs_len {w : World} {ok : Nat → Prop} : ∀ (xs : List Tr) (vs : List Value), RepTs w ok xs vs → vs.length = xs.length
  | [], vs, h => by unfold RepTs at h; subst h; rfl
  | x :: xs, vs, h => by
    unfold RepTs at h
    obtain ⟨u, us, rfl, h2, h3⟩ := h
    simp [RepTs_len xs us h3]
theorem RepTs_app {w : World} {ok : Nat → Prop} : ∀ (xs : List Tr) (vs : List Value) (ys : List Tr) (us : List Value), RepTs w ok xs vs → RepTs w ok ys us → RepTs w ok (xs ++ ys) (vs ++ us)
  | [], vs, ys, us, h, h2 => by unfold RepTs at h; subst h; exact h2
  | x :: xs, vs, ys, us, h, h2 => by
    unfold RepTs at h
    obtain ⟨u, us', rfl, h3, h4⟩ := h
    show RepTs w ok (x :: (xs ++ ys)) (u :: (us' ++ us))
    unfold RepTs
    exact ⟨u, _, rfl, h3, RepTs_app xs us' ys us h4 h2⟩
theorem RepTs_take {w : World} {ok : Nat → Prop} : ∀ (xs : List Tr) (vs : List Value) (m : Nat), RepTs w ok xs vs → RepTs w ok (xs.take m) (vs.take m)
  | xs, vs, 0, h => by simp [RepTs]
  | [], vs, m + 1, h => by unfold RepTs at h; subst h; simp [RepTs]
  | x :: xs, vs, m + 1, h => by
    unfold RepTs at h
    obtain ⟨u, us, rfl, h2, h3⟩ := h
    simp only [List.take_succ_cons]
    unfold RepTs
    exact ⟨u, _, rfl, h2, RepTs_take xs us m h3⟩
theorem RepTs_drop {w : World} {ok : Nat → Prop} : ∀ (xs : List Tr) (vs : List Value) (m : Nat), RepTs w ok xs vs → RepTs w ok (xs.drop m) (vs.drop m)
  | xs, vs, 0, h => by simpa using h
  | [], vs, m + 1, h => by unfold RepTs at h; subst h; simp [RepTs]
  | x :: xs, vs, m + 1, h => by
    unfold RepTs at h
    obtain ⟨u, us, rfl, h2, h3⟩ := h
    simp only [List.drop_succ_cons]
    exact RepTs_drop xs us m h3
theorem RepTs_get {w : World} {ok : Nat → Prop} : ∀ (xs : List Tr) (vs : List Value) (i : Nat) (x : Tr), RepTs w ok xs vs → xs[i]? = some x → ∃ u, vs[i]? = some u ∧ RepT w ok x u
  | [], vs, i, x, h, hx => by simp at hx
  | y :: xs, vs, i, x, h, hx => by
    unfold RepTs at h
    obtain ⟨u, us, rfl, h2, h3⟩ := h
    rcases i with _ | i
    · simp at hx; subst hx; exact ⟨u, rfl, h2⟩
    · exact RepTs_get xs us i x h3 (by simpa using hx)
theorem RepT_one {w : World} {ok : Nat → Prop} {x : Tr} {v : Value} (h : RepT w ok x v) : v.oneCell' = true := by
  cases x; unfold RepT at h
  obtain ⟨a, u, vs, rfl, -⟩ := h; rfl
theorem RepTs_one {w : World} {ok : Nat → Prop} : ∀ (xs : List Tr) (vs : List Value), RepTs w ok xs vs → ∀ u ∈ vs, u.oneCell' = true
  | [], vs, h => by unfold RepTs at h; subst h; simp
  | x :: xs, vs, h => by
    unfold RepTs at h
    obtain ⟨u, us, rfl, h2, h3⟩ := h
    intro y hy
    rcases List.mem_cons.mp hy with rfl | hy
    · exact RepT_one h2
    · exact RepTs_one xs us h3 y hy
/-- The cells of a row. -/
theorem own_cell {w : World} {b e n : Nat} {A : Option Addr} {m c : Nat} {vs : List Value} (h : w.ownsRow b e 1 (.slice A m c) n vs) {i : Nat} {u : Value} (hi : vs[i]? = some u) : ∃ g, A = some ⟨g, 0, none⟩ ∧ w.cell? ⟨g, i, none⟩ = some u ∧ m = n := by
  obtain ⟨hl, h⟩ := h
  have hlt := (List.getElem?_eq_some_iff.mp hi).1
  rcases h with ⟨-, rfl⟩ | ⟨g, cap, cur, e, hg, hh, h1, h2, h3, h4⟩
  · simp at hl; subst hl; simp at hlt
  · cases e
    refine ⟨g, rfl, (blk_cell hh i).trans ?_, rfl⟩
    rw [← h4, List.getElem?_take] at hi
    split at hi
    · rw [← Array.getElem?_toList]; exact hi
    · cases hi
theorem strength_call (a : Nat) (o : Int) (w : World) (h : w.cell? ⟨a, 0, none⟩ = some (.int .i64 o)) :
    Calls Try.prog 88 #[.pointer (some ⟨a, 0, none⟩)] w fun e w' => e = .returned (.int .i64 (strT o)) ∧ Below w.heap.size w w' := by
  have kr : K0 (Below w.heap.size w w) := ⟨Below.refl _ _⟩
  have h := clk h
  go_enter Try.func88, Try.ntmps88
  go_wp2
  all_goals (go_ret; refine ⟨?_, kk⟩; first | rfl | (unfold strT; simp_all; done))
/-- Whether an operand stands in parentheses. -/
def wrapI (op : Int) (i : Nat) (kid : Int) : Bool := decide (op ≠ 16) && (decide (strT kid < strT op) || (decide (i = 1) && decide (strT kid = strT op)))
set_option maxHeartbeats 4000000 in
set_option maxRecDepth 100000 in
theorem wrapped_call (a g b i m c : Nat) (o kid : Int) (w : World) (h0 : w.cell? ⟨a, 0, none⟩ = some (.int .i64 o)) (h7 : w.cell? ⟨a, 7, none⟩ = some (.slice (some ⟨g, 0, none⟩) m c)) (hi : i < m)
    (hk : w.cell? ⟨g, i, none⟩ = some (.pointer (some ⟨b, 0, none⟩))) (hb : w.cell? ⟨b, 0, none⟩ = some (.int .i64 kid)) :
    Calls Try.prog 79 #[.pointer (some ⟨a, 0, none⟩), .int .i64 i] w fun e w' => e = .returned (.bool (wrapI o i kid)) ∧ Below w.heap.size w w' := by
  have kr : K0 (Below w.heap.size w w) := ⟨Below.refl _ _⟩
  have h0' := clk h0
  have h7' := clk h7
  have hk' := clk hk
  have hb' := clk hb
  by_cases h16 : o = 16
  · have d1 : (o != 16) = false := by simpa using h16
    go_enter Try.func79, Try.ntmps79
    go_wp2
    all_goals (go_ret; refine ⟨?_, kk⟩; simp [wrapI, h16])
  have d1 : (o != 16) = true := by simpa using h16
  clear h0 h7 hk hb
  go_enter Try.func79, Try.ntmps79
  go_wp2_with fail
  refine (strength_call b kid w (hb' w)).mono ?_
  rintro e W2 ⟨rfl, hb2⟩
  have k2 : K0 (Below w.heap.size w W2) := ⟨hb2⟩
  go_wp2_with fail
  refine (strength_call a o W2 (h0' W2)).mono ?_
  rintro e W3 ⟨rfl, hb3⟩
  have k3 : K0 (Below w.heap.size w W3) := ⟨hb2.trans (hb3.mono hb2.size)⟩
  clear hb3 k2
  by_cases hs : strT kid < strT o
  · have d2 : decide (strT kid < strT o) = true := decide_eq_true hs
    go_wp2
    all_goals (go_ret; refine ⟨?_, kk⟩; simp [wrapI, h16, hs])
  have d2 : decide (strT kid < strT o) = false := decide_eq_false hs
  by_cases h1 : i = 1
  · subst h1
    go_wp2_with fail
    refine (strength_call b kid W3 (hb' W3)).mono ?_
    rintro e W4 ⟨rfl, hb4⟩
    have k4 : K0 (Below w.heap.size w W4) := ⟨k3.out.trans (hb4.mono k3.out.size)⟩
    clear hb4
    go_wp2_with fail
    refine (strength_call a o W4 (h0' W4)).mono ?_
    rintro e W5 ⟨rfl, hb5⟩
    have k5 : K0 (Below w.heap.size w W5) := ⟨k4.out.trans (hb5.mono k4.out.size)⟩
    clear hb5
    go_wp2
    all_goals (go_ret; refine ⟨?_, kk⟩; first | (simp [wrapI, h16, hs, *]; done) | (simp [wrapI, h16, hs]; rw [Bool.eq_iff_iff]; simp; omega))
  have d3 : ((i : Int) == 1) = false := beq_eq_false_iff_ne.mpr (by omega)
  go_wp2
  all_goals (go_ret; refine ⟨?_, kk⟩; simp [wrapI, h16, hs, h1])
theorem node_c0 {w : World} {a : Nat} {n : S63} {u : Value} (h : w.heap[a]? = some (.cells (nodeV n u) 65 (0, 0))) : w.cell? ⟨a, 0, none⟩ = some (.int .i64 n.f0) := (blk_cell h 0).trans rfl
theorem node_c7 {w : World} {a : Nat} {n : S63} {u : Value} (h : w.heap[a]? = some (.cells (nodeV n u) 65 (0, 0))) : w.cell? ⟨a, 7, none⟩ = some u := (blk_cell h 7).trans rfl
theorem wrap_same {op : Int} {i : Nat} {kid : Int} (h : op = 16 ∨ i < 2) : (decide (op = 16) || wrapI op i kid) = decide (op = 16 ∨ wrapB op i kid = true) := by
  unfold wrapI wrapB
  by_cases h16 : op = 16
  · simp [h16]
  · have hi : i = 0 ∨ i = 1 := by omega
    rcases hi with rfl | rfl
    · simp [h16]
    · simp [h16]; rw [Bool.eq_iff_iff]; simp; omega
theorem flat_mem : ∀ (ks : List Tr) (i : Nat) (x : Tr), ks[i]? = some x → (flatT x).length ≤ (flatTs ks).length
  | [], i, x, h => by simp at h
  | y :: ks, 0, x, h => by
    simp at h; subst h
    simp only [flatTs, List.length_append]; omega
  | y :: ks, i + 1, x, h => by
    have := flat_mem ks i x (by simpa using h)
    simp only [flatTs, List.length_append]; omega
theorem wf_mem : ∀ (ks : List Tr) (i : Nat) (x : Tr), ks[i]? = some x → wfTs ks → wfT x
  | [], i, x, h, _ => by simp at h
  | y :: ks, 0, x, h, hw => by
    simp at h; subst h; exact hw.1
  | y :: ks, i + 1, x, h, hw => wf_mem ks i x (by simpa using h) hw.2
set_option maxHeartbeats 4000000 in
set_option maxRecDepth 100000 in
theorem nest_call : ∀ (N : Nat) (t : Tr) (v : Value) (ok : Nat → Prop) (w : World), (flatT t).length ≤ N → N ≤ 1000 → wfT t → RepT w ok t v →
    Calls Try.prog 53 #[v] w fun e w' => e = .returned (.int .i64 (nestT t)) ∧ Below w.heap.size w w' := by
  intro N
  induction N with
  | zero =>
    intro t v ok w hl
    exact absurd (List.eq_nil_of_length_eq_zero (by omega)) (flatT_ne t)
  | succ N IH =>
    intro t v ok w hl hN hw hr
    have HIH := Aside0.mk IH
    cases t with
    | node n ks =>
      have HR := Aside0.mk hr
      unfold RepT at hr
      obtain ⟨a, u, vs, rfl, h2, h3, h4, h5, h6⟩ := hr
      obtain ⟨A, m, c, rfl⟩ : ∃ A m c, u = .slice A m c := by
        rcases h4.2 with ⟨rfl, _⟩ | ⟨g, cap, cur, rfl, _⟩ <;> exact ⟨_, _, _, rfl⟩
      have hvl := RepTs_len ks vs h6
      have hml : m = ks.length := by
        rcases h4.2 with ⟨e, h0⟩ | ⟨g, cap, cur, e, _⟩
        · cases e; omega
        · cases e; exact hvl
      subst hml
      have kr : K0 (Below w.heap.size w w) := ⟨Below.refl _ _⟩
      have c0 := clk (node_c0 h3)
      have c7 := clk (node_c7 h3)
      have hnl := nestT_le (.node n ks)
      simp only [flatT, List.length_append, List.length_cons, List.length_nil] at hl
      have HW := Aside0.mk hw
      have H4 := Aside0.mk h4
      have H6 := Aside0.mk h6
      obtain ⟨r, hR⟩ : ∃ r, nestT (.node n ks) = r := ⟨_, rfl⟩
      rw [hR] at hnl ⊢
      have HGO := Aside0.mk (show nestTs n.f0 0 0 (ks.drop 0) = r from hR)
      clear IH hR h2 h3 h4 h5 h6 hw
      go_enter Try.func53, Try.ntmps53
      go_wp2_with fail
      go_loopw [3, 12] (fun v3 v12 W => ∃ (i : Nat) (most : Int), i ≤ ks.length ∧ v12 = .int .i64 i ∧ v3 = .int .i64 most ∧ Aside0 (nestTs n.f0 i most (ks.drop i) = r) ∧ Aside0 (0 ≤ most ∧ most ≤ 1000) ∧ Aside0 (Below w.heap.size w W)) (fun _ v12 _ => ks.length - (intOf v12).toNat)
      case atStart => exact ⟨0, 0, by omega, rfl, rfl, HGO, ⟨by omega, by omega⟩, ⟨kk⟩⟩
      case round =>
        clear HGO kr
        obtain ⟨i, most, hi, rfl, rfl, HGO, HM, HB⟩ := hrel
        have kW : K0 (Below w.heap.size w wr) := ⟨HB.out⟩
        by_cases hlt : i < ks.length
        · obtain ⟨x, hx⟩ : ∃ x, ks[i] = x := ⟨_, rfl⟩
          have hg : ks[i]? = some x := by rw [← hx]; exact List.getElem?_eq_getElem hlt
          obtain ⟨q, hq, hrq⟩ := RepTs_get ks vs i x H6.out hg
          obtain ⟨g, rfl, hc, -⟩ := own_cell H4.out hq
          have hgo := HGO.out
          rw [List.drop_eq_getElem_cons hlt, hx] at hgo
          simp only [nestTs] at hgo
          have hc := clk hc
          have hrx : RepT wr ok x q := RepT_move (fun k hk hl => ⟨hk, HB.out.block k hl⟩) x q hrq
          have hfx := flat_mem ks i x hg
          have hnx := nestT_le x
          have hcall := HIH.out x q ok wr (by omega) (by omega) (wf_mem ks i x hg HW.out.2) hrx
          obtain ⟨b, kn, kks, rfl, rfl, hcb⟩ : ∃ b kn kks, x = .node kn kks ∧ q = .pointer (some ⟨b, 0, none⟩) ∧ w.cell? ⟨b, 0, none⟩ = some (.int .i64 kn.f0) := by
            cases x with
            | node kn kks =>
              unfold RepT at hrq
              obtain ⟨b, u, us, rfl, h2, h3, -⟩ := hrq
              exact ⟨b, kn, kks, rfl, rfl, node_c0 h3⟩
          have hcb := clk hcb
          have hi2 : n.f0 = 16 ∨ i < 2 := by
            by_cases h16 : n.f0 = 16
            · exact .inl h16
            · right
              have h1 := HW.out.1
              have : arB n.f0 ≤ 2 := by unfold arB; split <;> (try rw [if_neg h16]) <;> omega
              omega
          have hcond : (n.f0 = 16 ∨ wrapB n.f0 (i : Int) kn.f0 = true) ↔ (n.f0 = 16 ∨ wrapI n.f0 i kn.f0 = true) := by
            have h := wrap_same (op := n.f0) (i := i) (kid := kn.f0) hi2
            rw [Bool.eq_iff_iff] at h
            simp only [Bool.or_eq_true, decide_eq_true_eq] at h
            exact h.symm
          have hk3 : ks.length ≤ 3 := by
            have h1 := HW.out.1
            have := arB_le n.f0
            omega
          simp only [Tr.top, hcond] at hgo
          have HGO2 := Aside0.mk hgo
          have hM := HM.out
          have hw1 : IntKind.i64.wrap ((i : Int) + 1) = ((i + 1 : Nat) : Int) := by rw [IntKind.wrap_i64]; omega
          clear hgo hrx hrq hcond
          go_wp2_with fail
          refine hcall.mono ?_
          rintro e W2 ⟨rfl, hb2⟩
          have k2 : K0 (Below w.heap.size w W2) := ⟨HB.out.trans (hb2.mono HB.out.size)⟩
          clear hb2 hcall
          generalize nestT (.node kn kks) = nx at *
          by_cases h16 : n.f0 = 16
          · have d1 : (n.f0 == 16) = true := by simpa using h16
            have hgo := HGO2.out
            rw [if_pos (Or.inl h16)] at hgo
            go_wp2_with fail
            go_roundw
            case measure => simp only [intOf]; omega
            case rel => exact ⟨i + 1, _, by omega, by rw [Int.natCast_add]; rfl, rfl, ⟨hgo⟩, ⟨by omega⟩, ⟨kk⟩⟩
          · have d1 : (n.f0 == 16) = false := by simpa using h16
            go_wp2_with fail
            refine (wrapped_call a g b i ks.length c n.f0 kn.f0 W2 (c0 W2) (c7 W2) hlt (hc W2) (hcb W2)).mono ?_
            rintro e W3 ⟨rfl, hb3⟩
            have k3 : K0 (Below w.heap.size w W3) := ⟨k2.out.trans (hb3.mono k2.out.size)⟩
            clear hb3 k2
            cases hwr : wrapI n.f0 i kn.f0
            · have hgo := HGO2.out
              rw [hwr, if_neg (by simp [h16])] at hgo
              go_wp2_with fail
              go_roundw
              case measure => simp only [intOf]; omega
              case rel => exact ⟨i + 1, _, by omega, by rw [Int.natCast_add]; rfl, rfl, ⟨by simpa using hgo⟩, ⟨by omega⟩, ⟨kk⟩⟩
            · have hgo := HGO2.out
              rw [hwr, if_pos (Or.inr rfl)] at hgo
              go_wp2_with fail
              go_roundw
              case measure => simp only [intOf]; omega
              case rel => exact ⟨i + 1, _, by omega, by rw [Int.natCast_add]; rfl, rfl, ⟨hgo⟩, ⟨by omega⟩, ⟨kk⟩⟩
        · obtain rfl : i = ks.length := by omega
          have hgo := HGO.out
          rw [List.drop_length] at hgo
          simp only [nestTs] at hgo
          subst hgo
          go_wp2
          go_ret
          exact ⟨rfl, kk⟩
end Go.Proofs.Ytpfehkkfakofaaa.Q

namespace Go.Proofs.Ytpfehkkfakofaaa.Q
open Go.RowKit Go.Proofs.YtpfehkkfakofaaaW.PrintWords Go.Proofs.YtpfehkkfakofaaaW.PrintLast Go.Proofs.YtpfehkkfakofaaaW.PrintMore
set_option linter.unusedVariables false
set_option linter.unusedSimpArgs false
theorem info70_is : (Try.prog.info? 47).map (fun i => (i.zero, i.size, i.bytes)) = some (some (.pointer none), 1, 8) := by kernel_rfl
theorem grown_own_below {w w2 : World} {o : Obj} (hg : (w.alloc o).grownBy w2 (some w.heap.size)) : Below w.heap.size w w2 :=
  ⟨hg.os, hg.tape, hg.output, by have := hg.size; rw [sz_al] at this; omega, fun k hk => (hg.block k (by rw [sz_al]; omega) (fun e => by cases e; omega)).trans (heap_alloc_old w _ hk)⟩
theorem nil152 (a : Option Addr) (n c : Nat) (W : World) : (binOp .eql 57 (.slice a n c) (.slice none 0 0)).run Try.prog W = .ok (.bool a.isNone) W := Lib.run_eql_slice_nil W 57 47 a n c 0 0 Try.underlying57
set_option maxRecDepth 100000 in
theorem clone_nil (w : World) : Calls Try.prog 78 #[.slice none 0 0] w fun e w' => e = .returned (.slice none 0 0) ∧ w' = w := by
  have hE := nil152
  go_enter Try.func78, Try.ntmps78
  go_wp2
  go_ret
  exact ⟨rfl, rfl⟩
set_option maxHeartbeats 4000000 in
set_option maxRecDepth 100000 in
theorem clone_call (ad : Addr) (m c : Nat) (news : List Value) (w : World) (hl : news.length = m) (hn : ∀ j u, news[j]? = some u → w.cell? (ad.add j) = some u) (h1 : ∀ u ∈ news, u.oneCell' = true) (hm : m ≤ 1000) :
    Calls Try.prog 78 #[.slice (some ad) m c] w fun e w' => ∃ v, e = .returned v ∧ w'.ownsRow w.heap.size 47 1 v m news ∧ Below w.heap.size w w' := by
  have kr : K0 (Below w.heap.size w w) := ⟨Below.refl _ _⟩
  obtain ⟨i0, hi, hz0, hz1, hz2⟩ := info_parts info70_is
  have HI := Aside0.mk hi
  have HZ := Aside0.mk (And.intro hz0 (And.intro hz1 hz2))
  have hown : (w.alloc (.cells #[] 47)).ownsRow w.heap.size 47 1 (.slice (some ⟨w.heap.size, 0, none⟩) 0 0) 0 [] :=
    ⟨rfl, .inr ⟨w.heap.size, 0, _, rfl, Nat.le_refl _, heap_alloc_new _ _, Nat.le_refl _, by decide, rfl, rfl⟩⟩
  have hn2 : ∀ j u, news[j]? = some u → (w.alloc (.cells #[] 47)).cell? (ad.add j) = some u := fun j u hj => clk (hn j u hj) _
  have HN := Aside0.mk hn2
  have HL := Aside0.mk (show news.length = m * 1 from by omega)
  have HO := Aside0.mk hown
  have H1 := Aside0.mk h1
  have HC3 := Aside0.mk (show 0 + m ≤ maxLen from by simp only [maxLen]; omega)
  have HC4 := Aside0.mk (show (0 + m) * 8 ≤ 140737488355328 from by omega)
  clear hn hn2 hl hown h1 hi hz0 hz1 hz2 kr
  have hE := nil152
  go_enter Try.func78, Try.ntmps78
  go_wp2_with (at_builtin; refine wpList_append_at rfl (.tmp 5) (.tmp 6) 57 rfl w.heap.size 47 i0 (.pointer none) 1 8 Try.underlying57 HI.out HZ.out.1 HZ.out.2.1 HZ.out.2.2 rfl (by decide) _ 0 [] rfl HO.out ad m c news rfl HL.out HN.out H1.out HC3.out HC4.out (by rw [sz_al]; omega) ?_; intro v2 w2 hown hgr hloc; have HG := Aside0.mk (And.intro hown hgr); clear hown hgr hloc)
  go_ret
  refine ⟨v2, rfl, ?_, grown_own_below HG.out.2⟩
  have := HG.out.1
  rw [Nat.zero_add, List.nil_append] at this
  exact this
/-- The stack of trees under way. -/
def StkT (w : World) (B : Nat) (st : List Tr) (v : Value) (vs : List Value) : Prop :=
  w.ownsRow B 47 1 v vs.length vs ∧ RepTs w (fun k => B ≤ k ∧ v.ownBlock ≠ some k) st vs
def oneTree (o : Option (List Tr)) (w : World) (B : Nat) (v : Value) : Prop :=
  match o with
  | some [t] => RepT w (fun k => B ≤ k) t v
  | _ => v = .pointer none
theorem own_cut {w : World} {b e g n m c k : Nat} {xs : List Value} (h : w.ownsRow b e 1 (.slice (some ⟨g, 0, none⟩) n c) m xs) (hk : k ≤ m) : w.ownsRow b e 1 (.slice (some ⟨g, 0, none⟩) k c) k (xs.take k) := by
  obtain ⟨hl, h⟩ := h
  rcases h with ⟨e1, -⟩ | ⟨g', cap, cur, e1, hg, hh, h1, h2, h3, h4⟩
  · cases e1
  · cases e1
    refine ⟨by rw [List.length_take]; omega, .inr ⟨g, c, cur, rfl, hg, hh, by omega, h2, h3, ?_⟩⟩
    rw [← h4, List.take_take]
    congr 1; omega
theorem grown_below2 {w w1 w2 : World} {o : Obj} {row : Option Nat} (h : Below w.heap.size w w1) (hg : (w1.alloc o).grownBy w2 row) (hr : ∀ k, row = some k → w.heap.size ≤ k) : Below w.heap.size w w2 :=
  h.trans ⟨hg.os, hg.tape, hg.output, by have := hg.size; rw [sz_al] at this; omega, fun k hk => (hg.block k (by rw [sz_al]; have := h.size; omega) (fun e => by have := hr k e.symm; omega)).trans (heap_alloc_old w1 _ (by have := h.size; omega))⟩
theorem stk_push {W4 w' : World} {B k : Nat} {st : List Tr} {sv cut v' ptr : Value} {svs : List Value} {t : Tr}
    (hS : RepTs W4 (fun b => B ≤ b ∧ sv.ownBlock ≠ some b) st svs) (ht : RepT W4 (fun b => B ≤ b ∧ sv.ownBlock ≠ some b) t ptr) (hcut : ∀ b, cut.ownBlock = some b → sv.ownBlock = some b)
    (hk : (svs.take k).length = k) (ho : w'.ownsRow B 47 1 v' (k + 1) (svs.take k ++ [ptr])) (hg : (W4.alloc (.cells #[ptr] 47)).grownBy w' cut.ownBlock)
    (hl : ∀ b, v'.ownBlock = some b → cut.ownBlock = some b ∨ (W4.alloc (.cells #[ptr] 47)).heap.size ≤ b) : StkT w' B (st.take k ++ [t]) v' (svs.take k ++ [ptr]) := by
  have hsz := sz_al W4 (.cells #[ptr] 47)
  have hm : ∀ b, (B ≤ b ∧ sv.ownBlock ≠ some b) → b < W4.heap.size → (B ≤ b ∧ v'.ownBlock ≠ some b) ∧ w'.heap[b]? = W4.heap[b]? := by
    intro b ⟨h1, h2⟩ h3
    refine ⟨⟨h1, fun e => ?_⟩, ?_⟩
    · rcases hl b e with h | h
      · exact h2 (hcut b h)
      · omega
    · exact (hg.block b (by omega) (fun e => h2 (hcut b e.symm))).trans (heap_alloc_old W4 _ h3)
  refine ⟨?_, RepTs_app _ _ _ _ (RepTs_take _ _ k (RepTs_move hm _ _ hS)) ?_⟩
  · rw [List.length_append, hk]; exact ho
  · unfold RepTs
    exact ⟨ptr, [], rfl, RepT_move hm _ _ ht, by unfold RepTs; rfl⟩
theorem stk_node {wr wt W3 : World} {B k n : Nat} {st : List Tr} {sv u : Value} {svs : List Value} (x : S63) (hS : StkT wr B st sv svs) (hmv : ∀ b, b < wr.heap.size → wt.heap[b]? = wr.heap[b]?) (hsz : wr.heap.size ≤ wt.heap.size) (hB : B ≤ wt.heap.size)
    (h3 : Below wt.heap.size wt W3) (hu : W3.ownsRow wt.heap.size 47 1 u n (svs.drop k)) (hn : (svs.drop k).length = n) :
    RepTs (W3.alloc (.cells (nodeV x u) 65)) (fun b => B ≤ b ∧ sv.ownBlock ≠ some b) st svs ∧ RepT (W3.alloc (.cells (nodeV x u) 65)) (fun b => B ≤ b ∧ sv.ownBlock ≠ some b) (.node x (st.drop k)) (.pointer (some ⟨W3.heap.size, 0, none⟩)) ∧ (W3.alloc (.cells (nodeV x u) 65)).ownsRow B 47 1 sv svs.length svs ∧ Below wt.heap.size wt (W3.alloc (.cells (nodeV x u) 65)) := by
  subst hn
  have hm : ∀ b, b < wr.heap.size → (W3.alloc (.cells (nodeV x u) 65)).heap[b]? = wr.heap[b]? := fun b hb =>
    ((heap_alloc_old W3 _ (by have := h3.size; omega)).trans (h3.block b (by omega))).trans (hmv b hb)
  have hg : ∀ b, sv.ownBlock = some b → b < wr.heap.size := fun b hb => (hS.1.lt b hb).2
  have h6 := RepTs_move (w1 := W3.alloc (.cells (nodeV x u) 65)) (ok' := fun b => B ≤ b ∧ sv.ownBlock ≠ some b) (fun b hb hl => ⟨hb, hm b hl⟩) _ _ hS.2
  refine ⟨h6, ?_, own_move hS.1 (fun b hb => hm b (hg b hb)), Below.alloc h3 h3.size _⟩
  unfold RepT
  refine ⟨W3.heap.size, u, svs.drop k, rfl, ⟨by have := h3.size; omega, fun e => by have := hg _ e; have := h3.size; omega⟩, heap_alloc_new _ _, ?_, ?_, RepTs_drop _ _ k h6⟩
  · exact own_lower (own_move hu (fun b hb => heap_alloc_old _ _ (hu.lt b hb).2)) (Nat.zero_le _)
  · intro b hb
    have := (hu.lt b hb).1
    exact ⟨by omega, fun e => by have := hg _ e; omega⟩
set_option maxHeartbeats 4000000 in
set_option maxRecDepth 100000 in
theorem treeOf_call (A : Option Addr) (c : Nat) (ns : List S63) (w : World) (hr : Kd.C k63 w A ns.length ns) (hc : ns.length ≤ c) (hn : ns.length ≤ 1000) :
    Calls Try.prog 52 #[.slice A ns.length c] w fun e w' => ∃ v, e = .returned v ∧ oneTree (treesOf ns []) w' w.heap.size v ∧ Below w.heap.size w w' := by
  have kr : K0 (Below w.heap.size w w) := ⟨Below.refl _ _⟩
  have HR := Aside0.mk hr
  have HC := Aside0.mk hc
  obtain ⟨R, hR⟩ : ∃ R, treesOf ns [] = R := ⟨_, rfl⟩
  rw [hR]
  obtain ⟨i0, hi, hz0, hz1, hz2⟩ := info_parts info70_is
  have HI := Aside0.mk hi
  have HZ := Aside0.mk (And.intro hz0 (And.intro hz1 hz2))
  have HGO := Aside0.mk (show treesOf (ns.drop 0) [] = R from hR)
  have HS := Aside0.mk (show StkT w w.heap.size [] (.slice none 0 0) [] from ⟨World.ownsRow_nil _ _ _ _, by unfold RepTs; rfl⟩)
  clear hr hc hR hi hz0 hz1 hz2
  go_enter Try.func52, Try.ntmps52
  go_wp2_with fail
  go_loopw [3, 10] (fun v3 v10 W => ∃ (j : Nat) (st : List Tr) (svs : List Value), j ≤ ns.length ∧ v10 = .int .i64 j ∧ Aside0 (treesOf (ns.drop j) st = R) ∧ Aside0 (StkT W w.heap.size st v3 svs) ∧ Aside0 (st.length ≤ j) ∧ Aside0 (Below w.heap.size w W)) (fun _ v10 _ => ns.length - (intOf v10).toNat)
  case atStart => exact ⟨0, [], [], by omega, rfl, HGO, HS, ⟨Nat.le_refl _⟩, ⟨kk⟩⟩
  case round =>
    clear HGO HS kr
    obtain ⟨j, st, svs, hj, rfl, HGO, HS, HJ, HB⟩ := hrel
    have kW : K0 (Below w.heap.size w wr) := ⟨HB.out⟩
    have hsl := RepTs_len _ _ HS.out.2
    obtain ⟨A3, m3, c3, rfl⟩ := own_sl HS.out.1
    have hm3 : m3 = st.length := by
      rcases HS.out.1.2 with ⟨e, h0⟩ | ⟨g, cap, cur, e, _⟩
      · cases e; omega
      · cases e; omega
    subst hm3
    by_cases hlt : j < ns.length
    · obtain ⟨ad, e0, hx⟩ := at_T63 HR.out (j : Int) (by omega) (by omega)
      subst e0
      rw [Int.toNat_natCast] at hx
      obtain ⟨x, hX⟩ : ∃ x, rd_T63 ns (j : Int) = x := ⟨_, rfl⟩
      have hgo := HGO.out
      rw [List.drop_eq_getElem_cons hlt, show ns[j] = x from by rw [← hX]; unfold rd_T63; rw [Int.toNat_natCast]; simp [hlt]] at hgo
      rw [hX] at hx
      obtain ⟨x0, x1, x2, x3, x4, x5, x6⟩ := hx
      have x0 := clk x0
      have x1 := clk x1
      have x2 := clk x2
      have x3 := clk x3
      have x4 := clk x4
      have x5 := clk x5
      have x6 := clk x6
      have hjj := HJ.out
      have ha := arB_nn x.f0
      have ha3 := arB_le x.f0
      go_upto_region 5 with (fail)
      clear x0 x1 x2 x3 x4 x5 x6
      have hwt : Below w.heap.size w (wr.alloc (.cells #[.int .i64 x.f0, .string x.f1, .bool x.f2, .string x.f3, .int .u64 x.f4, .int .u64 x.f5, .int .i64 x.f6] 63)) := kk
      have hh := heap_alloc_new wr (.cells #[.int .i64 x.f0, .string x.f1, .bool x.f2, .string x.f3, .int .u64 x.f4, .int .u64 x.f5, .int .i64 x.f6] 63)
      have hmv : ∀ k, k < wr.heap.size → (wr.alloc (.cells #[.int .i64 x.f0, .string x.f1, .bool x.f2, .string x.f3, .int .u64 x.f4, .int .u64 x.f5, .int .i64 x.f6] 63)).heap[k]? = wr.heap[k]? := fun k hk => heap_alloc_old _ _ hk
      have hwz := sz_al wr (.cells #[.int .i64 x.f0, .string x.f1, .bool x.f2, .string x.f3, .int .u64 x.f4, .int .u64 x.f5, .int .i64 x.f6] 63)
      generalize wr.alloc (.cells #[.int .i64 x.f0, .string x.f1, .bool x.f2, .string x.f3, .int .u64 x.f4, .int .u64 x.f5, .int .i64 x.f6] 63) = wt at *
      have z0 : wt.cell? ⟨wr.heap.size, 0, none⟩ = some (.int .i64 x.f0) := (blk_cell hh 0).trans rfl
      have z1 : wt.cell? ⟨wr.heap.size, 1, none⟩ = some (.string x.f1) := (blk_cell hh 1).trans rfl
      have z2 : wt.cell? ⟨wr.heap.size, 2, none⟩ = some (.bool x.f2) := (blk_cell hh 2).trans rfl
      have z3 : wt.cell? ⟨wr.heap.size, 3, none⟩ = some (.string x.f3) := (blk_cell hh 3).trans rfl
      have z4 : wt.cell? ⟨wr.heap.size, 4, none⟩ = some (.int .u64 x.f4) := (blk_cell hh 4).trans rfl
      have z5 : wt.cell? ⟨wr.heap.size, 5, none⟩ = some (.int .u64 x.f5) := (blk_cell hh 5).trans rfl
      have z6 : wt.cell? ⟨wr.heap.size, 6, none⟩ = some (.int .i64 x.f6) := (blk_cell hh 6).trans rfl
      have z0 := clk z0
      have z1 := clk z1
      have z2 := clk z2
      have z3 := clk z3
      have z4 := clk z4
      have z5 := clk z5
      have z6 := clk z6
      have kt : K0 (Below wt.heap.size wt wt) := ⟨Below.refl _ _⟩
      have HWT := Aside0.mk hwt
      have HMV := Aside0.mk hmv
      clear hwt hmv hh kW
      go_wp2_with fail
      refine (impl_Node_arity.calls 1 x.f0 x.f1 x.f2 x.f3 x.f4 x.f5 x.f6 (arB x.f0) wt (ar_impl ..)).mono ?_
      rintro e W2 ⟨rfl, hb2⟩
      have k2 : K0 (Below wt.heap.size wt W2) := ⟨hb2⟩
      have HB2 := Aside0.mk hb2
      have tr1 : ∀ W [K0 (Below wt.heap.size wt W)], K0 (Below w.heap.size w W) := fun W k => ⟨HWT.out.trans (k.out.mono HWT.out.size)⟩
      clear hb2 kt
      obtain ⟨q, hq⟩ : ∃ q : Nat, arB x.f0 = q := ⟨(arB x.f0).toNat, by omega⟩
      simp only [treesOf, pushT] at hgo
      rw [hq] at hgo ha ha3 ⊢
      by_cases hlt2 : (st.length : Int) < q
      · rw [if_pos hlt2] at hgo
        obtain rfl : R = none := by rw [← hgo]; rfl
        have d1 : decide ((st.length : Int) - (q : Int) < 0) = true := decide_eq_true (by omega)
        go_wp2
        go_ret
        exact ⟨.pointer none, rfl, rfl, kk⟩
      rw [if_neg hlt2, Int.toNat_natCast, Option.bind_some] at hgo
      obtain ⟨k, hk⟩ : ∃ k, st.length = k + q := ⟨st.length - q, by omega⟩
      rw [show st.length - q = k by omega] at hgo
      have HGO2 := Aside0.mk hgo
      have hsub : (st.length : Int) - (q : Int) = (k : Int) := by omega
      clear hgo HGO
      go_upto_region 6 with (fail)
      try rw [hsub]
      have d1 : decide ((k : Int) < 0) = false := decide_eq_false (by omega)
      clear d1
      go_upto_region 8 with (fail)
      have hkl : k ≤ st.length := by omega
      rcases HS.out.1.2 with ⟨e, h0⟩ | ⟨g, cap, cur, e, hg, hh, h1, h2, h3, h4⟩
      case' inl =>
        injection e with e1 e2 e3
        subst e1 e3
        obtain rfl : k = 0 := by omega
        obtain rfl : q = 0 := by omega
      case' inr =>
        injection e with e1 e2 e3
        subst e1 e3
        have q1 : k ≤ c3 := by omega
        have q2 : k + q ≤ c3 := by omega
        have q3 : (k : Int) ≤ (k : Int) + (q : Int) := by omega
      all_goals (
        refine sq_region (S := fun W' => K0 (Below wt.heap.size wt W')) [(0, false), (1, false), (2, false), (3, false), (4, true), (5, false), (6, true), (7, false)] (by kernel_rfl) (by kernel_rfl) (by exact inferInstance) (fun hS => ?_)
        repeat (first | (refine sq_n ?_ ?_ rfl ?_ ?_ ?_; rotate_left 2; (intro W hW; go_simp; first | done | with_reducible rfl); (simp only [List.setIfInBounds_toArray, List.set_cons_zero, List.set_cons_succ]; try rfl)) | (refine sq_g ?_ ?_ rfl rfl rfl ?_ ?_ ?_; rotate_left 2; (intro W hW; go_simp; first | done | with_reducible rfl); (simp only [List.setIfInBounds_toArray, List.set_cons_zero, List.set_cons_succ]; try rfl))))
      case' inl =>
        have hnil : svs = [] := List.eq_nil_of_length_eq_zero (by omega)
        refine sq_1n rfl (fun hS K hK => ?_)
        go_simp
        go_at_call 78
        refine (clone_nil _).mono ?_
        rintro e W3 ⟨rfl, rfl⟩
        have F1 := Aside0.mk (show W2.drew.ownsRow wt.heap.size 47 1 (.slice none 0 0) 0 (svs.drop 0) from by rw [hnil]; exact World.ownsRow_nil _ _ _ _)
        have k3 : K0 (Below wt.heap.size wt W2.drew) := hS
        refine hK.out _ _ k3 (fun hS => ?_)
        generalize W2.drew = W3 at *
        have hv2 : ∃ v2, Value.slice none 0 0 = v2 := ⟨_, rfl⟩
      case' inr =>
        obtain ⟨ad3, hif⟩ : ∃ ad3, (if c3 = k then some (⟨g, 0, none⟩ : Addr) else some ⟨g, k, none⟩) = some ad3 := by split <;> exact ⟨_, rfl⟩
        rw [hif]
        have hcells : ∀ (i : Nat) (u : Value), (svs.drop k)[i]? = some u → wt.cell? (ad3.add i) = some u := by
          intro i u hi
          have hlt5 := (List.getElem?_eq_some_iff.mp hi).1
          rw [List.length_drop] at hlt5
          rw [if_neg (by omega)] at hif
          cases hif
          rw [List.getElem?_drop] at hi
          obtain ⟨g', e', hcl, -⟩ := own_cell (own_move HS.out.1 (fun b hb => HMV.out b (HS.out.1.lt b hb).2)) hi
          cases e'
          rw [show (⟨g, k, none⟩ : Addr).add i = ⟨g, k + i, none⟩ from by simp [Addr.add]]
          exact hcl
        have hones : ∀ u ∈ svs.drop k, u.oneCell' = true := fun u hu => RepTs_one _ _ HS.out.2 u (List.mem_of_mem_drop hu)
        refine sq_1n rfl (fun hS K hK => ?_)
        go_simp
        go_at_call 78
        refine (clone_call ad3 q (c3 - k) (svs.drop k) _ (by rw [List.length_drop]; omega) (fun i u hi => clk (hcells i u hi) _) hones (by omega)).mono ?_
        rintro e W3 ⟨v2, rfl, ho3, hb3⟩
        obtain ⟨A4, m4, c4, rfl⟩ := own_sl ho3
        have k3 : K0 (Below wt.heap.size wt W3) := ⟨hS.out.trans (hb3.mono hS.out.size)⟩
        have F1 := Aside0.mk (own_lower ho3 hS.out.size)
        refine hK.out _ _ k3 (fun hS => ?_)
        clear ho3 hb3 hcells hones
      all_goals (
        repeat (first | (refine sq_n ?_ ?_ rfl ?_ ?_ ?_; rotate_left 2; (intro W hW; go_simp; first | done | with_reducible rfl); (simp only [List.setIfInBounds_toArray, List.set_cons_zero, List.set_cons_succ]; try rfl)) | (refine sq_g ?_ ?_ rfl rfl rfl ?_ ?_ ?_; rotate_left 2; (intro W hW; go_simp; first | done | with_reducible rfl); (simp only [List.setIfInBounds_toArray, List.set_cons_zero, List.set_cons_succ]; try rfl)))
        refine sq_1n rfl (fun hS K2 hK2 => ?_)
        go_wp2_with fail
        refine hK2.out _ _ inferInstance (fun hS => ?_)
        repeat (first | (refine sq_n ?_ ?_ rfl ?_ ?_ ?_; rotate_left 2; (intro W hW; go_simp; first | done | with_reducible rfl); (simp only [List.setIfInBounds_toArray, List.set_cons_zero, List.set_cons_succ]; try rfl)) | (refine sq_g ?_ ?_ rfl rfl rfl ?_ ?_ ?_; rotate_left 2; (intro W hW; go_simp; first | done | with_reducible rfl); (simp only [List.setIfInBounds_toArray, List.set_cons_zero, List.set_cons_succ]; try rfl)))
        refine sq_done (fun hS => ?_))
      case' inl =>
        have HF := Aside0.mk (stk_node x HS.out HMV.out (by omega) (by have := HWT.out.size; omega) k3.out F1.out (by simp [hnil]))
        have HCUT := Aside0.mk (fun (W : World) (hW : W.ownsRow w.heap.size 47 1 (Value.slice none st.length 0) svs.length svs) => (by rw [hnil]; exact World.ownsRow_nil _ _ _ _ : W.ownsRow w.heap.size 47 1 (Value.slice none 0 0) 0 (svs.take 0)))
      case' inr =>
        have HF := Aside0.mk (stk_node x HS.out HMV.out (by omega) (by have := HWT.out.size; omega) k3.out F1.out (by rw [List.length_drop]; omega))
        have HCUT := Aside0.mk (fun (W : World) (hW : W.ownsRow w.heap.size 47 1 (Value.slice (some ⟨g, 0, none⟩) st.length c3) svs.length svs) => own_cut hW (show k ≤ svs.length by omega))
      all_goals (
        unfold nodeV at HF)
      case' inl =>
        generalize W3.alloc (.cells #[.int .i64 x.f0, .string x.f1, .bool x.f2, .string x.f3, .int .u64 x.f4, .int .u64 x.f5, .int .i64 x.f6, .slice none 0 0] 65) = W4 at *
      case' inr =>
        generalize W3.alloc (.cells #[.int .i64 x.f0, .string x.f1, .bool x.f2, .string x.f3, .int .u64 x.f4, .int .u64 x.f5, .int .i64 x.f6, .slice A4 m4 c4] 65) = W4 at *
      all_goals (
        generalize hptr : W3.heap.size = ptr at *
        have HO4 := Aside0.mk (HCUT.out _ (HF.out.2.2.1.alloc (.cells #[.pointer (some ⟨ptr, 0, none⟩)] 47)))
        have hc1 : ∀ i u, ([.pointer (some ⟨ptr, 0, none⟩)] : List Value)[i]? = some u → (W4.alloc (.cells #[.pointer (some ⟨ptr, 0, none⟩)] 47)).cell? ((⟨W4.heap.size, 0, none⟩ : Addr).add i) = some u := by
          intro i u hi
          rcases i with _ | i
          · cases hi
            exact cell_of_row _ W4.heap.size 0 _ 47 _ (heap_alloc_new _ _)
          · simp at hi
        have HC1 := Aside0.mk hc1
        have HC2 := Aside0.mk (show ∀ u ∈ ([.pointer (some ⟨ptr, 0, none⟩)] : List Value), u.oneCell' = true from by simp [Value.oneCell'])
        have HC5 := Aside0.mk (show w.heap.size ≤ (W4.alloc (.cells #[.pointer (some ⟨ptr, 0, none⟩)] 47)).heap.size from by rw [sz_al]; have := HF.out.2.2.2.size; have := HWT.out.size; omega)
        clear hc1)
      case' inl =>
        have HC3 := Aside0.mk (show 0 + 1 ≤ maxLen from by simp only [maxLen]; omega)
        have HC4 := Aside0.mk (show (0 + 1) * 8 ≤ 140737488355328 from by omega)
        go_wp2_with (at_builtin; refine wpList_append_at rfl (.tmp 30) (.tmp 32) 57 rfl w.heap.size 47 i0 (.pointer none) 1 8 Try.underlying57 HI.out HZ.out.1 HZ.out.2.1 HZ.out.2.2 rfl (by decide) (.slice none 0 0) 0 (svs.take 0) rfl HO4.out ⟨W4.heap.size, 0, none⟩ 1 1 [.pointer (some ⟨ptr, 0, none⟩)] rfl rfl HC1.out HC2.out HC3.out HC4.out HC5.out ?_; intro v5 w5 hown hgr hloc; have HG := Aside0.mk (stk_push HF.out.1 HF.out.2.1 (fun b hb => hb) rfl hown hgr hloc); have HGR := Aside0.mk (grown_below2 (tr1 _).out hgr (fun b hb => by cases hb)); clear hown hgr hloc)
      case' inr =>
        have HC3 := Aside0.mk (show k + 1 ≤ maxLen from by simp only [maxLen]; omega)
        have HC4 := Aside0.mk (show (k + 1) * 8 ≤ 140737488355328 from by omega)
        go_wp2_with (at_builtin; refine wpList_append_at rfl (.tmp 30) (.tmp 32) 57 rfl w.heap.size 47 i0 (.pointer none) 1 8 Try.underlying57 HI.out HZ.out.1 HZ.out.2.1 HZ.out.2.2 rfl (by decide) (.slice (some ⟨g, 0, none⟩) k c3) k (svs.take k) rfl HO4.out ⟨W4.heap.size, 0, none⟩ 1 1 [.pointer (some ⟨ptr, 0, none⟩)] rfl rfl HC1.out HC2.out HC3.out HC4.out HC5.out ?_; intro v5 w5 hown hgr hloc; have HG := Aside0.mk (stk_push HF.out.1 HF.out.2.1 (fun b hb => hb) (by rw [List.length_take]; omega) hown hgr hloc); have HGR := Aside0.mk (grown_below2 (tr1 _).out hgr (fun b hb => by cases hb; exact hg)); clear hown hgr hloc)
      all_goals (
        go_roundw
        case' measure => simp only [intOf]; omega
        case' rel => exact ⟨j + 1, _, _, by omega, by rw [Int.natCast_add]; rfl, HGO2, HG, ⟨by rw [List.length_append, List.length_take]; simp only [List.length_cons, List.length_nil]; omega⟩, HGR⟩)
    · obtain rfl : j = ns.length := by omega
      have hgo := HGO.out
      rw [List.drop_length] at hgo
      simp only [treesOf] at hgo
      subst hgo
      by_cases h1 : st.length = 1
      · obtain ⟨t, rfl⟩ := List.length_eq_one_iff.mp h1
        have hrs := HS.out.2
        unfold RepTs at hrs
        obtain ⟨v, us, rfl, hrt, hus⟩ := hrs
        obtain ⟨g, rfl, hcl, -⟩ := own_cell HS.out.1 (i := 0) (u := v) rfl
        simp only [List.length_cons, List.length_nil, Nat.zero_add] at *
        have HRT := Aside0.mk hrt
        clear hrt HS
        go_wp2
        go_ret
        exact ⟨v, rfl, RepT_move (fun k hk hl => ⟨hk.1, rfl⟩) _ _ HRT.out, kk⟩
      · have d1 : ((st.length : Int) != 1) = true := by simp; omega
        go_wp2
        go_ret
        refine ⟨.pointer none, rfl, ?_, kk⟩
        unfold oneTree
        split
        · rename_i t he
          have := Option.some.inj he
          subst this
          exact absurd rfl h1
        · rfl
end Go.Proofs.Ytpfehkkfakofaaa.Q

namespace Go.Proofs.Ytpfehkkfakofaaa.Q
open Go.RowKit Go.Proofs.YtpfehkkfakofaaaW.PrintWords Go.Proofs.YtpfehkkfakofaaaW.PrintLast Go.Proofs.YtpfehkkfakofaaaW.PrintMore
set_option linter.unusedVariables false
set_option linter.unusedSimpArgs false
/-- What both tests of a node say. -/
noncomputable def nodeOk (x : S63) : Bool := ndOk (Classical.choose (node_same x.f0 x.f1 x.f2 x.f3 x.f4 x.f5 x.f6)) x.f0 x.f1 x.f2 x.f3 x.f4 x.f5 x.f6
theorem nodeOk_spec (x : S63) : Ev (fun k => spec_l5GoodNode.f k x.f0 x.f1 x.f2 x.f3 x.f4 x.f5 x.f6) (nodeOk x) := (Classical.choose_spec (node_same x.f0 x.f1 x.f2 x.f3 x.f4 x.f5 x.f6)).2
theorem node_call (x : S63) (w : World) : Calls Try.prog 51 #[.agg #[.int .i64 x.f0, .string x.f1, .bool x.f2, .string x.f3, .int .u64 x.f4, .int .u64 x.f5, .int .i64 x.f6]] w fun e w' => e = .returned (.bool (nodeOk x)) ∧ Below w.heap.size w w' := by
  obtain ⟨K, hK⟩ := (Classical.choose_spec (node_same x.f0 x.f1 x.f2 x.f3 x.f4 x.f5 x.f6)).1
  exact impl_Node_good.calls K _ _ _ _ _ _ _ _ w (hK K (Nat.le_refl _))
set_option maxHeartbeats 4000000 in
set_option maxRecDepth 100000 in
theorem bad_call (x : S63) (w : World) : Calls Try.prog 50 #[.agg #[.int .i64 x.f0, .string x.f1, .bool x.f2, .string x.f3, .int .u64 x.f4, .int .u64 x.f5, .int .i64 x.f6]] w fun e w' => e = .returned (.bool (!nodeOk x)) ∧ Below w.heap.size w w' := by
  have kr : K0 (Below w.heap.size w w) := ⟨Below.refl _ _⟩
  have hk : Below w.heap.size w (w.alloc (.cells #[.int .i64 x.f0, .string x.f1, .bool x.f2, .string x.f3, .int .u64 x.f4, .int .u64 x.f5, .int .i64 x.f6] 63)) := kk
  go_enter Try.func50, Try.ntmps50
  go_wp2_with fail
  generalize w.alloc (.cells #[.int .i64 x.f0, .string x.f1, .bool x.f2, .string x.f3, .int .u64 x.f4, .int .u64 x.f5, .int .i64 x.f6] 63) = W at *
  refine (node_call x W).mono ?_
  rintro e W2 ⟨rfl, hb⟩
  have k2 : K0 (Below w.heap.size w W2) := ⟨hk.trans (hb.mono hk.size)⟩
  clear hb hk
  go_wp2
  go_ret
  exact ⟨rfl, kk⟩
noncomputable def firstBad : Nat → List S63 → Int
  | _, [] => -1
  | i, x :: xs => if nodeOk x = true then firstBad (i + 1) xs else i
theorem firstBad_all : ∀ (xs : List S63) (i : Nat), decide (0 ≤ firstBad i xs) = !(xs.all nodeOk)
  | [], i => by simp [firstBad]
  | x :: xs, i => by
    have e : firstBad i (x :: xs) = if nodeOk x = true then firstBad (i + 1) xs else i := rfl
    by_cases h : nodeOk x = true
    · rw [show firstBad i (x :: xs) = firstBad (i + 1) xs from by rw [e, if_pos h], firstBad_all xs (i + 1)]; simp [h]
    · rw [show firstBad i (x :: xs) = (i : Int) from by rw [e, if_neg h]]; simp at h; simp [h]
set_option maxHeartbeats 4000000 in
set_option maxRecDepth 100000 in
theorem index_call (A : Option Addr) (c : Nat) (ns : List S63) (w : World) (hr : Kd.C k63 w A ns.length ns) (hc : ns.length ≤ c) (hn : ns.length ≤ 1000) :
    Calls Try.prog 75 #[.slice A ns.length c, .func (.func 50) #[] #[]] w fun e w' => e = .returned (.int .i64 (firstBad 0 ns)) ∧ Below w.heap.size w w' := by
  have kr : K0 (Below w.heap.size w w) := ⟨Below.refl _ _⟩
  have HR := Aside0.mk hr
  have HC := Aside0.mk hc
  obtain ⟨r, hR⟩ : ∃ r, firstBad 0 ns = r := ⟨_, rfl⟩
  rw [hR]
  have HGO := Aside0.mk (show firstBad 0 (ns.drop 0) = r from hR)
  clear hr hc hR
  go_enter Try.func75, Try.ntmps75
  go_wp2_with fail
  go_loopw [8] (fun v8 W => ∃ (j : Nat), j ≤ ns.length ∧ v8 = .int .i64 j ∧ Aside0 (firstBad j (ns.drop j) = r) ∧ Aside0 (Below w.heap.size w W)) (fun v8 _ => ns.length - (intOf v8).toNat)
  case atStart => exact ⟨0, by omega, rfl, HGO, ⟨kk⟩⟩
  case round =>
    clear HGO kr
    obtain ⟨j, hj, rfl, HGO, HB⟩ := hrel
    have kW : K0 (Below w.heap.size w wr) := ⟨HB.out⟩
    by_cases hlt : j < ns.length
    · obtain ⟨ad, e0, hx⟩ := at_T63 HR.out (j : Int) (by omega) (by omega)
      subst e0
      rw [Int.toNat_natCast] at hx
      obtain ⟨x, hX⟩ : ∃ x, rd_T63 ns (j : Int) = x := ⟨_, rfl⟩
      have hgo := HGO.out
      rw [List.drop_eq_getElem_cons hlt, show ns[j] = x from by rw [← hX]; unfold rd_T63; rw [Int.toNat_natCast]; simp [hlt]] at hgo
      rw [hX] at hx
      obtain ⟨x0, x1, x2, x3, x4, x5, x6⟩ := hx
      have x0 := clk x0
      have x1 := clk x1
      have x2 := clk x2
      have x3 := clk x3
      have x4 := clk x4
      have x5 := clk x5
      have x6 := clk x6
      have hw1 : IntKind.i64.wrap ((j : Int) + 1) = ((j + 1 : Nat) : Int) := by rw [IntKind.wrap_i64]; omega
      simp only [firstBad] at hgo
      go_wp2_with fail
      refine (bad_call x wr).mono ?_
      rintro e W2 ⟨rfl, hb⟩
      have k2 : K0 (Below w.heap.size w W2) := ⟨HB.out.trans (hb.mono HB.out.size)⟩
      clear hb kW x0 x1 x2 x3 x4 x5 x6
      cases hz : nodeOk x
      · rw [hz, if_neg (by decide)] at hgo
        subst hgo
        go_wp2
        go_ret
        exact ⟨rfl, kk⟩
      · rw [hz, if_pos rfl] at hgo
        go_wp2_with fail
        go_roundw
        case measure => simp only [intOf]; omega
        case rel => exact ⟨j + 1, by omega, by rw [Int.natCast_add]; rfl, ⟨hgo⟩, ⟨kk⟩⟩
    · obtain rfl : j = ns.length := by omega
      have hgo := HGO.out
      rw [List.drop_length] at hgo
      simp only [firstBad] at hgo
      subst hgo
      go_wp2
      go_ret
      exact ⟨rfl, kk⟩
set_option maxRecDepth 100000 in
theorem contains_call (A : Option Addr) (c : Nat) (ns : List S63) (w : World) (hr : Kd.C k63 w A ns.length ns) (hc : ns.length ≤ c) (hn : ns.length ≤ 1000) :
    Calls Try.prog 49 #[.slice A ns.length c, .func (.func 50) #[] #[]] w fun e w' => e = .returned (.bool (!(ns.all nodeOk))) ∧ Below w.heap.size w w' := by
  have HI := Aside0.mk (index_call A c ns w hr hc hn)
  clear hr hc hn
  go_enter Try.func49, Try.ntmps49
  go_wp2_with fail
  refine HI.out.mono ?_
  rintro e W2 ⟨rfl, hb⟩
  have k2 : K0 (Below w.heap.size w W2) := ⟨hb⟩
  have hall := firstBad_all ns 0
  generalize firstBad 0 ns = r at *
  clear hb HI
  go_wp2
  go_ret
  refine ⟨?_, kk⟩
  rw [← hall]
  rfl
/-- The tree of a valid filter. -/
noncomputable def validT (ns : List S63) : Option Tr :=
  if (ns.length : Int) > 200 then none else if ns.all nodeOk = false then none else match treesOf ns [] with | some [t] => if nestT t > 20 then none else some t | _ => none
def optT (o : Option Tr) (w : World) (B : Nat) (v : Value) : Prop :=
  match o with
  | some t => RepT w (fun k => B ≤ k) t v
  | none => v = .pointer none
set_option maxHeartbeats 4000000 in
set_option maxRecDepth 100000 in
theorem valid_call (A : Option Addr) (c : Nat) (ns : List S63) (w : World) (hr : Kd.C k63 w A ns.length ns) (hc : ns.length ≤ c) :
    Calls Try.prog 21 #[.agg #[.slice A ns.length c]] w fun e w' => ∃ v, e = .returned v ∧ optT (validT ns) w' w.heap.size v ∧ Below w.heap.size w w' := by
  have kr : K0 (Below w.heap.size w w) := ⟨Below.refl _ _⟩
  obtain ⟨r, hR⟩ : ∃ r, validT ns = r := ⟨_, rfl⟩
  rw [hR]
  unfold validT at hR
  have HR := Aside0.mk hr
  have HC := Aside0.mk hc
  clear hr hc
  by_cases hl : (ns.length : Int) > 200
  · rw [if_pos hl] at hR
    subst hR
    have e1 : decide ((200 : Int) < (ns.length : Int)) = true := decide_eq_true hl
    go_enter Try.func21, Try.ntmps21
    go_wp2
    go_ret
    exact ⟨.pointer none, rfl, rfl, kk⟩
  rw [if_neg hl] at hR
  have e1 : decide ((200 : Int) < (ns.length : Int)) = false := decide_eq_false hl
  have hB : Below w.heap.size w (w.alloc (.cells #[.slice A ns.length c] 28)) := kk
  have x0 : (w.alloc (.cells #[.slice A ns.length c] 28)).cell? ⟨w.heap.size, 0, none⟩ = some (.slice A ns.length c) := cell_of_row _ w.heap.size 0 _ 28 _ (heap_alloc_new w _)
  have hr2 := Kd.C_alloc HR.out (.cells #[.slice A ns.length c] 28)
  go_enter Try.func21, Try.ntmps21
  go_wp2_with fail
  generalize w.alloc (.cells #[.slice A ns.length c] 28) = wb at *
  have HB := Aside0.mk hB
  have HR2 := Aside0.mk hr2
  have y0 := clk x0
  clear hB x0 hr2 kr
  have tr1 : ∀ W [K0 (Below wb.heap.size wb W)], K0 (Below w.heap.size w W) := fun W k => ⟨HB.out.trans (k.out.mono HB.out.size)⟩
  refine (contains_call A c ns wb HR2.out HC.out (by omega)).mono ?_
  rintro e W2 ⟨rfl, hb⟩
  have k2 : K0 (Below wb.heap.size wb W2) := ⟨hb⟩
  cases ha : ns.all nodeOk
  · rw [ha, if_pos rfl] at hR
    subst hR
    go_wp2
    go_ret
    exact ⟨.pointer none, rfl, rfl, kk⟩
  rw [ha, if_neg (by decide)] at hR
  have HQ := Aside0.mk hR
  clear hb hR
  go_wp2_with fail
  refine (treeOf_call A c ns W2 (Kd.C_below HR2.out k2.out) HC.out (by omega)).mono ?_
  rintro e W3 ⟨v, rfl, ht, hb⟩
  have k3 : K0 (Below wb.heap.size wb W3) := ⟨k2.out.trans (hb.mono k2.out.size)⟩
  have hb2 := k2.out.size
  have hb1 := HB.out.size
  have hq := HQ.out
  clear hb
  have key : (∃ t, treesOf ns [] = some [t]) ∨ (v = .pointer none ∧ r = none) := by
    by_cases h1 : ∃ t, treesOf ns [] = some [t]
    · exact .inl h1
    · right
      constructor
      · unfold oneTree at ht
        split at ht
        · rename_i t he
          exact absurd ⟨t, he⟩ h1
        · exact ht
      · rw [← hq]
        split
        · rename_i t he
          exact absurd ⟨t, he⟩ h1
        · rfl
  rcases key with ⟨t, hto⟩ | ⟨rfl, rfl⟩
  · have hw := (treesOf_flat ns [] [t] hto trivial).2.1
    have hf := (treesOf_flat ns [] [t] hto trivial).1
    have hfl : (flatT t).length = ns.length := by
      have : flatT t = ns := by simpa [flatTs] using hf
      rw [this]
    rw [hto] at ht hq
    have ht : RepT W3 (fun k => W2.heap.size ≤ k) t v := ht
    obtain ⟨a, rfl⟩ : ∃ a, v = .pointer (some ⟨a, 0, none⟩) := by
      cases t; unfold RepT at ht; obtain ⟨a, u, vs, rfl, -⟩ := ht; exact ⟨a, rfl⟩
    have HT := Aside0.mk ht
    have HN := Aside0.mk (nest_call ns.length t (.pointer (some ⟨a, 0, none⟩)) _ W3 (by omega) (by omega) hw ht)
    have hnn := nestT_le t
    clear ht hf hfl hw
    go_wp2_with fail
    refine HN.out.mono ?_
    rintro e W4 ⟨rfl, hb⟩
    have k4 : K0 (Below wb.heap.size wb W4) := ⟨k3.out.trans (hb.mono k3.out.size)⟩
    have hfin : RepT W4 (fun k => w.heap.size ≤ k) t (.pointer (some ⟨a, 0, none⟩)) := RepT_move (fun k hk hl => ⟨by omega, hb.block k hl⟩) _ _ HT.out
    have HF := Aside0.mk hfin
    clear hb hfin HN HT
    have hq : (if nestT t > 20 then none else some t) = r := hq
    generalize nestT t = q at *
    by_cases h20 : q > 20
    · rw [if_pos h20] at hq
      subst hq
      have d1 : decide ((20 : Int) < q) = true := decide_eq_true h20
      go_wp2
      go_ret
      exact ⟨.pointer none, rfl, rfl, kk⟩
    · rw [if_neg h20] at hq
      subst hq
      have d1 : decide ((20 : Int) < q) = false := decide_eq_false h20
      go_wp2
      go_ret
      exact ⟨_, rfl, HF.out, kk⟩
  · clear ht hq
    go_wp2
    go_ret
    exact ⟨.pointer none, rfl, rfl, kk⟩
/-! the reference's -/
theorem spec_loop (ns : List S63) (hn : ns.length ≤ 200) (b : Bool) (hF : Ev (fun k => (spec_l5Tree.f k ns).bind fun t => if t = true then (spec_l5Nest.f k ns).bind fun q => some (decide (q ≤ 20)) else some false) b) :
    Ev (fun k => spec_ValidFilter.l0 k 0 ns) (ns.all nodeOk && b) :=
  all_loop ns z63 nodeOk (fun k x => spec_l5GoodNode.f k x.f0 x.f1 x.f2 x.f3 x.f4 x.f5 x.f6) (fun k i => spec_ValidFilter.l0 k i ns) _ b (by omega)
    (fun k i hi => by simp only [spec_ValidFilter.l0]; rw [if_pos (by omega), if_pos (by omega), wrap_nat _ (by omega)]; rfl)
    (fun k => by simp only [spec_ValidFilter.l0]; rw [if_neg (by omega)]) (fun x _ => nodeOk_spec x) hF ns [] rfl
theorem spec_filter_is (ns : List S63) : Ev (fun k => spec_ValidFilter.f k ns) (validT ns).isSome := by
  unfold spec_ValidFilter.f validT
  by_cases hl : (ns.length : Int) > 200
  · rw [if_pos hl]
    exact Ev.if_pos hl (Ev.now _)
  rw [if_neg hl]
  refine Ev.if_neg hl ?_
  have hfr := from_is ns (by omega)
  by_cases h1 : ∃ t, treesOf ns [] = some [t]
  · obtain ⟨t, ht⟩ := h1
    have hne : ns ≠ [] := by rintro rfl; cases ht
    have h0 := (scan_one ns hne).mpr ⟨t, ht⟩
    have hw := (treesOf_flat ns [] [t] ht trivial).2.1
    have hf : flatT t = ns := by simpa [flatTs] using (treesOf_flat ns [] [t] ht trivial).1
    rw [h0] at hfr
    have hlen : 0 < ns.length := List.length_pos_iff.mpr hne
    have htree : Ev (fun k => spec_l5Tree.f k ns) true := by
      unfold spec_l5Tree.f
      exact Ev.if_pos (by omega) (Ev.bind hfr (Ev.now _))
    have hnest : Ev (fun k => spec_l5Nest.f k ns) (nestT t) := by
      have h := nest_is t hw (by rw [hf]; omega)
      rw [hf] at h; exact h
    have h := spec_loop ns (by omega) _ (Ev.bind htree (Ev.if_pos rfl (Ev.bind hnest (Ev.now (decide (nestT t ≤ 20))))))
    rw [ht]
    cases hall : ns.all nodeOk
    · rw [hall] at h; simpa using h
    · rw [hall] at h
      by_cases h20 : nestT t > 20
      · rw [decide_eq_false (by omega)] at h
        simpa [h20] using h
      · rw [decide_eq_true (by omega)] at h
        simpa [h20] using h
  · have htree : Ev (fun k => spec_l5Tree.f k ns) false := by
      unfold spec_l5Tree.f
      by_cases hne : ns = []
      · subst hne
        exact Ev.if_neg (by simp) (Ev.now _)
      · have h0 : ¬ scanN 1 ns.reverse = 0 := fun h => h1 ((scan_one ns hne).mp h)
        have hlen : 0 < ns.length := List.length_pos_iff.mpr hne
        refine Ev.if_pos (by omega) (Ev.bind hfr ?_)
        rw [beq_eq_false_iff_ne.mpr h0]
        exact Ev.now _
    have h := spec_loop ns (by omega) false (Ev.bind htree (Ev.if_neg (by decide) (Ev.now _)))
    rw [Bool.and_false] at h
    have e : (match treesOf ns [] with | some [t] => if nestT t > 20 then none else some t | _ => (none : Option Tr)) = none := by
      split
      · rename_i t he
        exact absurd ⟨t, he⟩ h1
      · rfl
    rw [e]
    simpa using h
end Go.Proofs.Ytpfehkkfakofaaa.Q

namespace Go.Proofs.Ytpfehkkfakofaaa.Q
open Go.RowKit Go.Proofs.YtpfehkkfakofaaaW.PrintWords Go.Proofs.YtpfehkkfakofaaaW.PrintLast Go.Proofs.YtpfehkkfakofaaaW.PrintMore
set_option linter.unusedVariables false
set_option linter.unusedSimpArgs false
def isK (t : Tr) (k : Int) : Bool := t.top.f0 == k
def sameN : List S63 → List S63 → Bool
  | [], [] => true
  | x :: xs, y :: ys => (x.f0 == y.f0 && (x.f1.toList == y.f1.toList && (x.f2 == y.f2 && (x.f3.toList == y.f3.toList && (x.f4 == y.f4 && (x.f5 == y.f5 && x.f6 == y.f6)))))) && sameN xs ys
  | _, _ => false
/-- One operator over operands in normal form. -/
def normN (n : S63) (ks : List Tr) : Tr :=
  if n.f0 = 14 then
    match ks with
    | [a, b] => if isK a 1 then b else if isK b 1 || (isK a 2 || (isK a 3 && isK b 3)) then a else if isK b 2 then b else .node n ks
    | _ => .node n ks
  else if n.f0 = 15 then
    match ks with
    | [a, b] => if isK a 2 then b else if isK b 2 || (isK a 1 || sameN (flatT a) (flatT b)) then a else .node n ks
    | _ => .node n ks
  else if n.f0 = 16 then
    match ks with
    | [a, b, c] => if isK a 1 || (!isK a 2 && sameN (flatT b) (flatT c)) then b else if isK a 2 then c else .node n ks
    | _ => .node n ks
  else .node n ks
mutual
def normT : Tr → Tr
  | .node n ks => normN n (normTs ks)
def normTs : List Tr → List Tr
  | [] => []
  | t :: ts => normT t :: normTs ts
end
theorem normTs_len : ∀ ts : List Tr, (normTs ts).length = ts.length
  | [] => rfl
  | t :: ts => by simp [normTs, normTs_len ts]
/-- The normal form of an operator is one of the operands or the operator. -/
theorem normN_one (n : S63) (ks : List Tr) : normN n ks = .node n ks ∨ normN n ks ∈ ks := by
  unfold normN
  split
  · split
    · split
      · right; simp
      · split
        · right; simp
        · split
          · right; simp
          · left; rfl
    · left; rfl
  · split
    · split
      · split
        · right; simp
        · split
          · right; simp
          · left; rfl
      · left; rfl
    · split
      · split
        · split
          · right; simp
          · split
            · right; simp
            · left; rfl
        · left; rfl
      · left; rfl
theorem flat_mem2 {ks : List Tr} {x : Tr} (h : x ∈ ks) : (flatT x).length ≤ (flatTs ks).length := by
  obtain ⟨i, hi⟩ := List.mem_iff_getElem?.mp h
  exact flat_mem ks i x hi
theorem wf_mem2 {ks : List Tr} {x : Tr} (h : x ∈ ks) (hw : wfTs ks) : wfT x := by
  obtain ⟨i, hi⟩ := List.mem_iff_getElem?.mp h
  exact wf_mem ks i x hi hw
mutual
theorem normT_wf : ∀ t : Tr, wfT t → wfT (normT t) ∧ (flatT (normT t)).length ≤ (flatT t).length
  | .node n ks, hw => by
    obtain ⟨h1, h2⟩ : (ks.length : Int) = arB n.f0 ∧ wfTs ks := hw
    obtain ⟨h3, h4⟩ := normTs_wf ks h2
    simp only [normT]
    rcases normN_one n (normTs ks) with h | h
    · rw [h]
      refine ⟨⟨by rw [normTs_len]; exact h1, h3⟩, ?_⟩
      simp only [flatT, List.length_append, List.length_cons, List.length_nil]; omega
    · refine ⟨wf_mem2 h h3, ?_⟩
      have := flat_mem2 h
      simp only [flatT, List.length_append, List.length_cons, List.length_nil]; omega
theorem normTs_wf : ∀ ts : List Tr, wfTs ts → wfTs (normTs ts) ∧ (flatTs (normTs ts)).length ≤ (flatTs ts).length
  | [], _ => ⟨trivial, Nat.le_refl _⟩
  | t :: ts, hw => by
    obtain ⟨h1, h2⟩ : wfT t ∧ wfTs ts := hw
    obtain ⟨h3, h4⟩ := normT_wf t h1
    obtain ⟨h5, h6⟩ := normTs_wf ts h2
    refine ⟨⟨h3, h5⟩, ?_⟩
    simp only [normTs, flatTs, List.length_append]; omega
end
/-- All nodes pass. -/
theorem flat_sub {ks : List Tr} {x : Tr} (h : x ∈ ks) {y : S63} (hy : y ∈ flatT x) : y ∈ flatTs ks := by
  induction ks with
  | nil => simp at h
  | cons k ks ih =>
    simp only [flatTs, List.mem_append]
    rcases List.mem_cons.mp h with rfl | h
    · exact .inl hy
    · exact .inr (ih h)
mutual
theorem normT_sub : ∀ (t : Tr) (y : S63), y ∈ flatT (normT t) → y ∈ flatT t
  | .node n ks, y, h => by
    simp only [normT] at h
    have hs : ∀ z, z ∈ flatTs (normTs ks) → z ∈ flatTs ks := fun z hz => normTs_sub ks z hz
    simp only [flatT, List.mem_append, List.mem_singleton]
    rcases normN_one n (normTs ks) with e | e
    · rw [e] at h
      simp only [flatT, List.mem_append, List.mem_singleton] at h
      exact h.imp (hs y) id
    · exact .inl (hs y (flat_sub e h))
theorem normTs_sub : ∀ (ts : List Tr) (y : S63), y ∈ flatTs (normTs ts) → y ∈ flatTs ts
  | [], y, h => h
  | t :: ts, y, h => by
    simp only [normTs, flatTs, List.mem_append] at h ⊢
    exact h.imp (normT_sub t y) (normTs_sub ts y)
end
/-- A node that blocks is one and the same. -/
theorem nodeOk_block {x : S63} (h : nodeOk x = true) (hk : x.f0 = 2) : x = ⟨2, ⟨#[]⟩, false, ⟨#[]⟩, 0, 0, 0⟩ := by
  obtain ⟨c, hc⟩ : ∃ c, nodeOk x = ndOk c x.f0 x.f1 x.f2 x.f3 x.f4 x.f5 x.f6 := ⟨_, rfl⟩
  rw [hc] at h
  clear hc
  unfold ndOk at h
  have hz : (x.f1.toList == [] && (!x.f2 && (x.f3.toList == [] && (x.f4 == 0 && (x.f5 == 0 && x.f6 == 0))))) = true := by
    generalize (x.f1.toList == [] && (!x.f2 && (x.f3.toList == [] && (x.f4 == 0 && (x.f5 == 0 && x.f6 == 0))))) = z at h ⊢
    unfold ndX at h
    rw [hk] at h
    split at h
    · cases h
    · split at h
      · cases h
      · split at h
        · cases h
        · simpa using h
  have he : (⟨#[]⟩ : ByteArray).toList = [] := by kernel_rfl
  obtain ⟨f0, f1, f2, f3, f4, f5, f6⟩ := x
  simp only [Bool.and_eq_true, beq_iff_eq, Bool.not_eq_true'] at hz hk
  obtain ⟨h1, h2, h3, h4, h5, h6⟩ := hz
  rw [← he] at h1 h3
  have h1 := toList_inj.mp h1
  have h3 := toList_inj.mp h3
  subst hk h1 h2 h3 h4 h5 h6
  rfl
end Go.Proofs.Ytpfehkkfakofaaa.Q

namespace Go.Proofs.Ytpfehkkfakofaaa.Q
open Go.RowKit Go.Proofs.YtpfehkkfakofaaaW.PrintWords Go.Proofs.YtpfehkkfakofaaaW.PrintLast Go.Proofs.YtpfehkkfakofaaaW.PrintMore
set_option linter.unusedVariables false
set_option linter.unusedSimpArgs false
theorem len_flat : ∀ ks : List Tr, ks.length ≤ (flatTs ks).length
  | [] => by simp
  | k :: ks => by
    have : 0 < (flatT k).length := List.length_pos_iff.mpr (flatT_ne k)
    have := len_flat ks
    simp only [flatTs, List.length_append, List.length_cons]; omega
theorem one_N (W : World) (g : Nat) (x : S63) (h : W.heap[g]? = some (.cells #[.int .i64 x.f0, .string x.f1, .bool x.f2, .string x.f3, .int .u64 x.f4, .int .u64 x.f5, .int .i64 x.f6] 63 (0, 0))) : Kd.C k63 W (some ⟨g, 0, none⟩) 1 [x] := by
  refine ⟨rfl, by omega, fun _ => ⟨_, rfl, fun j p hj => ?_⟩⟩
  obtain ⟨rfl, rfl⟩ : j = 0 ∧ p = x := by
    rcases j with _ | j
    · exact ⟨rfl, (Option.some.inj hj).symm⟩
    · simp at hj
  refine ⟨_, rfl, k63_mk W p, fun i u hu => ?_⟩
  have hi : i < 7 := (List.getElem?_eq_some_iff.mp hu).1
  rcases i with _ | _ | _ | _ | _ | _ | _ | i
  all_goals first | omega | exact (blk_cell h _).trans hu
theorem node_c1 {w : World} {a : Nat} {n : S63} {u : Value} (h : w.heap[a]? = some (.cells (nodeV n u) 65 (0, 0))) :
    w.cell? ⟨a, 1, none⟩ = some (.string n.f1) ∧ w.cell? ⟨a, 2, none⟩ = some (.bool n.f2) ∧ w.cell? ⟨a, 3, none⟩ = some (.string n.f3) ∧ w.cell? ⟨a, 4, none⟩ = some (.int .u64 n.f4) ∧ w.cell? ⟨a, 5, none⟩ = some (.int .u64 n.f5) ∧ w.cell? ⟨a, 6, none⟩ = some (.int .i64 n.f6) :=
  ⟨(blk_cell h 1).trans rfl, (blk_cell h 2).trans rfl, (blk_cell h 3).trans rfl, (blk_cell h 4).trans rfl, (blk_cell h 5).trans rfl, (blk_cell h 6).trans rfl⟩
set_option maxHeartbeats 4000000 in
set_option maxRecDepth 100000 in
theorem is_call (a : Nat) (o k : Int) (w : World) (h : w.cell? ⟨a, 0, none⟩ = some (.int .i64 o)) :
    Calls Try.prog 54 #[.pointer (some ⟨a, 0, none⟩), .int .i64 k] w fun e w' => e = .returned (.bool (o == k)) ∧ Below w.heap.size w w' := by
  have kr : K0 (Below w.heap.size w w) := ⟨Below.refl _ _⟩
  have h := clk h
  go_enter Try.func54, Try.ntmps54
  go_wp2
  go_ret
  exact ⟨rfl, kk⟩
set_option maxHeartbeats 4000000 in
set_option maxRecDepth 100000 in
theorem nodes_call : ∀ (N : Nat) (t : Tr) (v : Value) (ok : Nat → Prop) (w : World), (flatT t).length ≤ N → N ≤ 1000 → RepT w ok t v →
    Calls Try.prog 23 #[v] w fun e w' => ∃ r, e = .returned r ∧ Kd.R k63 63 w' w.heap.size (fun _ => True) r (flatT t) ∧ Below w.heap.size w w' := by
  intro N
  induction N with
  | zero =>
    intro t v ok w hl
    exact absurd (List.eq_nil_of_length_eq_zero (by omega)) (flatT_ne t)
  | succ N IH =>
    intro t v ok w hl hN hr
    have HIH := Aside0.mk IH
    cases t with
    | node n ks =>
      unfold RepT at hr
      obtain ⟨a, u, vs, rfl, h2, h3, h4, h5, h6⟩ := hr
      obtain ⟨A, m, c, rfl⟩ : ∃ A m c, u = .slice A m c := own_sl h4
      have hvl := RepTs_len ks vs h6
      have hml : m = ks.length := by
        rcases h4.2 with ⟨e, h0⟩ | ⟨g, cap, cur, e, _⟩
        · cases e; omega
        · cases e; exact hvl
      subst hml
      have kr : K0 (Below w.heap.size w w) := ⟨Below.refl _ _⟩
      have c0 := clk (node_c0 h3)
      have c7 := clk (node_c7 h3)
      obtain ⟨c1, c2, c3, c4, c5, c6⟩ := node_c1 h3
      have c1 := clk c1
      have c2 := clk c2
      have c3 := clk c3
      have c4 := clk c4
      have c5 := clk c5
      have c6 := clk c6
      simp only [flatT, List.length_append, List.length_cons, List.length_nil] at hl
      have H4 := Aside0.mk h4
      have H6 := Aside0.mk h6
      have HS := Aside0.mk (show Kd.R k63 63 w w.heap.size (fun _ => True) (.slice none 0 0) (flatTs (ks.take 0)) from Kd.R_nil _ _ _ _ _)
      have hks := len_flat ks
      clear IH h2 h3 h4 h5 h6
      go_enter Try.func23, Try.ntmps23
      go_wp2_with fail
      go_loopw [3, 11] (fun v3 v11 W => ∃ (i : Nat), i ≤ ks.length ∧ v11 = .int .i64 i ∧ Aside0 (Kd.R k63 63 W w.heap.size (fun _ => True) v3 (flatTs (ks.take i))) ∧ Aside0 (Below w.heap.size w W)) (fun _ v11 _ => ks.length - (intOf v11).toNat)
      case atStart => exact ⟨0, by omega, rfl, HS, ⟨kk⟩⟩
      case round =>
        clear HS kr
        obtain ⟨i, hi, rfl, HO, HB⟩ := hrel
        have kW : K0 (Below w.heap.size w wr) := ⟨HB.out⟩
        by_cases hlt : i < ks.length
        · obtain ⟨x, hx⟩ : ∃ x, ks[i] = x := ⟨_, rfl⟩
          have hg : ks[i]? = some x := by rw [← hx]; exact List.getElem?_eq_getElem hlt
          obtain ⟨q, hq, hrq⟩ := RepTs_get ks vs i x H6.out hg
          obtain ⟨g, rfl, hc, -⟩ := own_cell H4.out hq
          have hc := clk hc
          have hrx : RepT wr ok x q := RepT_move (fun k hk hl => ⟨hk, HB.out.block k hl⟩) x q hrq
          have hfx := flat_mem ks i x hg
          have hcall := HIH.out x q ok wr (by omega) (by omega) hrx
          have htk : flatTs (ks.take (i + 1)) = flatTs (ks.take i) ++ flatT x := by
            rw [List.take_succ_eq_append_getElem hlt, flatTs_app, hx]; simp [flatTs]
          have hfl : (flatTs (ks.take i)).length + (flatT x).length ≤ 1000 := by
            have : flatTs ks = flatTs (ks.take (i + 1)) ++ flatTs (ks.drop (i + 1)) := by rw [← flatTs_app, List.take_append_drop]
            have : (flatTs ks).length = (flatTs (ks.take i)).length + (flatT x).length + (flatTs (ks.drop (i + 1))).length := by rw [this, htk]; simp; omega
            omega
          obtain ⟨A3, c3', rfl⟩ := Kd.R_slice HO.out
          have hw1 : IntKind.i64.wrap ((i : Int) + 1) = ((i + 1 : Nat) : Int) := by rw [IntKind.wrap_i64]; omega
          clear hrx hrq
          go_wp2_with fail
          refine hcall.mono ?_
          rintro e W2 ⟨r, rfl, hr2, hb2⟩
          have HB2 := Aside0.mk (HB.out.trans (hb2.mono HB.out.size))
          have HO2 := Aside0.mk (Kd.R_below HO.out hb2)
          obtain ⟨A5, c5', rfl, hl5, hC5⟩ := Kd.R_reads hr2
          have HC5 := Aside0.mk hC5
          clear hb2 hr2 hcall HO hC5 kW
          go_wp2_with (at_builtin; refine Kd.R_append_rows k63 (w0 := w) w.heap.size rfl (.tmp 15) (.tmp 17) 26 63 (.agg #[(.int .i64 0), (.string ⟨#[]⟩), (.bool false), (.string ⟨#[]⟩), (.int .u64 0), (.int .u64 0), (.int .i64 0)]) 72 rfl Try.underlying26 info63 rfl (by decide) (by omega) _ (flatTs (ks.take i)) (flatT x) A5 (flatT x).length c5' (fun _ => True) (fun _ => False) rfl rfl HO2.out HC5.out (fun _ _ h => h) (fun _ h => h.elim) (fun _ _ => trivial) HB2.out HB2.out.size (by omega) ?_; intro v5 w5 ho hb hg5 hat; rw [← htk] at ho; have HG := Aside0.mk (And.intro ho hb); clear ho hb hg5 hat)
          go_roundw
          case measure => simp only [intOf]; omega
          case rel => exact ⟨i + 1, by omega, by rw [Int.natCast_add]; rfl, ⟨HG.out.1⟩, ⟨HG.out.2⟩⟩
        · obtain rfl : i = ks.length := by omega
          have hO := HO.out
          rw [List.take_length] at hO
          have HO2 := Aside0.mk hO
          obtain ⟨A3, c3', rfl⟩ := Kd.R_slice HO.out
          have hC : Kd.C k63 (wr.alloc (.cells #[.int .i64 n.f0, .string n.f1, .bool n.f2, .string n.f3, .int .u64 n.f4, .int .u64 n.f5, .int .i64 n.f6] 63)) (some ⟨wr.heap.size, 0, none⟩) 1 [n] := one_N _ _ _ (heap_alloc_new _ _)
          have hB2 : Below w.heap.size w (wr.alloc (.cells #[.int .i64 n.f0, .string n.f1, .bool n.f2, .string n.f3, .int .u64 n.f4, .int .u64 n.f5, .int .i64 n.f6] 63)) := kk
          have HO3 := Aside0.mk (Kd.R_alloc HO2.out (.cells #[.int .i64 n.f0, .string n.f1, .bool n.f2, .string n.f3, .int .u64 n.f4, .int .u64 n.f5, .int .i64 n.f6] 63))
          have HC := Aside0.mk hC
          have HB2 := Aside0.mk hB2
          clear hO HO hC hB2
          go_wp2_with (at_builtin; refine Kd.R_append_rows k63 (w0 := w) w.heap.size rfl (.tmp 20) (.tmp 25) 26 63 (.agg #[(.int .i64 0), (.string ⟨#[]⟩), (.bool false), (.string ⟨#[]⟩), (.int .u64 0), (.int .u64 0), (.int .i64 0)]) 72 rfl Try.underlying26 info63 rfl (by decide) (by omega) _ (flatTs ks) [n] (some ⟨wr.heap.size, 0, none⟩) 1 1 (fun _ => True) (fun _ => False) rfl rfl HO3.out HC.out (fun _ _ h => h) (fun _ h => h.elim) (fun _ _ => trivial) HB2.out HB2.out.size (by omega) ?_; intro v5 w5 ho hb hg5 hat; have HG := Aside0.mk (And.intro ho hb); clear ho hb hg5 hat)
          go_ret
          exact ⟨v5, rfl, HG.out.1, HG.out.2⟩
end Go.Proofs.Ytpfehkkfakofaaa.Q

namespace Go.Proofs.Ytpfehkkfakofaaa.Q
open Go.RowKit Go.Proofs.YtpfehkkfakofaaaW.PrintWords Go.Proofs.YtpfehkkfakofaaaW.PrintLast Go.Proofs.YtpfehkkfakofaaaW.PrintMore
set_option linter.unusedVariables false
set_option linter.unusedSimpArgs false

/-! ### spec_l5Is: function 45 -/
def spec_l5Is.f (l0 : List (S63)) (a1 : Int) : Option (Bool) := if (l0.length : Int) = 1 then (if 0 < (l0.length : Int) then (some (((rd_T63 l0 0).f0) == a1)) else (none)) else (some false)
set_option maxHeartbeats 8000000 in
set_option maxRecDepth 100000 in
theorem spec_l5Is.calls (A0 : Option Addr) (c0 : Nat) (l0 : List (S63)) (a1 : Int) (r : Bool) (w : World) (hr0 : Kd.C k63 w A0 l0.length l0) (hc0 : l0.length ≤ c0) (h : spec_l5Is.f l0 a1 = some r) :
  Calls Try.prog 45 #[.slice A0 l0.length c0, .int .i64 a1] w fun e w' => e = .returned (.bool r) ∧ Drawn0 w w' := by
 have HR0 := Aside0.mk hr0
 have HC0 := Aside0.mk hc0
 clear hr0 hc0
 have H : (if (l0.length : Int) = 1 then (if 0 < (l0.length : Int) then (some (((rd_T63 l0 0).f0) == a1)) else (none)) else (some false)) = some r := h
 clear h
 by_cases c3 : (l0.length : Int) = 1
 ·rw [if_pos c3] at H
  have c3b0 : ((l0.length : Int) == 1) = true := beq_iff_eq.mpr c3
  have c3b1 : ((l0.length : Int) != 1) = false := bne_eq_false_iff_eq.mpr c3
  clear c3
  by_cases c4 : 0 < (l0.length : Int)
  ·rw [if_pos c4] at H
   have c4b0 : decide (0 < (l0.length : Int)) = true := decide_eq_true c4
   have c4b1 : decide (0 < l0.length) = true := decide_eq_true (by omega)
   clear c4
   obtain rfl := Option.some.inj H
   have p176 : 0 ≤ (0 : Int) := (by omega)
   have q176 : 0 < (l0.length : Int) := of_decide_eq_true (by first | (with_reducible assumption) | assumption)
   obtain ⟨ad176, e176, hx176_0, hx176_1, hx176_2, hx176_3, hx176_4, hx176_5, hx176_6⟩ := at_T63 HR0.out 0 p176 q176
   cases e176
   have qi176 : (0 < l0.length) = True := eq_true (by omega)
   (try rw [show ((0 : Int)).toNat = 0 from rfl] at hx176_0)
   (try rw [show 0 * 7 = 0 from rfl] at hx176_0)
   (try rw [Addr.add_zero'] at hx176_0)
   (try rw [show ((0 : Int)).toNat = 0 from rfl] at hx176_1)
   (try rw [show 0 * 7 = 0 from rfl] at hx176_1)
   (try rw [Addr.add_zero'] at hx176_1)
   (try rw [show ((0 : Int)).toNat = 0 from rfl] at hx176_2)
   (try rw [show 0 * 7 = 0 from rfl] at hx176_2)
   (try rw [Addr.add_zero'] at hx176_2)
   (try rw [show ((0 : Int)).toNat = 0 from rfl] at hx176_3)
   (try rw [show 0 * 7 = 0 from rfl] at hx176_3)
   (try rw [Addr.add_zero'] at hx176_3)
   (try rw [show ((0 : Int)).toNat = 0 from rfl] at hx176_4)
   (try rw [show 0 * 7 = 0 from rfl] at hx176_4)
   (try rw [Addr.add_zero'] at hx176_4)
   (try rw [show ((0 : Int)).toNat = 0 from rfl] at hx176_5)
   (try rw [show 0 * 7 = 0 from rfl] at hx176_5)
   (try rw [Addr.add_zero'] at hx176_5)
   (try rw [show ((0 : Int)).toNat = 0 from rfl] at hx176_6)
   (try rw [show 0 * 7 = 0 from rfl] at hx176_6)
   (try rw [Addr.add_zero'] at hx176_6)
   replace p176 := eq_true p176
   replace q176 := eq_true q176
   go_enter Try.func45, Try.ntmps45
   go_wp2
   go_ret
   exact ⟨by first | rfl | (simp; done) | (simp [*]; done), by repeat (first | exact Drawn0.refl _ | apply Drawn0.step)⟩
  ·rw [if_neg c4] at H
   exact absurd H (by simp)
 ·rw [if_neg c3] at H
  have c3b0 : ((l0.length : Int) == 1) = false := beq_eq_false_iff_ne.mpr c3
  have c3b1 : ((l0.length : Int) != 1) = true := bne_iff_ne.mpr c3
  obtain rfl := Option.some.inj H
  go_enter Try.func45, Try.ntmps45
  go_wp2
  go_ret
  exact ⟨by first | rfl | (simp; done) | (simp [*]; done), by repeat (first | exact Drawn0.refl _ | apply Drawn0.step)⟩

end Go.Proofs.Ytpfehkkfakofaaa.Q

namespace Go.Proofs.Ytpfehkkfakofaaa.Q
open Go.RowKit Go.Proofs.YtpfehkkfakofaaaW.PrintWords Go.Proofs.YtpfehkkfakofaaaW.PrintLast Go.Proofs.YtpfehkkfakofaaaW.PrintMore
set_option linter.unusedVariables false
set_option linter.unusedSimpArgs false

attribute [local go_sem high] eqA63
/-! ### spec_l5Same: function 46 -/
def spec_l5Same.l0 : Nat → List (S63) → List (S63) → Int → Option (Bool)
 | 0, _, _, _ => none
 | k + 1, x0, x1, x5 => if x5 < (x0.length : Int) then (if 0 ≤ x5 then (if x5 < (x1.length : Int) then (if (!(((rd_T63 x0 x5).f0) == ((rd_T63 x1 x5).f0)) || (!((((rd_T63 x0 x5).f1).toList) == (((rd_T63 x1 x5).f1).toList)) || (!(((rd_T63 x0 x5).f2) == ((rd_T63 x1 x5).f2)) || (!((((rd_T63 x0 x5).f3).toList) == (((rd_T63 x1 x5).f3).toList)) || (!(((rd_T63 x0 x5).f4) == ((rd_T63 x1 x5).f4)) || (!(((rd_T63 x0 x5).f5) == ((rd_T63 x1 x5).f5)) || (!(((rd_T63 x0 x5).f6) == ((rd_T63 x1 x5).f6))))))))) = true then (some false) else (spec_l5Same.l0 k x0 x1 (wrap64 (x5 + 1)))) else (none)) else (none)) else (some true)
def spec_l5Same.f (k : Nat) (l0 : List (S63)) (l1 : List (S63)) : Option (Bool) := if (l0.length : Int) = (l1.length : Int) then (spec_l5Same.l0 k l0 l1 0) else (some false)
set_option maxHeartbeats 8000000 in
set_option maxRecDepth 100000 in
theorem spec_l5Same.calls (k : Nat) (A0 : Option Addr) (c0 : Nat) (l0 : List (S63)) (A1 : Option Addr) (c1 : Nat) (l1 : List (S63)) (r : Bool) (w : World) (hr0 : Kd.C k63 w A0 l0.length l0) (hc0 : l0.length ≤ c0) (hr1 : Kd.C k63 w A1 l1.length l1) (hc1 : l1.length ≤ c1) (h : spec_l5Same.f k l0 l1 = some r) :
  Calls Try.prog 46 #[.slice A0 l0.length c0, .slice A1 l1.length c1] w fun e w' => e = .returned (.bool r) ∧ Drawn0 w w' := by
 have hu63 := Try.underlying63
 have HR0 := Aside0.mk hr0
 have HC0 := Aside0.mk hc0
 clear hr0 hc0
 have HR1 := Aside0.mk hr1
 have HC1 := Aside0.mk hc1
 clear hr1 hc1
 have H : (if (l0.length : Int) = (l1.length : Int) then (spec_l5Same.l0 k l0 l1 0) else (some false)) = some r := h
 clear h
 by_cases c3 : (l0.length : Int) = (l1.length : Int)
 ·rw [if_pos c3] at H
  have c3b0 : ((l0.length : Int) == (l1.length : Int)) = true := beq_iff_eq.mpr c3
  have c3b1 : ((l0.length : Int) != (l1.length : Int)) = false := bne_eq_false_iff_eq.mpr c3
  have c3b2 : (l0.length == l1.length) = true := by first | simpa using c3 | (simp at c3 ⊢; omega)
  clear c3
  have H' := Aside0.mk H
  clear H
  go_enter Try.func46, Try.ntmps46
  go_wp2
  repeat (go_quiet (fail); try go_wp2)
  go_loopg [5] k (fun kq v5 w' => ∃ (x5_1 : Int), v5 = .int .i64 x5_1 ∧ Aside0 (spec_l5Same.l0 kq l0 l1 x5_1 = some r) ∧ Aside0 (kq ≤ k) ∧ Drawn0 w w')
  case atStart => exact ⟨(0), (by first | rfl | (simp; done) | (simp [*]; done)), H', ⟨Nat.le_refl _⟩, by repeat (first | exact Drawn0.refl _ | apply Drawn0.step)⟩
  case round =>
   clear H'
   try clear c1
   try clear p2
   try clear c3
   try clear c3b0
   try clear c3b1
   try clear c3b2
   obtain ⟨x5_1, rfl, HA, HK1, ⟨m1, rfl⟩⟩ := hrel
   cases gk with
   | zero => exact absurd HA.out (by simp [spec_l5Same.l0])
   | succ k1 =>
    have H := HA.out
    clear HA
    simp only [spec_l5Same.l0] at H
    by_cases c4 : x5_1 < (l0.length : Int)
    ·rw [if_pos c4] at H
     have c4b0 : decide (x5_1 < (l0.length : Int)) = true := decide_eq_true c4
     clear c4
     by_cases c5 : 0 ≤ x5_1
     ·rw [if_pos c5] at H
      have c5b0 : decide (0 ≤ x5_1) = true := decide_eq_true c5
      clear c5
      by_cases c6 : x5_1 < (l1.length : Int)
      ·rw [if_pos c6] at H
       have c6b0 : decide (x5_1 < (l1.length : Int)) = true := decide_eq_true c6
       clear c6
       by_cases c7 : (!(((rd_T63 l0 x5_1).f0) == ((rd_T63 l1 x5_1).f0)) || (!((((rd_T63 l0 x5_1).f1).toList) == (((rd_T63 l1 x5_1).f1).toList)) || (!(((rd_T63 l0 x5_1).f2) == ((rd_T63 l1 x5_1).f2)) || (!((((rd_T63 l0 x5_1).f3).toList) == (((rd_T63 l1 x5_1).f3).toList)) || (!(((rd_T63 l0 x5_1).f4) == ((rd_T63 l1 x5_1).f4)) || (!(((rd_T63 l0 x5_1).f5) == ((rd_T63 l1 x5_1).f5)) || (!(((rd_T63 l0 x5_1).f6) == ((rd_T63 l1 x5_1).f6))))))))) = true
       ·rw [if_pos c7] at H
        have c7b0 : (!(((rd_T63 l0 x5_1).f0) == ((rd_T63 l1 x5_1).f0)) || (!((((rd_T63 l0 x5_1).f1).toList) == (((rd_T63 l1 x5_1).f1).toList)) || (!(((rd_T63 l0 x5_1).f2) == ((rd_T63 l1 x5_1).f2)) || (!((((rd_T63 l0 x5_1).f3).toList) == (((rd_T63 l1 x5_1).f3).toList)) || (!(((rd_T63 l0 x5_1).f4) == ((rd_T63 l1 x5_1).f4)) || (!(((rd_T63 l0 x5_1).f5) == ((rd_T63 l1 x5_1).f5)) || (!(((rd_T63 l0 x5_1).f6) == ((rd_T63 l1 x5_1).f6))))))))) = true := c7
        clear c7
        obtain rfl := Option.some.inj H
        have p177 : 0 ≤ (x5_1 : Int) := of_decide_eq_true (by first | (with_reducible assumption) | assumption)
        have q177 : x5_1 < (l0.length : Int) := of_decide_eq_true (by first | (with_reducible assumption) | assumption)
        obtain ⟨ad177, e177, hx177_0, hx177_1, hx177_2, hx177_3, hx177_4, hx177_5, hx177_6⟩ := at_T63 HR0.out x5_1 p177 q177
        cases e177
        replace p177 := eq_true p177
        replace q177 := eq_true q177
        have p178 : 0 ≤ (x5_1 : Int) := of_decide_eq_true (by first | (with_reducible assumption) | assumption)
        have q178 : x5_1 < (l1.length : Int) := of_decide_eq_true (by first | (with_reducible assumption) | assumption)
        obtain ⟨ad178, e178, hx178_0, hx178_1, hx178_2, hx178_3, hx178_4, hx178_5, hx178_6⟩ := at_T63 HR1.out x5_1 p178 q178
        cases e178
        replace p178 := eq_true p178
        replace q178 := eq_true q178
        go_wp2
        repeat (go_quiet (fail); try go_wp2)
        go_ret
        exact ⟨by first | rfl | (simp; done) | (simp [*]; done), by repeat (first | exact Drawn0.refl _ | apply Drawn0.step)⟩
       ·rw [if_neg c7] at H
        have c7b0 : (!(((rd_T63 l0 x5_1).f0) == ((rd_T63 l1 x5_1).f0)) || (!((((rd_T63 l0 x5_1).f1).toList) == (((rd_T63 l1 x5_1).f1).toList)) || (!(((rd_T63 l0 x5_1).f2) == ((rd_T63 l1 x5_1).f2)) || (!((((rd_T63 l0 x5_1).f3).toList) == (((rd_T63 l1 x5_1).f3).toList)) || (!(((rd_T63 l0 x5_1).f4) == ((rd_T63 l1 x5_1).f4)) || (!(((rd_T63 l0 x5_1).f5) == ((rd_T63 l1 x5_1).f5)) || (!(((rd_T63 l0 x5_1).f6) == ((rd_T63 l1 x5_1).f6))))))))) = false := by simpa using c7
        clear c7
        have H' := Aside0.mk H
        clear H
        have p177 : 0 ≤ (x5_1 : Int) := of_decide_eq_true (by first | (with_reducible assumption) | assumption)
        have q177 : x5_1 < (l0.length : Int) := of_decide_eq_true (by first | (with_reducible assumption) | assumption)
        obtain ⟨ad177, e177, hx177_0, hx177_1, hx177_2, hx177_3, hx177_4, hx177_5, hx177_6⟩ := at_T63 HR0.out x5_1 p177 q177
        cases e177
        replace p177 := eq_true p177
        replace q177 := eq_true q177
        have p178 : 0 ≤ (x5_1 : Int) := of_decide_eq_true (by first | (with_reducible assumption) | assumption)
        have q178 : x5_1 < (l1.length : Int) := of_decide_eq_true (by first | (with_reducible assumption) | assumption)
        obtain ⟨ad178, e178, hx178_0, hx178_1, hx178_2, hx178_3, hx178_4, hx178_5, hx178_6⟩ := at_T63 HR1.out x5_1 p178 q178
        cases e178
        replace p178 := eq_true p178
        replace q178 := eq_true q178
        go_wp2
        repeat (go_quiet (fail); try go_wp2)
        go_roundg k1
        case measure => have := HK1.out; omega
        case rel => exact ⟨(wrap64 (x5_1 + 1)), (by first | rfl | (simp; done) | (simp [*]; done)), H', ⟨by have := HK1.out; omega⟩, by repeat (first | exact Drawn0.refl _ | apply Drawn0.step)⟩
      ·rw [if_neg c6] at H
       exact absurd H (by simp)
     ·rw [if_neg c5] at H
      exact absurd H (by simp)
    ·rw [if_neg c4] at H
     have c4b0 : decide (x5_1 < (l0.length : Int)) = false := decide_eq_false c4
     clear c4
     obtain rfl := Option.some.inj H
     go_wp2
     repeat (go_quiet (fail); try go_wp2)
     go_ret
     exact ⟨by first | rfl | (simp; done) | (simp [*]; done), by repeat (first | exact Drawn0.refl _ | apply Drawn0.step)⟩
 ·rw [if_neg c3] at H
  have c3b0 : ((l0.length : Int) == (l1.length : Int)) = false := beq_eq_false_iff_ne.mpr c3
  have c3b1 : ((l0.length : Int) != (l1.length : Int)) = true := bne_iff_ne.mpr c3
  have c3b2 : (l0.length == l1.length) = false := by first | simpa using c3 | (simp at c3 ⊢; omega)
  obtain rfl := Option.some.inj H
  go_enter Try.func46, Try.ntmps46
  go_wp2
  repeat (go_quiet (fail); try go_wp2)
  go_ret
  exact ⟨by first | rfl | (simp; done) | (simp [*]; done), by repeat (first | exact Drawn0.refl _ | apply Drawn0.step)⟩

end Go.Proofs.Ytpfehkkfakofaaa.Q

namespace Go.Proofs.Ytpfehkkfakofaaa.Q
open Go.RowKit Go.Proofs.YtpfehkkfakofaaaW.PrintWords Go.Proofs.YtpfehkkfakofaaaW.PrintLast Go.Proofs.YtpfehkkfakofaaaW.PrintMore
set_option linter.unusedVariables false
set_option linter.unusedSimpArgs false

/-! ### spec_l5Join: function 47 -/
def spec_l5Join.l0 : Nat → List (List (S63)) → List (S63) → Int → Option ((List (S63)))
 | 0, _, _, _ => none
 | k + 1, x0, x3, x4 => if x4 < (x0.length : Int) then (if 0 ≤ x4 then (if x3.length + (rd_L6 x0 x4).length < 1954687338268 then (spec_l5Join.l0 k x0 (x3 ++ (rd_L6 x0 x4)) (wrap64 (x4 + 1))) else (none)) else (none)) else (some x3)
def spec_l5Join.f (k : Nat) (l0 : List (List (S63))) : Option ((List (S63))) := spec_l5Join.l0 k l0 (([] : List (S63))) 0
set_option maxHeartbeats 8000000 in
set_option maxRecDepth 100000 in
theorem spec_l5Join.calls (k : Nat) (A0 : Option Addr) (c0 : Nat) (l0 : List (List (S63))) (r : List (S63)) (w : World) (hr0 : Kd.C (Kd.slice 63 k63) w A0 l0.length l0) (hc0 : l0.length ≤ c0) (h : spec_l5Join.f k l0 = some r) :
  Calls Try.prog 47 #[.slice A0 l0.length c0] w fun e w' => ∃ v0_ : Value, e = .returned (v0_) ∧ Kd.R k63 63 w' w.heap.size (fun _ => True) v0_ r ∧ Below w.heap.size w w' := by
 have HR0 := Aside0.mk hr0
 have HC0 := Aside0.mk hc0
 clear hr0 hc0
 have HB := Aside0.mk (Below.refl w.heap.size w)
 have H : (spec_l5Join.l0 k l0 (([] : List (S63))) 0) = some r := h
 clear h
 obtain ⟨y179, hy179⟩ : ∃ y_ : List (S63), y_ = (([] : List (S63))) := ⟨_, rfl⟩
 replace H : (spec_l5Join.l0 k l0 y179 0) = some r := by first | (rw [hy179]; with_reducible exact H) | (have H2_ := (Option.bind_some _ _).symm.trans H; rw [hy179]; with_reducible exact H2_) | (have H2_ := (Option.bind_some _ _).symm.trans H; with_reducible exact H2_) | with_reducible exact H | (rw [hy179]; exact H) | exact H
 have Ny179 := Aside0.mk hy179
 clear hy179
 have H' := Aside0.mk H
 clear H
 go_enter Try.func47, Try.ntmps47
 go_wp2_with (first | ((with_reducible refine gate_dst (N := 5) rfl ?_); refine Kd.R_lit k63 _ 63 ?hg (N := 5) ?hd (xs := ([] : List (S63))) (inner := []) (ok := fun _ => True) (okp := fun _ => True) ?hr ?hp (fun _ hk => hk) trivial (Below.refl _ _) (Nat.le_refl _) (by simp) ?_; (case hd => rfl); (case hg => rfl); (case hr => first | (go_simp; done) | (go_simp; rfl)); (case hp => exact (Reps.none _ _)); intro v180 w2 ho3 hb hg_ hnew_; clear hg_ hnew_; (first | rw [← Ny179.out] at ho3 | (simp only [Int.reduceToNat] at ho3; rw [← Ny179.out] at ho3)); have n0_ := Aside0.mk (Kd.R_lower ho3 (below_size bw)); have n1_ := Aside0.mk (below_step bw hb); clear HB; have HO181 := n0_; have HB := n1_; clear n0_ n1_; clear hb ho3))
 go_loopg [3, 4] k (fun kq v3 v4 w' => ∃ (x3_1 : List (S63)) (x4_1 : Int), v4 = .int .i64 x4_1 ∧ Aside0 (spec_l5Join.l0 kq l0 x3_1 x4_1 = some r) ∧ Aside0 (kq ≤ k) ∧ Aside0 (Kd.R k63 63 w' w.heap.size (fun _ => True) v3 x3_1) ∧ Aside0 (Below w.heap.size w w'))
 case atStart => exact ⟨(y179), (0), (by first | rfl | (simp; done) | (simp [*]; done)), H', ⟨Nat.le_refl _⟩, ⟨lf HO181⟩, ⟨bw⟩⟩
 case round =>
  clear H'
  try clear p2
  obtain ⟨x3_1, x4_1, rfl, HA, HK1, HO_3, HB⟩ := hrel
  cases gk with
  | zero => exact absurd HA.out (by simp [spec_l5Join.l0])
  | succ k1 =>
   have H := HA.out
   clear HA
   simp only [spec_l5Join.l0] at H
   by_cases c4 : x4_1 < (l0.length : Int)
   ·rw [if_pos c4] at H
    have c4b0 : decide (x4_1 < (l0.length : Int)) = true := decide_eq_true c4
    clear c4
    by_cases c5 : 0 ≤ x4_1
    ·rw [if_pos c5] at H
     have c5b0 : decide (0 ≤ x4_1) = true := decide_eq_true c5
     clear c5
     by_cases c6 : x3_1.length + (rd_L6 l0 x4_1).length < 1954687338268
     ·rw [if_pos c6] at H
      have LMc6 := Aside0.mk c6
      clear c6
      obtain ⟨y183, hy183⟩ : ∃ y_ : List (S63), y_ = (x3_1 ++ (rd_L6 l0 x4_1)) := ⟨_, rfl⟩
      replace H : (spec_l5Join.l0 k1 l0 y183 (wrap64 (x4_1 + 1))) = some r := by first | (rw [hy183]; with_reducible exact H) | (have H2_ := (Option.bind_some _ _).symm.trans H; rw [hy183]; with_reducible exact H2_) | (have H2_ := (Option.bind_some _ _).symm.trans H; with_reducible exact H2_) | with_reducible exact H | (rw [hy183]; exact H) | exact H
      have Ny183 := Aside0.mk hy183
      clear hy183
      have H' := Aside0.mk H
      clear H
      have p182 : 0 ≤ (x4_1 : Int) := of_decide_eq_true (by first | (with_reducible assumption) | assumption)
      have q182 : x4_1 < (l0.length : Int) := of_decide_eq_true (by first | (with_reducible assumption) | assumption)
      obtain ⟨ad182, A182_0, c182_0, e182, hx182_0, hl182_0, hi182_0⟩ := at_L6 HR0.out x4_1 p182 q182
      cases e182
      replace hx182_0 := (HB.out.cell (World.block_lt_of_cell? w _ hx182_0)).trans hx182_0
      have HR182_0 := Aside0.mk hi182_0
      have HC182_0 := Aside0.mk hl182_0
      clear hi182_0 hl182_0
      replace p182 := eq_true p182
      replace q182 := eq_true q182
      go_wp2_with (first | ((with_reducible refine gate_builtin (b := .append) (xs := #[.tmp 12, .tmp 16]) rfl ?_); at_builtin; refine Kd.R_append_rows k63 (w0 := w) w.heap.size rfl (.tmp 12) (.tmp 16) 26 63 (.agg #[(.int .i64 0), (.string ⟨#[]⟩), (.bool false), (.string ⟨#[]⟩), (.int .u64 0), (.int .u64 0), (.int .i64 0)]) 72 rfl Try.underlying26 info63 rfl (by decide) (by omega) u3 x3_1 (rd_L6 l0 x4_1) _ _ _ (fun _ => True) (fun _ => False) rfl rfl ?aO ?aR (fun _ _ h => h) (fun _ h => h.elim) ?aF ?aB ?aS ?aL ?_; (case aR => repeat (first | exact (Kd.C_below HR182_0.out HB.out) | (with_reducible refine Kd.C_alloc ?_ _) | (with_reducible refine Kd.C_drewN ?_ _) | (with_reducible refine Kd.C_drew ?_))); (case aB => exact bw); (case aF => exact (fun _ _ => trivial)); (case aO => exact (lf HO_3)); (case aS => exact (below_size bw)); (case aL => have := LMc6.out; omega); intro v184 w7 ho hb hg hat; rw [← Ny183.out] at ho; have n0_ := Aside0.mk (hb); have n1_ := Aside0.mk (ho); clear HB; clear HO_3; have HB := n0_; have HO185 := n1_; clear n0_ n1_; clear ho hb hg hat))
      go_roundg k1
      case measure => have := HK1.out; omega
      case rel => exact ⟨(y183), (wrap64 (x4_1 + 1)), (by first | rfl | (simp; done) | (simp [*]; done)), H', ⟨by have := HK1.out; omega⟩, ⟨lf HO185⟩, ⟨bw⟩⟩
     ·rw [if_neg c6] at H
      exact absurd H (by simp)
    ·rw [if_neg c5] at H
     exact absurd H (by simp)
   ·rw [if_neg c4] at H
    have c4b0 : decide (x4_1 < (l0.length : Int)) = false := decide_eq_false c4
    clear c4
    obtain rfl := Option.some.inj H
    go_wp2
    go_ret
    exact ⟨_, by first | rfl | (simp [errW_none, errW_some] <;> rfl) | (simp [*, errW_none, errW_some] <;> rfl), lf HO_3, bw⟩

end Go.Proofs.Ytpfehkkfakofaaa.Q

namespace Go.Proofs.Ytpfehkkfakofaaa.Q
open Go.RowKit Go.Proofs.YtpfehkkfakofaaaW.PrintWords Go.Proofs.YtpfehkkfakofaaaW.PrintLast Go.Proofs.YtpfehkkfakofaaaW.PrintMore
set_option linter.unusedVariables false
set_option linter.unusedSimpArgs false

attribute [local go_sem high] eqA63
/-! ### impl_Node_80: function 80 -/
def impl_Node_80.l0 : Nat → List (S63) → List (S63) → Int → Int → Option (Bool)
 | 0, _, _, _, _ => none
 | k + 1, x0, x1, x12, x13 => if x13 < x12 then (if 0 ≤ x13 then (if x13 < (x0.length : Int) then (if x13 < (x1.length : Int) then (if (!(((rd_T63 x0 x13).f0) == ((rd_T63 x1 x13).f0)) || (!((((rd_T63 x0 x13).f1).toList) == (((rd_T63 x1 x13).f1).toList)) || (!(((rd_T63 x0 x13).f2) == ((rd_T63 x1 x13).f2)) || (!((((rd_T63 x0 x13).f3).toList) == (((rd_T63 x1 x13).f3).toList)) || (!(((rd_T63 x0 x13).f4) == ((rd_T63 x1 x13).f4)) || (!(((rd_T63 x0 x13).f5) == ((rd_T63 x1 x13).f5)) || (!(((rd_T63 x0 x13).f6) == ((rd_T63 x1 x13).f6))))))))) = true then (some false) else (impl_Node_80.l0 k x0 x1 x12 (wrap64 (x13 + 1)))) else (none)) else (none)) else (none)) else (some true)
def impl_Node_80.f (k : Nat) (l0 : List (S63)) (l1 : List (S63)) : Option (Bool) := if (l0.length : Int) = (l1.length : Int) then (impl_Node_80.l0 k l0 l1 (l0.length : Int) 0) else (some false)
set_option maxHeartbeats 8000000 in
set_option maxRecDepth 100000 in
theorem impl_Node_80.calls (k : Nat) (A0 : Option Addr) (c0 : Nat) (l0 : List (S63)) (A1 : Option Addr) (c1 : Nat) (l1 : List (S63)) (r : Bool) (w : World) (hr0 : Kd.C k63 w A0 l0.length l0) (hc0 : l0.length ≤ c0) (hr1 : Kd.C k63 w A1 l1.length l1) (hc1 : l1.length ≤ c1) (h : impl_Node_80.f k l0 l1 = some r) :
  Calls Try.prog 80 #[.slice A0 l0.length c0, .slice A1 l1.length c1] w fun e w' => e = .returned (.bool r) ∧ Drawn0 w w' := by
 have hu63 := Try.underlying63
 have HR0 := Aside0.mk hr0
 have HC0 := Aside0.mk hc0
 clear hr0 hc0
 have HR1 := Aside0.mk hr1
 have HC1 := Aside0.mk hc1
 clear hr1 hc1
 have H : (if (l0.length : Int) = (l1.length : Int) then (impl_Node_80.l0 k l0 l1 (l0.length : Int) 0) else (some false)) = some r := h
 clear h
 by_cases c3 : (l0.length : Int) = (l1.length : Int)
 ·rw [if_pos c3] at H
  have c3b0 : ((l0.length : Int) == (l1.length : Int)) = true := beq_iff_eq.mpr c3
  have c3b1 : ((l0.length : Int) != (l1.length : Int)) = false := bne_eq_false_iff_eq.mpr c3
  have c3b2 : (l0.length == l1.length) = true := by first | simpa using c3 | (simp at c3 ⊢; omega)
  clear c3
  have H' := Aside0.mk H
  clear H
  go_enter Try.func80, Try.ntmps80
  go_wp2
  repeat (go_quiet (fail); try go_wp2)
  go_loopg [13] k (fun kq v13 w' => ∃ (x13_1 : Int), v13 = .int .i64 x13_1 ∧ Aside0 (impl_Node_80.l0 kq l0 l1 (l0.length : Int) x13_1 = some r) ∧ Aside0 (kq ≤ k) ∧ Drawn0 w w')
  case atStart => exact ⟨(0), (by first | rfl | (simp; done) | (simp [*]; done)), H', ⟨Nat.le_refl _⟩, by repeat (first | exact Drawn0.refl _ | apply Drawn0.step)⟩
  case round =>
   clear H'
   try clear c1
   try clear p2
   try clear c3
   try clear c3b0
   try clear c3b1
   try clear c3b2
   obtain ⟨x13_1, rfl, HA, HK1, ⟨m1, rfl⟩⟩ := hrel
   cases gk with
   | zero => exact absurd HA.out (by simp [impl_Node_80.l0])
   | succ k1 =>
    have H := HA.out
    clear HA
    simp only [impl_Node_80.l0] at H
    by_cases c4 : x13_1 < (l0.length : Int)
    ·rw [if_pos c4] at H
     have c4b0 : decide (x13_1 < (l0.length : Int)) = true := decide_eq_true c4
     clear c4
     by_cases c5 : 0 ≤ x13_1
     ·rw [if_pos c5] at H
      have c5b0 : decide (0 ≤ x13_1) = true := decide_eq_true c5
      clear c5
      by_cases c6 : x13_1 < (l0.length : Int)
      ·rw [if_pos c6] at H
       have c6b0 : decide (x13_1 < (l0.length : Int)) = true := decide_eq_true c6
       clear c6
       by_cases c7 : x13_1 < (l1.length : Int)
       ·rw [if_pos c7] at H
        have c7b0 : decide (x13_1 < (l1.length : Int)) = true := decide_eq_true c7
        clear c7
        by_cases c8 : (!(((rd_T63 l0 x13_1).f0) == ((rd_T63 l1 x13_1).f0)) || (!((((rd_T63 l0 x13_1).f1).toList) == (((rd_T63 l1 x13_1).f1).toList)) || (!(((rd_T63 l0 x13_1).f2) == ((rd_T63 l1 x13_1).f2)) || (!((((rd_T63 l0 x13_1).f3).toList) == (((rd_T63 l1 x13_1).f3).toList)) || (!(((rd_T63 l0 x13_1).f4) == ((rd_T63 l1 x13_1).f4)) || (!(((rd_T63 l0 x13_1).f5) == ((rd_T63 l1 x13_1).f5)) || (!(((rd_T63 l0 x13_1).f6) == ((rd_T63 l1 x13_1).f6))))))))) = true
        ·rw [if_pos c8] at H
         have c8b0 : (!(((rd_T63 l0 x13_1).f0) == ((rd_T63 l1 x13_1).f0)) || (!((((rd_T63 l0 x13_1).f1).toList) == (((rd_T63 l1 x13_1).f1).toList)) || (!(((rd_T63 l0 x13_1).f2) == ((rd_T63 l1 x13_1).f2)) || (!((((rd_T63 l0 x13_1).f3).toList) == (((rd_T63 l1 x13_1).f3).toList)) || (!(((rd_T63 l0 x13_1).f4) == ((rd_T63 l1 x13_1).f4)) || (!(((rd_T63 l0 x13_1).f5) == ((rd_T63 l1 x13_1).f5)) || (!(((rd_T63 l0 x13_1).f6) == ((rd_T63 l1 x13_1).f6))))))))) = true := c8
         clear c8
         obtain rfl := Option.some.inj H
         have p263 : 0 ≤ (x13_1 : Int) := of_decide_eq_true (by first | (with_reducible assumption) | assumption)
         have q263 : x13_1 < (l0.length : Int) := of_decide_eq_true (by first | (with_reducible assumption) | assumption)
         obtain ⟨ad263, e263, hx263_0, hx263_1, hx263_2, hx263_3, hx263_4, hx263_5, hx263_6⟩ := at_T63 HR0.out x13_1 p263 q263
         cases e263
         replace p263 := eq_true p263
         replace q263 := eq_true q263
         have p264 : 0 ≤ (x13_1 : Int) := of_decide_eq_true (by first | (with_reducible assumption) | assumption)
         have q264 : x13_1 < (l1.length : Int) := of_decide_eq_true (by first | (with_reducible assumption) | assumption)
         obtain ⟨ad264, e264, hx264_0, hx264_1, hx264_2, hx264_3, hx264_4, hx264_5, hx264_6⟩ := at_T63 HR1.out x13_1 p264 q264
         cases e264
         replace p264 := eq_true p264
         replace q264 := eq_true q264
         go_wp2
         repeat (go_quiet (fail); try go_wp2)
         go_ret
         exact ⟨by first | rfl | (simp; done) | (simp [*]; done), by repeat (first | exact Drawn0.refl _ | apply Drawn0.step)⟩
        ·rw [if_neg c8] at H
         have c8b0 : (!(((rd_T63 l0 x13_1).f0) == ((rd_T63 l1 x13_1).f0)) || (!((((rd_T63 l0 x13_1).f1).toList) == (((rd_T63 l1 x13_1).f1).toList)) || (!(((rd_T63 l0 x13_1).f2) == ((rd_T63 l1 x13_1).f2)) || (!((((rd_T63 l0 x13_1).f3).toList) == (((rd_T63 l1 x13_1).f3).toList)) || (!(((rd_T63 l0 x13_1).f4) == ((rd_T63 l1 x13_1).f4)) || (!(((rd_T63 l0 x13_1).f5) == ((rd_T63 l1 x13_1).f5)) || (!(((rd_T63 l0 x13_1).f6) == ((rd_T63 l1 x13_1).f6))))))))) = false := by simpa using c8
         clear c8
         have H' := Aside0.mk H
         clear H
         have p263 : 0 ≤ (x13_1 : Int) := of_decide_eq_true (by first | (with_reducible assumption) | assumption)
         have q263 : x13_1 < (l0.length : Int) := of_decide_eq_true (by first | (with_reducible assumption) | assumption)
         obtain ⟨ad263, e263, hx263_0, hx263_1, hx263_2, hx263_3, hx263_4, hx263_5, hx263_6⟩ := at_T63 HR0.out x13_1 p263 q263
         cases e263
         replace p263 := eq_true p263
         replace q263 := eq_true q263
         have p264 : 0 ≤ (x13_1 : Int) := of_decide_eq_true (by first | (with_reducible assumption) | assumption)
         have q264 : x13_1 < (l1.length : Int) := of_decide_eq_true (by first | (with_reducible assumption) | assumption)
         obtain ⟨ad264, e264, hx264_0, hx264_1, hx264_2, hx264_3, hx264_4, hx264_5, hx264_6⟩ := at_T63 HR1.out x13_1 p264 q264
         cases e264
         replace p264 := eq_true p264
         replace q264 := eq_true q264
         go_wp2
         repeat (go_quiet (fail); try go_wp2)
         go_roundg k1
         case measure => have := HK1.out; omega
         case rel => exact ⟨(wrap64 (x13_1 + 1)), (by first | rfl | (simp; done) | (simp [*]; done)), H', ⟨by have := HK1.out; omega⟩, by repeat (first | exact Drawn0.refl _ | apply Drawn0.step)⟩
       ·rw [if_neg c7] at H
        exact absurd H (by simp)
      ·rw [if_neg c6] at H
       exact absurd H (by simp)
     ·rw [if_neg c5] at H
      exact absurd H (by simp)
    ·rw [if_neg c4] at H
     have c4b0 : decide (x13_1 < (l0.length : Int)) = false := decide_eq_false c4
     clear c4
     obtain rfl := Option.some.inj H
     go_wp2
     repeat (go_quiet (fail); try go_wp2)
     go_ret
     exact ⟨by first | rfl | (simp; done) | (simp [*]; done), by repeat (first | exact Drawn0.refl _ | apply Drawn0.step)⟩
 ·rw [if_neg c3] at H
  have c3b0 : ((l0.length : Int) == (l1.length : Int)) = false := beq_eq_false_iff_ne.mpr c3
  have c3b1 : ((l0.length : Int) != (l1.length : Int)) = true := bne_iff_ne.mpr c3
  have c3b2 : (l0.length == l1.length) = false := by first | simpa using c3 | (simp at c3 ⊢; omega)
  obtain rfl := Option.some.inj H
  go_enter Try.func80, Try.ntmps80
  go_wp2
  repeat (go_quiet (fail); try go_wp2)
  go_ret
  exact ⟨by first | rfl | (simp; done) | (simp [*]; done), by repeat (first | exact Drawn0.refl _ | apply Drawn0.step)⟩

end Go.Proofs.Ytpfehkkfakofaaa.Q

namespace Go.Proofs.Ytpfehkkfakofaaa.Q
open Go.RowKit Go.Proofs.YtpfehkkfakofaaaW.PrintWords Go.Proofs.YtpfehkkfakofaaaW.PrintLast Go.Proofs.YtpfehkkfakofaaaW.PrintMore
set_option linter.unusedVariables false
set_option linter.unusedSimpArgs false
theorem is_is (t : Tr) (hw : wfT t) (k : Int) (hk : arB k = 0) : spec_l5Is.f (flatT t) k = some (isK t k) := by
  cases t with
  | node n ks =>
    have h1 : (ks.length : Int) = arB n.f0 := hw.1
    unfold isK
    simp only [Tr.top]
    rcases ks with _ | ⟨y, ks⟩
    · rfl
    · have hy : 0 < (flatT y).length := List.length_pos_iff.mpr (flatT_ne y)
      have hne : n.f0 ≠ k := by
        rintro rfl
        rw [hk] at h1
        simp at h1; omega
      have hl : (flatT (.node n (y :: ks))).length ≠ 1 := by
        simp only [flatT, flatTs, List.length_append, List.length_cons, List.length_nil]; omega
      unfold spec_l5Is.f
      rw [if_neg (by omega), beq_eq_false_iff_ne.mpr hne]
theorem sameN_len : ∀ xs ys : List S63, xs.length ≠ ys.length → sameN xs ys = false
  | [], [], h => absurd rfl h
  | [], _ :: _, _ => rfl
  | _ :: _, [], _ => rfl
  | x :: xs, y :: ys, h => by
    unfold sameN
    rw [sameN_len xs ys (by simpa using h), Bool.and_false]
theorem same_spec_loop : ∀ (rx ry px py : List S63), px.length = py.length → rx.length = ry.length → (px ++ rx).length < 4611686018427387904 → Ev (fun k => spec_l5Same.l0 k (px ++ rx) (py ++ ry) px.length) (sameN rx ry)
  | [], [], px, py, hp, _, hb => by
    refine Ev.shift 1 fun k => ?_
    simp only [spec_l5Same.l0]
    rw [if_neg (by simp)]; rfl
  | x :: rx, [], px, py, hp, h, _ => by simp at h
  | [], y :: ry, px, py, hp, h, _ => by simp at h
  | x :: rx, y :: ry, px, py, hp, h, hb => by
    have ih := same_spec_loop rx ry (px ++ [x]) (py ++ [y]) (by simp [hp]) (by simpa using h) (by simpa using hb)
    rw [List.append_assoc, List.append_assoc, List.singleton_append, List.singleton_append, List.length_append, List.length_singleton] at ih
    have hb' : px.length + (rx.length + 1) < 4611686018427387904 := by simpa using hb
    have hx : rd_T63 (px ++ x :: rx) (px.length : Int) = x := by unfold rd_T63; rw [Int.toNat_natCast]; simp
    have hy : rd_T63 (py ++ y :: ry) (px.length : Int) = y := by unfold rd_T63; rw [Int.toNat_natCast, hp]; simp
    refine Ev.round (f := fun k => if (!(x.f0 == y.f0) || (!(x.f1.toList == y.f1.toList) || (!(x.f2 == y.f2) || (!(x.f3.toList == y.f3.toList) || (!(x.f4 == y.f4) || (!(x.f5 == y.f5) || !(x.f6 == y.f6))))))) = true then some false else spec_l5Same.l0 k (px ++ x :: rx) (py ++ y :: ry) ((px.length + 1 : Nat) : Int)) (fun k => ?_) ?_
    · simp only [spec_l5Same.l0]
      rw [if_pos (by simp; omega), if_pos (by omega), if_pos (by rw [hp]; simp; omega), hx, hy, wrap_nat _ (by omega)]
    · unfold sameN
      rw [show (!(x.f0 == y.f0) || (!(x.f1.toList == y.f1.toList) || (!(x.f2 == y.f2) || (!(x.f3.toList == y.f3.toList) || (!(x.f4 == y.f4) || (!(x.f5 == y.f5) || !(x.f6 == y.f6))))))) = !(x.f0 == y.f0 && (x.f1.toList == y.f1.toList && (x.f2 == y.f2 && (x.f3.toList == y.f3.toList && (x.f4 == y.f4 && (x.f5 == y.f5 && x.f6 == y.f6)))))) from by simp only [Bool.not_and]]
      generalize (x.f0 == y.f0 && (x.f1.toList == y.f1.toList && (x.f2 == y.f2 && (x.f3.toList == y.f3.toList && (x.f4 == y.f4 && (x.f5 == y.f5 && x.f6 == y.f6)))))) = z
      cases z
      · exact Ev.if_pos rfl (Ev.now _)
      · exact Ev.if_neg (by decide) (by simpa using ih)
theorem same_spec (xs ys : List S63) (hb : xs.length < 4611686018427387904) : Ev (fun k => spec_l5Same.f k xs ys) (sameN xs ys) := by
  unfold spec_l5Same.f
  by_cases h : xs.length = ys.length
  · exact Ev.if_pos (by omega) (same_spec_loop xs ys [] [] rfl h (by simpa using hb))
  · rw [sameN_len xs ys h]
    exact Ev.if_neg (by omega) (Ev.now _)
theorem same_impl_loop : ∀ (rx ry px py : List S63), px.length = py.length → rx.length = ry.length → (px ++ rx).length < 4611686018427387904 → Ev (fun k => impl_Node_80.l0 k (px ++ rx) (py ++ ry) ((px ++ rx).length : Int) px.length) (sameN rx ry)
  | [], [], px, py, hp, _, hb => by
    refine Ev.shift 1 fun k => ?_
    simp only [impl_Node_80.l0]
    rw [if_neg (by simp)]; rfl
  | x :: rx, [], px, py, hp, h, _ => by simp at h
  | [], y :: ry, px, py, hp, h, _ => by simp at h
  | x :: rx, y :: ry, px, py, hp, h, hb => by
    have ih := same_impl_loop rx ry (px ++ [x]) (py ++ [y]) (by simp [hp]) (by simpa using h) (by simpa using hb)
    rw [List.append_assoc, List.append_assoc, List.singleton_append, List.singleton_append, show (px ++ [x]).length = px.length + 1 from by simp] at ih
    have hb' : px.length + (rx.length + 1) < 4611686018427387904 := by simpa using hb
    have hx : rd_T63 (px ++ x :: rx) (px.length : Int) = x := by unfold rd_T63; rw [Int.toNat_natCast]; simp
    have hy : rd_T63 (py ++ y :: ry) (px.length : Int) = y := by unfold rd_T63; rw [Int.toNat_natCast, hp]; simp
    refine Ev.round (f := fun k => if (!(x.f0 == y.f0) || (!(x.f1.toList == y.f1.toList) || (!(x.f2 == y.f2) || (!(x.f3.toList == y.f3.toList) || (!(x.f4 == y.f4) || (!(x.f5 == y.f5) || !(x.f6 == y.f6))))))) = true then some false else impl_Node_80.l0 k (px ++ x :: rx) (py ++ y :: ry) ((px ++ x :: rx).length : Int) ((px.length + 1 : Nat) : Int)) (fun k => ?_) ?_
    · simp only [impl_Node_80.l0]
      rw [if_pos (by simp; omega), if_pos (by omega), if_pos (by simp; omega), if_pos (by rw [hp]; simp; omega), hx, hy, wrap_nat _ (by omega)]
    · unfold sameN
      rw [show (!(x.f0 == y.f0) || (!(x.f1.toList == y.f1.toList) || (!(x.f2 == y.f2) || (!(x.f3.toList == y.f3.toList) || (!(x.f4 == y.f4) || (!(x.f5 == y.f5) || !(x.f6 == y.f6))))))) = !(x.f0 == y.f0 && (x.f1.toList == y.f1.toList && (x.f2 == y.f2 && (x.f3.toList == y.f3.toList && (x.f4 == y.f4 && (x.f5 == y.f5 && x.f6 == y.f6)))))) from by simp only [Bool.not_and]]
      generalize (x.f0 == y.f0 && (x.f1.toList == y.f1.toList && (x.f2 == y.f2 && (x.f3.toList == y.f3.toList && (x.f4 == y.f4 && (x.f5 == y.f5 && x.f6 == y.f6)))))) = z
      cases z
      · exact Ev.if_pos rfl (Ev.now _)
      · exact Ev.if_neg (by decide) (by simpa using ih)
theorem same_impl (xs ys : List S63) (hb : xs.length < 4611686018427387904) : Ev (fun k => impl_Node_80.f k xs ys) (sameN xs ys) := by
  unfold impl_Node_80.f
  by_cases h : xs.length = ys.length
  · exact Ev.if_pos (by omega) (same_impl_loop xs ys [] [] rfl h (by simpa using hb))
  · rw [sameN_len xs ys h]
    exact Ev.if_neg (by omega) (Ev.now _)
theorem flatTs_map : ∀ ks : List Tr, (ks.map flatT).flatten = flatTs ks
  | [] => rfl
  | k :: ks => by simp [flatTs, flatTs_map ks]
theorem join_loop : ∀ (rest pre : List (List S63)) (out : List S63), (pre ++ rest).length < 1000000 → out.length + rest.flatten.length < 1000000 → Ev (fun k => spec_l5Join.l0 k (pre ++ rest) out pre.length) (out ++ rest.flatten)
  | [], pre, out, h1, h2 => by
    refine Ev.shift 1 fun k => ?_
    simp only [spec_l5Join.l0]
    rw [if_neg (by simp)]; simp
  | x :: rest, pre, out, h1, h2 => by
    have hx : rd_L6 (pre ++ x :: rest) (pre.length : Int) = x := by unfold rd_L6; rw [Int.toNat_natCast]; simp
    have hfl : (x :: rest).flatten.length = x.length + rest.flatten.length := by simp
    rw [hfl] at h2
    have ih := join_loop rest (pre ++ [x]) (out ++ x) (by simpa using h1) (by rw [List.length_append]; omega)
    rw [List.append_assoc, List.singleton_append, List.length_append, List.length_singleton, List.append_assoc] at ih
    have h1' : pre.length + (rest.length + 1) < 1000000 := by simpa using h1
    refine Ev.round (f := fun k => spec_l5Join.l0 k (pre ++ x :: rest) (out ++ x) ((pre.length + 1 : Nat) : Int)) (fun k => ?_) (by simpa using ih)
    simp only [spec_l5Join.l0]
    rw [if_pos (by simp; omega), if_pos (by omega), hx, if_pos (by omega), wrap_nat _ (by omega)]
theorem join_is (parts : List (List S63)) (h1 : parts.length < 1000000) (h2 : parts.flatten.length < 1000000) : Ev (fun k => spec_l5Join.f k parts) parts.flatten := by
  have h := join_loop parts [] [] (by simpa using h1) (by simpa using h2)
  rw [List.nil_append, List.nil_append] at h
  exact h
theorem arB14 {a : Int} (h : a = 14 ∨ a = 15) : arB a = 2 := by unfold arB; rw [if_pos h]
theorem block_same {a b : Tr} (ha : wfT a) (hb : wfT b) (oka : ∀ y ∈ flatT a, nodeOk y = true) (okb : ∀ y ∈ flatT b, nodeOk y = true) (h1 : isK a 2 = true) (h2 : isK b 2 = true) : flatT a = flatT b := by
  cases a with
  | node n ks =>
    cases b with
    | node m js =>
      have g1 : n.f0 = 2 := by simpa [isK, Tr.top] using h1
      have g2 : m.f0 = 2 := by simpa [isK, Tr.top] using h2
      have a1 : (ks.length : Int) = arB n.f0 := ha.1
      have b1 : (js.length : Int) = arB m.f0 := hb.1
      have z2 : arB 2 = 0 := by decide
      rw [g1, z2] at a1
      rw [g2, z2] at b1
      obtain rfl : ks = [] := List.eq_nil_of_length_eq_zero (by omega)
      obtain rfl : js = [] := List.eq_nil_of_length_eq_zero (by omega)
      have e1 := nodeOk_block (oka n (by simp [flatT])) g1
      have e2 := nodeOk_block (okb m (by simp [flatT])) g2
      rw [e1, e2]
theorem isK_excl {t : Tr} {i j : Int} (h : isK t i = true) (hij : i ≠ j) : isK t j = false := by
  unfold isK at *
  have := beq_iff_eq.mp h
  exact beq_eq_false_iff_ne.mpr (by omega)
theorem normTs_app : ∀ xs ys : List Tr, normTs (xs ++ ys) = normTs xs ++ normTs ys
  | [], ys => rfl
  | x :: xs, ys => by simp [normTs, normTs_app xs ys]
noncomputable def normOf (ns : List S63) : List S63 := match validT ns with | some t => flatT (normT t) | none => []
theorem validT_some {ns : List S63} {t : Tr} (h : validT ns = some t) : wfT t ∧ flatT t = ns ∧ ns.length ≤ 200 ∧ (∀ y ∈ ns, nodeOk y = true) := by
  unfold validT at h
  split at h
  · cases h
  · split at h
    · cases h
    · rename_i hl hall
      split at h
      · rename_i u hu
        split at h
        · cases h
        · cases h
          have hf := treesOf_flat ns [] [t] hu trivial
          refine ⟨hf.2.1, by simpa [flatTs] using hf.1, by omega, ?_⟩
          simpa using hall
      · cases h
end Go.Proofs.Ytpfehkkfakofaaa.Q
