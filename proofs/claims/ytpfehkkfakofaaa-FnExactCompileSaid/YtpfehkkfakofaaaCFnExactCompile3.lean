/- FnExactCompile: the row of the law: its arguments opened, its walk, its statement over lists (PrFnExactCompile). No condition. -/
import Derived.Test.YtpfehkkfakofaaaCFnExactCompile2
import Derived.MapKept
import Derived.LaidEql

namespace Go.Proofs.Ytpfehkkfakofaaa.Q
open Go.RowKit Go.Proofs.YtpfehkkfakofaaaW.PrintWords Go.Proofs.YtpfehkkfakofaaaW.PrintLast
set_option linter.unusedVariables false
set_option linter.unusedSimpArgs false
set_option linter.unusedSectionVars false
theorem Ev.obind {α β : Type} {x : Nat → Option (Except (Int × Int) α)} {f : Nat → α → Option (Except (Int × Int) β)} {a : α} {r : Except (Int × Int) β} (h : Ev x (.ok a)) (k : Ev (fun n => f n a) r) : Ev (fun n => Q.obind (x n) (f n)) r := by
  obtain ⟨K, h⟩ := h
  obtain ⟨K', k⟩ := k
  refine ⟨max K K', fun n hn => ?_⟩
  simp only []
  rw [h n (by omega)]
  exact k n (by omega)
theorem Ev.obind_err {α β : Type} {x : Nat → Option (Except (Int × Int) α)} {f : Nat → α → Option (Except (Int × Int) β)} {e : Int × Int} (h : Ev x (.error e)) : Ev (fun n => Q.obind (x n) (f n)) (.error e) := by
  obtain ⟨K, h⟩ := h
  refine ⟨K, fun n hn => ?_⟩
  simp only []
  rw [h n hn]
  rfl
section
variable {p : ByteArray} (hp : p.size ≤ 200)
include hp
theorem wr1 {i : Int} (h0 : 0 ≤ i) (h1 : i ≤ p.size) : wrap64 (i + 1) = i + 1 := wrap_id _ (by omega) (by omega)
theorem wr2 {i : Int} (h0 : 0 ≤ i) (h1 : i ≤ p.size) : wrap64 (i + 2) = i + 2 := wrap_id _ (by omega) (by omega)
/-- One ch: what the reference says. -/
def chS : Except (Int × Int) (Int × Int) → Int × Int × Bool
  | .ok (c, j) => (c, j, true)
  | .error (_, a) => (0, a, false)
theorem ch_code {i c a : Int} (h : chF p i = .error (c, a)) : c = 2 := by
  unfold chF at h
  split at h
  · split at h
    · cases h; rfl
    · cases h
  · split at h
    · cases h; rfl
    · cases h
theorem ch_spec {i : Int} (h0 : 0 ≤ i) (h1 : i ≤ p.size) : Ev (fun k => spec_l4Ch.f k p i) (chS (chF p i)) := by
  have hw1 := wr1 hp h0 h1
  have hw2 := wr2 hp h0 h1
  refine ⟨1, fun k hk => ?_⟩
  obtain ⟨k, rfl⟩ : ∃ m, k = m + 1 := ⟨k - 1, by omega⟩
  show spec_l4Ch.f (k + 1) p i = some (chS (chF p i))
  unfold spec_l4Ch.f chF
  by_cases e0 : i = p.size
  · rw [if_pos (by omega), if_neg (by omega), if_pos (.inl e0)]
    simp [spec_l4Ch.j0, chS]
  · rw [if_neg (by omega), if_pos h0, if_pos (by omega)]
    by_cases e93 : bt p i = 93
    · rw [if_pos e93, if_neg (by omega), if_pos (.inr (.inl e93))]
      simp [spec_l4Ch.j0, chS]
    · rw [if_neg e93]
      by_cases e45 : bt p i = 45
      · rw [if_neg (by omega), if_pos (.inr (.inr e45)), e45]
        simp [spec_l4Ch.j0, chS]
      · have hb : (bt p i == 45) = false := beq_eq_false_iff_ne.mpr e45
        rw [hb]
        simp only [spec_l4Ch.j0, Bool.false_eq_true, if_false]
        rw [hw1, hw2]
        have hlt : i < (p.size : Int) := by omega
        by_cases e92 : bt p i = 92
        · by_cases e1 : i + 1 = p.size
          · simp only [h0, hlt, e92, e1, if_true, and_self, ge_iff_le, Int.le_refl]; rfl
          · have e2 : ¬ (p.size : Int) ≤ i + 1 := by omega
            have e3 : 0 ≤ i + 1 := by omega
            have e4 : i + 1 < (p.size : Int) := by omega
            simp only [h0, hlt, e92, e1, e2, e3, e4, if_true, if_false, and_self, ge_iff_le]; rfl
        · have e5 : ¬ (i = p.size ∨ bt p i = 93 ∨ bt p i = 45) := by omega
          simp only [h0, hlt, e92, e5, if_true, if_false, and_false]; rfl
def clS : Except (Int × Int) (List Bool × Int) → Int × Int × Int
  | .ok (_, j) => (j + 1, 0, 0)
  | .error (c, a) => (0, c, a)
theorem cls_spec : ∀ (d : Nat) (i n : Int) (s : List Bool), 0 ≤ i → i ≤ p.size → (p.size : Int) - i = d → 0 ≤ n → n ≤ i →
    ∃ q, Ev (fun k => clsF k p i (decide (n = 0)) s) q ∧ Ev (fun k => spec_l4Class.l0 k p i n) (clS q) ∧ (∀ c a, q = .error (c, a) → c ≠ 0) := by
  intro d
  induction d using Nat.strongRecOn with
  | _ d ih =>
  intro i n s h0 h1 hd n0 n1
  have hcs := ch_spec hp h0 h1
  by_cases ee : i = p.size
  · have hch : chF p i = .error (2, i) := by unfold chF; rw [if_neg (by omega), if_pos (.inl ee)]
    refine ⟨.error (2, i), ⟨1, fun k hk => ?_⟩, ⟨1, fun k hk => ?_⟩, fun c a h => by cases h; decide⟩
    · obtain ⟨k, rfl⟩ : ∃ m, k = m + 1 := ⟨k - 1, by omega⟩
      show clsF (k + 1) p i _ s = _
      simp only [clsF]
      rw [if_pos (.inr (.inl ee)), hch]
    · obtain ⟨k, rfl⟩ : ∃ m, k = m + 1 := ⟨k - 1, by omega⟩
      show spec_l4Class.l0 (k + 1) p i n = _
      simp only [spec_l4Class.l0]
      rw [if_neg (by omega), ee]; rfl
  have hlt : i < p.size := by omega
  have hw1 := wr1 hp h0 h1
  by_cases ec : n = 0 ∨ bt p i ≠ 93
  · -- an item
    have hl0 : ∀ k, spec_l4Class.l0 (k + 1) p i n = spec_l4Class.j3 k p i n false := by
      intro k
      simp only [spec_l4Class.l0]
      rw [if_pos hlt, if_pos h0]
      by_cases e93 : bt p i = 93
      · rw [if_pos e93]
        have : n = 0 := by rcases ec with h | h
                           · exact h
                           · exact absurd e93 h
        rw [this]; rfl
      · rw [if_neg e93]
    have hcl : ∀ k, clsF (k + 1) p i (decide (n = 0)) s = (match chF p i with
      | .error x => some (.error x)
      | .ok (lo, j) =>
        if j < p.size ∧ bt p j = 45 then
          match chF p (j + 1) with
          | .error x => some (.error x)
          | .ok (hi, m) => if lo > hi then some (.error (4, i)) else clsF k p m false (setR s lo hi)
        else clsF k p j false (setR s lo lo)) := by
      intro k
      simp only [clsF]
      rw [if_pos (by rcases ec with h | h
                     · exact .inl (by simp [h])
                     · exact .inr (.inr h))]
      try rfl
    cases hch : chF p i with
    | error x =>
      obtain ⟨c, a⟩ := x
      have hc2 := ch_code hp hch
      subst hc2
      rw [hch] at hcs
      refine ⟨.error (2, a), Ev.step (fun k => by rw [hcl, hch]) (Ev.now _), Ev.step hl0 (Ev.step (fun k => by simp only [spec_l4Class.j3]; rw [if_neg Bool.false_ne_true]) (Ev.bind hcs ?_)), fun c a h => by cases h; decide⟩
      exact Ev.if_neg (by simp [chS]) (Ev.now _)
    | ok x =>
      obtain ⟨lo, j⟩ := x
      obtain ⟨l0, l1, l2, l3⟩ := chF_ok hch h0 h1
      rw [hch] at hcs
      have hw : wrap64 (n + 1) = n + 1 := wrap_id _ (by omega) (by omega)
      have hdn : decide (n + 1 = 0) = false := decide_eq_false (by omega)
      by_cases ed : j < p.size ∧ bt p j = 45
      · have hcs2 := ch_spec hp (i := j + 1) (by omega) (by omega)
        have hwj : wrap64 (j + 1) = j + 1 := wr1 hp (by omega) l3
        cases hch2 : chF p (j + 1) with
        | error x =>
          obtain ⟨c, a⟩ := x
          have hc2 := ch_code hp hch2
          subst hc2
          rw [hch2] at hcs2
          refine ⟨.error (2, a), Ev.step (fun k => by rw [hcl, hch]; simp only []; rw [if_pos ed, hch2]) (Ev.now _), Ev.step hl0 (Ev.step (fun k => by simp only [spec_l4Class.j3]; rw [if_neg Bool.false_ne_true]) (Ev.bind hcs ?_)), fun c a h => by cases h; decide⟩
          simp only [chS, if_true]
          refine Ev.if_pos ed.1 (Ev.if_pos (show 0 ≤ j by omega) ?_)
          rw [ed.2]
          refine Ev.step (fun k => by simp only [spec_l4Class.j4]; rw [if_pos (show ((45 : Int) == 45) = true by decide), hwj]) (Ev.bind hcs2 ?_)
          exact Ev.if_neg (by simp [chS]) (Ev.now _)
        | ok x =>
          obtain ⟨hi, m⟩ := x
          obtain ⟨q0, q1, q2, q3⟩ := chF_ok hch2 (by omega) (by omega)
          rw [hch2] at hcs2
          by_cases elh : lo > hi
          · refine ⟨.error (4, i), Ev.step (fun k => by rw [hcl, hch]; simp only []; rw [if_pos ed, hch2]; simp only []; rw [if_pos elh]) (Ev.now _), Ev.step hl0 (Ev.step (fun k => by simp only [spec_l4Class.j3]; rw [if_neg Bool.false_ne_true]) (Ev.bind hcs ?_)), fun c a h => by cases h; decide⟩
            simp only [chS, if_true]
            refine Ev.if_pos ed.1 (Ev.if_pos (show 0 ≤ j by omega) ?_)
            rw [ed.2]
            refine Ev.step (fun k => by simp only [spec_l4Class.j4]; rw [if_pos (show ((45 : Int) == 45) = true by decide), hwj]) (Ev.bind hcs2 ?_)
            simp only [chS, if_true]
            exact Ev.if_pos elh (Ev.now _)
          · obtain ⟨q, hq1, hq2, hq3⟩ := ih ((p.size : Int) - m).toNat (by omega) m (n + 1) (setR s lo hi) (by omega) q3 (by omega) (by omega) (by omega)
            rw [hdn] at hq1
            refine ⟨q, Ev.step (fun k => by rw [hcl, hch]; simp only []; rw [if_pos ed, hch2]; simp only []; rw [if_neg elh]) hq1, Ev.step hl0 (Ev.step (fun k => by simp only [spec_l4Class.j3]; rw [if_neg Bool.false_ne_true]) (Ev.bind hcs ?_)), hq3⟩
            simp only [chS, if_true]
            refine Ev.if_pos ed.1 (Ev.if_pos (show 0 ≤ j by omega) ?_)
            rw [ed.2]
            refine Ev.step (fun k => by simp only [spec_l4Class.j4]; rw [if_pos (show ((45 : Int) == 45) = true by decide), hwj]) (Ev.bind hcs2 ?_)
            simp only [chS, if_true]
            refine Ev.if_neg elh ?_
            rw [hw]; exact hq2
      · obtain ⟨q, hq1, hq2, hq3⟩ := ih ((p.size : Int) - j).toNat (by omega) j (n + 1) (setR s lo lo) (by omega) l3 (by omega) (by omega) (by omega)
        rw [hdn] at hq1
        refine ⟨q, Ev.step (fun k => by rw [hcl, hch]; simp only []; rw [if_neg ed]) hq1, Ev.step hl0 (Ev.step (fun k => by simp only [spec_l4Class.j3]; rw [if_neg Bool.false_ne_true]) (Ev.bind hcs ?_)), hq3⟩
        simp only [chS, if_true]
        by_cases ej : j < p.size
        · have hb : (bt p j == 45) = false := beq_eq_false_iff_ne.mpr (fun h => ed ⟨ej, h⟩)
          refine Ev.if_pos ej (Ev.if_pos (show 0 ≤ j by omega) ?_)
          rw [hb]
          refine Ev.step (fun k => by simp only [spec_l4Class.j4]; rw [if_neg Bool.false_ne_true, hw]) hq2
        · refine Ev.if_neg ej ?_
          refine Ev.step (fun k => by simp only [spec_l4Class.j4]; rw [if_neg Bool.false_ne_true, hw]) hq2
  · have hn : ¬ n = 0 := fun h => ec (.inl h)
    have h93 : bt p i = 93 := Classical.not_not.mp fun h => ec (.inr h)
    refine ⟨.ok (s, i), Ev.step (f := fun _ => some (.ok (s, i))) (fun k => ?_) (Ev.now _), Ev.step (f := fun k => spec_l4Class.j3 k p i n true) (fun k => ?_) (Ev.step (f := fun _ => some (i + 1, 0, 0)) (fun k => ?_) (Ev.now _)), fun c a h => by cases h⟩
    · simp only [clsF]
      rw [if_neg (by simp [hn, ee, h93])]
    · simp only [spec_l4Class.l0]
      rw [if_pos hlt, if_pos h0, if_pos h93, decide_eq_true (by omega)]
    · simp only [spec_l4Class.j3, if_true, hw1]
theorem class_spec {i : Int} (h0 : 0 ≤ i) (h1 : i < p.size) : ∃ q, Ev (fun k => claF k p (i + 1)) q ∧ ((∃ s j, q = .ok (s, j) ∧ Ev (fun k => spec_l4Class.f k p i) (j, 0, 0)) ∨ (∃ c a, q = .error (c, a) ∧ c ≠ 0 ∧ Ev (fun k => spec_l4Class.f k p i) (0, c, a))) := by
  have hw1 := wr1 hp h0 (Int.le_of_lt h1)
  have hn : 0 ≤ notI p (i + 1) ∧ notI p (i + 1) ≤ p.size := by
    unfold notI; split
    · rename_i hh; unfold notQ at hh; simp at hh; omega
    · omega
  obtain ⟨q, hq1, hq2, hq3⟩ := cls_spec hp ((p.size : Int) - notI p (i + 1)).toNat (notI p (i + 1)) 0 noB hn.1 hn.2 (by omega) (Int.le_refl _) hn.1
  have hs : Ev (fun k => spec_l4Class.f k p i) (clS q) := by
    unfold spec_l4Class.f
    rw [hw1]
    by_cases e : i + 1 < p.size
    · refine Ev.if_pos e (Ev.if_pos (show 0 ≤ i + 1 by omega) ?_)
      have hnq : notQ p (i + 1) = (bt p (i + 1) == 94) := by unfold notQ; rw [decide_eq_true e]; rfl
      have hw2 := wr1 hp (i := i + 1) (by omega) (by omega)
      refine Ev.step (f := fun k => spec_l4Class.j1 k p (notI p (i + 1))) (fun k => ?_) (Ev.step (fun k => by simp only [spec_l4Class.j1]) hq2)
      simp only [spec_l4Class.j0]
      unfold notI
      rw [hnq, hw2]
      split <;> rfl
    · refine Ev.if_neg e ?_
      have hnq : notQ p (i + 1) = false := by unfold notQ; rw [decide_eq_false e]; rfl
      refine Ev.step (f := fun k => spec_l4Class.j1 k p (notI p (i + 1))) (fun k => ?_) (Ev.step (fun k => by simp only [spec_l4Class.j1]) hq2)
      simp only [spec_l4Class.j0]
      unfold notI
      rw [hnq]
      rfl
  have hc : Ev (fun k => claF k p (i + 1)) (q.map fun x => (if notQ p (i + 1) then x.1.map (!·) else x.1, x.2 + 1)) := by
    obtain ⟨K, hK⟩ := hq1
    refine ⟨K, fun k hk => ?_⟩
    have := hK k hk
    simp only [decide_true] at this
    show (clsF k p (notI p (i + 1)) true noB).map _ = _
    rw [this]; rfl
  refine ⟨_, hc, ?_⟩
  rcases q with ⟨c, a⟩ | ⟨s, j⟩
  · exact .inr ⟨c, a, rfl, hq3 c a rfl, hs⟩
  · exact .inl ⟨_, _, rfl, hs⟩
theorem l4Op_is (c : Int) : spec_l4Op.f c = some (isOp c) := by
  unfold spec_l4Op.f isOp
  by_cases h1 : c = 42
  · simp [h1]
  · by_cases h2 : c = 43
    · simp [h2]
    · simp [h1, h2, beq_eq_false_iff_ne.mpr h1, beq_eq_false_iff_ne.mpr h2]
/-- The reference comes to r from this state. -/
def SL (p : ByteArray) (o : Int) (at_ : Bool) (i : Int) (r : Int × Int) : Prop := Ev (fun k => spec_CheckRegex.l0 k p o at_ i) r
theorem sl_s (k : Nat) (o : Int) (at_ : Bool) (i : Int) (h0 : 0 ≤ i) (h1 : i < p.size) (ho : 0 ≤ o) (ho2 : o ≤ 20) : spec_CheckRegex.l0 (k + 1) p o at_ i =
    (if bt p i = 40 then (if o = 20 then some (3, i) else spec_CheckRegex.l0 k p (o + 1) false (i + 1))
    else if bt p i = 41 then (if o = 0 then some (2, i) else spec_CheckRegex.l0 k p (o - 1) true (i + 1))
    else if bt p i = 124 then spec_CheckRegex.l0 k p o false (i + 1)
    else if isOp (bt p i) = true then (if at_ = true then spec_CheckRegex.l0 k p o at_ (i + 1) else some (2, i))
    else if bt p i = 91 then ((spec_l4Class.f k p i).bind fun b => if b.2.1 = 0 then spec_CheckRegex.l0 k p o true b.1 else some (b.2.1, b.2.2))
    else if bt p i = 93 then some (2, i)
    else if bt p i = 92 then (if i + 1 = p.size then some (2, (p.size : Int)) else spec_CheckRegex.l0 k p o true (i + 2))
    else spec_CheckRegex.l0 k p o true (i + 1)) := by
  have hw1 := wr1 hp h0 (Int.le_of_lt h1)
  have hw2 := wr2 hp h0 (Int.le_of_lt h1)
  have hw3 : wrap64 (o + 1) = o + 1 := wrap_id _ (by omega) (by omega)
  have hw4 : wrap64 (o - 1) = o - 1 := wrap_id _ (by omega) (by omega)
  rw [spec_CheckRegex.l0, if_pos h1, if_pos h0, hw1, hw2, hw3, hw4, l4Op_is hp]
  rfl
theorem sl_end (o : Int) (at_ : Bool) (ho : 0 ≤ o) : SL p o at_ p.size (if o > 0 then (2, (p.size : Int)) else (0, 0)) := by
  refine Ev.step (f := fun _ => some (if o > 0 then (2, (p.size : Int)) else (0, 0))) (fun k => ?_) (Ev.now _)
  rw [spec_CheckRegex.l0, if_neg (by omega)]
  split <;> rfl
/-- Operators behind an atom. -/
theorem ops_spec : ∀ (d : Nat) (j : Int) (x : Rx) (o : Int), 0 ≤ o → o ≤ 20 → 0 ≤ j → j ≤ p.size → (p.size : Int) - j = d →
    ∃ x' j', Ev (fun k => opsF k p j x) (x', j') ∧ j ≤ j' ∧ j' ≤ p.size ∧ (j' < p.size → isOp (bt p j') = false) ∧ ∀ r, SL p o true j' r → SL p o true j r := by
  intro d
  induction d with
  | zero =>
    intro j x o o0 o1 h0 h1 hd
    refine ⟨x, j, Ev.step (f := fun _ => some (x, j)) (fun k => ?_) (Ev.now _), Int.le_refl _, h1, fun h => by omega, fun r h => h⟩
    simp only [opsF]
    rw [if_neg (by omega)]
  | succ d ih =>
    intro j x o o0 o1 h0 h1 hd
    have hlt : j < p.size := by omega
    by_cases hop : isOp (bt p j) = true
    · obtain ⟨x', j', he, a, b, c, hs⟩ := ih (j + 1) (.rep x (bt p j)) o o0 o1 (by omega) (by omega) (by omega)
      refine ⟨x', j', Ev.step (fun k => by simp only [opsF]; rw [if_pos ⟨hlt, hop⟩]) he, by omega, b, c, fun r h => Ev.step (fun k => ?_) (hs r h)⟩
      have hn : bt p j ≠ 40 ∧ bt p j ≠ 41 ∧ bt p j ≠ 124 := by
        refine ⟨fun e => ?_, fun e => ?_, fun e => ?_⟩ <;> (rw [e] at hop; revert hop; decide)
      rw [sl_s hp k o true j h0 hlt o0 o1, if_neg hn.1, if_neg hn.2.1, if_neg hn.2.2, if_pos hop, if_pos rfl]
    · refine ⟨x, j, Ev.step (f := fun _ => some (x, j)) (fun k => ?_) (Ev.now _), Int.le_refl _, h1, fun _ => by simpa using hop, fun r h => h⟩
      simp only [opsF]
      rw [if_neg (fun h => hop h.2)]
def AtomS (p : ByteArray) (i o : Int) (at_ : Bool) : Prop :=
  (∃ c a, Ev (fun k => atomF k p i o) (.error (c, a)) ∧ SL p o at_ i (c, a)) ∨
  (∃ x j, Ev (fun k => atomF k p i o) (.ok (x, j)) ∧ i < j ∧ j ≤ p.size ∧ ∀ r, SL p o true j r → SL p o at_ i r)
def SeqS (p : ByteArray) (i o : Int) (at_ : Bool) : Prop :=
  (∃ c a, (∀ acc, Ev (fun k => seqL k p i o acc) (.error (c, a))) ∧ SL p o at_ i (c, a)) ∨
  (∃ xs j, (∀ acc, Ev (fun k => seqL k p i o acc) (.ok (.seq (acc ++ xs), j))) ∧ i ≤ j ∧ j ≤ p.size ∧ (j < p.size → bt p j = 124 ∨ bt p j = 41) ∧ ∀ r, (∀ b, SL p o b j r) → SL p o at_ i r)
def AltS (p : ByteArray) (i o : Int) : Prop :=
  (∃ c a, (∀ acc, Ev (fun k => altL k p i o acc) (.error (c, a))) ∧ SL p o false i (c, a)) ∨
  (∃ xs j, (∀ acc, Ev (fun k => altL k p i o acc) (.ok (.alt (acc ++ xs), j))) ∧ i ≤ j ∧ j ≤ p.size ∧ (j < p.size → bt p j = 41) ∧ ∀ r, (∀ b, SL p o b j r) → SL p o false i r)
theorem atom_spec (i o : Int) (at_ : Bool) (h0 : 0 ≤ i) (h1 : i < p.size) (o0 : 0 ≤ o) (o1 : o ≤ 20) (hat : at_ = true → isOp (bt p i) = false) (n124 : bt p i ≠ 124) (n41 : bt p i ≠ 41)
    (IH : o < 20 → AltS p (i + 1) (o + 1)) : AtomS p i o at_ := by
  have hsl := fun k b => sl_s hp k o b i h0 h1 o0 o1
  by_cases n40 : bt p i = 40
  · by_cases e20 : o = 20
    · refine .inl ⟨3, i, Ev.step (f := fun _ => some (.error (3, i))) (fun k => by rw [atomF_s, if_pos n40, if_pos e20]) (Ev.now _), Ev.step (f := fun _ => some (3, i)) (fun k => by rw [hsl, if_pos n40, if_pos e20]) (Ev.now _)⟩
    · have ho : o < 20 := by omega
      rcases IH ho with ⟨c, a, ha, hs⟩ | ⟨xs, j, ha, a, b, hj, hs⟩
      · refine .inl ⟨c, a, Ev.step (fun k => by rw [atomF_s, if_pos n40, if_neg e20]) (Ev.obind_err (ha [])), Ev.step (fun k => by rw [hsl, if_pos n40, if_neg e20]) hs⟩
      · by_cases ej : j = p.size
        · refine .inl ⟨2, j, Ev.step (fun k => by rw [atomF_s, if_pos n40, if_neg e20]) (Ev.obind (ha []) (Ev.if_pos ej (Ev.now _))), Ev.step (fun k => by rw [hsl, if_pos n40, if_neg e20]) (hs _ fun b => ?_)⟩
          have := sl_end hp (o + 1) b (by omega)
          rw [if_pos (by omega)] at this
          rw [ej]; exact this
        · have hlt : j < p.size := by omega
          refine .inr ⟨_, j + 1, Ev.step (fun k => by rw [atomF_s, if_pos n40, if_neg e20]) (Ev.obind (ha []) (Ev.if_neg ej (Ev.now _))), by omega, by omega, fun r h => Ev.step (fun k => by rw [hsl, if_pos n40, if_neg e20]) (hs _ fun b => ?_)⟩
          have h41 := hj hlt
          refine Ev.step (fun k => ?_) h
          rw [sl_s hp k (o + 1) b j (by omega) hlt (by omega) (by omega), if_neg (by omega), if_pos h41, if_neg (by omega), show o + 1 - 1 = o by omega]
  · by_cases n91 : bt p i = 91
    · have hop : ¬ isOp (bt p i) = true := by rw [n91]; decide
      obtain ⟨q, hq, h⟩ := class_spec hp h0 h1
      have hA : ∀ k, atomF (k + 1) p i o = obind (claF k p (i + 1)) fun x => some (.ok (.one x.1 0 false, x.2)) := fun k => by rw [atomF_s, if_neg n40, if_pos n91]
      have hS : ∀ k, spec_CheckRegex.l0 (k + 1) p o at_ i = ((spec_l4Class.f k p i).bind fun b => if b.2.1 = 0 then spec_CheckRegex.l0 k p o true b.1 else some (b.2.1, b.2.2)) := fun k => by rw [hsl, if_neg n40, if_neg n41, if_neg n124, if_neg hop, if_pos n91]
      rcases h with ⟨s, j, rfl, hs⟩ | ⟨c, a, rfl, hc, hs⟩
      · obtain ⟨K, hK⟩ := hq
        obtain ⟨a, b, -⟩ := claF_ok (hK K (Nat.le_refl _)) (by omega) (by omega)
        have a' : i + 1 < j := a
        refine .inr ⟨_, j, Ev.step hA (Ev.obind ⟨K, hK⟩ (Ev.now _)), by omega, b, fun r h => Ev.step hS (Ev.bind hs (Ev.if_pos rfl h))⟩
      · refine .inl ⟨c, a, Ev.step hA (Ev.obind_err hq), Ev.step hS (Ev.bind hs (Ev.if_neg hc (Ev.now _)))⟩
    · by_cases n46 : bt p i = 46
      · have hop : ¬ isOp (bt p i) = true := by rw [n46]; decide
        refine .inr ⟨_, i + 1, Ev.step (fun k => by rw [atomF_s, if_neg n40, if_neg n91, if_pos n46]) (Ev.now _), by omega, by omega, fun r h => Ev.step (fun k => ?_) h⟩
        rw [hsl, if_neg n40, if_neg n41, if_neg n124, if_neg hop, if_neg n91, if_neg (by omega), if_neg (by omega)]
      · by_cases hop : isOp (bt p i) = true
        · have hb : at_ = false := by
            cases at_
            · rfl
            · have := hat rfl; rw [hop] at this; cases this
          subst hb
          refine .inl ⟨2, i, Ev.step (fun k => by rw [atomF_s, if_neg n40, if_neg n91, if_neg n46, if_pos (.inl hop)]) (Ev.now _), Ev.step (fun k => ?_) (Ev.now _)⟩
          rw [hsl, if_neg n40, if_neg n41, if_neg n124, if_pos hop, if_neg Bool.false_ne_true]
        · by_cases n93 : bt p i = 93
          · refine .inl ⟨2, i, Ev.step (fun k => by rw [atomF_s, if_neg n40, if_neg n91, if_neg n46, if_pos (.inr n93)]) (Ev.now _), Ev.step (fun k => ?_) (Ev.now _)⟩
            rw [hsl, if_neg n40, if_neg n41, if_neg n124, if_neg hop, if_neg n91, if_pos n93]
          · have hno : ¬ (isOp (bt p i) = true ∨ bt p i = 93) := fun h => h.elim hop n93
            by_cases n92 : bt p i = 92
            · by_cases e1 : i + 1 = p.size
              · refine .inl ⟨2, i + 1, Ev.step (fun k => by rw [atomF_s, if_neg n40, if_neg n91, if_neg n46, if_neg hno, if_pos n92, if_pos e1]) (Ev.now _), Ev.step (fun k => ?_) (Ev.now _)⟩
                rw [hsl, if_neg n40, if_neg n41, if_neg n124, if_neg hop, if_neg n91, if_neg n93, if_pos n92, if_pos e1, e1]
              · refine .inr ⟨_, i + 2, Ev.step (fun k => by rw [atomF_s, if_neg n40, if_neg n91, if_neg n46, if_neg hno, if_pos n92, if_neg e1]) (Ev.now _), by omega, by omega, fun r h => Ev.step (fun k => ?_) h⟩
                rw [hsl, if_neg n40, if_neg n41, if_neg n124, if_neg hop, if_neg n91, if_neg n93, if_pos n92, if_neg e1]
            · refine .inr ⟨_, i + 1, Ev.step (fun k => by rw [atomF_s, if_neg n40, if_neg n91, if_neg n46, if_neg hno, if_neg n92]) (Ev.now _), by omega, by omega, fun r h => Ev.step (fun k => ?_) h⟩
              rw [hsl, if_neg n40, if_neg n41, if_neg n124, if_neg hop, if_neg n91, if_neg n93, if_neg n92]
theorem par_spec : ∀ (d : Nat) (i : Int), 0 ≤ i → i ≤ p.size → (p.size : Int) - i = d → (∀ o at_, 0 ≤ o → o ≤ 20 → (at_ = true → i < p.size → isOp (bt p i) = false) → SeqS p i o at_) ∧ (∀ o, 0 ≤ o → o ≤ 20 → AltS p i o) := by
  intro d
  induction d using Nat.strongRecOn with
  | _ d ih =>
  intro i h0 h1 hd
  have hseq : ∀ o at_, 0 ≤ o → o ≤ 20 → (at_ = true → i < p.size → isOp (bt p i) = false) → SeqS p i o at_ := by
    intro o at_ o0 o1 hat
    by_cases hc : i < p.size ∧ (bt p i ≠ 124 ∧ bt p i ≠ 41)
    · have hS : ∀ k acc, seqL (k + 1) p i o acc = obind (atomF k p i o) fun x => (opsF k p x.2 x.1).bind fun y => seqL k p y.2 o (acc ++ [y.1]) := fun k acc => by rw [seqL_s, if_pos hc]
      rcases atom_spec hp i o at_ h0 hc.1 o0 o1 (fun h => hat h hc.1) hc.2.1 hc.2.2 (fun h20 => (ih ((p.size : Int) - (i + 1)).toNat (by omega) (i + 1) (by omega) (by omega) (by omega)).2 (o + 1) (by omega) (by omega)) with ⟨c, a, ha, hs⟩ | ⟨x, j, ha, a, b, hs⟩
      · exact .inl ⟨c, a, fun acc => Ev.step (fun k => hS k acc) (Ev.obind_err ha), hs⟩
      · obtain ⟨x', j', ho, a2, b2, c2, hs2⟩ := ops_spec hp ((p.size : Int) - j).toNat j x o o0 o1 (by omega) b (by omega)
        rcases (ih ((p.size : Int) - j').toNat (by omega) j' (by omega) b2 (by omega)).1 o true o0 o1 (fun _ h => c2 h) with ⟨c, e, hq, hs3⟩ | ⟨xs, j3, hq, a3, b3, c3, hs3⟩
        · exact .inl ⟨c, e, fun acc => Ev.step (fun k => hS k acc) (Ev.obind ha (Ev.bind ho (hq _))), hs _ (hs2 _ hs3)⟩
        · refine .inr ⟨x' :: xs, j3, fun acc => ?_, by omega, b3, c3, fun r h => hs _ (hs2 _ (hs3 r h))⟩
          have := hq (acc ++ [x'])
          rw [List.append_assoc] at this
          exact Ev.step (fun k => hS k acc) (Ev.obind ha (Ev.bind ho this))
    · refine .inr ⟨[], i, fun acc => ?_, Int.le_refl _, h1, fun hlt => ?_, fun r h => h _⟩
      · rw [List.append_nil]
        exact Ev.step (fun k => by rw [seqL_s, if_neg hc]) (Ev.now _)
      · by_cases e : bt p i = 124
        · exact .inl e
        · by_cases e2 : bt p i = 41
          · exact .inr e2
          · exact absurd ⟨hlt, e, e2⟩ hc
  refine ⟨hseq, fun o o0 o1 => ?_⟩
  rcases hseq o false o0 o1 (fun h => by cases h) with ⟨c, a, hq, hs⟩ | ⟨xs, j, hq, a, b, hj, hs⟩
  · exact .inl ⟨c, a, fun acc => Ev.step (fun k => altL_s k p i o acc) (Ev.obind_err (hq [])), hs⟩
  · by_cases hb : j = p.size ∨ bt p j ≠ 124
    · refine .inr ⟨[.seq xs], j, fun acc => Ev.step (fun k => altL_s k p i o acc) (Ev.obind (hq []) (Ev.if_pos hb (Ev.now _))), a, b, fun hlt => ?_, hs⟩
      rcases hj hlt with h | h
      · rcases hb with h' | h'
        · omega
        · exact absurd h h'
      · exact h
    · have e1 : j < p.size := by
        have : ¬ j = p.size := fun h => hb (.inl h)
        omega
      have e2 : bt p j = 124 := Classical.not_not.mp fun h => hb (.inr h)
      have hbar : ∀ r, SL p o false (j + 1) r → ∀ b, SL p o b j r := fun r h b => Ev.step (fun k => by rw [sl_s hp k o b j (by omega) e1 o0 o1, if_neg (by omega), if_neg (by omega), if_pos e2]) h
      rcases (ih ((p.size : Int) - (j + 1)).toNat (by omega) (j + 1) (by omega) (by omega) (by omega)).2 o o0 o1 with ⟨c, e, ha, hs3⟩ | ⟨ys, j3, ha, a3, b3, c3, hs3⟩
      · exact .inl ⟨c, e, fun acc => Ev.step (fun k => altL_s k p i o acc) (Ev.obind (hq []) (Ev.if_neg hb (ha _))), hs _ (hbar _ hs3)⟩
      · refine .inr ⟨.seq xs :: ys, j3, fun acc => ?_, by omega, b3, c3, fun r h => hs _ (hbar _ (hs3 r h))⟩
        have := ha (acc ++ [.seq xs])
        rw [List.append_assoc] at this
        exact Ev.step (fun k => altL_s k p i o acc) (Ev.obind (hq []) (Ev.if_neg hb this))
end
/-- The program's reading of a pattern and the reference's check tell the same fault. -/
theorem check_spec (p : ByteArray) : ∃ q, Ev (fun k => patR k p) q ∧ Ev (fun k => spec_CheckRegex.f k p) (match q with | .ok _ => (0, 0) | .error x => x) := by
  by_cases hb : 200 < p.size
  · refine ⟨.error (1, 0), ⟨0, fun k _ => ?_⟩, ⟨0, fun k _ => ?_⟩⟩
    · show patR k p = _
      unfold patR; rw [if_pos hb]
    · show spec_CheckRegex.f k p = _
      unfold spec_CheckRegex.f; rw [if_pos (by omega)]
  · have hp : p.size ≤ 200 := by omega
    have hR : ∀ k, patR k p = patF k p := fun k => by unfold patR; rw [if_neg hb]
    have hF : ∀ k, spec_CheckRegex.f k p = spec_CheckRegex.l0 k p 0 false 0 := fun k => by unfold spec_CheckRegex.f; rw [if_neg (by omega)]
    simp only [hR, hF]
    rcases (par_spec hp p.size 0 (Int.le_refl _) (by omega) (by omega)).2 0 (Int.le_refl _) (by omega) with ⟨c, a, ha, hs⟩ | ⟨xs, j, ha, a, b, hj, hs⟩
    · exact ⟨.error (c, a), Ev.obind_err (ha []), hs⟩
    · by_cases e : j < p.size
      · refine ⟨.error (2, j), Ev.obind (ha []) (Ev.if_pos e (Ev.now _)), hs _ fun b => Ev.step (fun k => ?_) (Ev.now _)⟩
        rw [sl_s hp k 0 b j a e (Int.le_refl _) (by omega), if_neg (by have := hj e; omega), if_pos (hj e), if_pos rfl]
      · refine ⟨.ok (.alt ([] ++ xs)), Ev.obind (ha []) (Ev.if_neg e (Ev.now _)), hs _ fun b => ?_⟩
        have := sl_end hp 0 b (Int.le_refl _)
        rw [if_neg (by omega)] at this
        rw [show j = p.size by omega]; exact this
end Go.Proofs.Ytpfehkkfakofaaa.Q

namespace Go.Proofs.Ytpfehkkfakofaaa.Q
open Go.RowKit Go.Proofs.YtpfehkkfakofaaaW.PrintWords Go.Proofs.YtpfehkkfakofaaaW.PrintLast Go.Proofs.YtpfehkkfakofaaaW.PrintMore
theorem regex_same (p : ByteArray) : ∃ x : Int × Int, Ev (fun k => impl_CheckRegex.f k p) x ∧ Ev (fun k => spec_CheckRegex.f k p) x := by
  obtain ⟨q, hi, hs⟩ := check_spec p
  obtain ⟨K, hK⟩ := hi
  rcases q with x | x
  · exact ⟨x, ⟨K, fun k hk => by have h : patR k p = some (.error x) := hK k hk; show (patR k p).map _ = _; rw [h]; rfl⟩, hs⟩
  · exact ⟨(0, 0), ⟨K, fun k hk => by have h : patR k p = some (.ok x) := hK k hk; show (patR k p).map _ = _; rw [h]; rfl⟩, hs⟩
theorem bare_eq (a0 : Int) (a1 : ByteArray) (a2 : Bool) (a3 : ByteArray) (a4 a5 a6 : Int) (b1 b2 b3 b4 b5 : Bool) :
    spec_l5Bare.f a0 a1 a2 a3 a4 a5 a6 b1 b2 b3 b4 b5 = some ((b1 || a1.toList == []) && ((b2 || !a2) && ((b3 || a3.toList == []) && ((b4 || (a4 == 0 && a5 == 0)) && (b5 || a6 == 0))))) := by
  unfold spec_l5Bare.f
  cases b1 <;> cases b2 <;> cases b3 <;> cases b4 <;> cases b5 <;> grind
theorem node_same (a0 : Int) (a1 : ByteArray) (a2 : Bool) (a3 : ByteArray) (a4 a5 a6 : Int) : ∃ c, Ev (fun k => impl_Node_good.f k a0 a1 a2 a3 a4 a5 a6) (ndOk c a0 a1 a2 a3 a4 a5 a6) ∧ Ev (fun k => spec_l5GoodNode.f k a0 a1 a2 a3 a4 a5 a6) (ndOk c a0 a1 a2 a3 a4 a5 a6) := by
  obtain ⟨x, h1, ⟨K2, h2⟩⟩ := regex_same a1
  refine ⟨x.1 == 0, Ev.bind h1 (Ev.now _), ⟨K2 + 5, fun k hk => ?_⟩⟩
  obtain ⟨j, rfl⟩ : ∃ j, k = j + 5 := ⟨k - 5, by omega⟩
  have g3 : spec_CheckRegex.f (j + 3) a1 = some x := h2 _ (by omega)
  clear h1 h2 hk
  show spec_l5GoodNode.f (j + 5) a0 a1 a2 a3 a4 a5 a6 = _
  unfold spec_l5GoodNode.f
  simp only [spec_l5GoodNode.j0, spec_l5GoodNode.j1, spec_l5GoodNode.j2, spec_l5GoodNode.j3, bare_eq, Option.bind_some, g3, Bool.true_or, Bool.false_or, Bool.true_and]
  unfold ndOk ndX
  generalize Op.bytesLess a1.toList a3.toList = lt
  generalize a1.toList = L1
  generalize a3.toList = L3
  clear g3
  by_cases s1 : (a1.size : Int) > 200
  · simp only [s1, if_true]
  by_cases s3 : (a3.size : Int) > 200
  · simp only [s1, s3, if_true, if_false]
  simp only [s1, s3, if_false]
  clear s1 s3
  cases a2 <;> by_cases h3 : L3 = [] <;> by_cases h1 : L1 = [] <;> grind (splits := 60)
end Go.Proofs.Ytpfehkkfakofaaa.Q

namespace Go.Proofs.Ytpfehkkfakofaaa.Q
open Go.RowKit Go.Proofs.YtpfehkkfakofaaaW.PrintWords Go.Proofs.YtpfehkkfakofaaaW.PrintLast Go.Proofs.YtpfehkkfakofaaaW.PrintMore
set_option linter.unusedVariables false
set_option linter.unusedSimpArgs false

/-! ### spec_l5Arity: function 74 -/
def spec_l5Arity.j0 : Nat → Int → Bool → Option (Int)
 | 0, _, _ => none
 | k + 1, x0, x8 => if x8 = true then (some 2) else (if x0 = 16 then (some 3) else (some 0))
def spec_l5Arity.f (k : Nat) (a0 : Int) : Option (Int) := if a0 = 14 then (spec_l5Arity.j0 k a0 true) else (spec_l5Arity.j0 k a0 (a0 == 15))
set_option maxHeartbeats 8000000 in
set_option maxRecDepth 100000 in
theorem spec_l5Arity.calls (k : Nat) (a0 : Int) (r : Int) (w : World) (h : spec_l5Arity.f k a0 = some r) :
  Calls Try.prog 74 #[.int .i64 a0] w fun e w' => e = .returned (.int .i64 r) ∧ Drawn0 w w' := by
 have H : (if a0 = 14 then (spec_l5Arity.j0 k a0 true) else (spec_l5Arity.j0 k a0 (a0 == 15))) = some r := h
 clear h
 have HC2 := Aside0.mk H
 clear H
 go_enter Try.func74, Try.ntmps74
 go_upto_region 1 with (fail)
 go_cut [8] (fun v8 wc => ∃ (kq : Nat) (x8_1 : Bool), v8 = .bool x8_1 ∧ Aside0 (spec_l5Arity.j0 kq a0 x8_1 = some r) ∧ Aside0 (kq ≤ k) ∧ Drawn0 w wc)
 case first =>
  have H := HC2.out
  clear HC2
  by_cases c3 : a0 = 14
  ·rw [if_pos c3] at H
   have c3b0 : (a0 == 14) = true := beq_iff_eq.mpr c3
   have c3b1 : (a0 != 14) = false := bne_eq_false_iff_eq.mpr c3
   clear c3
   (first | rw [c3b0] | (simp only [i64_w, i32_w]; rw [c3b0]) | skip)
   have H' := Aside0.mk H
   clear H
   go_wp2
   go_meet
   case rel => exact ⟨_, (true), (by first | rfl | (simp; done) | (simp [*]; done)), H', ⟨by first | omega | exact Nat.le_refl _⟩, by repeat (first | exact Drawn0.refl _ | apply Drawn0.step)⟩
  ·rw [if_neg c3] at H
   have c3b0 : (a0 == 14) = false := beq_eq_false_iff_ne.mpr c3
   have c3b1 : (a0 != 14) = true := bne_iff_ne.mpr c3
   (first | rw [c3b0] | (simp only [i64_w, i32_w]; rw [c3b0]) | skip)
   have H' := Aside0.mk H
   clear H
   go_wp2
   go_meet
   case rel => exact ⟨_, ((a0 == 15)), (by first | rfl | (simp; done) | (simp [*]; done)), H', ⟨by first | omega | exact Nat.le_refl _⟩, by repeat (first | exact Drawn0.refl _ | apply Drawn0.step)⟩
 case rest =>
  clear HC2
  try clear p2
  try clear c3
  try clear c3b0
  try clear c3b1
  obtain ⟨kq, x8_1, rfl, HA, HJ1, ⟨mc1, rfl⟩⟩ := hcut
  cases kq with
  | zero => exact absurd HA.out (by simp [spec_l5Arity.j0])
  | succ kj1 =>
   have H := HA.out
   clear HA
   simp only [spec_l5Arity.j0] at H
   by_cases c4 : x8_1 = true
   ·subst c4
    have H1 : (some 2) = some r := by rw [if_pos rfl] at H; exact H
    clear H
    have H := H1
    clear H1
    obtain rfl := Option.some.inj H
    go_wp2
    go_ret
    exact ⟨by first | rfl | (simp; done) | (simp [*]; done), by repeat (first | exact Drawn0.refl _ | apply Drawn0.step)⟩
   ·replace c4 := Bool.eq_false_iff.mpr c4
    subst c4
    have H1 : (if a0 = 16 then (some 3) else (some 0)) = some r := by rw [if_neg (show ¬ (false = true) by decide)] at H; exact H
    clear H
    have H := H1
    clear H1
    by_cases c5 : a0 = 16
    ·rw [if_pos c5] at H
     have c5b0 : (a0 == 16) = true := beq_iff_eq.mpr c5
     have c5b1 : (a0 != 16) = false := bne_eq_false_iff_eq.mpr c5
     clear c5
     obtain rfl := Option.some.inj H
     go_wp2
     go_ret
     exact ⟨by first | rfl | (simp; done) | (simp [*]; done), by repeat (first | exact Drawn0.refl _ | apply Drawn0.step)⟩
    ·rw [if_neg c5] at H
     have c5b0 : (a0 == 16) = false := beq_eq_false_iff_ne.mpr c5
     have c5b1 : (a0 != 16) = true := bne_iff_ne.mpr c5
     obtain rfl := Option.some.inj H
     go_wp2
     go_ret
     exact ⟨by first | rfl | (simp; done) | (simp [*]; done), by repeat (first | exact Drawn0.refl _ | apply Drawn0.step)⟩

end Go.Proofs.Ytpfehkkfakofaaa.Q

namespace Go.Proofs.Ytpfehkkfakofaaa.Q
open Go.RowKit Go.Proofs.YtpfehkkfakofaaaW.PrintWords Go.Proofs.YtpfehkkfakofaaaW.PrintLast Go.Proofs.YtpfehkkfakofaaaW.PrintMore
set_option linter.unusedVariables false
set_option linter.unusedSimpArgs false

/-! ### impl_Node_arity: function 77 -/
def impl_Node_arity.j0 : Nat → Int → Bool → Option (Int)
 | 0, _, _ => none
 | k + 1, x4, x5 => if x5 = true then (some 2) else (if x4 = 16 then (some 3) else (some 0))
def impl_Node_arity.f (k : Nat) (a0_0 : Int) (a0_1 : ByteArray) (a0_2 : Bool) (a0_3 : ByteArray) (a0_4 : Int) (a0_5 : Int) (a0_6 : Int) : Option (Int) := if a0_0 = 14 then (impl_Node_arity.j0 k a0_0 (a0_0 == 14)) else (impl_Node_arity.j0 k a0_0 (a0_0 == 15))
set_option maxHeartbeats 8000000 in
set_option maxRecDepth 100000 in
theorem impl_Node_arity.calls (k : Nat) (a0_0 : Int) (a0_1 : ByteArray) (a0_2 : Bool) (a0_3 : ByteArray) (a0_4 : Int) (a0_5 : Int) (a0_6 : Int) (r : Int) (w : World) (h : impl_Node_arity.f k a0_0 a0_1 a0_2 a0_3 a0_4 a0_5 a0_6 = some r) :
  Calls Try.prog 77 #[.agg #[.int .i64 a0_0, .string a0_1, .bool a0_2, .string a0_3, .int .u64 a0_4, .int .u64 a0_5, .int .i64 a0_6]] w fun e w' => e = .returned (.int .i64 r) ∧ Below w.heap.size w w' := by
 have hu63 := Try.underlying63
 have HB := Aside0.mk (Below.refl w.heap.size w)
 have H : (if a0_0 = 14 then (impl_Node_arity.j0 k a0_0 (a0_0 == 14)) else (impl_Node_arity.j0 k a0_0 (a0_0 == 15))) = some r := h
 clear h
 have HC2 := Aside0.mk H
 clear H
 go_enter Try.func77, Try.ntmps77
 go_upto_if 5 with (first | ((with_reducible refine gate_dst (N := 1) rfl ?_); refine box_event ?hg (N := 1) ?hd (cs := #[.int .i64 a0_0, .string a0_1, .bool a0_2, .string a0_3, .int .u64 a0_4, .int .u64 a0_5, .int .i64 a0_6]) (t := 63) ?hr ?_; (case hd => rfl); (case hg => rfl); (case hr => first | (go_simp; done) | (go_simp; rfl)); intro gb455 hg w3 hbox hb; have n0_ := Aside0.mk (below_step bw hb); have n1_ := Aside0.mk (hbox); have n2_ := Aside0.mk ((by rw [hg]; exact (below_size bw) : w.heap.size ≤ gb455)); have n3_ := Aside0.mk ((by rw [hg]; exact (below_size bw) : w.heap.size ≤ gb455)); clear HB; have HB := n0_; have BK455 := n1_; have GW455 := n2_; have GE455 := n3_; clear n0_ n1_ n2_ n3_; clear hb hbox hg; have hcz4_0 : w3.cell? ⟨gb455, 0, none⟩ = some (.int .i64 a0_0) := (blk_cell BK455.out 0).trans rfl; have hcz4_1 : w3.cell? ⟨gb455, 1, none⟩ = some (.string a0_1) := (blk_cell BK455.out 1).trans rfl; have hcz4_2 : w3.cell? ⟨gb455, 2, none⟩ = some (.bool a0_2) := (blk_cell BK455.out 2).trans rfl; have hcz4_3 : w3.cell? ⟨gb455, 3, none⟩ = some (.string a0_3) := (blk_cell BK455.out 3).trans rfl; have hcz4_4 : w3.cell? ⟨gb455, 4, none⟩ = some (.int .u64 a0_4) := (blk_cell BK455.out 4).trans rfl; have hcz4_5 : w3.cell? ⟨gb455, 5, none⟩ = some (.int .u64 a0_5) := (blk_cell BK455.out 5).trans rfl; have hcz4_6 : w3.cell? ⟨gb455, 6, none⟩ = some (.int .i64 a0_6) := (blk_cell BK455.out 6).trans rfl; have hfz4_0 := blk_frozen BK455.out 0; have hfz4_1 := blk_frozen BK455.out 1; have hfz4_2 := blk_frozen BK455.out 2; have hfz4_3 := blk_frozen BK455.out 3; have hfz4_4 := blk_frozen BK455.out 4; have hfz4_5 := blk_frozen BK455.out 5; have hfz4_6 := blk_frozen BK455.out 6))
 (try simp only [Act.put, List.setIfInBounds_toArray, List.set_cons_zero, List.set_cons_succ])
 go_cut [5] (fun v5 wc => ∃ (kq : Nat) (x5_1 : Bool), v5 = .bool x5_1 ∧ Aside0 (impl_Node_arity.j0 kq a0_0 x5_1 = some r) ∧ Aside0 (kq ≤ k) ∧ Aside0 (wc.heap[gb455]? = some (.cells #[.int .i64 a0_0, .string a0_1, .bool a0_2, .string a0_3, .int .u64 a0_4, .int .u64 a0_5, .int .i64 a0_6] 63 (0, 0))) ∧ Aside0 (Below w.heap.size w wc))
 case first =>
  have H := HC2.out
  clear HC2
  by_cases c5 : a0_0 = 14
  ·rw [if_pos c5] at H
   have c5b0 : (a0_0 == 14) = true := beq_iff_eq.mpr c5
   have c5b1 : (a0_0 != 14) = false := bne_eq_false_iff_eq.mpr c5
   clear c5
   (first | rw [c5b0] | (simp only [i64_w, i32_w]; rw [c5b0]) | skip)
   have H' := Aside0.mk H
   clear H
   go_wp2
   go_meet
   case rel => exact ⟨_, ((a0_0 == 14)), (by first | rfl | (simp; done) | (simp [*]; done)), H', ⟨by first | omega | exact Nat.le_refl _⟩, ⟨lb BK455⟩, ⟨bw⟩⟩
  ·rw [if_neg c5] at H
   have c5b0 : (a0_0 == 14) = false := beq_eq_false_iff_ne.mpr c5
   have c5b1 : (a0_0 != 14) = true := bne_iff_ne.mpr c5
   (first | rw [c5b0] | (simp only [i64_w, i32_w]; rw [c5b0]) | skip)
   have H' := Aside0.mk H
   clear H
   go_wp2
   go_meet
   case rel => exact ⟨_, ((a0_0 == 15)), (by first | rfl | (simp; done) | (simp [*]; done)), H', ⟨by first | omega | exact Nat.le_refl _⟩, ⟨lb BK455⟩, ⟨bw⟩⟩
 case rest =>
  clear HC2
  try clear p2
  try clear c5
  try clear c5b0
  try clear c5b1
  try clear hcz4_0
  try clear hcz4_1
  try clear hcz4_2
  try clear hcz4_3
  try clear hcz4_4
  try clear hcz4_5
  try clear hcz4_6
  try clear hfz4_0
  try clear hfz4_1
  try clear hfz4_2
  try clear hfz4_3
  try clear hfz4_4
  try clear hfz4_5
  try clear hfz4_6
  obtain ⟨kq, x5_1, rfl, HA, HJ1, BK455, HB⟩ := hcut
  cases kq with
  | zero => exact absurd HA.out (by simp [impl_Node_arity.j0])
  | succ kj1 =>
   have H := HA.out
   clear HA
   simp only [impl_Node_arity.j0] at H
   by_cases c6 : x5_1 = true
   ·subst c6
    have H1 : (some 2) = some r := by rw [if_pos rfl] at H; exact H
    clear H
    have H := H1
    clear H1
    obtain rfl := Option.some.inj H
    go_wp2
    go_ret
    exact ⟨by first | rfl | (simp [errW_none, errW_some] <;> rfl) | (simp [*, errW_none, errW_some] <;> rfl), bw⟩
   ·replace c6 := Bool.eq_false_iff.mpr c6
    subst c6
    have H1 : (if a0_0 = 16 then (some 3) else (some 0)) = some r := by rw [if_neg (show ¬ (false = true) by decide)] at H; exact H
    clear H
    have H := H1
    clear H1
    by_cases c7 : a0_0 = 16
    ·rw [if_pos c7] at H
     have c7b0 : (a0_0 == 16) = true := beq_iff_eq.mpr c7
     have c7b1 : (a0_0 != 16) = false := bne_eq_false_iff_eq.mpr c7
     clear c7
     obtain rfl := Option.some.inj H
     go_wp2
     go_ret
     exact ⟨by first | rfl | (simp [errW_none, errW_some] <;> rfl) | (simp [*, errW_none, errW_some] <;> rfl), bw⟩
    ·rw [if_neg c7] at H
     have c7b0 : (a0_0 == 16) = false := beq_eq_false_iff_ne.mpr c7
     have c7b1 : (a0_0 != 16) = true := bne_iff_ne.mpr c7
     obtain rfl := Option.some.inj H
     go_wp2
     go_ret
     exact ⟨by first | rfl | (simp [errW_none, errW_some] <;> rfl) | (simp [*, errW_none, errW_some] <;> rfl), bw⟩

end Go.Proofs.Ytpfehkkfakofaaa.Q

namespace Go.Proofs.Ytpfehkkfakofaaa.Q
open Go.RowKit Go.Proofs.YtpfehkkfakofaaaW.PrintWords Go.Proofs.YtpfehkkfakofaaaW.PrintLast Go.Proofs.YtpfehkkfakofaaaW.PrintMore
def arB (a : Int) : Int := if a = 14 ∨ a = 15 then 2 else if a = 16 then 3 else 0
theorem ar_spec (a : Int) (k : Nat) : spec_l5Arity.f (k + 1) a = some (arB a) := by
  unfold spec_l5Arity.f arB
  simp only [spec_l5Arity.j0]
  grind
theorem ar_impl (a0 : Int) (a1 : ByteArray) (a2 : Bool) (a3 : ByteArray) (a4 a5 a6 : Int) (k : Nat) : impl_Node_arity.f (k + 1) a0 a1 a2 a3 a4 a5 a6 = some (arB a0) := by
  unfold impl_Node_arity.f arB
  simp only [impl_Node_arity.j0]
  grind
end Go.Proofs.Ytpfehkkfakofaaa.Q

namespace Go.Proofs.Ytpfehkkfakofaaa.Q
open Go.RowKit Go.Proofs.YtpfehkkfakofaaaW.PrintWords Go.Proofs.YtpfehkkfakofaaaW.PrintLast Go.Proofs.YtpfehkkfakofaaaW.PrintMore
set_option linter.unusedVariables false
set_option linter.unusedSimpArgs false
inductive Tr where
  | node (n : S63) (ks : List Tr)
def Tr.top : Tr → S63
  | .node n _ => n
mutual
def flatT : Tr → List S63
  | .node n ks => flatTs ks ++ [n]
def flatTs : List Tr → List S63
  | [] => []
  | t :: ts => flatT t ++ flatTs ts
end
mutual
def wfT : Tr → Prop
  | .node n ks => (ks.length : Int) = arB n.f0 ∧ wfTs ks
def wfTs : List Tr → Prop
  | [] => True
  | t :: ts => wfT t ∧ wfTs ts
end
theorem flatTs_app : ∀ xs ys : List Tr, flatTs (xs ++ ys) = flatTs xs ++ flatTs ys
  | [], ys => by simp [flatTs]
  | x :: xs, ys => by simp [flatTs, flatTs_app xs ys]
theorem wfTs_app : ∀ xs ys : List Tr, wfTs (xs ++ ys) ↔ wfTs xs ∧ wfTs ys
  | [], ys => by simp [wfTs]
  | x :: xs, ys => by simp [wfTs, wfTs_app xs ys, and_assoc]
theorem flatT_ne (t : Tr) : flatT t ≠ [] := by
  cases t; simp [flatT]
/-- One node more on the stack of trees. -/
def pushT (st : List Tr) (n : S63) : Option (List Tr) :=
  if (st.length : Int) < arB n.f0 then none else some (st.take (st.length - (arB n.f0).toNat) ++ [.node n (st.drop (st.length - (arB n.f0).toNat))])
def treesOf : List S63 → List Tr → Option (List Tr)
  | [], st => some st
  | n :: ns, st => (pushT st n).bind fun st' => treesOf ns st'
theorem arB_nn (a : Int) : 0 ≤ arB a := by unfold arB; split <;> (try split) <;> omega
theorem arB_le (a : Int) : arB a ≤ 3 := by unfold arB; split <;> (try split) <;> omega
theorem pushT_flat {st st' : List Tr} {n : S63} (h : pushT st n = some st') (hw : wfTs st) : flatTs st' = flatTs st ++ [n] ∧ wfTs st' := by
  unfold pushT at h
  split at h
  · cases h
  · rename_i hl
    cases h
    have h0 := arB_nn n.f0
    have e : flatTs st = flatTs (st.take (st.length - (arB n.f0).toNat)) ++ flatTs (st.drop (st.length - (arB n.f0).toNat)) := by
      rw [← flatTs_app, List.take_append_drop]
    have w : wfTs (st.take (st.length - (arB n.f0).toNat)) ∧ wfTs (st.drop (st.length - (arB n.f0).toNat)) := by
      rw [← wfTs_app, List.take_append_drop]; exact hw
    refine ⟨?_, ?_⟩
    · rw [flatTs_app]; simp [flatTs, flatT, e]
    · rw [wfTs_app]
      refine ⟨w.1, ⟨⟨?_, w.2⟩, trivial⟩⟩
      rw [List.length_drop]; omega
theorem treesOf_flat : ∀ (ns : List S63) (st st' : List Tr), treesOf ns st = some st' → wfTs st → flatTs st' = flatTs st ++ ns ∧ wfTs st'
  | [], st, st', h, hw => by cases h; simp [hw]
  | n :: ns, st, st', h, hw => by
    unfold treesOf at h
    obtain ⟨s1, h1, h2⟩ := Option.bind_eq_some_iff.mp h
    obtain ⟨e1, w1⟩ := pushT_flat h1 hw
    obtain ⟨e2, w2⟩ := treesOf_flat ns s1 st' h2 w1
    exact ⟨by rw [e2, e1]; simp, w2⟩
/-- Nodes from the last one on, as many as are needed. -/
def scanN (need : Int) : List S63 → Int
  | [] => if need > 0 then -1 else 0
  | x :: r => if need > 0 then scanN (need - 1 + arB x.f0) r else (x :: r).length
theorem scanN_zero (r : List S63) : scanN 0 r = r.length := by
  cases r <;> simp [scanN]
mutual
theorem scanN_T : ∀ (t : Tr) (need : Int) (r : List S63), wfT t → 1 ≤ need → scanN need ((flatT t).reverse ++ r) = scanN (need - 1) r
  | .node n ks, need, r, hw, h => by
    obtain ⟨h1, h2⟩ : (ks.length : Int) = arB n.f0 ∧ wfTs ks := hw
    have e := scanN_Ts ks (need - 1 + arB n.f0) r h2 (by omega)
    simp only [flatT, List.reverse_append, List.reverse_cons, List.reverse_nil, List.nil_append, List.cons_append]
    have e2 : need - 1 + arB n.f0 - (ks.length : Int) = need - 1 := by omega
    rw [e2] at e
    conv => lhs; unfold scanN
    rw [if_pos (by omega), e]
theorem scanN_Ts : ∀ (ts : List Tr) (need : Int) (r : List S63), wfTs ts → (ts.length : Int) ≤ need → scanN need ((flatTs ts).reverse ++ r) = scanN (need - ts.length) r
  | [], need, r, _, h => by simp [flatTs]
  | t :: ts, need, r, hw, h => by
    obtain ⟨h1, h2⟩ : wfT t ∧ wfTs ts := hw
    have hl : ((t :: ts).length : Int) = (ts.length : Int) + 1 := by simp
    rw [hl] at h ⊢
    simp only [flatTs, List.reverse_append, List.append_assoc]
    rw [scanN_Ts ts need _ h2 (by omega), scanN_T t _ r h1 (by omega)]
    congr 1; omega
end
/-- What a list of nodes weighs: how many trees it is. -/
def wgt : List S63 → Int
  | [] => 0
  | x :: r => 1 - arB x.f0 + wgt r
theorem wgt_app : ∀ a b : List S63, wgt (a ++ b) = wgt a + wgt b
  | [], b => by simp [wgt]
  | x :: a, b => by simp only [List.cons_append, wgt, wgt_app a b]; omega
theorem wgt_rev : ∀ a : List S63, wgt a.reverse = wgt a
  | [] => rfl
  | x :: a => by rw [List.reverse_cons, wgt_app, wgt_rev a]; simp only [wgt]; omega
theorem scanN_all : ∀ (r : List S63) (need : Int), 0 ≤ need → scanN need r = 0 → need - wgt r = 0 ∧ ∀ p q : List S63, r = p ++ q → q ≠ [] → 0 < need - wgt p
  | [], need, h0, h => by
    unfold scanN at h
    split at h
    · omega
    · refine ⟨by simp only [wgt]; omega, fun p q e hq => ?_⟩
      have := List.append_eq_nil_iff.mp e.symm
      exact absurd this.2 hq
  | x :: r, need, h0, h => by
    unfold scanN at h
    split at h
    · have ha := arB_nn x.f0
      obtain ⟨h1, h2⟩ := scanN_all r _ (by omega) h
      refine ⟨by simp only [wgt]; omega, fun p q e hq => ?_⟩
      rcases p with _ | ⟨y, p⟩
      · simp only [wgt]; omega
      · obtain ⟨rfl, e2⟩ : x = y ∧ r = p ++ q := List.cons.inj e
        have := h2 p q e2 hq
        simp only [wgt]; omega
    · simp at h; omega
theorem pushT_len {st st' : List Tr} {n : S63} (h : pushT st n = some st') : (st'.length : Int) = st.length + (1 - arB n.f0) := by
  unfold pushT at h
  split at h
  · cases h
  · cases h
    have h0 := arB_nn n.f0
    rw [List.length_append, List.length_take]
    simp only [List.length_cons, List.length_nil]
    omega
/-- Where nodes are no trees, scanning from the last one does not end at the first. -/
theorem treesOf_none : ∀ (ns : List S63) (st : List Tr), treesOf ns st = none → ∃ a n b, ns = a ++ n :: b ∧ (st.length : Int) + wgt (a ++ [n]) ≤ 0
  | [], st, h => by cases h
  | n :: ns, st, h => by
    unfold treesOf at h
    cases hp : pushT st n with
    | none =>
      refine ⟨[], n, ns, rfl, ?_⟩
      unfold pushT at hp
      split at hp
      · simp only [List.nil_append, wgt]; omega
      · cases hp
    | some s1 =>
      rw [hp] at h
      obtain ⟨a, m, b, e, hw⟩ := treesOf_none ns s1 h
      have := pushT_len hp
      refine ⟨n :: a, m, b, by rw [e]; rfl, ?_⟩
      simp only [List.cons_append, wgt]; omega
theorem scan_one (ns : List S63) (hn : ns ≠ []) : scanN 1 ns.reverse = 0 ↔ ∃ t, treesOf ns [] = some [t] := by
  cases h : treesOf ns [] with
  | none =>
    constructor
    · intro hs
      exfalso
      obtain ⟨a, n, b, e, hw⟩ := treesOf_none ns [] h
      obtain ⟨h1, h2⟩ := scanN_all _ _ (by omega) hs
      rw [wgt_rev] at h1
      have e2 : ns = (a ++ [n]) ++ b := by rw [e]; simp
      have h3 := h2 b.reverse (a ++ [n]).reverse (by rw [e2]; simp) (by simp)
      rw [wgt_rev] at h3
      rw [e2, wgt_app] at h1
      simp only [List.length_nil] at hw
      omega
    · rintro ⟨t, ht⟩; cases ht
  | some st =>
    obtain ⟨e, w⟩ := treesOf_flat ns [] st h trivial
    have e : flatTs st = ns := by simpa [flatTs] using e
    rcases List.eq_nil_or_concat st with rfl | ⟨i, t, rfl⟩
    · exact absurd (by simpa [flatTs] using e.symm) hn
    · rw [List.concat_eq_append] at h e w ⊢
      rw [wfTs_app] at w
      have hs : scanN 1 ns.reverse = ((flatTs i).length : Int) := by
        rw [← e, flatTs_app]
        simp only [flatTs, List.append_nil, List.reverse_append]
        rw [scanN_T t 1 _ w.2.1 (by omega), show (1 : Int) - 1 = 0 from rfl, scanN_zero]
        simp
      rw [hs]
      constructor
      · intro h0
        have h0 : flatTs i = [] := List.eq_nil_of_length_eq_zero (by omega)
        rcases i with _ | ⟨y, i⟩
        · exact ⟨t, rfl⟩
        · simp [flatTs, flatT_ne] at h0
      · rintro ⟨u, hu⟩
        have hu := Option.some.inj hu
        rcases i with _ | ⟨y, i⟩
        · simp [flatTs]
        · simp at hu
end Go.Proofs.Ytpfehkkfakofaaa.Q

namespace Go.Proofs.Ytpfehkkfakofaaa.Q
open Go.RowKit Go.Proofs.YtpfehkkfakofaaaW.PrintWords Go.Proofs.YtpfehkkfakofaaaW.PrintLast Go.Proofs.YtpfehkkfakofaaaW.PrintMore
set_option linter.unusedVariables false
set_option linter.unusedSimpArgs false
def cntN (n : S63) : Bool := decide (n.f0 = 11) || (decide (n.f0 = 12) || decide (n.f0 = 13))
def zN : S63 := ⟨0, ⟨#[]⟩, false, ⟨#[]⟩, 0, 0, 0⟩
mutual
def ifsT : Tr → Int
  | .node n ks => (if n.f0 = 16 then 1 else 0) + ifsTs ks
def ifsTs : List Tr → Int
  | [] => 0
  | t :: ts => ifsT t + ifsTs ts
end
/-- What a node makes of what its operands make. -/
def passN (n : S63) (ps : List Bool) : Bool :=
  match ps with
  | [] => cntN n
  | [a, b] => a || b
  | [_, b, c] => b || c
  | _ => false
mutual
def passT : Tr → Bool
  | .node n ks => passN n (passTs ks)
def passTs : List Tr → List Bool
  | [] => []
  | t :: ts => passT t :: passTs ts
end
def genN (n : S63) (ks : List Tr) (gs : List (Bool → Int → List S92)) (seen : Bool) (first : Int) : List S92 :=
  match ks, gs with
  | [a, b], [ga, gb] =>
    if n.f0 = 14 then ga seen first ++ gb (seen || passT a) (first + ifsT a)
    else [⟨2, 0, 0, false, zN⟩] ++ ga seen first ++ [⟨3, 0, 0, false, zN⟩] ++ gb seen (first + ifsT a) ++ [⟨4, 0, 0, false, zN⟩]
  | [c, a, b], [_, ga, gb] =>
    let xs := ga seen (first + ifsT c + 1)
    let ys := gb seen (first + ifsT c + 1 + ifsT a)
    [⟨5, first + ifsT c, (xs.length : Int) + 2, false, zN⟩] ++ xs ++ [⟨6, 0, (ys.length : Int) + 1, false, zN⟩] ++ ys
  | _, _ => [⟨1, 0, 0, !seen, n⟩]
mutual
def genT : Tr → Bool → Int → List S92
  | .node n ks => genN n ks (genTs ks)
def genTs : List Tr → List (Bool → Int → List S92)
  | [] => []
  | t :: ts => genT t :: genTs ts
end
/-- One instruction more in a block: its target and its counter get their numbers. -/
def putI (b : List S92 × Int) (x : S92) : List S92 × Int :=
  if x.f0 = 1 ∧ cntN x.f4 = true then (b.1 ++ [⟨x.f0, b.2, x.f2, x.f3, x.f4⟩], b.2 + 1)
  else if x.f0 = 5 ∨ x.f0 = 6 then (b.1 ++ [⟨x.f0, x.f1, x.f2 + b.1.length, x.f3, x.f4⟩], b.2)
  else (b.1 ++ [x], b.2)
def putIs (b : List S92 × Int) (xs : List S92) : List S92 × Int := xs.foldl putI b
def blockI (xs : List S92) : S37 := ⟨(putIs ([], 0) xs).1, (putIs ([], 0) xs).2⟩
def condN (n : S63) (ks : List Tr) (cs : List (List S92 → Bool → Int → List S37)) (before : List S92) (seen : Bool) (first : Int) : List S37 :=
  match ks, cs with
  | [a, b], [ca, cb] =>
    if n.f0 = 14 then ca before seen first ++ cb (before ++ genT a seen first) (seen || passT a) (first + ifsT a)
    else ca before seen first ++ cb before seen (first + ifsT a)
  | [c, a, b], [cc, ca, cb] =>
    cc before seen first ++ [blockI (before ++ genT c seen first)] ++ ca before seen (first + ifsT c + 1) ++ cb before seen (first + ifsT c + 1 + ifsT a)
  | _, _ => []
mutual
def condT : Tr → List S92 → Bool → Int → List S37
  | .node n ks => condN n ks (condTs ks)
def condTs : List Tr → List (List S92 → Bool → Int → List S37)
  | [] => []
  | t :: ts => condT t :: condTs ts
end
theorem putIs_app (b : List S92 × Int) (xs ys : List S92) : putIs b (xs ++ ys) = putIs (putIs b xs) ys := List.foldl_append
theorem putI_len (b : List S92 × Int) (x : S92) : (putI b x).1.length = b.1.length + 1 := by
  unfold putI; split
  · simp
  · split <;> simp
theorem putIs_len : ∀ (xs : List S92) (b : List S92 × Int), (putIs b xs).1.length = b.1.length + xs.length
  | [], b => rfl
  | x :: xs, b => by
    show (putIs (putI b x) xs).1.length = _
    rw [putIs_len xs, putI_len]; simp; omega
theorem putI_set (b : List S92 × Int) (x y : S92) (i : Nat) (h : i < b.1.length) : putI (b.1.set i y, b.2) x = ((putI b x).1.set i y, (putI b x).2) := by
  unfold putI
  split
  · simp [List.set_append, h]
  · split <;> simp [List.set_append, h]
theorem putIs_set : ∀ (xs : List S92) (b : List S92 × Int) (y : S92) (i : Nat), i < b.1.length → putIs (b.1.set i y, b.2) xs = ((putIs b xs).1.set i y, (putIs b xs).2)
  | [], b, y, i, h => rfl
  | x :: xs, b, y, i, h => by
    show putIs (putI (b.1.set i y, b.2) x) xs = ((putIs (putI b x) xs).1.set i y, (putIs (putI b x) xs).2)
    rw [putI_set b x y i h]
    exact putIs_set xs (putI b x) y i (by rw [putI_len]; omega)
theorem putI_nn (b : List S92 × Int) (x : S92) : b.2 ≤ (putI b x).2 ∧ (putI b x).2 ≤ b.2 + 1 := by
  unfold putI; split
  · exact ⟨by show b.2 ≤ b.2 + 1; omega, Int.le_refl _⟩
  · split <;> exact ⟨Int.le_refl _, by show b.2 ≤ b.2 + 1; omega⟩
theorem putIs_cnt : ∀ (xs : List S92) (b : List S92 × Int), b.2 ≤ (putIs b xs).2 ∧ (putIs b xs).2 ≤ b.2 + xs.length
  | [], b => by simp [putIs]
  | x :: xs, b => by
    have h1 := putIs_cnt xs (putI b x)
    have h2 := putI_nn b x
    show b.2 ≤ (putIs (putI b x) xs).2 ∧ (putIs (putI b x) xs).2 ≤ b.2 + ((x :: xs).length : Nat)
    simp only [List.length_cons]
    push_cast
    omega
mutual
theorem ifsT_le : ∀ t : Tr, 0 ≤ ifsT t ∧ ifsT t ≤ (flatT t).length
  | .node n ks => by
    have := ifsTs_le ks
    simp only [ifsT, flatT, List.length_append, List.length_cons, List.length_nil]
    split <;> omega
theorem ifsTs_le : ∀ ts : List Tr, 0 ≤ ifsTs ts ∧ ifsTs ts ≤ (flatTs ts).length
  | [] => by simp [ifsTs, flatTs]
  | t :: ts => by
    have := ifsT_le t; have := ifsTs_le ts
    simp only [ifsTs, flatTs, List.length_append]; omega
end
mutual
theorem genT_le : ∀ (t : Tr) (seen : Bool) (first : Int), (genT t seen first).length ≤ 3 * (flatT t).length
  | .node n [], seen, first => by simp [genT, genTs, genN, flatT, flatTs]
  | .node n [a], seen, first => by
    simp only [genT, genTs, genN, flatT, flatTs, List.length_append, List.length_cons, List.length_nil]; omega
  | .node n [a, b], seen, first => by
    simp only [genT, genTs, genN, flatT, flatTs]
    have h1 := genT_le a seen first
    have h2 := genT_le b (seen || passT a) (first + ifsT a)
    have h3 := genT_le b seen (first + ifsT a)
    split <;> simp only [List.length_append, List.length_cons, List.length_nil] <;> omega
  | .node n [c, a, b], seen, first => by
    simp only [genT, genTs, genN, flatT, flatTs]
    have h1 := genT_le a seen (first + ifsT c + 1)
    have h2 := genT_le b seen (first + ifsT c + 1 + ifsT a)
    simp only [List.length_append, List.length_cons, List.length_nil]; omega
  | .node n (a :: b :: c :: d :: r), seen, first => by
    simp only [genT, genTs, genN, flatT, flatTs, List.length_append, List.length_cons, List.length_nil]; omega
end
end Go.Proofs.Ytpfehkkfakofaaa.Q

namespace Go.Proofs.Ytpfehkkfakofaaa.Q
open Go.RowKit Go.Proofs.YtpfehkkfakofaaaW.PrintWords Go.Proofs.YtpfehkkfakofaaaW.PrintLast
set_option linter.unusedVariables false
set_option linter.unusedSimpArgs false
theorem Ev.of_all {α : Type} {g : Nat → Option α} {r : α} (h : ∀ k, g k = some r) : Ev g r := ⟨0, fun k _ => h k⟩
/-- What is left of the room behind all elements. -/
theorem sz_all {α : Type} (xs : List α) (z : α) (P : α → Prop) (S : Nat → α → Int → Option Int) (L : Nat → Int → Int → Option Int) (hb : xs.length < 4611686018427387904)
    (hL : ∀ k n (i : Nat), i < xs.length → L (k + 1) n i = (S k (xs.getD i z) n).bind fun t => if t < 0 then some (-1) else L k t ((i + 1 : Nat) : Int))
    (hE : ∀ k n, L (k + 1) n (xs.length : Int) = some n)
    (hS : ∀ x ∈ xs, ∀ n : Int, 0 ≤ n → n ≤ 1048576 → ∃ t, Ev (fun k => S k x n) t ∧ (t < 0 ∨ (0 ≤ t ∧ t ≤ n ∧ P x))) :
    ∀ (rest pre : List α) (n : Int), xs = pre ++ rest → 0 ≤ n → n ≤ 1048576 → ∃ t, Ev (fun k => L k n (pre.length : Int)) t ∧ (t < 0 ∨ (0 ≤ t ∧ t ≤ n ∧ ∀ x ∈ rest, P x)) := by
  intro rest
  induction rest with
  | nil => intro pre n e h0 h1; exact ⟨n, Ev.shift 1 fun k => by rw [show pre.length = xs.length by rw [e]; simp, hE], .inr ⟨h0, Int.le_refl _, by simp⟩⟩
  | cons x rest ih =>
    intro pre n e h0 h1
    have hlt : pre.length < xs.length := by rw [e]; exact len_cut _ _ _
    have hr : xs.getD pre.length z = x := by rw [e, getD_cut]
    obtain ⟨t, ht, h2⟩ := hS x (by rw [e]; simp) n h0 h1
    rcases h2 with h2 | ⟨h2, h3, h4⟩
    · exact ⟨-1, Ev.round (f := fun k => (S k x n).bind fun t => if t < 0 then some (-1) else L k t ((pre.length + 1 : Nat) : Int)) (fun k => by rw [hL _ _ _ hlt, hr]) (Ev.bind ht (Ev.if_pos h2 (Ev.now _))), .inl (by omega)⟩
    · obtain ⟨u, hu, h5⟩ := ih (pre ++ [x]) t (by simp [e]) h2 (by omega)
      rw [List.length_append, List.length_singleton] at hu
      refine ⟨u, Ev.round (f := fun k => (S k x n).bind fun t => if t < 0 then some (-1) else L k t ((pre.length + 1 : Nat) : Int)) (fun k => by rw [hL _ _ _ hlt, hr]) (Ev.bind ht (Ev.if_neg (by omega) hu)), ?_⟩
      rcases h5 with h5 | ⟨h5, h6, h7⟩
      · exact .inl h5
      · refine .inr ⟨h5, by omega, fun y hy => ?_⟩
        rcases List.mem_cons.mp hy with rfl | hy
        · exact h4
        · exact h7 y hy
/-- A row that is filled, element by element. -/
theorem to_all {α β γ : Type} (xs : List α) (z : α) (z' : β) (T : Nat → α → Option γ) (mk : γ → β) (g : α → β) (L : Nat → List β → Int → Option (List β)) (hb : xs.length < 4611686018427387904)
    (hL : ∀ k ys (i : Nat), i < xs.length → i < ys.length → L (k + 1) ys i = (T k (xs.getD i z)).bind fun t => L k (ys.set i (mk t)) ((i + 1 : Nat) : Int))
    (hE : ∀ k ys, L (k + 1) ys (xs.length : Int) = some ys)
    (hT : ∀ x ∈ xs, ∃ t, Ev (fun k => T k x) t ∧ mk t = g x) :
    ∀ (rest pre : List α), xs = pre ++ rest → Ev (fun k => L k (pre.map g ++ List.replicate rest.length z') (pre.length : Int)) (xs.map g) := by
  intro rest
  induction rest with
  | nil => intro pre e; exact Ev.shift 1 fun k => by rw [show pre.length = xs.length by rw [e]; simp, hE, e]; simp
  | cons x rest ih =>
    intro pre e
    have hlt : pre.length < xs.length := by rw [e]; exact len_cut _ _ _
    have hr : xs.getD pre.length z = x := by rw [e, getD_cut]
    obtain ⟨t, ht, hg⟩ := hT x (by rw [e]; simp)
    have h := ih (pre ++ [x]) (by simp [e])
    rw [List.length_append, List.length_singleton, List.map_append] at h
    have hs := set_fill (pre.map g) z' (g x) rest.length
    rw [List.length_map] at hs
    refine Ev.round (f := fun k => (T k x).bind fun t => L k ((pre.map g ++ List.replicate (rest.length + 1) z').set pre.length (mk t)) ((pre.length + 1 : Nat) : Int)) (fun k => by rw [List.length_cons, hL _ _ _ hlt (by simp), hr]) (Ev.bind ht ?_)
    rw [hg, hs]
    exact h
/-- All elements of a list pass, and then what follows. -/
theorem all_loop {α : Type} (xs : List α) (z : α) (p : α → Bool) (V : Nat → α → Option Bool) (L : Nat → Int → Option Bool) (F : Nat → Option Bool) (r : Bool) (hb : xs.length < 4611686018427387904)
    (hL : ∀ k (i : Nat), i < xs.length → L (k + 1) i = (V k (xs.getD i z)).bind fun t => if t = true then L k ((i + 1 : Nat) : Int) else some false)
    (hF : ∀ k, L (k + 1) (xs.length : Int) = F k) (hV : ∀ x ∈ xs, Ev (fun k => V k x) (p x)) (hr : Ev F r) :
    ∀ (rest pre : List α), xs = pre ++ rest → Ev (fun k => L k (pre.length : Int)) (rest.all p && r) := by
  intro rest
  induction rest with
  | nil => intro pre e; rw [show pre.length = xs.length by rw [e]; simp]; simpa using Ev.round hF hr
  | cons x rest ih =>
    intro pre e
    have hlt : pre.length < xs.length := by rw [e]; exact len_cut _ _ _
    have hx : xs.getD pre.length z = x := by rw [e, getD_cut]
    have h := ih (pre ++ [x]) (by simp [e])
    rw [List.length_append, List.length_singleton] at h
    refine Ev.round (f := fun k => (V k x).bind fun t => if t = true then L k ((pre.length + 1 : Nat) : Int) else some false) (fun k => by rw [hL _ _ hlt, hx]) (Ev.bind (hV x (by rw [e]; simp)) ?_)
    rw [List.all_cons]
    cases hp : p x with
    | true => exact Ev.if_pos rfl (by simpa using h)
    | false => exact Ev.if_neg (by decide) (Ev.now _)
/-! the order of strings -/
/-! ranges of rows -/
end Go.Proofs.Ytpfehkkfakofaaa.Q

namespace Go.Proofs.Ytpfehkkfakofaaa.Q
open Go.RowKit Go.Proofs.YtpfehkkfakofaaaW.PrintWords Go.Proofs.YtpfehkkfakofaaaW.PrintLast Go.Proofs.YtpfehkkfakofaaaW.PrintMore
set_option linter.unusedVariables false
set_option linter.unusedSimpArgs false

/-! ### spec_l5From: function 72 -/
def spec_l5From.l0 : Nat → List (S63) → Int → Int → Option (Int)
 | 0, _, _, _ => none
 | k + 1, x0, x3, x4 => if x3 > 0 then (if (wrap64 (x4 - 1)) < 0 then (some (-1)) else (if 0 ≤ (wrap64 (x4 - 1)) then (if (wrap64 (x4 - 1)) < (x0.length : Int) then ((spec_l5Arity.f k ((rd_T63 x0 (wrap64 (x4 - 1))).f0)).bind fun t172 => (spec_l5From.l0 k x0 (wrap64 ((wrap64 (x3 - 1)) + t172)) (wrap64 (x4 - 1)))) else (none)) else (none))) else (some x4)
def spec_l5From.f (k : Nat) (l0 : List (S63)) : Option (Int) := spec_l5From.l0 k l0 1 (l0.length : Int)
set_option maxHeartbeats 8000000 in
set_option maxRecDepth 100000 in
theorem spec_l5From.calls (k : Nat) (A0 : Option Addr) (c0 : Nat) (l0 : List (S63)) (r : Int) (w : World) (hr0 : Kd.C k63 w A0 l0.length l0) (hc0 : l0.length ≤ c0) (h : spec_l5From.f k l0 = some r) :
  Calls Try.prog 72 #[.slice A0 l0.length c0] w fun e w' => e = .returned (.int .i64 r) ∧ Drawn0 w w' := by
 have HR0 := Aside0.mk hr0
 have HC0 := Aside0.mk hc0
 clear hr0 hc0
 have H : (spec_l5From.l0 k l0 1 (l0.length : Int)) = some r := h
 clear h
 have H' := Aside0.mk H
 clear H
 go_enter Try.func72, Try.ntmps72
 go_wp2
 go_loopg [3, 4] k (fun kq v3 v4 w' => ∃ (x3_1 : Int) (x4_1 : Int), v3 = .int .i64 x3_1 ∧ v4 = .int .i64 x4_1 ∧ Aside0 (spec_l5From.l0 kq l0 x3_1 x4_1 = some r) ∧ Aside0 (kq ≤ k) ∧ Drawn0 w w')
 case atStart => exact ⟨(1), ((l0.length : Int)), (by first | rfl | (simp; done) | (simp [*]; done)), (by first | rfl | (simp; done) | (simp [*]; done)), H', ⟨Nat.le_refl _⟩, by repeat (first | exact Drawn0.refl _ | apply Drawn0.step)⟩
 case round =>
  clear H'
  obtain ⟨x3_1, x4_1, rfl, rfl, HA, HK1, ⟨m1, rfl⟩⟩ := hrel
  cases gk with
  | zero => exact absurd HA.out (by simp [spec_l5From.l0])
  | succ k1 =>
   have H := HA.out
   clear HA
   simp only [spec_l5From.l0] at H
   by_cases c2 : x3_1 > 0
   ·rw [if_pos c2] at H
    have c2b0 : decide (0 < x3_1) = true := decide_eq_true c2
    clear c2
    by_cases c3 : (wrap64 (x4_1 - 1)) < 0
    ·rw [if_pos c3] at H
     have c3b0 : decide ((wrap64 (x4_1 - 1)) < 0) = true := decide_eq_true c3
     clear c3
     obtain rfl := Option.some.inj H
     go_wp2
     go_ret
     exact ⟨by first | rfl | (simp; done) | (simp [*]; done), by repeat (first | exact Drawn0.refl _ | apply Drawn0.step)⟩
    ·rw [if_neg c3] at H
     have c3b0 : decide ((wrap64 (x4_1 - 1)) < 0) = false := decide_eq_false c3
     clear c3
     obtain ⟨ji4, hji4⟩ : ∃ j_ : Int, (wrap64 (x4_1 - 1)) = j_ := ⟨_, rfl⟩
     replace H : (if 0 ≤ (ji4) then (if (ji4) < (l0.length : Int) then ((spec_l5Arity.f k1 ((rd_T63 l0 (ji4)).f0)).bind fun t172 => (spec_l5From.l0 k1 l0 (wrap64 ((wrap64 (x3_1 - 1)) + t172)) ji4)) else (none)) else (none)) = some r := by first | (rw [hji4] at H; exact H) | (simp only [hji4] at H ⊢; exact H)
     (try rw [hji4] at c3b0)
     have hji4w : (IntKind.i64.wrap (x4_1 - 1)) = ji4 := (i64_w _).trans hji4
     by_cases c5 : 0 ≤ (ji4)
     ·rw [if_pos c5] at H
      have c5b0 : decide (0 ≤ (ji4)) = true := decide_eq_true c5
      clear c5
      by_cases c6 : (ji4) < (l0.length : Int)
      ·rw [if_pos c6] at H
       have c6b0 : decide ((ji4) < (l0.length : Int)) = true := decide_eq_true c6
       clear c6
       replace H := Option.bind_eq_some_iff.mp H
       obtain ⟨t172, A70, H⟩ := H
       replace H : (spec_l5From.l0 k1 l0 (wrap64 ((wrap64 (x3_1 - 1)) + t172)) ji4) = some r := H
       have A7 := Aside0.mk A70
       clear A70
       have H' := Aside0.mk H
       clear H
       have p171 : 0 ≤ ((ji4) : Int) := of_decide_eq_true (by first | (with_reducible assumption) | assumption)
       have q171 : (ji4) < (l0.length : Int) := of_decide_eq_true (by first | (with_reducible assumption) | assumption)
       obtain ⟨ad171, e171, hx171_0, hx171_1, hx171_2, hx171_3, hx171_4, hx171_5, hx171_6⟩ := at_T63 HR0.out (ji4) p171 q171
       cases e171
       replace p171 := eq_true p171
       replace q171 := eq_true q171
       go_wp2_with (first | ((with_reducible refine at_fn (f := 74) rfl ?_); refine goesL_ (some 20) rfl rfl Try.func74 (by kernel_rfl) rfl #[.int .i64 ((rd_T63 l0 (ji4)).f0)] rfl (by (try simp only [List.map_toArray, List.map_cons, List.map_nil]); first | done | (simp only [hji4]; rfl) | rfl | (simp only [List.length_drop, List.length_take]; rfl)) ?_; (with_reducible refine (spec_l5Arity.calls k1 ((rd_T63 l0 (ji4)).f0) t172 _ A7.out).mono ?_); rintro e w' ⟨rfl, ⟨nd, rfl⟩⟩; refine ⟨_, rfl, ?_⟩))
       go_roundg k1
       case measure => have := HK1.out; omega
       case rel => exact ⟨(wrap64 ((wrap64 (x3_1 - 1)) + t172)), (ji4), (by first | rfl | (simp; done) | (simp [*]; done)), (by first | rfl | (simp; done) | (simp only [← hji4] <;> (first | rfl | simp)) | (simp [*]; done)), H', ⟨by have := HK1.out; omega⟩, by repeat (first | exact Drawn0.refl _ | apply Drawn0.step)⟩
      ·rw [if_neg c6] at H
       exact absurd H (by simp)
     ·rw [if_neg c5] at H
      exact absurd H (by simp)
   ·rw [if_neg c2] at H
    have c2b0 : decide (0 < x3_1) = false := decide_eq_false c2
    clear c2
    obtain rfl := Option.some.inj H
    go_wp2
    go_ret
    exact ⟨by first | rfl | (simp; done) | (simp [*]; done), by repeat (first | exact Drawn0.refl _ | apply Drawn0.step)⟩

end Go.Proofs.Ytpfehkkfakofaaa.Q

namespace Go.Proofs.Ytpfehkkfakofaaa.Q
open Go.RowKit Go.Proofs.YtpfehkkfakofaaaW.PrintWords Go.Proofs.YtpfehkkfakofaaaW.PrintLast Go.Proofs.YtpfehkkfakofaaaW.PrintMore
set_option linter.unusedVariables false
set_option linter.unusedSimpArgs false

/-! ### spec_l5Tree: function 41 -/
def spec_l5Tree.f (k : Nat) (l0 : List (S63)) : Option (Bool) := if (l0.length : Int) > 0 then ((spec_l5From.f k l0).bind fun t173 => (some (t173 == 0))) else (some false)
set_option maxHeartbeats 8000000 in
set_option maxRecDepth 100000 in
theorem spec_l5Tree.calls (k : Nat) (A0 : Option Addr) (c0 : Nat) (l0 : List (S63)) (r : Bool) (w : World) (hr0 : Kd.C k63 w A0 l0.length l0) (hc0 : l0.length ≤ c0) (h : spec_l5Tree.f k l0 = some r) :
  Calls Try.prog 41 #[.slice A0 l0.length c0] w fun e w' => e = .returned (.bool r) ∧ Drawn0 w w' := by
 have HR0 := Aside0.mk hr0
 have HC0 := Aside0.mk hc0
 clear hr0 hc0
 have H : (if (l0.length : Int) > 0 then ((spec_l5From.f k l0).bind fun t173 => (some (t173 == 0))) else (some false)) = some r := h
 clear h
 by_cases c2 : (l0.length : Int) > 0
 ·rw [if_pos c2] at H
  have c2b0 : decide (0 < (l0.length : Int)) = true := decide_eq_true c2
  have c2b1 : decide (0 < l0.length) = true := decide_eq_true (by omega)
  clear c2
  replace H := Option.bind_eq_some_iff.mp H
  obtain ⟨t173, A30, H⟩ := H
  replace H : (some (t173 == 0)) = some r := H
  have A3 := Aside0.mk A30
  clear A30
  obtain rfl := Option.some.inj H
  go_enter Try.func41, Try.ntmps41
  go_wp2_with (first | (go_at_call 72; (with_reducible refine (spec_l5From.calls k _ _ l0 t173 _ ?side1 ?side2 A3.out).mono ?_); (case side1 => repeat (first | exact HR0.out | (with_reducible refine Kd.C_alloc ?_ _) | (with_reducible refine Kd.C_drewN ?_ _) | (with_reducible refine Kd.C_drew ?_))); (case side2 => exact HC0.out); rintro e w' ⟨rfl, ⟨nd, rfl⟩⟩))
  go_ret
  exact ⟨by first | rfl | (simp; done) | (simp [*]; done), by repeat (first | exact Drawn0.refl _ | apply Drawn0.step)⟩
 ·rw [if_neg c2] at H
  have c2b0 : decide (0 < (l0.length : Int)) = false := decide_eq_false c2
  have c2b1 : decide (0 < l0.length) = false := decide_eq_false (by omega)
  clear c2
  obtain rfl := Option.some.inj H
  go_enter Try.func41, Try.ntmps41
  go_wp2
  go_ret
  exact ⟨by first | rfl | (simp; done) | (simp [*]; done), by repeat (first | exact Drawn0.refl _ | apply Drawn0.step)⟩

end Go.Proofs.Ytpfehkkfakofaaa.Q

namespace Go.Proofs.Ytpfehkkfakofaaa.Q
open Go.RowKit Go.Proofs.YtpfehkkfakofaaaW.PrintWords Go.Proofs.YtpfehkkfakofaaaW.PrintLast Go.Proofs.YtpfehkkfakofaaaW.PrintMore
set_option linter.unusedVariables false
set_option linter.unusedSimpArgs false

/-! ### spec_l5Kids: function 43 -/
def spec_l5Kids.l0 : Nat → List (S63) → List (List (S63)) → Int → Option ((List (List (S63))))
 | 0, _, _, _ => none
 | k + 1, x3, x4, x5 => if x5 > 0 then ((spec_l5From.f k x3).bind fun t184 => (if 0 ≤ t184 then (if t184 ≤ (x3.length : Int) then ((some (([(x3.drop (t184 : Int).toNat)] : List (List (S63))) : List (List (S63)))).bind fun y190 => (if y190.length + x4.length < 5864062014805 then (spec_l5Kids.l0 k (x3.take (t184 : Int).toNat) (y190 ++ x4) (wrap64 (x5 - 1))) else (none))) else (none)) else (none))) else (some x4)
def spec_l5Kids.f (k : Nat) (l0 : List (S63)) : Option ((List (List (S63)))) := if 0 ≤ (wrap64 ((l0.length : Int) - 1)) then (if (wrap64 ((l0.length : Int) - 1)) ≤ (l0.length : Int) then (if (wrap64 ((l0.length : Int) - 1)) < (l0.length : Int) then ((spec_l5Arity.f k ((rd_T63 l0 (wrap64 ((l0.length : Int) - 1))).f0)).bind fun t183 => (spec_l5Kids.l0 k (l0.take ((wrap64 ((l0.length : Int) - 1)) : Int).toNat) (([] : List (List (S63)))) t183)) else (none)) else (none)) else (none)
set_option maxHeartbeats 8000000 in
set_option maxRecDepth 100000 in
theorem spec_l5Kids.calls (k : Nat) (P0_ : Nat → Prop) (A0 : Option Addr) (c0 : Nat) (l0 : List (S63)) (r : List (List (S63))) (w : World) (hs0 : Kd.V k63 63 w w.heap.size (fun k_ => P0_ k_) (.slice A0 l0.length c0) l0) (h : spec_l5Kids.f k l0 = some r) :
  Calls Try.prog 43 #[.slice A0 l0.length c0] w fun e w' => ∃ v0_ : Value, e = .returned (v0_) ∧ Kd.N (Kd.slice 63 k63) 26 w' w.heap.size (fun k_ => (P0_ k_ ∨ w.heap.size ≤ k_)) v0_ r ∧ Below w.heap.size w w' := by
 have HO0 := Aside0.mk (show Kd.V k63 63 w w.heap.size (fun k_ => (P0_ k_ ∨ w.heap.size ≤ k_)) (.slice A0 l0.length c0) l0 from Kd.V_mono hs0 (fun k_ hk => .inl hk))
 have HB := Aside0.mk (Below.refl w.heap.size w)
 have H : (if 0 ≤ (wrap64 ((l0.length : Int) - 1)) then (if (wrap64 ((l0.length : Int) - 1)) ≤ (l0.length : Int) then (if (wrap64 ((l0.length : Int) - 1)) < (l0.length : Int) then ((spec_l5Arity.f k ((rd_T63 l0 (wrap64 ((l0.length : Int) - 1))).f0)).bind fun t183 => (spec_l5Kids.l0 k (l0.take ((wrap64 ((l0.length : Int) - 1)) : Int).toNat) (([] : List (List (S63)))) t183)) else (none)) else (none)) else (none)) = some r := h
 clear h
 obtain ⟨ji2, hji2⟩ : ∃ j_ : Int, (wrap64 ((l0.length : Int) - 1)) = j_ := ⟨_, rfl⟩
 replace H : (if 0 ≤ (ji2) then (if (ji2) ≤ (l0.length : Int) then (if (ji2) < (l0.length : Int) then ((spec_l5Arity.f k ((rd_T63 l0 (ji2)).f0)).bind fun t183 => (spec_l5Kids.l0 k (l0.take ((ji2) : Int).toNat) (([] : List (List (S63)))) t183)) else (none)) else (none)) else (none)) = some r := by first | (rw [hji2] at H; exact H) | (simp only [hji2] at H ⊢; exact H)
 have hji2w : (IntKind.i64.wrap ((l0.length : Int) - 1)) = ji2 := (i64_w _).trans hji2
 by_cases c3 : 0 ≤ (ji2)
 ·rw [if_pos c3] at H
  have c3b0 := eq_true c3
  have c3b1 : decide (0 ≤ (ji2)) = true := decide_eq_true c3
  clear c3
  by_cases c4 : (ji2) ≤ (l0.length : Int)
  ·rw [if_pos c4] at H
   have c4b0 := eq_true c4
   have c4b1 : decide ((ji2) ≤ (l0.length : Int)) = true := decide_eq_true c4
   clear c4
   obtain ⟨y174, hy174⟩ : ∃ y_ : List (S63), y_ = (l0.take ((ji2) : Int).toNat) := ⟨_, rfl⟩
   replace H : (if (ji2) < (l0.length : Int) then ((spec_l5Arity.f k ((rd_T63 l0 (ji2)).f0)).bind fun t183 => (spec_l5Kids.l0 k y174 (([] : List (List (S63)))) t183)) else (none)) = some r := by first | (rw [hy174]; with_reducible exact H) | (have H2_ := (Option.bind_some _ _).symm.trans H; rw [hy174]; with_reducible exact H2_) | (have H2_ := (Option.bind_some _ _).symm.trans H; with_reducible exact H2_) | with_reducible exact H | (rw [hy174]; exact H) | exact H
   have Ny174 := Aside0.mk hy174
   clear hy174
   obtain ⟨y179, hy179⟩ : ∃ y_ : List (List (S63)), y_ = (([] : List (List (S63)))) := ⟨_, rfl⟩
   replace H : (if (ji2) < (l0.length : Int) then ((spec_l5Arity.f k ((rd_T63 l0 (ji2)).f0)).bind fun t183 => (spec_l5Kids.l0 k y174 y179 t183)) else (none)) = some r := by first | (rw [hy179]; with_reducible exact H) | (have H2_ := (Option.bind_some _ _).symm.trans H; rw [hy179]; with_reducible exact H2_) | (have H2_ := (Option.bind_some _ _).symm.trans H; with_reducible exact H2_) | with_reducible exact H | (rw [hy179]; exact H) | exact H
   have Ny179 := Aside0.mk hy179
   clear hy179
   by_cases c5 : (ji2) < (l0.length : Int)
   ·rw [if_pos c5] at H
    have c5b0 : decide ((ji2) < (l0.length : Int)) = true := decide_eq_true c5
    clear c5
    replace H := Option.bind_eq_some_iff.mp H
    obtain ⟨t183, A60, H⟩ := H
    replace H : (spec_l5Kids.l0 k y174 y179 t183) = some r := H
    have A6 := Aside0.mk A60
    clear A60
    have H' := Aside0.mk H
    clear H
    have q7 : ((ji2) : Int) ≤ ((l0.length : Int) : Int) := of_decide_eq_true (by first | (with_reducible assumption) | assumption)
    obtain ⟨i07, hi07, _, hsz7, _⟩ := info_parts info63
    have hroom7 : l0.length ≤ c0 := (Kd.V_reads' HO0.out).2.1
    have hC7 : Kd.F k63 _ _ A0 l0.length l0 := (Kd.V_at (base := w.heap.size) HO0.out).2.2
    have hcut7 := cut_to (P := Try.prog) 26 63 .i64 Try.underlying26 hi07 A0 l0.length c0 (ji2) (of_decide_eq_true (by first | (with_reducible assumption) | assumption)) q7 hroom7
    have hr7 := Kd.F_take (m := ((ji2) : Int).toNat) hC7 (by omega)
    have hy7 : y174.length = ((ji2) : Int).toNat := (by rw [Ny174.out, List.length_take]; omega)
    rw [← Ny174.out] at hr7
    rw [← hy7] at hcut7
    have HO178 := Aside0.mk (show Kd.V k63 63 _ w.heap.size _ (.slice A0 y174.length c0) y174 from Kd.V_mk (by omega) hr7)
    have HC178 := Aside0.mk (show y174.length ≤ c0 from by omega)
    clear hr7 hC7 hroom7 hi07 hsz7
    have KY7 := Aside0.mk hy7
    clear hy7
    replace q7 := eq_true q7
    go_enter Try.func43, Try.ntmps43
    go_wp2_with (first | ((with_reducible refine gate_dst (N := 12) rfl ?_); refine Kd.N_lit (Kd.slice 63 k63) _ 26 ?hg (N' := 12) ?hd (xs := ([] : List (List (S63)))) (inner := []) (ok := (fun k_ => (P0_ k_ ∨ w.heap.size ≤ k_))) (okp := (fun k_ => (P0_ k_ ∨ w.heap.size ≤ k_))) ?hr ?hp (fun _ hk => hk) ((show ∀ k_, w.heap.size ≤ k_ → (fun k_ => (P0_ k_ ∨ w.heap.size ≤ k_)) k_ from fun k_ hk => (.inr (Nat.le_trans (below_size bw) hk))) _ (Nat.le_refl _)) (Below.refl _ _) (Nat.le_refl _) (by simp) ?_; (case hd => rfl); (case hg => rfl); (case hr => first | (go_simp; done) | (go_simp; rfl)); (case hp => exact (Reps.none _ _)); intro v180 w8 ho9 hb hg_ hnew_; clear hg_ hnew_; (first | rw [← Ny179.out] at ho9 | (simp only [Int.reduceToNat] at ho9; rw [← Ny179.out] at ho9)); have n0_ := Aside0.mk (Kd.V_elder' (by (with_reducible repeat (first | apply Kd.V_alloc | apply Kd.V_drewN | apply Kd.V_drew)); exact HO0.out) (Kd.N_base ho9) hb); have n1_ := Aside0.mk (Kd.V_elder' (by (with_reducible repeat (first | apply Kd.V_alloc | apply Kd.V_drewN | apply Kd.V_drew)); exact HO178.out) (Kd.N_base ho9) hb); have n2_ := Aside0.mk (Kd.N_lower ho9 (below_size bw)); have n3_ := Aside0.mk (below_step bw hb); clear HO0; clear HO178; clear HB; have HO0 := n0_; have HO178 := n1_; have HO181 := n2_; have HB := n3_; clear n0_ n1_ n2_ n3_; clear hb ho9; have p182 : 0 ≤ ((ji2) : Int) := of_decide_eq_true (by first | (with_reducible assumption) | assumption); have q182 : (ji2) < (l0.length : Int) := of_decide_eq_true (by first | (with_reducible assumption) | assumption); obtain ⟨ad182, e182, hx182_0, hx182_1, hx182_2, hx182_3, hx182_4, hx182_5, hx182_6⟩ := at_T63 (Kd.V_reads' HO0.out).2.2 (ji2) p182 q182; cases e182; replace p182 := eq_true p182; replace q182 := eq_true q182) | ((with_reducible refine at_fn (f := 74) rfl ?_); refine goesL_ (some 20) rfl rfl Try.func74 (by kernel_rfl) rfl #[.int .i64 ((rd_T63 l0 (ji2)).f0)] rfl (by (try simp only [List.map_toArray, List.map_cons, List.map_nil]); first | done | (simp only [hji2]; rfl) | rfl | (simp only [List.length_drop, List.length_take]; rfl)) ?_; (with_reducible refine (spec_l5Arity.calls k ((rd_T63 l0 (ji2)).f0) t183 _ A6.out).mono ?_); rintro e w' ⟨rfl, ⟨nd, rfl⟩⟩; refine ⟨_, rfl, ?_⟩))
    go_loopg [3, 4, 5] k (fun kq v3 v4 v5 w' => ∃ (x3_1 : List (S63)) (x4_1 : List (List (S63))) (x5_1 : Int), v5 = .int .i64 x5_1 ∧ Aside0 (spec_l5Kids.l0 kq x3_1 x4_1 x5_1 = some r) ∧ Aside0 (kq ≤ k) ∧ Aside0 (Kd.V k63 63 w' w.heap.size (fun k_ => (P0_ k_ ∨ w.heap.size ≤ k_) ∧ some k_ ≠ (v4 : Value).ownBlock) v3 x3_1) ∧ Aside0 (Kd.N (Kd.slice 63 k63) 26 w' w.heap.size (fun k_ => (P0_ k_ ∨ w.heap.size ≤ k_)) v4 x4_1) ∧ Aside0 (Below w.heap.size w w'))
    case atStart => exact ⟨(y174), (y179), (t183), (by first | rfl | (simp; done) | (simp [*]; done)), H', ⟨Nat.le_refl _⟩, ⟨by (with_reducible repeat (first | apply Kd.V_alloc | apply Kd.V_drewN | apply Kd.V_drew)); exact HO178.out⟩, ⟨by (with_reducible repeat (first | apply Kd.N_alloc | apply Kd.N_drewN | apply Kd.N_drew)); exact HO181.out⟩, ⟨bw⟩⟩
    case round =>
     clear H'
     try clear p1
     try clear q1
     try clear hx1
     try clear p2
     try clear c3
     try clear c3b0
     try clear c3b1
     try clear c4
     try clear c4b0
     try clear c4b1
     try clear c5
     try clear c5b0
     try clear p6
     try clear c7
     try clear q7
     try clear hx182_0
     try clear hx182_1
     try clear hx182_2
     try clear hx182_3
     try clear hx182_4
     try clear hx182_5
     try clear hx182_6
     try clear p182
     try clear q182
     try clear q7
     obtain ⟨x3_1, x4_1, x5_1, rfl, HA, HK1, HO_3, HO_4, HB⟩ := hrel
     cases gk with
     | zero => exact absurd HA.out (by simp [spec_l5Kids.l0])
     | succ k1 =>
      have H := HA.out
      clear HA
      simp only [spec_l5Kids.l0] at H
      by_cases c10 : x5_1 > 0
      ·rw [if_pos c10] at H
       have c10b0 : decide (0 < x5_1) = true := decide_eq_true c10
       clear c10
       replace H := Option.bind_eq_some_iff.mp H
       obtain ⟨t184, A110, H⟩ := H
       replace H : (if 0 ≤ t184 then (if t184 ≤ (x3_1.length : Int) then ((some (([(x3_1.drop (t184 : Int).toNat)] : List (List (S63))) : List (List (S63)))).bind fun y190 => (if y190.length + x4_1.length < 5864062014805 then (spec_l5Kids.l0 k1 (x3_1.take (t184 : Int).toNat) (y190 ++ x4_1) (wrap64 (x5_1 - 1))) else (none))) else (none)) else (none)) = some r := H
       have A11 := Aside0.mk A110
       clear A110
       by_cases c12 : 0 ≤ t184
       ·rw [if_pos c12] at H
        have c12b0 := eq_true c12
        have c12b1 : decide (0 ≤ t184) = true := decide_eq_true c12
        clear c12
        by_cases c13 : t184 ≤ (x3_1.length : Int)
        ·rw [if_pos c13] at H
         have c13b0 := eq_true c13
         have c13b1 : decide (t184 ≤ (x3_1.length : Int)) = true := decide_eq_true c13
         clear c13
         obtain ⟨y185, hy185⟩ : ∃ y_ : List (S63), y_ = (x3_1.drop (t184 : Int).toNat) := ⟨_, rfl⟩
         replace H : ((some (([y185] : List (List (S63))) : List (List (S63)))).bind fun y190 => (if y190.length + x4_1.length < 5864062014805 then (spec_l5Kids.l0 k1 (x3_1.take (t184 : Int).toNat) (y190 ++ x4_1) (wrap64 (x5_1 - 1))) else (none))) = some r := by first | (rw [hy185]; with_reducible exact H) | (have H2_ := (Option.bind_some _ _).symm.trans H; rw [hy185]; with_reducible exact H2_) | (have H2_ := (Option.bind_some _ _).symm.trans H; with_reducible exact H2_) | with_reducible exact H | (rw [hy185]; exact H) | exact H
         have Ny185 := Aside0.mk hy185
         clear hy185
         obtain ⟨y190, hy190⟩ : ∃ y_ : List (List (S63)), y_ = (([y185] : List (List (S63)))) := ⟨_, rfl⟩
         replace H : (if y190.length + x4_1.length < 5864062014805 then (spec_l5Kids.l0 k1 (x3_1.take (t184 : Int).toNat) (y190 ++ x4_1) (wrap64 (x5_1 - 1))) else (none)) = some r := by first | (rw [hy190]; with_reducible exact H) | (have H2_ := (Option.bind_some _ _).symm.trans H; rw [hy190]; with_reducible exact H2_) | (have H2_ := (Option.bind_some _ _).symm.trans H; with_reducible exact H2_) | with_reducible exact H | (rw [hy190]; exact H) | exact H
         have Ny190 := Aside0.mk hy190
         clear hy190
         by_cases c14 : y190.length + x4_1.length < 5864062014805
         ·rw [if_pos c14] at H
          have LMc14 := Aside0.mk c14
          clear c14
          obtain ⟨y193, hy193⟩ : ∃ y_ : List (List (S63)), y_ = (y190 ++ x4_1) := ⟨_, rfl⟩
          replace H : (spec_l5Kids.l0 k1 (x3_1.take (t184 : Int).toNat) y193 (wrap64 (x5_1 - 1))) = some r := by first | (rw [hy193]; with_reducible exact H) | (have H2_ := (Option.bind_some _ _).symm.trans H; rw [hy193]; with_reducible exact H2_) | (have H2_ := (Option.bind_some _ _).symm.trans H; with_reducible exact H2_) | with_reducible exact H | (rw [hy193]; exact H) | exact H
          have Ny193 := Aside0.mk hy193
          clear hy193
          have c15b0 := eq_true (of_decide_eq_true (by first | (with_reducible assumption) | assumption) : 0 ≤ t184)
          have c16b0 := eq_true (of_decide_eq_true (by first | (with_reducible assumption) | assumption) : t184 ≤ (x3_1.length : Int))
          obtain ⟨y196, hy196⟩ : ∃ y_ : List (S63), y_ = (x3_1.take (t184 : Int).toNat) := ⟨_, rfl⟩
          replace H : (spec_l5Kids.l0 k1 y196 y193 (wrap64 (x5_1 - 1))) = some r := by first | (rw [hy196]; with_reducible exact H) | (have H2_ := (Option.bind_some _ _).symm.trans H; rw [hy196]; with_reducible exact H2_) | (have H2_ := (Option.bind_some _ _).symm.trans H; with_reducible exact H2_) | with_reducible exact H | (rw [hy196]; exact H) | exact H
          have Ny196 := Aside0.mk hy196
          clear hy196
          have H' := Aside0.mk H
          clear H
          obtain ⟨Ao17, co17, eo17⟩ := Kd.V_slice HO_3.out
          subst eo17
          go_wp2_with (first | ((with_reducible refine at_fn (f := 72) rfl ?_); refine goesL_ (some 26) rfl rfl Try.func72 (by kernel_rfl) rfl #[.slice Ao17 x3_1.length co17] rfl (by (try simp only [List.map_toArray, List.map_cons, List.map_nil]); first | done | rfl | (simp only [List.length_drop, List.length_take]; rfl)) ?_; (with_reducible refine (spec_l5From.calls k1 _ _ x3_1 t184 _ ?side1 ?side2 A11.out).mono ?_); (case side1 => repeat (first | exact (Kd.V_reads' HO_3.out).2.2 | (with_reducible refine Kd.C_alloc ?_ _) | (with_reducible refine Kd.C_drewN ?_ _) | (with_reducible refine Kd.C_drew ?_))); (case side2 => exact (Kd.V_reads' HO_3.out).2.1); rintro e w' ⟨rfl, ⟨nd, rfl⟩⟩; refine ⟨_, rfl, ?_⟩; have q18 : (t184 : Int) ≤ ((x3_1.length : Int) : Int) := of_decide_eq_true (by first | (with_reducible assumption) | assumption); obtain ⟨i018, hi018, _, hsz18, _⟩ := info_parts info63; have hroom18 : x3_1.length ≤ co17 := (Kd.V_reads' HO_3.out).2.1; have hC18 : Kd.F k63 _ _ Ao17 x3_1.length x3_1 := (Kd.V_at (base := w.heap.size) HO_3.out).2.2; have q018 : (0 : Int) ≤ (t184 : Int) := of_decide_eq_true (by first | (with_reducible assumption) | assumption); have hcut18 := cut_from (P := Try.prog) 26 63 .i64 Try.underlying26 hi018 7 hsz18 Ao17 x3_1.length co17 t184 q018 q18; have hr18 := Kd.F_cut (m := (t184 : Int).toNat) (c := co17) hC18 (by omega) hroom18; obtain ⟨A18, hA18⟩ : ∃ A1, A1 = (if co17 = (t184 : Int).toNat then Ao17 else (Ao17 : Option Addr).map (·.add ((t184 : Int).toNat * 7))) := ⟨_, rfl⟩; obtain ⟨c18, hc18⟩ : ∃ c1, c1 = co17 - (t184 : Int).toNat := ⟨_, rfl⟩; have hy18 : y185.length = x3_1.length - (t184 : Int).toNat := (by rw [Ny185.out, List.length_drop] <;> omega); rw [show (x3_1).drop (t184 : Int).toNat = y185 from Ny185.out.symm] at hr18; replace hr18 : Kd.F k63 _ _ A18 y185.length y185 := (by rw [hA18]; exact hr18); rw [← hy18, ← hA18, ← hc18] at hcut18; have HO189 := Aside0.mk (show Kd.V k63 63 _ w.heap.size _ (.slice A18 y185.length c18) y185 from Kd.V_mk (by rw [hy18, hc18]; exact Nat.sub_le_sub_right hroom18 _) hr18); have HC189 := Aside0.mk (show y185.length ≤ c18 from by rw [hy18, hc18]; exact Nat.sub_le_sub_right hroom18 _); clear hr18 hC18 hroom18 hi018 hsz18 hc18; have KY18 := Aside0.mk hy18; have KA18 := Aside0.mk hA18; clear hy18 hA18; replace q18 := eq_true q18) | ((with_reducible refine gate_dst (N := 30) rfl ?_); refine Kd.N_lit (Kd.slice 63 k63) _ 26 ?hg (N' := 30) ?hd (xs := ([y185] : List (List (S63)))) (inner := [.slice A18 y185.length c18]) (ok := (fun k_ => (P0_ k_ ∨ w.heap.size ≤ k_) ∧ some k_ ≠ (u4 : Value).ownBlock)) (okp := (fun k_ => (P0_ k_ ∨ w.heap.size ≤ k_) ∧ some k_ ≠ (u4 : Value).ownBlock)) ?hr ?hp (fun _ hk => hk) ((show ∀ k_, wr.heap.size ≤ k_ → (fun k_ => (P0_ k_ ∨ w.heap.size ≤ k_) ∧ some k_ ≠ (u4 : Value).ownBlock) k_ from fun k_ hk => ⟨(.inr (Nat.le_trans (below_size bw) hk)), Kd.fresh' (Kd.N_lt (by (with_reducible repeat (first | apply Kd.N_alloc | apply Kd.N_drewN | apply Kd.N_drew)); exact HO_4.out)) k_ hk⟩) _ (Nat.le_refl _)) (Below.refl _ _) (Nat.le_refl _) (by simp) ?_; (case hd => rfl); (case hg => rfl); (case hr => first | (go_simp; done) | (go_simp; rfl)); (case hp => have HV_ := Kd.V_drewN HO189.out nd; exact (Reps.one (show Kd.FK (Kd.slice 63 k63) _ _ y185 [.slice A18 y185.length c18] from (Kd.FK_slice_mk (Kd.V_reads' (Kd.V_mono (ok' := (fun k_ => (P0_ k_ ∨ w.heap.size ≤ k_) ∧ some k_ ≠ (u4 : Value).ownBlock)) HV_ (fun k_ hk => ⟨hk.1, hk.2⟩))).2.1 (Kd.V_F (Kd.V_mono (ok' := (fun k_ => (P0_ k_ ∨ w.heap.size ≤ k_) ∧ some k_ ≠ (u4 : Value).ownBlock)) HV_ (fun k_ hk => ⟨hk.1, hk.2⟩))))) (Reps.none _ _))); intro v191 w19 ho20 hb hg_ hnew_; clear hg_ hnew_; (first | rw [← Ny190.out] at ho20 | (simp only [Int.reduceToNat] at ho20; rw [← Ny190.out] at ho20)); have n0_ := Aside0.mk (Kd.V_elder' (by (with_reducible repeat (first | apply Kd.V_alloc | apply Kd.V_drewN | apply Kd.V_drew)); exact HO_3.out) (Kd.N_base ho20) hb); have n1_ := Aside0.mk (Kd.N_elder' (by (with_reducible repeat (first | apply Kd.N_alloc | apply Kd.N_drewN | apply Kd.N_drew)); exact HO_4.out) (Kd.N_base ho20) hb); have n2_ := Aside0.mk (Kd.V_elder' (by (with_reducible repeat (first | apply Kd.V_alloc | apply Kd.V_drewN | apply Kd.V_drew)); exact HO189.out) (Kd.N_base ho20) hb); have n3_ := Aside0.mk (Kd.N_lower ho20 (below_size bw)); have n4_ := Aside0.mk (below_step bw hb); clear HO_3; clear HO_4; clear HO189; clear HB; have HO_3 := n0_; have HO_4 := n1_; have HO189 := n2_; have HO192 := n3_; have HB := n4_; clear n0_ n1_ n2_ n3_ n4_; clear hb ho20; obtain ⟨Ao22, co22, eo22⟩ := Kd.N_slice HO_4.out; subst eo22) | ((with_reducible refine gate_builtin (b := .append) (xs := #[.tmp 30, .tmp 31]) rfl ?_); at_builtin; refine Kd.N_append_rows (Kd.slice 63 k63) (w0 := w) w.heap.size rfl (.tmp 30) (.tmp 31) 76 26 (.slice none 0 0) 24 rfl Try.underlying76 info26 rfl (by decide) (by omega) v191 y190 x4_1 _ _ _ (fun k_ => (P0_ k_ ∨ w.heap.size ≤ k_)) (fun k_ => ((fun k_ => (P0_ k_ ∨ w.heap.size ≤ k_))) k_ ∧ some k_ ≠ (v191 : Value).ownBlock) rfl rfl ?aO ?aR (fun _ hk => hk) ?aF ?aB ?aS ?aL ?_; (case aR => exact (by skip; exact Kd.N_F (Kd.N_mono (ok' := (fun k_ => ((fun k_ => (P0_ k_ ∨ w.heap.size ≤ k_))) k_ ∧ some k_ ≠ (v191 : Value).ownBlock)) (HO_4.out) (fun k_ hk => ⟨hk.1, hk.2⟩)))); (case aB => exact bw); (case aF => exact (fun k_ hk => (.inr (Nat.le_trans (below_size bw) hk)))); (case aO => exact (by (with_reducible repeat (first | apply Kd.N_alloc | apply Kd.N_drewN | apply Kd.N_drew)); exact Kd.N_mono HO192.out (fun _ hk => hk.1))); (case aS => exact (below_size bw)); (case aL => have := LMc14.out; omega); intro v194 w21 ho hb hg hat; rw [← Ny193.out] at ho; have n0_ := Aside0.mk (Kd.V_afterv (ok := (fun k_ => (P0_ k_ ∨ w.heap.size ≤ k_) ∧ some k_ ≠ (.slice Ao22 x4_1.length co22 : Value).ownBlock)) (by (with_reducible repeat (first | apply Kd.V_alloc | apply Kd.V_drewN | apply Kd.V_drew)); exact HO_3.out) hg hat); have n1_ := Aside0.mk (Kd.N_afterv (ok := (fun k_ => (P0_ k_ ∨ w.heap.size ≤ k_))) (by (with_reducible repeat (first | apply Kd.N_alloc | apply Kd.N_drewN | apply Kd.N_drew)); exact HO_4.out) hg hat); have n2_ := Aside0.mk (Kd.V_afterv (ok := (fun k_ => (P0_ k_ ∨ w.heap.size ≤ k_) ∧ some k_ ≠ (.slice Ao22 x4_1.length co22 : Value).ownBlock)) (by (with_reducible repeat (first | apply Kd.V_alloc | apply Kd.V_drewN | apply Kd.V_drew)); exact HO189.out) hg hat); have n3_ := Aside0.mk (hb); have n4_ := Aside0.mk (ho); clear HO_3; clear HO_4; clear HO189; clear HB; clear HO192; have HO_3 := n0_; have HO_4 := n1_; have HO189 := n2_; have HB := n3_; have HO195 := n4_; clear n0_ n1_ n2_ n3_ n4_; clear ho hb hg hat; have q23 : (t184 : Int) ≤ ((x3_1.length : Int) : Int) := of_decide_eq_true (by first | (with_reducible assumption) | assumption); obtain ⟨i023, hi023, _, hsz23, _⟩ := info_parts info63; have hroom23 : x3_1.length ≤ co17 := (Kd.V_reads' HO_3.out).2.1; have hC23 : Kd.F k63 _ _ Ao17 x3_1.length x3_1 := (Kd.V_at (base := w.heap.size) HO_3.out).2.2; have hcut23 := cut_to (P := Try.prog) 26 63 .i64 Try.underlying26 hi023 Ao17 x3_1.length co17 t184 (of_decide_eq_true (by first | (with_reducible assumption) | assumption)) q23 hroom23; have hr23 := Kd.F_take (m := (t184 : Int).toNat) hC23 (by omega); have hy23 : y196.length = (t184 : Int).toNat := (by rw [Ny196.out, List.length_take]; omega); rw [← Ny196.out] at hr23; rw [← hy23] at hcut23; have HO200 := Aside0.mk (show Kd.V k63 63 _ w.heap.size _ (.slice Ao17 y196.length co17) y196 from Kd.V_mk (by omega) hr23); have HC200 := Aside0.mk (show y196.length ≤ co17 from by omega); clear hr23 hC23 hroom23 hi023 hsz23; have KY23 := Aside0.mk hy23; clear hy23; replace q23 := eq_true q23))
          go_roundg k1
          case measure => have := HK1.out; omega
          case rel => exact ⟨(y196), (y193), (wrap64 (x5_1 - 1)), (by first | rfl | (simp; done) | (simp [*]; done)), H', ⟨by have := HK1.out; omega⟩, ⟨by (with_reducible repeat (first | apply Kd.V_alloc | apply Kd.V_drewN | apply Kd.V_drew)); exact Kd.V_mono HO200.out (fun _ hk => ⟨hk.1.1, hk.2⟩)⟩, ⟨by (with_reducible repeat (first | apply Kd.N_alloc | apply Kd.N_drewN | apply Kd.N_drew)); exact HO195.out⟩, ⟨bw⟩⟩
         ·rw [if_neg c14] at H
          exact absurd H (by simp)
        ·rw [if_neg c13] at H
         exact absurd H (by simp)
       ·rw [if_neg c12] at H
        exact absurd H (by simp)
      ·rw [if_neg c10] at H
       have c10b0 : decide (0 < x5_1) = false := decide_eq_false c10
       clear c10
       obtain rfl := Option.some.inj H
       go_wp2
       go_ret
       exact ⟨_, by first | rfl | (simp [errW_none, errW_some] <;> rfl) | (simp only [← hji2]; first | rfl | (simp [errW_none, errW_some] <;> rfl)) | (simp [*, errW_none, errW_some] <;> rfl), by (with_reducible repeat (first | apply Kd.N_alloc | apply Kd.N_drewN | apply Kd.N_drew)); exact HO_4.out, bw⟩
   ·rw [if_neg c5] at H
    exact absurd H (by simp)
  ·rw [if_neg c4] at H
   exact absurd H (by simp)
 ·rw [if_neg c3] at H
  exact absurd H (by simp)

end Go.Proofs.Ytpfehkkfakofaaa.Q

namespace Go.Proofs.Ytpfehkkfakofaaa.Q
open Go.RowKit Go.Proofs.YtpfehkkfakofaaaW.PrintWords Go.Proofs.YtpfehkkfakofaaaW.PrintLast Go.Proofs.YtpfehkkfakofaaaW.PrintMore
set_option linter.unusedVariables false
set_option linter.unusedSimpArgs false

/-! ### spec_l5Top: function 44 -/
def spec_l5Top.f (l0 : List (S63)) : Option (Int) := if 0 ≤ (wrap64 ((l0.length : Int) - 1)) then (if (wrap64 ((l0.length : Int) - 1)) < (l0.length : Int) then (some ((rd_T63 l0 (wrap64 ((l0.length : Int) - 1))).f0)) else (none)) else (none)
set_option maxHeartbeats 8000000 in
set_option maxRecDepth 100000 in
theorem spec_l5Top.calls (A0 : Option Addr) (c0 : Nat) (l0 : List (S63)) (r : Int) (w : World) (hr0 : Kd.C k63 w A0 l0.length l0) (hc0 : l0.length ≤ c0) (h : spec_l5Top.f l0 = some r) :
  Calls Try.prog 44 #[.slice A0 l0.length c0] w fun e w' => e = .returned (.int .i64 r) ∧ Drawn0 w w' := by
 have HR0 := Aside0.mk hr0
 have HC0 := Aside0.mk hc0
 clear hr0 hc0
 have H : (if 0 ≤ (wrap64 ((l0.length : Int) - 1)) then (if (wrap64 ((l0.length : Int) - 1)) < (l0.length : Int) then (some ((rd_T63 l0 (wrap64 ((l0.length : Int) - 1))).f0)) else (none)) else (none)) = some r := h
 clear h
 obtain ⟨ji2, hji2⟩ : ∃ j_ : Int, (wrap64 ((l0.length : Int) - 1)) = j_ := ⟨_, rfl⟩
 replace H : (if 0 ≤ (ji2) then (if (ji2) < (l0.length : Int) then (some ((rd_T63 l0 (ji2)).f0)) else (none)) else (none)) = some r := by first | (rw [hji2] at H; exact H) | (simp only [hji2] at H ⊢; exact H)
 have hji2w : (IntKind.i64.wrap ((l0.length : Int) - 1)) = ji2 := (i64_w _).trans hji2
 by_cases c3 : 0 ≤ (ji2)
 ·rw [if_pos c3] at H
  have c3b0 : decide (0 ≤ (ji2)) = true := decide_eq_true c3
  clear c3
  by_cases c4 : (ji2) < (l0.length : Int)
  ·rw [if_pos c4] at H
   have c4b0 : decide ((ji2) < (l0.length : Int)) = true := decide_eq_true c4
   clear c4
   obtain rfl := Option.some.inj H
   have p201 : 0 ≤ ((ji2) : Int) := of_decide_eq_true (by first | (with_reducible assumption) | assumption)
   have q201 : (ji2) < (l0.length : Int) := of_decide_eq_true (by first | (with_reducible assumption) | assumption)
   obtain ⟨ad201, e201, hx201_0, hx201_1, hx201_2, hx201_3, hx201_4, hx201_5, hx201_6⟩ := at_T63 HR0.out (ji2) p201 q201
   cases e201
   replace p201 := eq_true p201
   replace q201 := eq_true q201
   go_enter Try.func44, Try.ntmps44
   go_wp2
   go_ret
   exact ⟨by first | rfl | (simp; done) | (simp only [← hji2] <;> (first | rfl | simp)) | (simp [*]; done), by repeat (first | exact Drawn0.refl _ | apply Drawn0.step)⟩
  ·rw [if_neg c4] at H
   exact absurd H (by simp)
 ·rw [if_neg c3] at H
  exact absurd H (by simp)

end Go.Proofs.Ytpfehkkfakofaaa.Q

namespace Go.Proofs.Ytpfehkkfakofaaa.Q
open Go.RowKit Go.Proofs.YtpfehkkfakofaaaW.PrintWords Go.Proofs.YtpfehkkfakofaaaW.PrintLast Go.Proofs.YtpfehkkfakofaaaW.PrintMore
set_option linter.unusedVariables false
set_option linter.unusedSimpArgs false

/-! ### spec_l5Strength: function 86 -/
def spec_l5Strength.f (a0 : Int) : Option (Int) := if a0 = 15 then (some 1) else (if a0 = 14 then (some 2) else (some 3))
set_option maxHeartbeats 8000000 in
set_option maxRecDepth 100000 in
theorem spec_l5Strength.calls (a0 : Int) (r : Int) (w : World) (h : spec_l5Strength.f a0 = some r) :
  Calls Try.prog 86 #[.int .i64 a0] w fun e w' => e = .returned (.int .i64 r) ∧ Drawn0 w w' := by
 have H : (if a0 = 15 then (some 1) else (if a0 = 14 then (some 2) else (some 3))) = some r := h
 clear h
 by_cases c2 : a0 = 15
 ·rw [if_pos c2] at H
  have c2b0 : (a0 == 15) = true := beq_iff_eq.mpr c2
  have c2b1 : (a0 != 15) = false := bne_eq_false_iff_eq.mpr c2
  clear c2
  obtain rfl := Option.some.inj H
  go_enter Try.func86, Try.ntmps86
  go_wp2
  go_ret
  exact ⟨by first | rfl | (simp; done) | (simp [*]; done), by repeat (first | exact Drawn0.refl _ | apply Drawn0.step)⟩
 ·rw [if_neg c2] at H
  have c2b0 : (a0 == 15) = false := beq_eq_false_iff_ne.mpr c2
  have c2b1 : (a0 != 15) = true := bne_iff_ne.mpr c2
  by_cases c3 : a0 = 14
  ·rw [if_pos c3] at H
   have c3b0 : (a0 == 14) = true := beq_iff_eq.mpr c3
   have c3b1 : (a0 != 14) = false := bne_eq_false_iff_eq.mpr c3
   clear c3
   obtain rfl := Option.some.inj H
   go_enter Try.func86, Try.ntmps86
   go_wp2
   go_ret
   exact ⟨by first | rfl | (simp; done) | (simp [*]; done), by repeat (first | exact Drawn0.refl _ | apply Drawn0.step)⟩
  ·rw [if_neg c3] at H
   have c3b0 : (a0 == 14) = false := beq_eq_false_iff_ne.mpr c3
   have c3b1 : (a0 != 14) = true := bne_iff_ne.mpr c3
   obtain rfl := Option.some.inj H
   go_enter Try.func86, Try.ntmps86
   go_wp2
   go_ret
   exact ⟨by first | rfl | (simp; done) | (simp [*]; done), by repeat (first | exact Drawn0.refl _ | apply Drawn0.step)⟩

end Go.Proofs.Ytpfehkkfakofaaa.Q

namespace Go.Proofs.Ytpfehkkfakofaaa.Q
open Go.RowKit Go.Proofs.YtpfehkkfakofaaaW.PrintWords Go.Proofs.YtpfehkkfakofaaaW.PrintLast Go.Proofs.YtpfehkkfakofaaaW.PrintMore
set_option linter.unusedVariables false
set_option linter.unusedSimpArgs false

/-! ### spec_l5Wrapped: function 73 -/
def spec_l5Wrapped.f (a0 : Int) (a1 : Int) (a2 : Int) : Option (Bool) := if a0 = 16 then (some false) else (if a1 = 0 then ((spec_l5Strength.f a2).bind fun t202 => ((spec_l5Strength.f a0).bind fun t203 => (some (decide (t202 < t203))))) else ((spec_l5Strength.f a2).bind fun t204 => ((spec_l5Strength.f a0).bind fun t205 => (some (decide (t204 ≤ t205))))))
set_option maxHeartbeats 8000000 in
set_option maxRecDepth 100000 in
theorem spec_l5Wrapped.calls (a0 : Int) (a1 : Int) (a2 : Int) (r : Bool) (w : World) (h : spec_l5Wrapped.f a0 a1 a2 = some r) :
  Calls Try.prog 73 #[.int .i64 a0, .int .i64 a1, .int .i64 a2] w fun e w' => e = .returned (.bool r) ∧ Drawn0 w w' := by
 have H : (if a0 = 16 then (some false) else (if a1 = 0 then ((spec_l5Strength.f a2).bind fun t202 => ((spec_l5Strength.f a0).bind fun t203 => (some (decide (t202 < t203))))) else ((spec_l5Strength.f a2).bind fun t204 => ((spec_l5Strength.f a0).bind fun t205 => (some (decide (t204 ≤ t205))))))) = some r := h
 clear h
 by_cases c4 : a0 = 16
 ·rw [if_pos c4] at H
  have c4b0 : (a0 == 16) = true := beq_iff_eq.mpr c4
  have c4b1 : (a0 != 16) = false := bne_eq_false_iff_eq.mpr c4
  clear c4
  obtain rfl := Option.some.inj H
  go_enter Try.func73, Try.ntmps73
  go_wp2
  go_ret
  exact ⟨by first | rfl | (simp; done) | (simp [*]; done), by repeat (first | exact Drawn0.refl _ | apply Drawn0.step)⟩
 ·rw [if_neg c4] at H
  have c4b0 : (a0 == 16) = false := beq_eq_false_iff_ne.mpr c4
  have c4b1 : (a0 != 16) = true := bne_iff_ne.mpr c4
  by_cases c5 : a1 = 0
  ·rw [if_pos c5] at H
   have c5b0 : (a1 == 0) = true := beq_iff_eq.mpr c5
   have c5b1 : (a1 != 0) = false := bne_eq_false_iff_eq.mpr c5
   clear c5
   replace H := Option.bind_eq_some_iff.mp H
   obtain ⟨t202, A60, H⟩ := H
   replace H : ((spec_l5Strength.f a0).bind fun t203 => (some (decide (t202 < t203)))) = some r := H
   have A6 := Aside0.mk A60
   clear A60
   replace H := Option.bind_eq_some_iff.mp H
   obtain ⟨t203, A70, H⟩ := H
   replace H : (some (decide (t202 < t203))) = some r := H
   have A7 := Aside0.mk A70
   clear A70
   obtain rfl := Option.some.inj H
   go_enter Try.func73, Try.ntmps73
   go_wp2_with (first | ((with_reducible refine at_fn (f := 86) rfl ?_); refine goesL_ (some 12) rfl rfl Try.func86 (by kernel_rfl) rfl #[.int .i64 a2] rfl (by (try simp only [List.map_toArray, List.map_cons, List.map_nil]); first | done | rfl | (simp only [List.length_drop, List.length_take]; rfl)) ?_; (with_reducible refine (spec_l5Strength.calls a2 t202 _ A6.out).mono ?_); rintro e w' ⟨rfl, ⟨nd, rfl⟩⟩; refine ⟨_, rfl, ?_⟩) | ((with_reducible refine at_fn (f := 86) rfl ?_); refine goesL_ (some 14) rfl rfl Try.func86 (by kernel_rfl) rfl #[.int .i64 a0] rfl (by (try simp only [List.map_toArray, List.map_cons, List.map_nil]); first | done | rfl | (simp only [List.length_drop, List.length_take]; rfl)) ?_; (with_reducible refine (spec_l5Strength.calls a0 t203 _ A7.out).mono ?_); rintro e w' ⟨rfl, ⟨nd, rfl⟩⟩; refine ⟨_, rfl, ?_⟩))
   go_ret
   exact ⟨by first | rfl | (simp; done) | (simp [*]; done), by repeat (first | exact Drawn0.refl _ | apply Drawn0.step)⟩
  ·rw [if_neg c5] at H
   have c5b0 : (a1 == 0) = false := beq_eq_false_iff_ne.mpr c5
   have c5b1 : (a1 != 0) = true := bne_iff_ne.mpr c5
   replace H := Option.bind_eq_some_iff.mp H
   obtain ⟨t204, A80, H⟩ := H
   replace H : ((spec_l5Strength.f a0).bind fun t205 => (some (decide (t204 ≤ t205)))) = some r := H
   have A8 := Aside0.mk A80
   clear A80
   replace H := Option.bind_eq_some_iff.mp H
   obtain ⟨t205, A90, H⟩ := H
   replace H : (some (decide (t204 ≤ t205))) = some r := H
   have A9 := Aside0.mk A90
   clear A90
   obtain rfl := Option.some.inj H
   go_enter Try.func73, Try.ntmps73
   go_wp2_with (first | ((with_reducible refine at_fn (f := 86) rfl ?_); refine goesL_ (some 17) rfl rfl Try.func86 (by kernel_rfl) rfl #[.int .i64 a2] rfl (by (try simp only [List.map_toArray, List.map_cons, List.map_nil]); first | done | rfl | (simp only [List.length_drop, List.length_take]; rfl)) ?_; (with_reducible refine (spec_l5Strength.calls a2 t204 _ A8.out).mono ?_); rintro e w' ⟨rfl, ⟨nd, rfl⟩⟩; refine ⟨_, rfl, ?_⟩) | ((with_reducible refine at_fn (f := 86) rfl ?_); refine goesL_ (some 19) rfl rfl Try.func86 (by kernel_rfl) rfl #[.int .i64 a0] rfl (by (try simp only [List.map_toArray, List.map_cons, List.map_nil]); first | done | rfl | (simp only [List.length_drop, List.length_take]; rfl)) ?_; (with_reducible refine (spec_l5Strength.calls a0 t205 _ A9.out).mono ?_); rintro e w' ⟨rfl, ⟨nd, rfl⟩⟩; refine ⟨_, rfl, ?_⟩))
   go_ret
   exact ⟨by first | rfl | (simp; done) | (simp [*]; done), by repeat (first | exact Drawn0.refl _ | apply Drawn0.step)⟩

end Go.Proofs.Ytpfehkkfakofaaa.Q

namespace Go.Proofs.Ytpfehkkfakofaaa.Q
open Go.RowKit Go.Proofs.YtpfehkkfakofaaaW.PrintWords Go.Proofs.YtpfehkkfakofaaaW.PrintLast Go.Proofs.YtpfehkkfakofaaaW.PrintMore
set_option linter.unusedVariables false
set_option linter.unusedSimpArgs false

/-! ### spec_l5Nest: function 42 -/
mutual
def spec_l5Nest.l0 : Nat → Int → List (List (S63)) → Int → Int → Option (Int)
 | 0, _, _, _, _ => none
 | k + 1, x3, x4, x5, x6 => if x6 < (x4.length : Int) then (if 0 ≤ x6 then ((spec_l5Nest.f k (rd_L7 x4 x6)).bind fun t211 => (if x3 = 16 then (spec_l5Nest.j1 k x3 x4 x5 x6 t211 true) else ((spec_l5Top.f (rd_L7 x4 x6)).bind fun t213 => ((spec_l5Wrapped.f x3 x6 t213).bind fun t214 => (spec_l5Nest.j1 k x3 x4 x5 x6 t211 t214))))) else (none)) else (some x5)
def spec_l5Nest.j1 : Nat → Int → List (List (S63)) → Int → Int → Int → Bool → Option (Int)
 | 0, _, _, _, _, _, _ => none
 | k + 1, x3, x4, x5, x6, x7, x34 => if x34 = true then (spec_l5Nest.j2 k x3 x4 x5 x6 (wrap64 (x7 + 1))) else (spec_l5Nest.j2 k x3 x4 x5 x6 x7)
def spec_l5Nest.j2 : Nat → Int → List (List (S63)) → Int → Int → Int → Option (Int)
 | 0, _, _, _, _, _ => none
 | k + 1, x3, x4, x5, x6, x7 => if x7 > x5 then (spec_l5Nest.l0 k x3 x4 x7 (wrap64 (x6 + 1))) else (spec_l5Nest.l0 k x3 x4 x5 (wrap64 (x6 + 1)))
def spec_l5Nest.f : Nat → List (S63) → Option (Int)
 | 0, _ => none
 | k + 1, l0 => (spec_l5Top.f l0).bind fun t206 => ((spec_l5Kids.f k l0).bind fun t207 => (spec_l5Nest.l0 k t206 t207 0 0))
end
set_option maxHeartbeats 8000000 in
set_option maxRecDepth 100000 in
theorem spec_l5Nest.calls (k : Nat) : ∀ (A0 : Option Addr) (c0 : Nat) (l0 : List (S63)) (r : Int) (w : World) (hr0 : Kd.C k63 w A0 l0.length l0) (hc0 : l0.length ≤ c0) (h : spec_l5Nest.f k l0 = some r),
  Calls Try.prog 42 #[.slice A0 l0.length c0] w fun e w' => e = .returned (.int .i64 r) ∧ Below w.heap.size w w' := by
 induction k using Nat.strongRecOn with
 | _ k ih =>
 intro A0 c0 l0 r w hr0 hc0 h
 cases k with
 | zero => exact absurd h (by simp [spec_l5Nest.f])
 | succ k =>
 simp only [spec_l5Nest.f] at h
 have HR0 := Aside0.mk hr0
 have HC0 := Aside0.mk hc0
 clear hr0 hc0
 have HB := Aside0.mk (Below.refl w.heap.size w)
 have H : ((spec_l5Top.f l0).bind fun t206 => ((spec_l5Kids.f k l0).bind fun t207 => (spec_l5Nest.l0 k t206 t207 0 0))) = some r := h
 clear h
 replace H := Option.bind_eq_some_iff.mp H
 obtain ⟨t206, A20, H⟩ := H
 replace H : ((spec_l5Kids.f k l0).bind fun t207 => (spec_l5Nest.l0 k t206 t207 0 0)) = some r := H
 have A2 := Aside0.mk A20
 clear A20
 replace H := Option.bind_eq_some_iff.mp H
 obtain ⟨t207, A30, H⟩ := H
 replace H : (spec_l5Nest.l0 k t206 t207 0 0) = some r := H
 have A3 := Aside0.mk A30
 clear A30
 have H' := Aside0.mk H
 clear H
 go_enter Try.func42, Try.ntmps42
 go_wp2_with (first | ((with_reducible refine at_fn (f := 44) rfl ?_); refine goesL_ (some 9) rfl rfl Try.func44 (by kernel_rfl) rfl #[.slice A0 l0.length c0] rfl (by (try simp only [List.map_toArray, List.map_cons, List.map_nil]); first | done | rfl | (simp only [List.length_drop, List.length_take]; rfl)) ?_; (with_reducible refine (spec_l5Top.calls _ _ l0 t206 _ ?side1 ?side2 A2.out).mono ?_); (case side1 => repeat (first | exact HR0.out | (with_reducible refine Kd.C_alloc ?_ _) | (with_reducible refine Kd.C_drewN ?_ _) | (with_reducible refine Kd.C_drew ?_))); (case side2 => exact HC0.out); rintro e w' ⟨rfl, ⟨nd, rfl⟩⟩; refine ⟨_, rfl, ?_⟩) | ((with_reducible refine at_fn (f := 43) rfl ?_); refine goesL_ (some 11) rfl rfl Try.func43 (by kernel_rfl) rfl #[.slice A0 l0.length c0] rfl (by (try simp only [List.map_toArray, List.map_cons, List.map_nil]); first | done | rfl | (simp only [List.length_drop, List.length_take]; rfl)) ?_; (with_reducible refine (spec_l5Kids.calls k (fun k_ => k_ < w.heap.size) _ _ l0 t207 _ ?side1 A3.out).mono ?_); (case side1 => exact Kd.V_mk HC0.out (Kd.F_below (Kd.C_F k63_heap HR0.out) bw)); rintro e w4 ⟨v208, rfl, ho0, hb⟩; refine ⟨_, rfl, ?_⟩; have n0_ := Aside0.mk (Kd.N_lower (Kd.N_mono (ok' := fun k_ => True) ho0 (fun k_ hk_ => trivial)) (below_size bw)); have n1_ := Aside0.mk (below_step bw hb); clear HB; have HO209 := n0_; have HB := n1_; clear n0_ n1_; (try clear hb); (try clear hb2); (try clear hk); (try clear hi); (try clear ho0)))
 go_loopg [5, 6] k (fun kq v5 v6 w' => ∃ (x5_1 : Int) (x6_1 : Int), v5 = .int .i64 x5_1 ∧ v6 = .int .i64 x6_1 ∧ Aside0 (spec_l5Nest.l0 kq t206 t207 x5_1 x6_1 = some r) ∧ Aside0 (kq ≤ k) ∧ Aside0 (Kd.N (Kd.slice 63 k63) 26 w' w.heap.size (fun _ => True) v208 t207) ∧ Aside0 (Below w.heap.size w w'))
 case atStart => exact ⟨(0), (0), (by first | rfl | (simp; done) | (simp [*]; done)), (by first | rfl | (simp; done) | (simp [*]; done)), H', ⟨Nat.le_refl _⟩, ⟨by (with_reducible repeat (first | apply Kd.N_alloc | apply Kd.N_drewN | apply Kd.N_drew)); exact HO209.out⟩, ⟨bw⟩⟩
 case round =>
  clear H'
  try clear p2
  try clear c4
  obtain ⟨x5_1, x6_1, rfl, rfl, HA, HK1, HO_4, HB⟩ := hrel
  cases gk with
  | zero => exact absurd HA.out (by simp [spec_l5Nest.l0])
  | succ k1 =>
   have H := HA.out
   clear HA
   simp only [spec_l5Nest.l0] at H
   by_cases c5 : x6_1 < (t207.length : Int)
   ·rw [if_pos c5] at H
    have c5b0 : decide (x6_1 < (t207.length : Int)) = true := decide_eq_true c5
    clear c5
    by_cases c6 : 0 ≤ x6_1
    ·rw [if_pos c6] at H
     have c6b0 : decide (0 ≤ x6_1) = true := decide_eq_true c6
     clear c6
     replace H := Option.bind_eq_some_iff.mp H
     obtain ⟨t211, A70, H⟩ := H
     replace H : (if t206 = 16 then (spec_l5Nest.j1 k1 t206 t207 x5_1 x6_1 t211 true) else ((spec_l5Top.f (rd_L7 t207 x6_1)).bind fun t213 => ((spec_l5Wrapped.f t206 x6_1 t213).bind fun t214 => (spec_l5Nest.j1 k1 t206 t207 x5_1 x6_1 t211 t214)))) = some r := H
     have A7 := Aside0.mk A70
     clear A70
     have HC8 := Aside0.mk H
     clear H
     obtain ⟨Ao9, co9, eo9⟩ := Kd.N_slice HO_4.out
     subst eo9
     have p210 : 0 ≤ (x6_1 : Int) := of_decide_eq_true (by first | (with_reducible assumption) | assumption)
     have q210 : x6_1 < (t207.length : Int) := of_decide_eq_true (by first | (with_reducible assumption) | assumption)
     obtain ⟨ad210, A210_0, c210_0, e210, hx210_0, hl210_0, hi210_0⟩ := at_L7 (Kd.N_reads' HO_4.out).2.2 x6_1 p210 q210
     cases e210
     obtain ⟨ce210, hce210, hMe210, hcc210⟩ := Kd.N_get HO_4.out [] x6_1 p210 (by first | exact q210 | exact of_decide_eq_true (by first | (with_reducible assumption) | assumption) | (have e_ := (Kd.N_reads' HO_4.out).1; omega))
     obtain ⟨ua210_0, uc210_0, rfl, ul210_0, ge210_0⟩ := Kd.FK_slice_open hMe210
     have hv210_0 := hcc210 0 _ rfl
     rw [Nat.add_zero, show ((Kd.slice 63 k63)).sz = 1 from rfl, Nat.mul_one] at hv210_0
     replace hv210_0 := Option.some.inj (hv210_0.symm.trans hx210_0)
     injection hv210_0 with hva_ hvn_ hvc_
     rw [hva_] at ge210_0
     rw [hvc_] at ul210_0
     have HL210_0 := Aside0.mk (show Kd.V k63 63 _ w.heap.size _ _ (rd_L7 t207 x6_1) from Kd.V_mk ul210_0 ge210_0)
     clear hva_ hvn_ hvc_ ge210_0 ul210_0
     clear hcc210 hce210
     have HR210_0 := Aside0.mk hi210_0
     have HC210_0 := Aside0.mk hl210_0
     clear hi210_0 hl210_0
     replace p210 := eq_true p210
     replace q210 := eq_true q210
     go_upto_region 8 with (first | ((with_reducible refine at_fn (f := 42) rfl ?_); refine goesL_ (some 22) rfl rfl Try.func42 (by kernel_rfl) rfl #[.slice A210_0 (rd_L7 t207 x6_1).length c210_0] rfl (by (try simp only [List.map_toArray, List.map_cons, List.map_nil]); first | done | rfl | (simp only [List.length_drop, List.length_take]; rfl)) ?_; (with_reducible refine (ih k1 (by have := HK1.out; omega) _ _ (rd_L7 t207 x6_1) t211 _ ?side1 ?side2 A7.out).mono ?_); (case side1 => repeat (first | exact (by repeat (first | (with_reducible exact HR210_0.out) | (with_reducible refine Kd.C_alloc ?_ _) | (with_reducible refine Kd.C_drewN ?_ _) | (with_reducible refine Kd.C_drew ?_) | exact HR210_0.out)) | (with_reducible refine Kd.C_alloc ?_ _) | (with_reducible refine Kd.C_drewN ?_ _) | (with_reducible refine Kd.C_drew ?_))); (case side2 => exact HC210_0.out); rintro e w10 ⟨rfl, hb⟩; refine ⟨_, rfl, ?_⟩; have n0_ := Aside0.mk (Kd.N_below (by (with_reducible repeat (first | apply Kd.N_alloc | apply Kd.N_drewN | apply Kd.N_drew)); exact HO_4.out) hb); have n1_ := Aside0.mk (Kd.V_below (by (with_reducible repeat (first | apply Kd.V_alloc | apply Kd.V_drewN | apply Kd.V_drew)); exact HL210_0.out) hb); have n2_ := Aside0.mk (Kd.C_below (by repeat (first | (with_reducible exact HR210_0.out) | (with_reducible refine Kd.C_alloc ?_ _) | (with_reducible refine Kd.C_drewN ?_ _) | (with_reducible refine Kd.C_drew ?_) | exact HR210_0.out)) hb); have n3_ := Aside0.mk (below_step bw hb); clear HO_4; clear HL210_0; clear HR210_0; clear HB; have HO_4 := n0_; have HL210_0 := n1_; have HR210_0 := n2_; have HB := n3_; clear n0_ n1_ n2_ n3_; (try clear hb); (try clear hb2); (try clear hk); (try clear hi)))
     (try simp only [Act.put, List.setIfInBounds_toArray, List.set_cons_zero, List.set_cons_succ])
     go_cut [34] (fun v34 wc => ∃ (kq : Nat) (x34_7 : Bool), v34 = .bool x34_7 ∧ Aside0 (spec_l5Nest.j1 kq t206 t207 x5_1 x6_1 t211 x34_7 = some r) ∧ Aside0 (kq ≤ k1) ∧ Aside0 (Kd.N (Kd.slice 63 k63) 26 wc w.heap.size (fun _ => True) (.slice (some ad210) t207.length co9) t207) ∧ Aside0 (Kd.C k63 wc A210_0 (rd_L7 t207 x6_1).length (rd_L7 t207 x6_1)) ∧ Aside0 (Below w.heap.size w wc))
     case first =>
      have H := HC8.out
      clear HC8
      by_cases c11 : t206 = 16
      ·rw [if_pos c11] at H
       have c11b0 : (t206 == 16) = true := beq_iff_eq.mpr c11
       have c11b1 : (t206 != 16) = false := bne_eq_false_iff_eq.mpr c11
       clear c11
       (first | rw [c11b0] | (simp only [i64_w, i32_w]; rw [c11b0]) | skip)
       have H' := Aside0.mk H
       clear H
       go_wp2
       go_meet
       case rel => exact ⟨_, (true), (by first | rfl | (simp; done) | (simp [*]; done)), H', ⟨by have := HK1.out; first | omega | exact Nat.le_refl _⟩, ⟨by (with_reducible repeat (first | apply Kd.N_alloc | apply Kd.N_drewN | apply Kd.N_drew)); exact HO_4.out⟩, ⟨by repeat (first | (with_reducible exact HR210_0.out) | (with_reducible refine Kd.C_alloc ?_ _) | (with_reducible refine Kd.C_drewN ?_ _) | (with_reducible refine Kd.C_drew ?_) | exact HR210_0.out)⟩, ⟨bw⟩⟩
      ·rw [if_neg c11] at H
       have c11b0 : (t206 == 16) = false := beq_eq_false_iff_ne.mpr c11
       have c11b1 : (t206 != 16) = true := bne_iff_ne.mpr c11
       (first | rw [c11b0] | (simp only [i64_w, i32_w]; rw [c11b0]) | skip)
       replace H := Option.bind_eq_some_iff.mp H
       obtain ⟨t213, A120, H⟩ := H
       replace H : ((spec_l5Wrapped.f t206 x6_1 t213).bind fun t214 => (spec_l5Nest.j1 k1 t206 t207 x5_1 x6_1 t211 t214)) = some r := H
       have A12 := Aside0.mk A120
       clear A120
       replace H := Option.bind_eq_some_iff.mp H
       obtain ⟨t214, A130, H⟩ := H
       replace H : (spec_l5Nest.j1 k1 t206 t207 x5_1 x6_1 t211 t214) = some r := H
       have A13 := Aside0.mk A130
       clear A130
       have H' := Aside0.mk H
       clear H
       have p212 : 0 ≤ (x6_1 : Int) := of_decide_eq_true (by first | (with_reducible assumption) | assumption)
       have q212 : x6_1 < (t207.length : Int) := of_decide_eq_true (by first | (with_reducible assumption) | assumption)
       obtain ⟨ad212, A212_0, c212_0, e212, hx212_0, hl212_0, hi212_0⟩ := at_L7 (Kd.N_reads' HO_4.out).2.2 x6_1 p212 q212
       obtain rfl : ad210 = ad212 := (by injection e212)
       obtain ⟨ce212, hce212, hMe212, hcc212⟩ := Kd.N_get HO_4.out [] x6_1 p212 (by first | exact q212 | exact of_decide_eq_true (by first | (with_reducible assumption) | assumption) | (have e_ := (Kd.N_reads' HO_4.out).1; omega))
       obtain ⟨ua212_0, uc212_0, rfl, ul212_0, ge212_0⟩ := Kd.FK_slice_open hMe212
       have hv212_0 := hcc212 0 _ rfl
       rw [Nat.add_zero, show ((Kd.slice 63 k63)).sz = 1 from rfl, Nat.mul_one] at hv212_0
       replace hv212_0 := Option.some.inj (hv212_0.symm.trans hx212_0)
       injection hv212_0 with hva_ hvn_ hvc_
       rw [hva_] at ge212_0
       rw [hvc_] at ul212_0
       have HL212_0 := Aside0.mk (show Kd.V k63 63 _ w.heap.size _ _ (rd_L7 t207 x6_1) from Kd.V_mk ul212_0 ge212_0)
       clear hva_ hvn_ hvc_ ge212_0 ul212_0
       clear hcc212 hce212
       have HR212_0 := Aside0.mk hi212_0
       have HC212_0 := Aside0.mk hl212_0
       clear hi212_0 hl212_0
       replace p212 := eq_true p212
       replace q212 := eq_true q212
       go_wp2_with (first | (go_at_call 44; (with_reducible refine (spec_l5Top.calls _ _ (rd_L7 t207 x6_1) t213 _ ?side1 ?side2 A12.out).mono ?_); (case side1 => repeat (first | exact (by repeat (first | (with_reducible exact HR212_0.out) | (with_reducible refine Kd.C_alloc ?_ _) | (with_reducible refine Kd.C_drewN ?_ _) | (with_reducible refine Kd.C_drew ?_) | exact HR212_0.out)) | (with_reducible refine Kd.C_alloc ?_ _) | (with_reducible refine Kd.C_drewN ?_ _) | (with_reducible refine Kd.C_drew ?_))); (case side2 => exact HC212_0.out); rintro e w' ⟨rfl, ⟨nd, rfl⟩⟩) | (go_at_call 73; (with_reducible refine (spec_l5Wrapped.calls t206 x6_1 t213 t214 _ A13.out).mono ?_); rintro e w' ⟨rfl, ⟨nd, rfl⟩⟩))
       go_meet
       case rel => exact ⟨_, (t214), (by first | rfl | (simp; done) | (simp [*]; done)), H', ⟨by have := HK1.out; first | omega | exact Nat.le_refl _⟩, ⟨by (with_reducible repeat (first | apply Kd.N_alloc | apply Kd.N_drewN | apply Kd.N_drew)); exact HO_4.out⟩, ⟨by repeat (first | (with_reducible exact HR210_0.out) | (with_reducible refine Kd.C_alloc ?_ _) | (with_reducible refine Kd.C_drewN ?_ _) | (with_reducible refine Kd.C_drew ?_) | exact HR210_0.out)⟩, ⟨bw⟩⟩
     case rest =>
      clear HC8
      try clear c1
      try clear c2
      try clear p2
      try clear q2
      try clear hx2
      try clear c4
      try clear c5
      try clear c5b0
      try clear c6
      try clear c6b0
      try clear c11
      try clear c11b0
      try clear c11b1
      try clear hx210_0
      try clear hx212_0
      try clear p2
      try clear p210
      try clear p212
      try clear q210
      try clear q212
      obtain ⟨kq, x34_7, rfl, HA, HJ7, HO_4, HR210_0, HB⟩ := hcut
      cases kq with
      | zero => exact absurd HA.out (by simp [spec_l5Nest.j1])
      | succ kj7 =>
       have H := HA.out
       clear HA
       simp only [spec_l5Nest.j1] at H
       have HC14 := Aside0.mk H
       clear H
       go_upto_if 34 with (fail)
       go_cut [7] (fun v7 wc => ∃ (kq : Nat) (x7_13 : Int), v7 = .int .i64 x7_13 ∧ Aside0 (spec_l5Nest.j2 kq t206 t207 x5_1 x6_1 x7_13 = some r) ∧ Aside0 (kq ≤ kj7) ∧ Aside0 (Kd.N (Kd.slice 63 k63) 26 wc w.heap.size (fun _ => True) (.slice (some ad210) t207.length co9) t207) ∧ Aside0 (Kd.C k63 wc A210_0 (rd_L7 t207 x6_1).length (rd_L7 t207 x6_1)) ∧ Aside0 (Below w.heap.size w wc))
       case first =>
        have H := HC14.out
        clear HC14
        by_cases c15 : x34_7 = true
        ·subst c15
         have H1 : (spec_l5Nest.j2 kj7 t206 t207 x5_1 x6_1 (wrap64 (t211 + 1))) = some r := by rw [if_pos rfl] at H; exact H
         clear H
         have H := H1
         clear H1
         have H' := Aside0.mk H
         clear H
         go_wp2
         go_meet
         case rel => exact ⟨_, (wrap64 (t211 + 1)), (by first | rfl | (simp; done) | (simp [*]; done)), H', ⟨by have := HK1.out; have := HJ7.out; first | omega | exact Nat.le_refl _⟩, ⟨by (with_reducible repeat (first | apply Kd.N_alloc | apply Kd.N_drewN | apply Kd.N_drew)); exact HO_4.out⟩, ⟨by repeat (first | (with_reducible exact HR210_0.out) | (with_reducible refine Kd.C_alloc ?_ _) | (with_reducible refine Kd.C_drewN ?_ _) | (with_reducible refine Kd.C_drew ?_) | exact HR210_0.out)⟩, ⟨bw⟩⟩
        ·replace c15 := Bool.eq_false_iff.mpr c15
         subst c15
         have H1 : (spec_l5Nest.j2 kj7 t206 t207 x5_1 x6_1 t211) = some r := by rw [if_neg (show ¬ (false = true) by decide)] at H; exact H
         clear H
         have H := H1
         clear H1
         have H' := Aside0.mk H
         clear H
         go_wp2
         go_meet
         case rel => exact ⟨_, (t211), (by first | rfl | (simp; done) | (simp [*]; done)), H', ⟨by have := HK1.out; have := HJ7.out; first | omega | exact Nat.le_refl _⟩, ⟨by (with_reducible repeat (first | apply Kd.N_alloc | apply Kd.N_drewN | apply Kd.N_drew)); exact HO_4.out⟩, ⟨by repeat (first | (with_reducible exact HR210_0.out) | (with_reducible refine Kd.C_alloc ?_ _) | (with_reducible refine Kd.C_drewN ?_ _) | (with_reducible refine Kd.C_drew ?_) | exact HR210_0.out)⟩, ⟨bw⟩⟩
       case rest =>
        clear HC14
        try clear c1
        try clear c2
        try clear p2
        try clear q2
        try clear hx2
        try clear c4
        try clear c5
        try clear c5b0
        try clear c6
        try clear c6b0
        try clear p6
        try clear c11
        try clear c11b0
        try clear c11b1
        try clear c15
        try clear hx210_0
        try clear hx212_0
        try clear p2
        try clear p210
        try clear p212
        try clear q2
        try clear q210
        try clear q212
        obtain ⟨kq, x7_13, rfl, HA, HJ13, HO_4, HR210_0, HB⟩ := hcut
        cases kq with
        | zero => exact absurd HA.out (by simp [spec_l5Nest.j2])
        | succ kj13 =>
         have H := HA.out
         clear HA
         simp only [spec_l5Nest.j2] at H
         by_cases c16 : x7_13 > x5_1
         ·rw [if_pos c16] at H
          have c16b0 : decide (x5_1 < x7_13) = true := decide_eq_true c16
          clear c16
          have H' := Aside0.mk H
          clear H
          go_wp2
          go_roundg kj13
          case measure => have := HK1.out; have := HJ7.out; have := HJ13.out; omega
          case rel => exact ⟨(x7_13), (wrap64 (x6_1 + 1)), (by first | rfl | (simp; done) | (simp [*]; done)), (by first | rfl | (simp; done) | (simp [*]; done)), H', ⟨by have := HK1.out; have := HJ7.out; have := HJ13.out; omega⟩, ⟨by (with_reducible repeat (first | apply Kd.N_alloc | apply Kd.N_drewN | apply Kd.N_drew)); exact HO_4.out⟩, ⟨bw⟩⟩
         ·rw [if_neg c16] at H
          have c16b0 : decide (x5_1 < x7_13) = false := decide_eq_false c16
          clear c16
          have H' := Aside0.mk H
          clear H
          go_wp2
          go_roundg kj13
          case measure => have := HK1.out; have := HJ7.out; have := HJ13.out; omega
          case rel => exact ⟨(x5_1), (wrap64 (x6_1 + 1)), (by first | rfl | (simp; done) | (simp [*]; done)), (by first | rfl | (simp; done) | (simp [*]; done)), H', ⟨by have := HK1.out; have := HJ7.out; have := HJ13.out; omega⟩, ⟨by (with_reducible repeat (first | apply Kd.N_alloc | apply Kd.N_drewN | apply Kd.N_drew)); exact HO_4.out⟩, ⟨bw⟩⟩
    ·rw [if_neg c6] at H
     exact absurd H (by simp)
   ·rw [if_neg c5] at H
    have c5b0 : decide (x6_1 < (t207.length : Int)) = false := decide_eq_false c5
    clear c5
    obtain rfl := Option.some.inj H
    obtain ⟨Ao17, co17, eo17⟩ := Kd.N_slice HO_4.out
    subst eo17
    go_wp2
    go_ret
    exact ⟨by first | rfl | (simp [errW_none, errW_some] <;> rfl) | (simp [*, errW_none, errW_some] <;> rfl), bw⟩

end Go.Proofs.Ytpfehkkfakofaaa.Q

namespace Go.Proofs.Ytpfehkkfakofaaa.Q
open Go.RowKit Go.Proofs.YtpfehkkfakofaaaW.PrintWords Go.Proofs.YtpfehkkfakofaaaW.PrintLast Go.Proofs.YtpfehkkfakofaaaW.PrintMore
set_option linter.unusedVariables false
set_option linter.unusedSimpArgs false

/-! ### spec_ValidFilter: function 18 -/
def spec_ValidFilter.l0 : Nat → Int → List (S63) → Option (Bool)
 | 0, _, _ => none
 | k + 1, x3, x216000 => if x3 < (x216000.length : Int) then (if 0 ≤ x3 then ((spec_l5GoodNode.f k ((rd_T63 x216000 x3).f0) ((rd_T63 x216000 x3).f1) ((rd_T63 x216000 x3).f2) ((rd_T63 x216000 x3).f3) ((rd_T63 x216000 x3).f4) ((rd_T63 x216000 x3).f5) ((rd_T63 x216000 x3).f6)).bind fun t217 => (if t217 = true then (spec_ValidFilter.l0 k (wrap64 (x3 + 1)) x216000) else (some false))) else (none)) else ((spec_l5Tree.f k x216000).bind fun t218 => (if t218 = true then ((spec_l5Nest.f k x216000).bind fun t219 => (some (decide (t219 ≤ 20)))) else (some false)))
def spec_ValidFilter.f (k : Nat) (l0_0 : List (S63)) : Option (Bool) := if (l0_0.length : Int) > 200 then (some false) else (spec_ValidFilter.l0 k 0 l0_0)
set_option maxHeartbeats 8000000 in
set_option maxRecDepth 100000 in
theorem spec_ValidFilter.calls (k : Nat) (A0_0 : Option Addr) (c0_0 : Nat) (l0_0 : List (S63)) (r : Bool) (w : World) (hr0_0 : Kd.C k63 w A0_0 l0_0.length l0_0) (hc0_0 : l0_0.length ≤ c0_0) (h : spec_ValidFilter.f k l0_0 = some r) :
  Calls Try.prog 18 #[.agg #[.slice A0_0 l0_0.length c0_0]] w fun e w' => e = .returned (.bool r) ∧ Below w.heap.size w w' := by
 have hu28 := Try.underlying28
 have hu63 := Try.underlying63
 have HR0_0 := Aside0.mk hr0_0
 have HC0_0 := Aside0.mk hc0_0
 clear hr0_0 hc0_0
 have HB := Aside0.mk (Below.refl w.heap.size w)
 have H : (if (l0_0.length : Int) > 200 then (some false) else (spec_ValidFilter.l0 k 0 l0_0)) = some r := h
 clear h
 by_cases c2 : (l0_0.length : Int) > 200
 ·rw [if_pos c2] at H
  have c2b0 : decide (200 < (l0_0.length : Int)) = true := decide_eq_true c2
  have c2b1 : decide (200 < l0_0.length) = true := decide_eq_true (by omega)
  clear c2
  obtain rfl := Option.some.inj H
  go_enter Try.func18, Try.ntmps18
  go_wp2_with (first | ((with_reducible refine gate_dst (N := 1) rfl ?_); refine box_event ?hg (N := 1) ?hd (cs := #[.slice A0_0 l0_0.length c0_0]) (t := 28) ?hr ?_; (case hd => rfl); (case hg => rfl); (case hr => first | (go_simp; done) | (go_simp; rfl)); intro gb215 hg w3 hbox hb; have n0_ := Aside0.mk (below_step bw hb); have n1_ := Aside0.mk (hbox); have n2_ := Aside0.mk ((by rw [hg]; exact (below_size bw) : w.heap.size ≤ gb215)); have n3_ := Aside0.mk ((by rw [hg]; exact (below_size bw) : w.heap.size ≤ gb215)); clear HB; have HB := n0_; have BK215 := n1_; have GW215 := n2_; have GE215 := n3_; clear n0_ n1_ n2_ n3_; clear hb hbox hg; have hcz4_0 : w3.cell? ⟨gb215, 0, none⟩ = some (.slice A0_0 l0_0.length c0_0) := (blk_cell BK215.out 0).trans rfl; have hfz4_0 := blk_frozen BK215.out 0))
  go_ret
  exact ⟨by first | rfl | (simp [errW_none, errW_some] <;> rfl) | (simp [*, errW_none, errW_some] <;> rfl), bw⟩
 ·rw [if_neg c2] at H
  have c2b0 : decide (200 < (l0_0.length : Int)) = false := decide_eq_false c2
  have c2b1 : decide (200 < l0_0.length) = false := decide_eq_false (by omega)
  clear c2
  have H' := Aside0.mk H
  clear H
  go_enter Try.func18, Try.ntmps18
  go_wp2_with (first | ((with_reducible refine gate_dst (N := 1) rfl ?_); refine box_event ?hg (N := 1) ?hd (cs := #[.slice A0_0 l0_0.length c0_0]) (t := 28) ?hr ?_; (case hd => rfl); (case hg => rfl); (case hr => first | (go_simp; done) | (go_simp; rfl)); intro gb215 hg w5 hbox hb; have n0_ := Aside0.mk (below_step bw hb); have n1_ := Aside0.mk (hbox); have n2_ := Aside0.mk ((by rw [hg]; exact (below_size bw) : w.heap.size ≤ gb215)); have n3_ := Aside0.mk ((by rw [hg]; exact (below_size bw) : w.heap.size ≤ gb215)); clear HB; have HB := n0_; have BK215 := n1_; have GW215 := n2_; have GE215 := n3_; clear n0_ n1_ n2_ n3_; clear hb hbox hg; have hcz6_0 : w5.cell? ⟨gb215, 0, none⟩ = some (.slice A0_0 l0_0.length c0_0) := (blk_cell BK215.out 0).trans rfl; have hfz6_0 := blk_frozen BK215.out 0))
  go_loopg [3] k (fun kq v3 w' => ∃ (x3_1 : Int), v3 = .int .i64 x3_1 ∧ Aside0 (spec_ValidFilter.l0 kq x3_1 l0_0 = some r) ∧ Aside0 (kq ≤ k) ∧ Aside0 (w'.heap[gb215]? = some (.cells #[(.slice A0_0 l0_0.length c0_0)] 28 (0, 0))) ∧ Aside0 (Below w.heap.size w w'))
  case atStart => exact ⟨(0), (by first | rfl | (simp; done) | (simp [*]; done)), H', ⟨Nat.le_refl _⟩, ⟨lb BK215⟩, ⟨bw⟩⟩
  case round =>
   clear H'
   try clear c1
   try clear c2
   try clear c2b0
   try clear c2b1
   try clear p2
   try clear hcz4_0
   try clear hcz6_0
   try clear hfz4_0
   try clear hfz6_0
   obtain ⟨x3_1, rfl, HA, HK1, BK215, HB⟩ := hrel
   cases gk with
   | zero => exact absurd HA.out (by simp [spec_ValidFilter.l0])
   | succ k1 =>
    have H := HA.out
    clear HA
    simp only [spec_ValidFilter.l0] at H
    by_cases c7 : x3_1 < (l0_0.length : Int)
    ·rw [if_pos c7] at H
     have c7b0 : decide (x3_1 < (l0_0.length : Int)) = true := decide_eq_true c7
     clear c7
     by_cases c8 : 0 ≤ x3_1
     ·rw [if_pos c8] at H
      have c8b0 : decide (0 ≤ x3_1) = true := decide_eq_true c8
      clear c8
      replace H := Option.bind_eq_some_iff.mp H
      obtain ⟨t217, A90, H⟩ := H
      replace H : (if t217 = true then (spec_ValidFilter.l0 k1 (wrap64 (x3_1 + 1)) l0_0) else (some false)) = some r := H
      have A9 := Aside0.mk A90
      clear A90
      by_cases c10 : t217 = true
      ·subst c10
       have H1 : (spec_ValidFilter.l0 k1 (wrap64 (x3_1 + 1)) l0_0) = some r := by rw [if_pos rfl] at H; exact H
       clear H
       have H := H1
       clear H1
       have H' := Aside0.mk H
       clear H
       have hcz11_0 : wr.cell? ⟨gb215, 0, none⟩ = some (.slice A0_0 l0_0.length c0_0) := (blk_cell BK215.out 0).trans rfl
       have hfz11_0 := blk_frozen BK215.out 0
       have p216 : 0 ≤ (x3_1 : Int) := of_decide_eq_true (by first | (with_reducible assumption) | assumption)
       have q216 : x3_1 < (l0_0.length : Int) := of_decide_eq_true (by first | (with_reducible assumption) | assumption)
       obtain ⟨ad216, e216, hx216_0, hx216_1, hx216_2, hx216_3, hx216_4, hx216_5, hx216_6⟩ := at_T63 HR0_0.out x3_1 p216 q216
       cases e216
       replace hx216_0 := (HB.out.cell (World.block_lt_of_cell? w _ hx216_0)).trans hx216_0
       replace hx216_1 := (HB.out.cell (World.block_lt_of_cell? w _ hx216_1)).trans hx216_1
       replace hx216_2 := (HB.out.cell (World.block_lt_of_cell? w _ hx216_2)).trans hx216_2
       replace hx216_3 := (HB.out.cell (World.block_lt_of_cell? w _ hx216_3)).trans hx216_3
       replace hx216_4 := (HB.out.cell (World.block_lt_of_cell? w _ hx216_4)).trans hx216_4
       replace hx216_5 := (HB.out.cell (World.block_lt_of_cell? w _ hx216_5)).trans hx216_5
       replace hx216_6 := (HB.out.cell (World.block_lt_of_cell? w _ hx216_6)).trans hx216_6
       replace p216 := eq_true p216
       replace q216 := eq_true q216
       go_wp2_with (first | ((with_reducible refine at_fn (f := 40) rfl ?_); refine goesL_ (some 20) rfl rfl Try.func40 (by kernel_rfl) rfl #[.agg #[.int .i64 ((rd_T63 l0_0 x3_1).f0), .string ((rd_T63 l0_0 x3_1).f1), .bool ((rd_T63 l0_0 x3_1).f2), .string ((rd_T63 l0_0 x3_1).f3), .int .u64 ((rd_T63 l0_0 x3_1).f4), .int .u64 ((rd_T63 l0_0 x3_1).f5), .int .i64 ((rd_T63 l0_0 x3_1).f6)]] rfl (by (try simp only [List.map_toArray, List.map_cons, List.map_nil]); first | done | rfl | (simp only [List.length_drop, List.length_take]; rfl)) ?_; (with_reducible refine (spec_l5GoodNode.calls k1 ((rd_T63 l0_0 x3_1).f0) ((rd_T63 l0_0 x3_1).f1) ((rd_T63 l0_0 x3_1).f2) ((rd_T63 l0_0 x3_1).f3) ((rd_T63 l0_0 x3_1).f4) ((rd_T63 l0_0 x3_1).f5) ((rd_T63 l0_0 x3_1).f6) true _ A9.out).mono ?_); rintro e w12 ⟨rfl, hb⟩; refine ⟨_, rfl, ?_⟩; have n0_ := Aside0.mk (blk_below (g := gb215) (o := .cells #[.slice (some ad216) l0_0.length c0_0] 28 (0, 0)) (lb BK215) hb); have n1_ := Aside0.mk (below_step bw hb); clear BK215; clear HB; have BK215 := n0_; have HB := n1_; clear n0_ n1_; (try clear hb); (try clear hb2); (try clear hk); (try clear hi)))
       go_roundg k1
       case measure => have := HK1.out; omega
       case rel => exact ⟨(wrap64 (x3_1 + 1)), (by first | rfl | (simp; done) | (simp [*]; done)), H', ⟨by have := HK1.out; omega⟩, ⟨lb BK215⟩, ⟨bw⟩⟩
      ·replace c10 := Bool.eq_false_iff.mpr c10
       subst c10
       have H1 : (some false) = some r := by rw [if_neg (show ¬ (false = true) by decide)] at H; exact H
       clear H
       have H := H1
       clear H1
       obtain rfl := Option.some.inj H
       have hcz13_0 : wr.cell? ⟨gb215, 0, none⟩ = some (.slice A0_0 l0_0.length c0_0) := (blk_cell BK215.out 0).trans rfl
       have hfz13_0 := blk_frozen BK215.out 0
       have p216 : 0 ≤ (x3_1 : Int) := of_decide_eq_true (by first | (with_reducible assumption) | assumption)
       have q216 : x3_1 < (l0_0.length : Int) := of_decide_eq_true (by first | (with_reducible assumption) | assumption)
       obtain ⟨ad216, e216, hx216_0, hx216_1, hx216_2, hx216_3, hx216_4, hx216_5, hx216_6⟩ := at_T63 HR0_0.out x3_1 p216 q216
       cases e216
       replace hx216_0 := (HB.out.cell (World.block_lt_of_cell? w _ hx216_0)).trans hx216_0
       replace hx216_1 := (HB.out.cell (World.block_lt_of_cell? w _ hx216_1)).trans hx216_1
       replace hx216_2 := (HB.out.cell (World.block_lt_of_cell? w _ hx216_2)).trans hx216_2
       replace hx216_3 := (HB.out.cell (World.block_lt_of_cell? w _ hx216_3)).trans hx216_3
       replace hx216_4 := (HB.out.cell (World.block_lt_of_cell? w _ hx216_4)).trans hx216_4
       replace hx216_5 := (HB.out.cell (World.block_lt_of_cell? w _ hx216_5)).trans hx216_5
       replace hx216_6 := (HB.out.cell (World.block_lt_of_cell? w _ hx216_6)).trans hx216_6
       replace p216 := eq_true p216
       replace q216 := eq_true q216
       go_wp2_with (first | ((with_reducible refine at_fn (f := 40) rfl ?_); refine goesL_ (some 20) rfl rfl Try.func40 (by kernel_rfl) rfl #[.agg #[.int .i64 ((rd_T63 l0_0 x3_1).f0), .string ((rd_T63 l0_0 x3_1).f1), .bool ((rd_T63 l0_0 x3_1).f2), .string ((rd_T63 l0_0 x3_1).f3), .int .u64 ((rd_T63 l0_0 x3_1).f4), .int .u64 ((rd_T63 l0_0 x3_1).f5), .int .i64 ((rd_T63 l0_0 x3_1).f6)]] rfl (by (try simp only [List.map_toArray, List.map_cons, List.map_nil]); first | done | rfl | (simp only [List.length_drop, List.length_take]; rfl)) ?_; (with_reducible refine (spec_l5GoodNode.calls k1 ((rd_T63 l0_0 x3_1).f0) ((rd_T63 l0_0 x3_1).f1) ((rd_T63 l0_0 x3_1).f2) ((rd_T63 l0_0 x3_1).f3) ((rd_T63 l0_0 x3_1).f4) ((rd_T63 l0_0 x3_1).f5) ((rd_T63 l0_0 x3_1).f6) false _ A9.out).mono ?_); rintro e w14 ⟨rfl, hb⟩; refine ⟨_, rfl, ?_⟩; have n0_ := Aside0.mk (blk_below (g := gb215) (o := .cells #[.slice (some ad216) l0_0.length c0_0] 28 (0, 0)) (lb BK215) hb); have n1_ := Aside0.mk (below_step bw hb); clear BK215; clear HB; have BK215 := n0_; have HB := n1_; clear n0_ n1_; (try clear hb); (try clear hb2); (try clear hk); (try clear hi)))
       go_ret
       exact ⟨by first | rfl | (simp [errW_none, errW_some] <;> rfl) | (simp [*, errW_none, errW_some] <;> rfl), bw⟩
     ·rw [if_neg c8] at H
      exact absurd H (by simp)
    ·rw [if_neg c7] at H
     have c7b0 : decide (x3_1 < (l0_0.length : Int)) = false := decide_eq_false c7
     clear c7
     replace H := Option.bind_eq_some_iff.mp H
     obtain ⟨t218, A150, H⟩ := H
     replace H : (if t218 = true then ((spec_l5Nest.f k1 l0_0).bind fun t219 => (some (decide (t219 ≤ 20)))) else (some false)) = some r := H
     have A15 := Aside0.mk A150
     clear A150
     by_cases c16 : t218 = true
     ·subst c16
      have H1 : ((spec_l5Nest.f k1 l0_0).bind fun t219 => (some (decide (t219 ≤ 20)))) = some r := by rw [if_pos rfl] at H; exact H
      clear H
      have H := H1
      clear H1
      replace H := Option.bind_eq_some_iff.mp H
      obtain ⟨t219, A170, H⟩ := H
      replace H : (some (decide (t219 ≤ 20))) = some r := H
      have A17 := Aside0.mk A170
      clear A170
      obtain rfl := Option.some.inj H
      have hcz18_0 : wr.cell? ⟨gb215, 0, none⟩ = some (.slice A0_0 l0_0.length c0_0) := (blk_cell BK215.out 0).trans rfl
      have hfz18_0 := blk_frozen BK215.out 0
      go_wp2_with (first | ((with_reducible refine at_fn (f := 41) rfl ?_); refine goesL_ (some 24) rfl rfl Try.func41 (by kernel_rfl) rfl #[.slice A0_0 l0_0.length c0_0] rfl (by (try simp only [List.map_toArray, List.map_cons, List.map_nil]); first | done | rfl | (simp only [List.length_drop, List.length_take]; rfl)) ?_; (with_reducible refine (spec_l5Tree.calls k1 _ _ l0_0 true _ ?side1 ?side2 A15.out).mono ?_); (case side1 => repeat (first | exact (Kd.C_below HR0_0.out HB.out) | (with_reducible refine Kd.C_alloc ?_ _) | (with_reducible refine Kd.C_drewN ?_ _) | (with_reducible refine Kd.C_drew ?_))); (case side2 => exact HC0_0.out); rintro e w' ⟨rfl, ⟨nd, rfl⟩⟩; refine ⟨_, rfl, ?_⟩) | (go_at_call 42; (with_reducible refine (spec_l5Nest.calls k1 _ _ l0_0 t219 _ ?side1 ?side2 A17.out).mono ?_); (case side1 => repeat (first | exact (Kd.C_below HR0_0.out bw) | (with_reducible refine Kd.C_alloc ?_ _) | (with_reducible refine Kd.C_drewN ?_ _) | (with_reducible refine Kd.C_drew ?_))); (case side2 => exact HC0_0.out); rintro e w19 ⟨rfl, hb⟩; have n0_ := Aside0.mk (blk_below (g := gb215) (o := .cells #[.slice A0_0 l0_0.length c0_0] 28 (0, 0)) (lb BK215) hb); have n1_ := Aside0.mk (below_step bw hb); clear BK215; clear HB; have BK215 := n0_; have HB := n1_; clear n0_ n1_; (try clear hb); (try clear hb2); (try clear hk); (try clear hi)))
      go_ret
      exact ⟨by first | rfl | (simp [errW_none, errW_some] <;> rfl) | (simp [*, errW_none, errW_some] <;> rfl), bw⟩
     ·replace c16 := Bool.eq_false_iff.mpr c16
      subst c16
      have H1 : (some false) = some r := by rw [if_neg (show ¬ (false = true) by decide)] at H; exact H
      clear H
      have H := H1
      clear H1
      obtain rfl := Option.some.inj H
      have hcz20_0 : wr.cell? ⟨gb215, 0, none⟩ = some (.slice A0_0 l0_0.length c0_0) := (blk_cell BK215.out 0).trans rfl
      have hfz20_0 := blk_frozen BK215.out 0
      go_wp2_with (first | ((with_reducible refine at_fn (f := 41) rfl ?_); refine goesL_ (some 24) rfl rfl Try.func41 (by kernel_rfl) rfl #[.slice A0_0 l0_0.length c0_0] rfl (by (try simp only [List.map_toArray, List.map_cons, List.map_nil]); first | done | rfl | (simp only [List.length_drop, List.length_take]; rfl)) ?_; (with_reducible refine (spec_l5Tree.calls k1 _ _ l0_0 false _ ?side1 ?side2 A15.out).mono ?_); (case side1 => repeat (first | exact (Kd.C_below HR0_0.out HB.out) | (with_reducible refine Kd.C_alloc ?_ _) | (with_reducible refine Kd.C_drewN ?_ _) | (with_reducible refine Kd.C_drew ?_))); (case side2 => exact HC0_0.out); rintro e w' ⟨rfl, ⟨nd, rfl⟩⟩; refine ⟨_, rfl, ?_⟩))
      go_ret
      exact ⟨by first | rfl | (simp [errW_none, errW_some] <;> rfl) | (simp [*, errW_none, errW_some] <;> rfl), bw⟩

end Go.Proofs.Ytpfehkkfakofaaa.Q

namespace Go.Proofs.Ytpfehkkfakofaaa.Q
open Go.RowKit Go.Proofs.YtpfehkkfakofaaaW.PrintWords Go.Proofs.YtpfehkkfakofaaaW.PrintLast Go.Proofs.YtpfehkkfakofaaaW.PrintMore
set_option linter.unusedVariables false
set_option linter.unusedSimpArgs false
def strT (a : Int) : Int := if a = 15 then 1 else if a = 14 then 2 else 3
def wrapB (op : Int) (i : Int) (kid : Int) : Bool := if op = 16 then false else if i = 0 then decide (strT kid < strT op) else decide (strT kid ≤ strT op)
mutual
def nestT : Tr → Int
  | .node n ks => nestTs n.f0 0 0 ks
def nestTs (op : Int) (i : Nat) (most : Int) : List Tr → Int
  | [] => most
  | t :: ts => nestTs op (i + 1) (max most (nestT t + if op = 16 ∨ wrapB op i t.top.f0 = true then 1 else 0)) ts
end
mutual
theorem nestT_le : ∀ t : Tr, 0 ≤ nestT t ∧ nestT t + 1 ≤ (flatT t).length
  | .node n ks => by
    have h := nestTs_le ks n.f0 0 0 (Int.le_refl _)
    simp only [nestT, flatT, List.length_append, List.length_cons, List.length_nil]
    omega
theorem nestTs_le : ∀ (ts : List Tr) (op : Int) (i : Nat) (most : Int), 0 ≤ most → 0 ≤ nestTs op i most ts ∧ nestTs op i most ts ≤ max most ((flatTs ts).length : Int)
  | [], op, i, most, h => by simp only [nestTs, flatTs, List.length_nil]; omega
  | t :: ts, op, i, most, h => by
    have h1 := nestT_le t
    have h2 := nestTs_le ts op (i + 1) (max most (nestT t + if op = 16 ∨ wrapB op i t.top.f0 = true then 1 else 0)) (by omega)
    simp only [nestTs, flatTs, List.length_append]
    split at h2 <;> (rename_i hc; simp only [hc, if_true, if_false]; omega)
end
/-! where the last tree begins -/
theorem from_loop (ns : List S63) (hn : ns.length ≤ 4611686018427387904) : ∀ (i : Nat) (need : Int), i ≤ ns.length → 0 ≤ need → need + 3 * i ≤ 4611686018427387904 → Ev (fun k => spec_l5From.l0 k ns need i) (scanN need (ns.take i).reverse)
  | 0, need, hi, h0, h1 => by
    by_cases h : need > 0
    · refine Ev.shift 1 fun k => ?_
      simp only [spec_l5From.l0]
      rw [if_pos h, wrap_id _ (by omega) (by omega), if_pos (by omega)]
      simp [scanN, h]
    · refine Ev.shift 1 fun k => ?_
      simp only [spec_l5From.l0]
      rw [if_neg h]
      simp [scanN, h]
  | i + 1, need, hi, h0, h1 => by
    have hlt : i < ns.length := by omega
    by_cases h : need > 0
    · have ht : (ns.take (i + 1)).reverse = ns[i] :: (ns.take i).reverse := by
        rw [List.take_succ_eq_append_getElem hlt]; simp
      have ha := arB_nn ns[i].f0
      have hb := arB_le ns[i].f0
      rw [ht]
      unfold scanN
      rw [if_pos h]
      have ih := from_loop ns hn i (need - 1 + arB ns[i].f0) (by omega) (by omega) (by omega)
      refine Ev.round (f := fun k => (spec_l5Arity.f k ns[i].f0).bind fun a => spec_l5From.l0 k ns (wrap64 ((wrap64 (need - 1)) + a)) i) (fun k => ?_) (Ev.bind (a := arB ns[i].f0) (Ev.shift 1 fun k => ar_spec _ k) ?_)
      · simp only [spec_l5From.l0]
        have e : wrap64 (((i + 1 : Nat) : Int) - 1) = (i : Int) := by rw [wrap_id _ (by omega) (by omega)]; omega
        have hr : rd_T63 ns (i : Int) = ns[i] := by unfold rd_T63; rw [Int.toNat_natCast]; simp [hlt]
        rw [if_pos h, e, if_neg (by omega), if_pos (by omega), if_pos (by omega), hr]
      · rw [wrap_id (need - 1) (by omega) (by omega), wrap_id _ (by omega) (by omega)]
        exact ih
    · refine Ev.shift 1 fun k => ?_
      simp only [spec_l5From.l0]
      rw [if_neg h]
      have : (ns.take (i + 1)).reverse ≠ [] := by simp; intro h; rw [h] at hlt; simp at hlt
      rcases hq : (ns.take (i + 1)).reverse with _ | ⟨x, r⟩
      · exact absurd hq this
      · have hl : (x :: r).length = i + 1 := by rw [← hq, List.length_reverse, List.length_take]; omega
        unfold scanN; rw [if_neg h, hl]
theorem from_is (ns : List S63) (hn : ns.length ≤ 1000000) : Ev (fun k => spec_l5From.f k ns) (scanN 1 ns.reverse) := by
  have h := from_loop ns (by omega) ns.length 1 (Nat.le_refl _) (by omega) (by omega)
  rw [List.take_length] at h
  exact h
theorem from_last (i : List Tr) (t : Tr) (hw : wfTs i ∧ wfT t) : scanN 1 (flatTs i ++ flatT t).reverse = ((flatTs i).length : Int) := by
  rw [List.reverse_append, scanN_T t 1 _ hw.2 (by omega), show (1 : Int) - 1 = 0 from rfl, scanN_zero]
  simp
/-! the operands -/
theorem kids_loop : ∀ (i r : List Tr), wfTs i → (flatTs i).length ≤ 1000000 → i.length + r.length ≤ 3 → Ev (fun k => spec_l5Kids.l0 k (flatTs i) (r.map flatT) i.length) ((i ++ r).map flatT) := by
  intro i
  induction hl : i.length generalizing i with
  | zero =>
    intro r hw hn hr
    obtain rfl := List.eq_nil_of_length_eq_zero hl
    refine Ev.shift 1 fun k => ?_
    simp [spec_l5Kids.l0]
  | succ m ih =>
    intro r hw hn hr
    rcases List.eq_nil_or_concat i with rfl | ⟨j, t, rfl⟩
    · simp at hl
    rw [List.concat_eq_append] at hl hw hn ⊢
    rw [wfTs_app] at hw
    have hj : j.length = m := by simp at hl; omega
    have e : flatTs (j ++ [t]) = flatTs j ++ flatT t := by rw [flatTs_app]; simp [flatTs]
    rw [e] at hn ⊢
    rw [List.length_append] at hn
    have hf := from_is (flatTs j ++ flatT t) (by rw [List.length_append]; omega)
    rw [from_last j t ⟨hw.1, hw.2.1⟩] at hf
    have hr3 : m + (t :: r).length ≤ 3 := by simp; omega
    · have h := ih j hj (t :: r) hw.1 (by omega) hr3
      rw [List.append_assoc, List.singleton_append]
      refine Ev.round (f := fun k => (spec_l5From.f k (flatTs j ++ flatT t)).bind fun q => if 0 ≤ q then (if q ≤ ((flatTs j ++ flatT t).length : Int) then spec_l5Kids.l0 k ((flatTs j ++ flatT t).take q.toNat) ([(flatTs j ++ flatT t).drop q.toNat] ++ r.map flatT) (m : Int) else none) else none) (fun k => ?_) (Ev.bind hf ?_)
      · simp only [spec_l5Kids.l0]
        have e2 : wrap64 (((m + 1 : Nat) : Int) - 1) = (m : Int) := by rw [wrap_id _ (by simp at hr3; omega) (by simp at hr3; omega)]; omega
        rw [if_pos (by omega), e2]
        simp only [Option.bind_some]
        congr 1; funext q
        rw [if_pos (show (([(flatTs j ++ flatT t).drop q.toNat] : List (List S63)).length + (r.map flatT).length < 5864062014805) from by simp; omega)]
      · refine Ev.if_pos (by omega) (Ev.if_pos (by rw [List.length_append]; omega) ?_)
        rw [Int.toNat_natCast, List.take_left, List.drop_left]
        exact h
theorem kids_is (n : S63) (ks : List Tr) (hw : wfT (.node n ks)) (hn : (flatT (.node n ks)).length ≤ 1000000) : Ev (fun k => spec_l5Kids.f k (flatT (.node n ks))) (ks.map flatT) := by
  obtain ⟨h1, h2⟩ : (ks.length : Int) = arB n.f0 ∧ wfTs ks := hw
  have ha := arB_le n.f0
  simp only [flatT] at hn ⊢
  rw [List.length_append] at hn
  simp only [List.length_cons, List.length_nil] at hn
  have hl : ((flatTs ks ++ [n]).length : Int) = (flatTs ks).length + 1 := by simp
  have h := kids_loop ks [] h2 (by omega) (by simp; omega)
  unfold spec_l5Kids.f
  have hr : rd_T63 (flatTs ks ++ [n]) ((flatTs ks).length : Int) = n := by unfold rd_T63; rw [Int.toNat_natCast]; simp
  have ew : wrap64 (((flatTs ks ++ [n]).length : Int) - 1) = ((flatTs ks).length : Int) := by rw [wrap_id _ (by omega) (by omega)]; omega
  simp only [ew, hr]
  refine Ev.if_pos (by omega) (Ev.if_pos (by omega) (Ev.if_pos (by omega) (Ev.bind (a := arB n.f0) (Ev.shift 1 fun k => ar_spec _ k) ?_)))
  rw [Int.toNat_natCast, List.take_left, ← h1]
  simpa using h
/-! the nesting -/
theorem top_is (t : Tr) (hn : (flatT t).length ≤ 1000000) : spec_l5Top.f (flatT t) = some t.top.f0 := by
  cases t with
  | node n ks =>
    simp only [flatT, Tr.top] at hn ⊢
    rw [List.length_append] at hn
    simp only [List.length_cons, List.length_nil] at hn
    have hl : ((flatTs ks ++ [n]).length : Int) = (flatTs ks).length + 1 := by simp
    have hr : rd_T63 (flatTs ks ++ [n]) ((flatTs ks).length : Int) = n := by unfold rd_T63; rw [Int.toNat_natCast]; simp
    have ew : wrap64 (((flatTs ks ++ [n]).length : Int) - 1) = ((flatTs ks).length : Int) := by rw [wrap_id _ (by omega) (by omega)]; omega
    unfold spec_l5Top.f
    simp only [ew, hr]
    rw [if_pos (by omega), if_pos (by omega)]
theorem str_is (a : Int) : spec_l5Strength.f a = some (strT a) := by
  unfold spec_l5Strength.f strT; split <;> (try split) <;> rfl
theorem wrapped_is (op i kid : Int) : spec_l5Wrapped.f op i kid = some (wrapB op i kid) := by
  unfold spec_l5Wrapped.f wrapB
  simp only [str_is, Option.bind_some]
  split <;> (try split) <;> rfl
mutual
theorem nest_is : ∀ t : Tr, wfT t → (flatT t).length ≤ 1000000 → Ev (fun k => spec_l5Nest.f k (flatT t)) (nestT t)
  | .node n ks, hw, hn => by
    have hl : (flatTs ks).length ≤ 1000000 := by
      simp only [flatT] at hn
      rw [List.length_append] at hn; omega
    have hk : ks.length ≤ 3 := by
      have h := hw.1
      have := arB_le n.f0
      omega
    refine Ev.round (f := fun k => (spec_l5Top.f (flatT (.node n ks))).bind fun a => (spec_l5Kids.f k (flatT (.node n ks))).bind fun b => spec_l5Nest.l0 k a b 0 0) (fun k => by simp only [spec_l5Nest.f]) ?_
    rw [top_is _ hn]
    refine Ev.bind (Ev.now _) (Ev.bind (kids_is n ks hw hn) ?_)
    exact nests_is ks [] n.f0 0 hw.2 hl (by simpa using hk) (Int.le_refl _) (by omega)
theorem nests_is : ∀ (ts pre : List Tr) (op most : Int), wfTs ts → (flatTs ts).length ≤ 1000000 → (pre ++ ts).length ≤ 3 → 0 ≤ most → most ≤ 2000000 → Ev (fun k => spec_l5Nest.l0 k op ((pre ++ ts).map flatT) most pre.length) (nestTs op pre.length most ts)
  | [], pre, op, most, hw, hn, hk, h0, h1 => by
    refine Ev.shift 1 fun k => ?_
    simp only [spec_l5Nest.l0, nestTs]
    rw [if_neg (by simp)]
  | t :: ts, pre, op, most, hw, hn, hk, h0, h1 => by
    obtain ⟨w1, w2⟩ : wfT t ∧ wfTs ts := hw
    simp only [flatTs] at hn
    rw [List.length_append] at hn
    have hb := nestT_le t
    have ih := nest_is t w1 (by omega)
    have hpl : pre.length < 3 := by rw [List.length_append] at hk; simp at hk; omega
    have hr : rd_L7 ((pre ++ t :: ts).map flatT) (pre.length : Int) = flatT t := by unfold rd_L7; rw [Int.toNat_natCast]; simp
    have hj2 : ∀ x : Int, 0 ≤ x → x ≤ 2000000 → Ev (fun k => spec_l5Nest.j2 k op ((pre ++ t :: ts).map flatT) most pre.length x) (nestTs op (pre.length + 1) (max most x) ts) := by
      intro x hx hx2
      have h3 := nests_is ts (pre ++ [t]) op (max most x) w2 (by omega) (by simpa using hk) (by omega) (by omega)
      rw [List.append_assoc, List.singleton_append, List.length_append, List.length_singleton] at h3
      refine Ev.round (f := fun k => spec_l5Nest.l0 k op ((pre ++ t :: ts).map flatT) (max most x) ((pre.length + 1 : Nat) : Int)) (fun k => ?_) h3
      simp only [spec_l5Nest.j2]
      rw [wrap_nat _ (by omega)]
      by_cases h : x > most
      · rw [if_pos h, show max most x = x by omega]
      · rw [if_neg h, show max most x = most by omega]
    have hj1 : ∀ b : Bool, Ev (fun k => spec_l5Nest.j1 k op ((pre ++ t :: ts).map flatT) most pre.length (nestT t) b) (nestTs op (pre.length + 1) (max most (nestT t + if b = true then 1 else 0)) ts) := by
      intro b
      refine Ev.round (f := fun k => spec_l5Nest.j2 k op ((pre ++ t :: ts).map flatT) most pre.length (nestT t + if b = true then 1 else 0)) (fun k => ?_) (hj2 _ (by split <;> omega) (by split <;> omega))
      simp only [spec_l5Nest.j1]
      cases b
      · simp
      · simp only [if_true]; rw [wrap_id _ (by omega) (by omega)]
    refine Ev.round (f := fun k => (spec_l5Nest.f k (flatT t)).bind fun q => if op = 16 then spec_l5Nest.j1 k op ((pre ++ t :: ts).map flatT) most pre.length q true else (spec_l5Top.f (flatT t)).bind fun u => (spec_l5Wrapped.f op pre.length u).bind fun v => spec_l5Nest.j1 k op ((pre ++ t :: ts).map flatT) most pre.length q v) (fun k => ?_) (Ev.bind ih ?_)
    · simp only [spec_l5Nest.l0]
      rw [if_pos (by simp; omega), if_pos (by omega), hr]
    · simp only [nestTs]
      by_cases ho : op = 16
      · have h := hj1 true
        refine Ev.if_pos ho ?_
        simpa [ho] using h
      · refine Ev.if_neg ho ?_
        rw [top_is t (by omega)]
        simp only [wrapped_is, Option.bind_some]
        have h := hj1 (wrapB op pre.length t.top.f0)
        simpa [ho] using h
end
end Go.Proofs.Ytpfehkkfakofaaa.Q

namespace Go.Proofs.Ytpfehkkfakofaaa.Q
open Go.RowKit Go.Proofs.YtpfehkkfakofaaaW.PrintWords Go.Proofs.YtpfehkkfakofaaaW.PrintLast Go.Proofs.YtpfehkkfakofaaaW.PrintMore
set_option linter.unusedVariables false
set_option linter.unusedSimpArgs false
def nodeV (n : S63) (u : Value) : Array Value := #[.int .i64 n.f0, .string n.f1, .bool n.f2, .string n.f3, .int .u64 n.f4, .int .u64 n.f5, .int .i64 n.f6, u]
mutual
def RepT (w : World) (ok : Nat → Prop) : Tr → Value → Prop
  | .node n ks, v => ∃ (a : Nat) (u : Value) (vs : List Value), v = .pointer (some ⟨a, 0, none⟩) ∧ ok a ∧ w.heap[a]? = some (.cells (nodeV n u) 65 (0, 0)) ∧ w.ownsRow 0 47 1 u vs.length vs ∧ (∀ k, u.ownBlock = some k → ok k) ∧ RepTs w ok ks vs
def RepTs (w : World) (ok : Nat → Prop) : List Tr → List Value → Prop
  | [], vs => vs = []
  | x :: xs, vs => ∃ u us, vs = u :: us ∧ RepT w ok x u ∧ RepTs w ok xs us
end
mutual
theorem RepT_move {w w1 : World} {ok ok' : Nat → Prop} (hm : ∀ k, ok k → k < w.heap.size → ok' k ∧ w1.heap[k]? = w.heap[k]?) : ∀ (x : Tr) (v : Value), RepT w ok x v → RepT w1 ok' x v
  | .node n ks, v, h => by
    unfold RepT at h ⊢
    obtain ⟨a, u, vs, h1, h2, h3, h4, h5, h6⟩ := h
    have ha := hm a h2 (lt_of_some h3)
    exact ⟨a, u, vs, h1, ha.1, ha.2.trans h3, own_move h4 (fun k hk => (hm k (h5 k hk) (h4.lt k hk).2).2), fun k hk => (hm k (h5 k hk) (h4.lt k hk).2).1, RepTs_move hm ks vs h6⟩
theorem RepTs_move {w w1 : World} {ok ok' : Nat → Prop} (hm : ∀ k, ok k → k < w.heap.size → ok' k ∧ w1.heap[k]? = w.heap[k]?) : ∀ (xs : List Tr) (vs : List Value), RepTs w ok xs vs → RepTs w1 ok' xs vs
  | [], vs, h => by unfold RepTs at h ⊢; exact h
  | x :: xs, vs, h => by
    unfold RepTs at h ⊢
    obtain ⟨u, us, h1, h2, h3⟩ := h
    exact ⟨u, us, h1, RepT_move hm x u h2, RepTs_move hm xs us h3⟩
end
theorem RepTs_len {w : World} {ok : Nat → Prop} : ∀ (xs : List Tr) (vs : List Value), RepTs w ok xs vs → vs.length = xs.length
  | [], vs, h => by unfold RepTs at h; subst h; rfl
  | x :: xs, vs, h => by
    unfold RepTs at h
    obtain ⟨u, us, rfl, h2, h3⟩ := h
    simp [RepTs_len xs us h3]
theorem RepTs_get {w : World} {ok : Nat → Prop} : ∀ (xs : List Tr) (vs : List Value) (i : Nat) (x : Tr), RepTs w ok xs vs → xs[i]? = some x → ∃ u, vs[i]? = some u ∧ RepT w ok x u
  | [], vs, i, x, h, hx => by simp at hx
  | y :: xs, vs, i, x, h, hx => by
    unfold RepTs at h
    obtain ⟨u, us, rfl, h2, h3⟩ := h
    rcases i with _ | i
    · simp at hx; subst hx; exact ⟨u, rfl, h2⟩
    · exact RepTs_get xs us i x h3 (by simpa using hx)
theorem RepT_one {w : World} {ok : Nat → Prop} {x : Tr} {v : Value} (h : RepT w ok x v) : v.oneCell' = true := by
  cases x; unfold RepT at h
  obtain ⟨a, u, vs, rfl, -⟩ := h; rfl
theorem RepTs_one {w : World} {ok : Nat → Prop} : ∀ (xs : List Tr) (vs : List Value), RepTs w ok xs vs → ∀ u ∈ vs, u.oneCell' = true
  | [], vs, h => by unfold RepTs at h; subst h; simp
  | x :: xs, vs, h => by
    unfold RepTs at h
    obtain ⟨u, us, rfl, h2, h3⟩ := h
    intro y hy
    rcases List.mem_cons.mp hy with rfl | hy
    · exact RepT_one h2
    · exact RepTs_one xs us h3 y hy
/-- The cells of a row. -/
theorem own_cell {w : World} {b e n : Nat} {A : Option Addr} {m c : Nat} {vs : List Value} (h : w.ownsRow b e 1 (.slice A m c) n vs) {i : Nat} {u : Value} (hi : vs[i]? = some u) : ∃ g, A = some ⟨g, 0, none⟩ ∧ w.cell? ⟨g, i, none⟩ = some u ∧ m = n := by
  obtain ⟨hl, h⟩ := h
  have hlt := (List.getElem?_eq_some_iff.mp hi).1
  rcases h with ⟨-, rfl⟩ | ⟨g, cap, cur, e, hg, hh, h1, h2, h3, h4⟩
  · simp at hl; subst hl; simp at hlt
  · cases e
    refine ⟨g, rfl, (blk_cell hh i).trans ?_, rfl⟩
    rw [← h4, List.getElem?_take] at hi
    split at hi
    · rw [← Array.getElem?_toList]; exact hi
    · cases hi
theorem strength_call (a : Nat) (o : Int) (w : World) (h : w.cell? ⟨a, 0, none⟩ = some (.int .i64 o)) :
    Calls Try.prog 88 #[.pointer (some ⟨a, 0, none⟩)] w fun e w' => e = .returned (.int .i64 (strT o)) ∧ Below w.heap.size w w' := by
  have kr : K0 (Below w.heap.size w w) := ⟨Below.refl _ _⟩
  have h := clk h
  go_enter Try.func88, Try.ntmps88
  go_wp2
  all_goals (go_ret; refine ⟨?_, kk⟩; first | rfl | (unfold strT; simp_all; done))
/-- Whether an operand stands in parentheses. -/
def wrapI (op : Int) (i : Nat) (kid : Int) : Bool := decide (op ≠ 16) && (decide (strT kid < strT op) || (decide (i = 1) && decide (strT kid = strT op)))
set_option maxHeartbeats 4000000 in
set_option maxRecDepth 100000 in
theorem wrapped_call (a g b i m c : Nat) (o kid : Int) (w : World) (h0 : w.cell? ⟨a, 0, none⟩ = some (.int .i64 o)) (h7 : w.cell? ⟨a, 7, none⟩ = some (.slice (some ⟨g, 0, none⟩) m c)) (hi : i < m)
    (hk : w.cell? ⟨g, i, none⟩ = some (.pointer (some ⟨b, 0, none⟩))) (hb : w.cell? ⟨b, 0, none⟩ = some (.int .i64 kid)) :
    Calls Try.prog 79 #[.pointer (some ⟨a, 0, none⟩), .int .i64 i] w fun e w' => e = .returned (.bool (wrapI o i kid)) ∧ Below w.heap.size w w' := by
  have kr : K0 (Below w.heap.size w w) := ⟨Below.refl _ _⟩
  have h0' := clk h0
  have h7' := clk h7
  have hk' := clk hk
  have hb' := clk hb
  by_cases h16 : o = 16
  · have d1 : (o != 16) = false := by simpa using h16
    go_enter Try.func79, Try.ntmps79
    go_wp2
    all_goals (go_ret; refine ⟨?_, kk⟩; simp [wrapI, h16])
  have d1 : (o != 16) = true := by simpa using h16
  clear h0 h7 hk hb
  go_enter Try.func79, Try.ntmps79
  go_wp2_with fail
  refine (strength_call b kid w (hb' w)).mono ?_
  rintro e W2 ⟨rfl, hb2⟩
  have k2 : K0 (Below w.heap.size w W2) := ⟨hb2⟩
  go_wp2_with fail
  refine (strength_call a o W2 (h0' W2)).mono ?_
  rintro e W3 ⟨rfl, hb3⟩
  have k3 : K0 (Below w.heap.size w W3) := ⟨hb2.trans (hb3.mono hb2.size)⟩
  clear hb3 k2
  by_cases hs : strT kid < strT o
  · have d2 : decide (strT kid < strT o) = true := decide_eq_true hs
    go_wp2
    all_goals (go_ret; refine ⟨?_, kk⟩; simp [wrapI, h16, hs])
  have d2 : decide (strT kid < strT o) = false := decide_eq_false hs
  by_cases h1 : i = 1
  · subst h1
    go_wp2_with fail
    refine (strength_call b kid W3 (hb' W3)).mono ?_
    rintro e W4 ⟨rfl, hb4⟩
    have k4 : K0 (Below w.heap.size w W4) := ⟨k3.out.trans (hb4.mono k3.out.size)⟩
    clear hb4
    go_wp2_with fail
    refine (strength_call a o W4 (h0' W4)).mono ?_
    rintro e W5 ⟨rfl, hb5⟩
    have k5 : K0 (Below w.heap.size w W5) := ⟨k4.out.trans (hb5.mono k4.out.size)⟩
    clear hb5
    go_wp2
    all_goals (go_ret; refine ⟨?_, kk⟩; first | (simp [wrapI, h16, hs, *]; done) | (simp [wrapI, h16, hs]; rw [Bool.eq_iff_iff]; simp; omega))
  have d3 : ((i : Int) == 1) = false := beq_eq_false_iff_ne.mpr (by omega)
  go_wp2
  all_goals (go_ret; refine ⟨?_, kk⟩; simp [wrapI, h16, hs, h1])
theorem node_c0 {w : World} {a : Nat} {n : S63} {u : Value} (h : w.heap[a]? = some (.cells (nodeV n u) 65 (0, 0))) : w.cell? ⟨a, 0, none⟩ = some (.int .i64 n.f0) := (blk_cell h 0).trans rfl
theorem node_c7 {w : World} {a : Nat} {n : S63} {u : Value} (h : w.heap[a]? = some (.cells (nodeV n u) 65 (0, 0))) : w.cell? ⟨a, 7, none⟩ = some u := (blk_cell h 7).trans rfl
theorem wrap_same {op : Int} {i : Nat} {kid : Int} (h : op = 16 ∨ i < 2) : (decide (op = 16) || wrapI op i kid) = decide (op = 16 ∨ wrapB op i kid = true) := by
  unfold wrapI wrapB
  by_cases h16 : op = 16
  · simp [h16]
  · have hi : i = 0 ∨ i = 1 := by omega
    rcases hi with rfl | rfl
    · simp [h16]
    · simp [h16]; rw [Bool.eq_iff_iff]; simp; omega
theorem flat_mem : ∀ (ks : List Tr) (i : Nat) (x : Tr), ks[i]? = some x → (flatT x).length ≤ (flatTs ks).length
  | [], i, x, h => by simp at h
  | y :: ks, 0, x, h => by
    simp at h; subst h
    simp only [flatTs, List.length_append]; omega
  | y :: ks, i + 1, x, h => by
    have := flat_mem ks i x (by simpa using h)
    simp only [flatTs, List.length_append]; omega
theorem wf_mem : ∀ (ks : List Tr) (i : Nat) (x : Tr), ks[i]? = some x → wfTs ks → wfT x
  | [], i, x, h, _ => by simp at h
  | y :: ks, 0, x, h, hw => by
    simp at h; subst h; exact hw.1
  | y :: ks, i + 1, x, h, hw => wf_mem ks i x (by simpa using h) hw.2
set_option maxHeartbeats 4000000 in
set_option maxRecDepth 100000 in
theorem nest_call : ∀ (N : Nat) (t : Tr) (v : Value) (ok : Nat → Prop) (w : World), (flatT t).length ≤ N → N ≤ 1000 → wfT t → RepT w ok t v →
    Calls Try.prog 53 #[v] w fun e w' => e = .returned (.int .i64 (nestT t)) ∧ Below w.heap.size w w' := by
  intro N
  induction N with
  | zero =>
    intro t v ok w hl
    exact absurd (List.eq_nil_of_length_eq_zero (by omega)) (flatT_ne t)
  | succ N IH =>
    intro t v ok w hl hN hw hr
    have HIH := Aside0.mk IH
    cases t with
    | node n ks =>
      have HR := Aside0.mk hr
      unfold RepT at hr
      obtain ⟨a, u, vs, rfl, h2, h3, h4, h5, h6⟩ := hr
      obtain ⟨A, m, c, rfl⟩ : ∃ A m c, u = .slice A m c := by
        rcases h4.2 with ⟨rfl, _⟩ | ⟨g, cap, cur, rfl, _⟩ <;> exact ⟨_, _, _, rfl⟩
      have hvl := RepTs_len ks vs h6
      have hml : m = ks.length := by
        rcases h4.2 with ⟨e, h0⟩ | ⟨g, cap, cur, e, _⟩
        · cases e; omega
        · cases e; exact hvl
      subst hml
      have kr : K0 (Below w.heap.size w w) := ⟨Below.refl _ _⟩
      have c0 := clk (node_c0 h3)
      have c7 := clk (node_c7 h3)
      have hnl := nestT_le (.node n ks)
      simp only [flatT, List.length_append, List.length_cons, List.length_nil] at hl
      have HW := Aside0.mk hw
      have H4 := Aside0.mk h4
      have H6 := Aside0.mk h6
      obtain ⟨r, hR⟩ : ∃ r, nestT (.node n ks) = r := ⟨_, rfl⟩
      rw [hR] at hnl ⊢
      have HGO := Aside0.mk (show nestTs n.f0 0 0 (ks.drop 0) = r from hR)
      clear IH hR h2 h3 h4 h5 h6 hw
      go_enter Try.func53, Try.ntmps53
      go_wp2_with fail
      go_loopw [3, 12] (fun v3 v12 W => ∃ (i : Nat) (most : Int), i ≤ ks.length ∧ v12 = .int .i64 i ∧ v3 = .int .i64 most ∧ Aside0 (nestTs n.f0 i most (ks.drop i) = r) ∧ Aside0 (0 ≤ most ∧ most ≤ 1000) ∧ Aside0 (Below w.heap.size w W)) (fun _ v12 _ => ks.length - (intOf v12).toNat)
      case atStart => exact ⟨0, 0, by omega, rfl, rfl, HGO, ⟨by omega, by omega⟩, ⟨kk⟩⟩
      case round =>
        clear HGO kr
        obtain ⟨i, most, hi, rfl, rfl, HGO, HM, HB⟩ := hrel
        have kW : K0 (Below w.heap.size w wr) := ⟨HB.out⟩
        by_cases hlt : i < ks.length
        · obtain ⟨x, hx⟩ : ∃ x, ks[i] = x := ⟨_, rfl⟩
          have hg : ks[i]? = some x := by rw [← hx]; exact List.getElem?_eq_getElem hlt
          obtain ⟨q, hq, hrq⟩ := RepTs_get ks vs i x H6.out hg
          obtain ⟨g, rfl, hc, -⟩ := own_cell H4.out hq
          have hgo := HGO.out
          rw [List.drop_eq_getElem_cons hlt, hx] at hgo
          simp only [nestTs] at hgo
          have hc := clk hc
          have hrx : RepT wr ok x q := RepT_move (fun k hk hl => ⟨hk, HB.out.block k hl⟩) x q hrq
          have hfx := flat_mem ks i x hg
          have hnx := nestT_le x
          have hcall := HIH.out x q ok wr (by omega) (by omega) (wf_mem ks i x hg HW.out.2) hrx
          obtain ⟨b, kn, kks, rfl, rfl, hcb⟩ : ∃ b kn kks, x = .node kn kks ∧ q = .pointer (some ⟨b, 0, none⟩) ∧ w.cell? ⟨b, 0, none⟩ = some (.int .i64 kn.f0) := by
            cases x with
            | node kn kks =>
              unfold RepT at hrq
              obtain ⟨b, u, us, rfl, h2, h3, -⟩ := hrq
              exact ⟨b, kn, kks, rfl, rfl, node_c0 h3⟩
          have hcb := clk hcb
          have hi2 : n.f0 = 16 ∨ i < 2 := by
            by_cases h16 : n.f0 = 16
            · exact .inl h16
            · right
              have h1 := HW.out.1
              have : arB n.f0 ≤ 2 := by unfold arB; split <;> (try rw [if_neg h16]) <;> omega
              omega
          have hcond : (n.f0 = 16 ∨ wrapB n.f0 (i : Int) kn.f0 = true) ↔ (n.f0 = 16 ∨ wrapI n.f0 i kn.f0 = true) := by
            have h := wrap_same (op := n.f0) (i := i) (kid := kn.f0) hi2
            rw [Bool.eq_iff_iff] at h
            simp only [Bool.or_eq_true, decide_eq_true_eq] at h
            exact h.symm
          have hk3 : ks.length ≤ 3 := by
            have h1 := HW.out.1
            have := arB_le n.f0
            omega
          simp only [Tr.top, hcond] at hgo
          have HGO2 := Aside0.mk hgo
          have hM := HM.out
          have hw1 : IntKind.i64.wrap ((i : Int) + 1) = ((i + 1 : Nat) : Int) := by rw [IntKind.wrap_i64]; omega
          clear hgo hrx hrq hcond
          go_wp2_with fail
          refine hcall.mono ?_
          rintro e W2 ⟨rfl, hb2⟩
          have k2 : K0 (Below w.heap.size w W2) := ⟨HB.out.trans (hb2.mono HB.out.size)⟩
          clear hb2 hcall
          generalize nestT (.node kn kks) = nx at *
          by_cases h16 : n.f0 = 16
          · have d1 : (n.f0 == 16) = true := by simpa using h16
            have hgo := HGO2.out
            rw [if_pos (Or.inl h16)] at hgo
            go_wp2_with fail
            go_roundw
            case measure => simp only [intOf]; omega
            case rel => exact ⟨i + 1, _, by omega, by rw [Int.natCast_add]; rfl, rfl, ⟨hgo⟩, ⟨by omega⟩, ⟨kk⟩⟩
          · have d1 : (n.f0 == 16) = false := by simpa using h16
            go_wp2_with fail
            refine (wrapped_call a g b i ks.length c n.f0 kn.f0 W2 (c0 W2) (c7 W2) hlt (hc W2) (hcb W2)).mono ?_
            rintro e W3 ⟨rfl, hb3⟩
            have k3 : K0 (Below w.heap.size w W3) := ⟨k2.out.trans (hb3.mono k2.out.size)⟩
            clear hb3 k2
            cases hwr : wrapI n.f0 i kn.f0
            · have hgo := HGO2.out
              rw [hwr, if_neg (by simp [h16])] at hgo
              go_wp2_with fail
              go_roundw
              case measure => simp only [intOf]; omega
              case rel => exact ⟨i + 1, _, by omega, by rw [Int.natCast_add]; rfl, rfl, ⟨by simpa using hgo⟩, ⟨by omega⟩, ⟨kk⟩⟩
            · have hgo := HGO2.out
              rw [hwr, if_pos (Or.inr rfl)] at hgo
              go_wp2_with fail
              go_roundw
              case measure => simp only [intOf]; omega
              case rel => exact ⟨i + 1, _, by omega, by rw [Int.natCast_add]; rfl, rfl, ⟨hgo⟩, ⟨by omega⟩, ⟨kk⟩⟩
        · obtain rfl : i = ks.length := by omega
          have hgo := HGO.out
          rw [List.drop_length] at hgo
          simp only [nestTs] at hgo
          subst hgo
          go_wp2
          go_ret
          exact ⟨rfl, kk⟩
end Go.Proofs.Ytpfehkkfakofaaa.Q

namespace Go.Proofs.Ytpfehkkfakofaaa.Q
inductive Pl where
  | done
  | n (i : Nat) (r : Pl)
  | y (i : Nat) (r : Pl)
  | two (i j : Nat) (p q : Pl)
def Pl.len : Pl → Nat
  | .done => 0
  | .n _ r => r.len + 1
  | .y _ r => r.len + 1
  | .two _ _ p _ => p.len + 1
def planP (md : Region.Mode) (ops : Array Oper) : Pl → Array Bool → Bool
  | .done, l => Region.ready md ops l == []
  | .n i r, l => Region.free md ops l i && ((Region.ready md ops l).contains i && planP md ops r (l.setIfInBounds i true))
  | .y i r, l => (Region.ready md ops l == [i]) && planP md ops r (l.setIfInBounds i true)
  | .two i j p q, l => (Region.ready md ops l == [i, j]) && ((p.len == q.len) && (planP md ops p (l.setIfInBounds i true) && planP md ops q (l.setIfInBounds j true)))
section
variable {P : Program} {ops : Array Oper} {Q : Exit → Act → World → Prop} {md : Region.Mode} {S : World → Prop}
def Sp (P : Program) (md : Region.Mode) (ops : Array Oper) (Q : Exit → Act → World → Prop) (S : World → Prop) (r : Pl) (a : Act) (w : World) : Prop :=
  S w → Region.noSelect ops = true → ∀ l, planP md ops r l = true → wpAnyH P md ops (NoPanic Q) S r.len l a w
theorem sp_region {id : Nat} {a : Act} {w : World} (r : Pl) (hm : P.follows .mixedOrders = true) (hc : (Region.noSelect ops && (planP .any ops r (Array.replicate ops.size false) && (r.len == ops.size))) = true)
    (hS : S w.drew) (h : S w.drew → Sp P .any ops Q S r a w.drew) : (Code.region id ops true).wp P Q a w := by
  simp only [Bool.and_eq_true, beq_iff_eq] at hc
  refine wp_region_noPanic (wp_region_held_drew hm hS fun h1 => ?_)
  have h2 := h h1 h1 hc.1 _ hc.2.1
  rw [hc.2.2] at h2
  exact h2
theorem sp_done {a : Act} {w : World} (h : S w → Q .normal a w) : Sp P md ops Q S .done a w := fun hS _ l hl => wpAnyH_done (by simpa [planP] using hl) (NoPanic.normal (h hS)) _
theorem sp_one {i : Nat} {r : Pl} {d : Option Tmp} {op : Op} {ty : TypeId} {pos : String} {af : Array Edge} {gu : Option (Nat × Bool)} {a : Act} {w : World} (ho : ops[i]? = some ⟨d, op, ty, pos, af, gu⟩) (hw : Region.wanted ⟨d, op, ty, pos, af, gu⟩ (yielded ops a.tmps) = true)
    (h : S w → ∀ K : Act → World → Prop, Shut (∀ a' w', S w' → (S w' → Sp P md ops Q S r a' w') → K a' w') → Oper.wp P ⟨d, op, ty, pos, af, gu⟩ a w K (NoPanic Q)) : Sp P md ops Q S (.y i r) a w := by
  intro hS hs l hl
  simp only [planP, Bool.and_eq_true, beq_iff_eq] at hl
  refine wpAnyH_ready hl.1 (by simp) (AllReadyH.cons ho (fun K hK => ?_) AllReadyH.nil)
  rw [if_pos hw]
  exact h hS K fun a' w' h1 h2 => hK.out a' w' h1 fun h3 => h2 h3 h3 hs _ hl.2
theorem sp_two {i j : Nat} {p q : Pl} {d d' : Option Tmp} {op op' : Op} {ty ty' : TypeId} {pos pos' : String} {af af' : Array Edge} {gu gu' : Option (Nat × Bool)} {a : Act} {w : World} (ho : ops[i]? = some ⟨d, op, ty, pos, af, gu⟩) (hw : Region.wanted ⟨d, op, ty, pos, af, gu⟩ (yielded ops a.tmps) = true)
    (ho' : ops[j]? = some ⟨d', op', ty', pos', af', gu'⟩) (hw' : Region.wanted ⟨d', op', ty', pos', af', gu'⟩ (yielded ops a.tmps) = true)
    (h : S w → ∀ K : Act → World → Prop, Shut (∀ a' w', S w' → (S w' → Sp P md ops Q S p a' w') → K a' w') → Oper.wp P ⟨d, op, ty, pos, af, gu⟩ a w K (NoPanic Q))
    (h' : S w → ∀ K : Act → World → Prop, Shut (∀ a' w', S w' → (S w' → Sp P md ops Q S q a' w') → K a' w') → Oper.wp P ⟨d', op', ty', pos', af', gu'⟩ a w K (NoPanic Q)) : Sp P md ops Q S (.two i j p q) a w := by
  intro hS hs l hl
  simp only [planP, Bool.and_eq_true, beq_iff_eq] at hl
  refine wpAnyH_ready hl.1 (by simp) (AllReadyH.cons ho (fun K hK => ?_) (AllReadyH.cons ho' (fun K hK => ?_) AllReadyH.nil))
  · rw [if_pos hw]
    exact h hS K fun a' w' h1 h2 => hK.out a' w' h1 fun h3 => h2 h3 h3 hs _ hl.2.2.1
  · rw [if_pos hw']
    refine h' hS K fun a' w' h1 h2 => hK.out a' w' h1 fun h3 => ?_
    have h4 := h2 h3 h3 hs _ hl.2.2.2
    rw [← hl.2.1] at h4
    exact h4
variable {i j dj : Nat} {r p q : Pl} {d : Tmp} {od od' : Option Tmp} {op op' : Op} {ty ty' : TypeId} {pos pos' : String} {af af' : Array Edge} {gu' : Option (Nat × Bool)} {g b : Bool} {T : Array Value} {D : List Deferred} {w : World}
theorem sp_n (T' : Array Value) (v : Value) (ho : ops[i]? = some ⟨some d, op, ty, pos, af, none⟩) (hv : ∀ W, S W → (execOp (Act.eval ⟨T, D⟩) ⟨some d, op, ty, pos, af, none⟩).run P W = .ok (.value v) W) (hT : T.setIfInBounds d v = T') (h : Sp P md ops Q S r ⟨T', D⟩ w) : Sp P md ops Q S (.n i r) ⟨T, D⟩ w := by
  subst hT
  intro hS hs l hl
  simp only [planP, Bool.and_eq_true] at hl
  exact wpAnyH_take ho hs hl.1 hl.2.1 (fun _ _ _ h => h.elim) (.inl ⟨yes_n, hv⟩) hS (h hS hs _ hl.2.2)
theorem sp_1n (ho : ops[i]? = some ⟨od, op, ty, pos, af, none⟩)
    (h : S w → ∀ K : Act → World → Prop, Shut (∀ a' w', S w' → (S w' → Sp P md ops Q S r a' w') → K a' w') → Oper.wp P ⟨od, op, ty, pos, af, none⟩ ⟨T, D⟩ w K (NoPanic Q)) : Sp P md ops Q S (.y i r) ⟨T, D⟩ w := sp_one ho yes_n h
theorem sp_2n (ho : ops[i]? = some ⟨od, op, ty, pos, af, none⟩) (ho' : ops[j]? = some ⟨od', op', ty', pos', af', none⟩)
    (h : S w → ∀ K : Act → World → Prop, Shut (∀ a' w', S w' → (S w' → Sp P md ops Q S p a' w') → K a' w') → Oper.wp P ⟨od, op, ty, pos, af, none⟩ ⟨T, D⟩ w K (NoPanic Q))
    (h' : S w → ∀ K : Act → World → Prop, Shut (∀ a' w', S w' → (S w' → Sp P md ops Q S q a' w') → K a' w') → Oper.wp P ⟨od', op', ty', pos', af', none⟩ ⟨T, D⟩ w K (NoPanic Q)) : Sp P md ops Q S (.two i j p q) ⟨T, D⟩ w := sp_two ho yes_n ho' yes_n h h'
end
end Go.Proofs.Ytpfehkkfakofaaa.Q

namespace Go.Proofs.Ytpfehkkfakofaaa.Q
open Go.RowKit Go.Proofs.YtpfehkkfakofaaaW.PrintWords Go.Proofs.YtpfehkkfakofaaaW.PrintLast Go.Proofs.YtpfehkkfakofaaaW.PrintMore
set_option linter.unusedVariables false
set_option linter.unusedSimpArgs false
/-- The emitter e: what it has written, its counters, its map; its row is its own and lies at B or behind. -/
def EmW (w : World) (B e : Nat) (b : List S92 × Int) (mp rv : Value) : Prop :=
  w.heap[e]? = some (.cells #[rv, .int .i64 b.2, mp] 59 (0, 0)) ∧ Kd.R k92 92 w B (fun k => k ≠ e) rv b.1
/-- A box that holds an instruction, in a world that lies below. -/
def BoxI (B : Nat) (w W : World) (g : Nat) (x : S92) : Prop := Below B w W ∧ W.heap[g]? = some (.cells #[.int .i64 x.f0, .int .i64 x.f1, .int .i64 x.f2, .bool x.f3, .int .i64 x.f4.f0, .string x.f4.f1, .bool x.f4.f2, .string x.f4.f3, .int .u64 x.f4.f4, .int .u64 x.f4.f5, .int .i64 x.f4.f6] 92 (0, 0))
theorem box0 {B g : Nat} {w : World} {x : S92} : ∀ W [K0 (BoxI B w W g x)], W.cell? ⟨g, 0, none⟩ = some (.int .i64 x.f0) := fun W k => (blk_cell k.out.2 0).trans rfl
theorem box1 {B g : Nat} {w : World} {x : S92} : ∀ W [K0 (BoxI B w W g x)], W.cell? ⟨g, 1, none⟩ = some (.int .i64 x.f1) := fun W k => (blk_cell k.out.2 1).trans rfl
theorem box2 {B g : Nat} {w : World} {x : S92} : ∀ W [K0 (BoxI B w W g x)], W.cell? ⟨g, 2, none⟩ = some (.int .i64 x.f2) := fun W k => (blk_cell k.out.2 2).trans rfl
theorem box3 {B g : Nat} {w : World} {x : S92} : ∀ W [K0 (BoxI B w W g x)], W.cell? ⟨g, 3, none⟩ = some (.bool x.f3) := fun W k => (blk_cell k.out.2 3).trans rfl
theorem box4 {B g : Nat} {w : World} {x : S92} : ∀ W [K0 (BoxI B w W g x)], W.cell? ⟨g, 4, none⟩ = some (.int .i64 x.f4.f0) := fun W k => (blk_cell k.out.2 4).trans rfl
theorem box5 {B g : Nat} {w : World} {x : S92} : ∀ W [K0 (BoxI B w W g x)], W.cell? ⟨g, 5, none⟩ = some (.string x.f4.f1) := fun W k => (blk_cell k.out.2 5).trans rfl
theorem box6 {B g : Nat} {w : World} {x : S92} : ∀ W [K0 (BoxI B w W g x)], W.cell? ⟨g, 6, none⟩ = some (.bool x.f4.f2) := fun W k => (blk_cell k.out.2 6).trans rfl
theorem box7 {B g : Nat} {w : World} {x : S92} : ∀ W [K0 (BoxI B w W g x)], W.cell? ⟨g, 7, none⟩ = some (.string x.f4.f3) := fun W k => (blk_cell k.out.2 7).trans rfl
theorem box8 {B g : Nat} {w : World} {x : S92} : ∀ W [K0 (BoxI B w W g x)], W.cell? ⟨g, 8, none⟩ = some (.int .u64 x.f4.f4) := fun W k => (blk_cell k.out.2 8).trans rfl
theorem box9 {B g : Nat} {w : World} {x : S92} : ∀ W [K0 (BoxI B w W g x)], W.cell? ⟨g, 9, none⟩ = some (.int .u64 x.f4.f5) := fun W k => (blk_cell k.out.2 9).trans rfl
theorem box10 {B g : Nat} {w : World} {x : S92} : ∀ W [K0 (BoxI B w W g x)], W.cell? ⟨g, 10, none⟩ = some (.int .i64 x.f4.f6) := fun W k => (blk_cell k.out.2 10).trans rfl
/-- From w to w' only the emitter e and its row are changed; the row is the same or a new one. -/
def EmF (w w' : World) (e : Nat) (rv rv' : Value) : Prop :=
  Below 0 w w' ∧ (∀ k, k < w.heap.size → k ≠ e → rv.ownBlock ≠ some k → w'.heap[k]? = w.heap[k]?) ∧ ∀ k, rv'.ownBlock = some k → rv.ownBlock = some k ∨ w.heap.size ≤ k
theorem EmF.trans {w w1 w2 : World} {e : Nat} {rv rv1 rv2 : Value} (h : EmF w w1 e rv rv1) (h' : EmF w1 w2 e rv1 rv2) : EmF w w2 e rv rv2 := by
  have hs := h.1.size
  refine ⟨h.1.trans h'.1, fun k hk he hr => ?_, fun k hk => ?_⟩
  · refine (h'.2.1 k (by omega) he (fun e1 => ?_)).trans (h.2.1 k hk he hr)
    rcases h.2.2 k e1 with h1 | h1
    · exact hr h1
    · omega
  · rcases h'.2.2 k hk with h1 | h1
    · exact h.2.2 k h1
    · exact .inr (by omega)
theorem EmF.below {w w' : World} {B e : Nat} {rv rv' : Value} (h : EmF w w' e rv rv') (hB : B ≤ e) (hr : ∀ k, rv.ownBlock = some k → B ≤ k) (hs : B ≤ w.heap.size) : Below B w w' :=
  ⟨h.1.os, h.1.tape, h.1.output, h.1.size, fun k hk => h.2.1 k (by omega) (by omega) (fun e1 => by have := hr k e1; omega)⟩
theorem BoxI_alloc {B : Nat} {w W : World} {g : Nat} {x : S92} (h : BoxI B w W g x) (hB : B ≤ w.heap.size) (o : Obj) : BoxI B w (W.alloc o) g x := ⟨Below.alloc h.1 (Nat.le_trans hB h.1.size) o, blk_alloc h.2 o⟩
set_option maxHeartbeats 4000000 in
set_option maxRecDepth 100000 in
theorem put_call (B e : Nat) (l : List S92) (c : Int) (mp rv : Value) (x : S92) (w : World) (h : EmW w B e (l, c) mp rv) (hBe : B ≤ e) (hl : l.length ≤ 1000000) :
    Calls Try.prog 64 #[.pointer (some ⟨e, 0, none⟩), .agg #[.int .i64 x.f0, .int .i64 x.f1, .int .i64 x.f2, .bool x.f3, .int .i64 x.f4.f0, .string x.f4.f1, .bool x.f4.f2, .string x.f4.f3, .int .u64 x.f4.f4, .int .u64 x.f4.f5, .int .i64 x.f4.f6]] w fun ex w' => ∃ rv', ex = .returned (.tuple #[]) ∧ EmW w' B e (l ++ [x], c) mp rv' ∧ EmF w w' e rv rv' := by
  obtain ⟨he, hR⟩ := h
  have hes := lt_of_some he
  have hBw : Below B w (w.alloc (.cells #[.int .i64 x.f0, .int .i64 x.f1, .int .i64 x.f2, .bool x.f3, .int .i64 x.f4.f0, .string x.f4.f1, .bool x.f4.f2, .string x.f4.f3, .int .u64 x.f4.f4, .int .u64 x.f4.f5, .int .i64 x.f4.f6] 92)).drew := below_drew1 (Below.alloc (Below.refl _ _) (by omega) _)
  have hh := blk_drew (heap_alloc_new w (.cells #[.int .i64 x.f0, .int .i64 x.f1, .int .i64 x.f2, .bool x.f3, .int .i64 x.f4.f0, .string x.f4.f1, .bool x.f4.f2, .string x.f4.f3, .int .u64 x.f4.f4, .int .u64 x.f4.f5, .int .i64 x.f4.f6] 92))
  have hwz : (w.alloc (.cells #[.int .i64 x.f0, .int .i64 x.f1, .int .i64 x.f2, .bool x.f3, .int .i64 x.f4.f0, .string x.f4.f1, .bool x.f4.f2, .string x.f4.f3, .int .u64 x.f4.f4, .int .u64 x.f4.f5, .int .i64 x.f4.f6] 92)).drew.heap.size = w.heap.size + 1 := sz_al w (.cells #[.int .i64 x.f0, .int .i64 x.f1, .int .i64 x.f2, .bool x.f3, .int .i64 x.f4.f0, .string x.f4.f1, .bool x.f4.f2, .string x.f4.f3, .int .u64 x.f4.f4, .int .u64 x.f4.f5, .int .i64 x.f4.f6] 92)
  have he2 := blk_drew ((heap_alloc_old w (.cells #[.int .i64 x.f0, .int .i64 x.f1, .int .i64 x.f2, .bool x.f3, .int .i64 x.f4.f0, .string x.f4.f1, .bool x.f4.f2, .string x.f4.f3, .int .u64 x.f4.f4, .int .u64 x.f4.f5, .int .i64 x.f4.f6] 92) hes).trans he)
  have hR2 := Kd.R_drew (Kd.R_alloc hR (.cells #[.int .i64 x.f0, .int .i64 x.f1, .int .i64 x.f2, .bool x.f3, .int .i64 x.f4.f0, .string x.f4.f1, .bool x.f4.f2, .string x.f4.f3, .int .u64 x.f4.f4, .int .u64 x.f4.f5, .int .i64 x.f4.f6] 92))
  have kr : K0 (Below w.heap.size w w) := ⟨Below.refl _ _⟩
  obtain ⟨A3, c3, rfl⟩ := Kd.R_slice hR
  have k0 : K0 (BoxI B w (w.alloc (.cells #[.int .i64 x.f0, .int .i64 x.f1, .int .i64 x.f2, .bool x.f3, .int .i64 x.f4.f0, .string x.f4.f1, .bool x.f4.f2, .string x.f4.f3, .int .u64 x.f4.f4, .int .u64 x.f4.f5, .int .i64 x.f4.f6] 92)).drew w.heap.size x) := ⟨⟨hBw, hh⟩⟩
  have ce : (w.alloc (.cells #[.int .i64 x.f0, .int .i64 x.f1, .int .i64 x.f2, .bool x.f3, .int .i64 x.f4.f0, .string x.f4.f1, .bool x.f4.f2, .string x.f4.f3, .int .u64 x.f4.f4, .int .u64 x.f4.f5, .int .i64 x.f4.f6] 92)).drew.cell? ⟨e, 0, none⟩ = some (.slice A3 l.length c3) := (blk_cell he2 0).trans rfl
  have HR := Aside0.mk hR2
  have HE := Aside0.mk he2
  have HB := Aside0.mk hBw
  have hrow : ∀ k, Value.ownBlock (.slice A3 l.length c3) = some k → k ≠ e ∧ k < w.heap.size := by
    intro k hk
    obtain ⟨h0, inner, hown, -⟩ := hR
    exact ⟨h0 k hk, (hown.lt k hk).2⟩
  have HROW := Aside0.mk hrow
  have HOLD := Aside0.mk (show ∀ k, k < w.heap.size → (w.alloc (.cells #[.int .i64 x.f0, .int .i64 x.f1, .int .i64 x.f2, .bool x.f3, .int .i64 x.f4.f0, .string x.f4.f1, .bool x.f4.f2, .string x.f4.f3, .int .u64 x.f4.f4, .int .u64 x.f4.f5, .int .i64 x.f4.f6] 92)).drew.heap[k]? = w.heap[k]? from fun k hk => heap_alloc_old w _ hk)
  have HWZ := Aside0.mk hwz
  clear hR hR2 he he2 hBw hh hrow hwz
  go_enter Try.func64, Try.ntmps64
  go_upto_region 1 with (fail)
  clear kr
  refine sp_region (S := fun W' => K0 (BoxI B w W' w.heap.size x)) (.n 0 (.n 1 (.n 2 (.n 3 (.n 4 (.n 6 (.two 5 7 (.y 7 (.y 8 (.n 9 (.n 10 (.n 11 (.y 12 .done)))))) (.y 5 (.y 8 (.n 9 (.n 10 (.n 11 (.y 12 .done))))))))))))) (by kernel_rfl) (by kernel_rfl) k0 (fun hS => ?_)
  generalize (w.alloc (.cells #[.int .i64 x.f0, .int .i64 x.f1, .int .i64 x.f2, .bool x.f3, .int .i64 x.f4.f0, .string x.f4.f1, .bool x.f4.f2, .string x.f4.f3, .int .u64 x.f4.f4, .int .u64 x.f4.f5, .int .i64 x.f4.f6] 92)).drew = wt at *
  have z0 := @box0 B w.heap.size w x
  have z1 := @box1 B w.heap.size w x
  have z2 := @box2 B w.heap.size w x
  have z3 := @box3 B w.heap.size w x
  have z4 := @box4 B w.heap.size w x
  have z5 := @box5 B w.heap.size w x
  have z6 := @box6 B w.heap.size w x
  have z7 := @box7 B w.heap.size w x
  have z8 := @box8 B w.heap.size w x
  have z9 := @box9 B w.heap.size w x
  have z10 := @box10 B w.heap.size w x
  repeat (refine sp_n ?_ ?_ rfl ?_ ?_ ?_; rotate_left 2; (intro W hW; go_simp; first | done | with_reducible rfl); (simp only [List.setIfInBounds_toArray, List.set_cons_zero, List.set_cons_succ]; try rfl))
  refine sp_2n rfl rfl ?_ ?_
  all_goals (intro hS K hK)
  · go_wp2_with fail
    refine hK.out _ _ hS (fun hS => ?_)
    refine sp_1n rfl (fun hS K hK => ?_)
    go_wp2_with fail
    have k1 := K0.mk (BoxI_alloc k0.out (by omega) (.cells #[.int .i64 x.f0, .int .i64 x.f1, .int .i64 x.f2, .bool x.f3, .int .i64 x.f4.f0, .string x.f4.f1, .bool x.f4.f2, .string x.f4.f3, .int .u64 x.f4.f4, .int .u64 x.f4.f5, .int .i64 x.f4.f6] 92))
    refine hK.out _ _ k1 (fun hS => ?_)
    refine sp_1n rfl (fun hS K hK => ?_)
    refine Eq.mp (if_pos yes_n) (Kd.R_append_step (ops := #[]) (Kc := K) k92 (w0 := w) B yes_n (.tmp 9) (.tmp 11) 35 92 (.agg #[(.int .i64 0), (.int .i64 0), (.int .i64 0), (.bool false), (.int .i64 0), (.string ⟨#[]⟩), (.bool false), (.string ⟨#[]⟩), (.int .u64 0), (.int .u64 0), (.int .i64 0)]) 104 rfl Try.underlying35 info92 rfl (by decide) (by omega) (.slice A3 l.length c3) l x [.int .i64 x.f0, .int .i64 x.f1, .int .i64 x.f2, .bool x.f3, .int .i64 x.f4.f0, .string x.f4.f1, .bool x.f4.f2, .string x.f4.f3, .int .u64 x.f4.f4, .int .u64 x.f4.f5, .int .i64 x.f4.f6] (fun k => k ≠ e) (fun _ => False) rfl rfl (k92_mkM _ _ _ x) (fun _ h => h.elim) (fun k hk => by have := HWZ.out; omega) HR.out HB.out (by have := HWZ.out; omega) (by omega) ?_)
    intro v1 w1 ho hb hg hat
    obtain ⟨A4, m4, c4, rfl⟩ : ∃ A m c, v1 = .slice A m c := by obtain ⟨A, c, h⟩ := Kd.R_slice ho; exact ⟨_, _, _, h⟩
    have HG := Aside0.mk (And.intro ho (And.intro hb (And.intro hg hat)))
    clear ho hb hg hat
    have hE1 : w1.heap[e]? = some (.cells #[.slice A3 l.length c3, .int .i64 c, mp] 59 (0, 0)) := (HG.out.2.2.1.block e (by have := HWZ.out; omega) (fun h => (HROW.out e h.symm).1 rfl)).trans HE.out
    have hX1 : w1.heap[w.heap.size]? = some (.cells #[.int .i64 x.f0, .int .i64 x.f1, .int .i64 x.f2, .bool x.f3, .int .i64 x.f4.f0, .string x.f4.f1, .bool x.f4.f2, .string x.f4.f3, .int .u64 x.f4.f4, .int .u64 x.f4.f5, .int .i64 x.f4.f6] 92 (0, 0)) := (HG.out.2.2.1.block w.heap.size (by have := HWZ.out; omega) (fun h => by have := (HROW.out _ h.symm).2; omega)).trans k0.out.2
    have k2 : K0 (BoxI B w w1 w.heap.size x) := ⟨⟨HG.out.2.1, hX1⟩⟩
    have ce1 : w1.cell? ⟨e, 0, none⟩ = some (.slice A3 l.length c3) := (blk_cell hE1 0).trans rfl
    have fe1 := blk_frozen hE1 0
    have hE2 := blk_put hE1 0 (.slice A4 m4 c4) (cs' := #[.slice A4 m4 c4, .int .i64 c, mp]) rfl
    have k3 : K0 (BoxI B w (w1.setCell ⟨e, 0, none⟩ (.slice A4 m4 c4)) w.heap.size x) := ⟨⟨HG.out.2.1.setCell hBe _, blk_far hX1 (by show w.heap.size ≠ e; omega) _⟩⟩
    have hR3 := Kd.R_far (p := ⟨e, 0, none⟩) HG.out.1 (fun k hk => hk) (.slice A4 m4 c4)
    have HF := Aside0.mk (And.intro hE2 hR3)
    clear hE1 hX1 hE2 hR3 ce
    refine hK.out _ _ k2 (fun hS => ?_)
    repeat (refine sp_n ?_ ?_ rfl ?_ ?_ ?_; rotate_left 2; (intro W hW; go_simp; first | done | with_reducible rfl); (simp only [List.setIfInBounds_toArray, List.set_cons_zero, List.set_cons_succ]; try rfl))
    refine sp_1n rfl (fun hS K hK => ?_)
    go_wp2_with fail
    refine hK.out _ _ k3 (fun hS => ?_)
    refine sp_done (fun hS => ?_)
    refine bodyPost_end (results_none rfl _ _ _) rfl ?_
    refine ⟨_, rfl, HF.out, ⟨k3.out.1.os, k3.out.1.tape, k3.out.1.output, k3.out.1.size, fun k hk => absurd hk (Nat.not_lt_zero k)⟩, fun k hk he hr => ?_, fun k hk => ?_⟩
    · exact (Below.heap_setCell w1 ⟨e, 0, none⟩ (.slice A4 m4 c4) k he).trans ((HG.out.2.2.1.block k (by have := HWZ.out; omega) (fun e1 => hr e1.symm)).trans (HOLD.out k hk))
    · rcases HG.out.2.2.2 with e1 | ⟨b, e1, h1⟩
      · exact .inl (e1 ▸ hk)
      · rw [e1] at hk; cases hk; exact .inr (by have := HWZ.out; omega)
  · go_wp2_with fail
    have k1 := K0.mk (BoxI_alloc k0.out (by omega) (.cells #[.int .i64 x.f0, .int .i64 x.f1, .int .i64 x.f2, .bool x.f3, .int .i64 x.f4.f0, .string x.f4.f1, .bool x.f4.f2, .string x.f4.f3, .int .u64 x.f4.f4, .int .u64 x.f4.f5, .int .i64 x.f4.f6] 92))
    have ce2 : (wt.alloc (.cells #[.int .i64 x.f0, .int .i64 x.f1, .int .i64 x.f2, .bool x.f3, .int .i64 x.f4.f0, .string x.f4.f1, .bool x.f4.f2, .string x.f4.f3, .int .u64 x.f4.f4, .int .u64 x.f4.f5, .int .i64 x.f4.f6] 92)).cell? ⟨e, 0, none⟩ = some (.slice A3 l.length c3) := (blk_cell (blk_alloc HE.out _) 0).trans rfl
    refine hK.out _ _ k1 (fun hS => ?_)
    refine sp_1n rfl (fun hS K hK => ?_)
    go_wp2_with fail
    refine hK.out _ _ k1 (fun hS => ?_)
    refine sp_1n rfl (fun hS K hK => ?_)
    refine Eq.mp (if_pos yes_n) (Kd.R_append_step (ops := #[]) (Kc := K) k92 (w0 := w) B yes_n (.tmp 9) (.tmp 11) 35 92 (.agg #[(.int .i64 0), (.int .i64 0), (.int .i64 0), (.bool false), (.int .i64 0), (.string ⟨#[]⟩), (.bool false), (.string ⟨#[]⟩), (.int .u64 0), (.int .u64 0), (.int .i64 0)]) 104 rfl Try.underlying35 info92 rfl (by decide) (by omega) (.slice A3 l.length c3) l x [.int .i64 x.f0, .int .i64 x.f1, .int .i64 x.f2, .bool x.f3, .int .i64 x.f4.f0, .string x.f4.f1, .bool x.f4.f2, .string x.f4.f3, .int .u64 x.f4.f4, .int .u64 x.f4.f5, .int .i64 x.f4.f6] (fun k => k ≠ e) (fun _ => False) rfl rfl (k92_mkM _ _ _ x) (fun _ h => h.elim) (fun k hk => by have := HWZ.out; omega) HR.out HB.out (by have := HWZ.out; omega) (by omega) ?_)
    intro v1 w1 ho hb hg hat
    obtain ⟨A4, m4, c4, rfl⟩ : ∃ A m c, v1 = .slice A m c := by obtain ⟨A, c, h⟩ := Kd.R_slice ho; exact ⟨_, _, _, h⟩
    have HG := Aside0.mk (And.intro ho (And.intro hb (And.intro hg hat)))
    clear ho hb hg hat
    have hE1 : w1.heap[e]? = some (.cells #[.slice A3 l.length c3, .int .i64 c, mp] 59 (0, 0)) := (HG.out.2.2.1.block e (by have := HWZ.out; omega) (fun h => (HROW.out e h.symm).1 rfl)).trans HE.out
    have hX1 : w1.heap[w.heap.size]? = some (.cells #[.int .i64 x.f0, .int .i64 x.f1, .int .i64 x.f2, .bool x.f3, .int .i64 x.f4.f0, .string x.f4.f1, .bool x.f4.f2, .string x.f4.f3, .int .u64 x.f4.f4, .int .u64 x.f4.f5, .int .i64 x.f4.f6] 92 (0, 0)) := (HG.out.2.2.1.block w.heap.size (by have := HWZ.out; omega) (fun h => by have := (HROW.out _ h.symm).2; omega)).trans k0.out.2
    have k2 : K0 (BoxI B w w1 w.heap.size x) := ⟨⟨HG.out.2.1, hX1⟩⟩
    have ce1 : w1.cell? ⟨e, 0, none⟩ = some (.slice A3 l.length c3) := (blk_cell hE1 0).trans rfl
    have fe1 := blk_frozen hE1 0
    have hE2 := blk_put hE1 0 (.slice A4 m4 c4) (cs' := #[.slice A4 m4 c4, .int .i64 c, mp]) rfl
    have k3 : K0 (BoxI B w (w1.setCell ⟨e, 0, none⟩ (.slice A4 m4 c4)) w.heap.size x) := ⟨⟨HG.out.2.1.setCell hBe _, blk_far hX1 (by show w.heap.size ≠ e; omega) _⟩⟩
    have hR3 := Kd.R_far (p := ⟨e, 0, none⟩) HG.out.1 (fun k hk => hk) (.slice A4 m4 c4)
    have HF := Aside0.mk (And.intro hE2 hR3)
    clear hE1 hX1 hE2 hR3 ce
    refine hK.out _ _ k2 (fun hS => ?_)
    repeat (refine sp_n ?_ ?_ rfl ?_ ?_ ?_; rotate_left 2; (intro W hW; go_simp; first | done | with_reducible rfl); (simp only [List.setIfInBounds_toArray, List.set_cons_zero, List.set_cons_succ]; try rfl))
    refine sp_1n rfl (fun hS K hK => ?_)
    go_wp2_with fail
    refine hK.out _ _ k3 (fun hS => ?_)
    refine sp_done (fun hS => ?_)
    refine bodyPost_end (results_none rfl _ _ _) rfl ?_
    refine ⟨_, rfl, HF.out, ⟨k3.out.1.os, k3.out.1.tape, k3.out.1.output, k3.out.1.size, fun k hk => absurd hk (Nat.not_lt_zero k)⟩, fun k hk he hr => ?_, fun k hk => ?_⟩
    · exact (Below.heap_setCell w1 ⟨e, 0, none⟩ (.slice A4 m4 c4) k he).trans ((HG.out.2.2.1.block k (by have := HWZ.out; omega) (fun e1 => hr e1.symm)).trans (HOLD.out k hk))
    · rcases HG.out.2.2.2 with e1 | ⟨b, e1, h1⟩
      · exact .inl (e1 ▸ hk)
      · rw [e1] at hk; cases hk; exact .inr (by have := HWZ.out; omega)
end Go.Proofs.Ytpfehkkfakofaaa.Q

namespace Go.Proofs.Ytpfehkkfakofaaa.Q
open Go.RowKit Go.Proofs.YtpfehkkfakofaaaW.PrintWords Go.Proofs.YtpfehkkfakofaaaW.PrintLast Go.Proofs.YtpfehkkfakofaaaW.PrintMore
set_option linter.unusedVariables false
set_option linter.unusedSimpArgs false
theorem insR_set {w : World} {B e g n cap : Nat} {l : List S92} (h : Kd.R k92 92 w B (fun k => k ≠ e) (.slice (some ⟨g, 0, none⟩) n cap) l) {i : Nat} {x : S92} (hx : l[i]? = some x) (b : Int) :
    Kd.R k92 92 (w.setCell ⟨g, i * 11 + 2, none⟩ (.int .i64 b)) B (fun k => k ≠ e) (.slice (some ⟨g, 0, none⟩) n cap) (l.set i ⟨x.f0, x.f1, b, x.f3, x.f4⟩) ∧ (∃ u, w.cell? ⟨g, i * 11 + 2, none⟩ = some (.int .i64 u)) ∧ w.frozen? ⟨g, i * 11 + 2, none⟩ = false := by
  obtain ⟨hn, hnc, hC⟩ := Kd.R_reads' h
  have hil := (List.getElem?_eq_some_iff.mp hx).1
  have hat := at_T92 hC (i : Int) (by omega) (by omega)
  have hr : rd_T92 l (i : Int) = x := by unfold rd_T92; rw [Int.toNat_natCast]; simp [List.getD_eq_getElem?_getD, hx]
  rw [hr, Int.toNat_natCast] at hat
  obtain ⟨ad, ha, q0, q1, q2, q3, q4, q5, q6, q7, q8, q9, q10⟩ := hat
  cases ha
  have hadd : (⟨g, 0, none⟩ : Addr).add (i * 11) = ⟨g, i * 11, none⟩ := by
    unfold Addr.add; by_cases h0 : i * 11 = 0 <;> simp [h0]
  rw [hadd] at q0 q1 q2 q3 q4 q5 q6 q7 q8 q9 q10
  have hfz : w.frozen? ⟨g, i * 11 + 2, none⟩ = false := by
    obtain ⟨_, inner, hown, _⟩ := h
    rcases hown.2 with ⟨hv, _⟩ | ⟨g', cap', cur, hv, hb, hh, _⟩
    · cases hv
    · cases hv; exact blk_frozen hh _
  refine ⟨?_, ⟨x.f2, q2⟩, hfz⟩
  have := Kd.R_seg h (i : Int) (by omega) (by omega) (c := [.int .i64 x.f0, .int .i64 x.f1, .int .i64 x.f2, .bool x.f3, .int .i64 x.f4.f0, .string x.f4.f1, .bool x.f4.f2, .string x.f4.f3, .int .u64 x.f4.f4, .int .u64 x.f4.f5, .int .i64 x.f4.f6]) (seg := [.int .i64 b]) (j := 2) rfl
    (by
      intro j u hj
      rw [Int.toNat_natCast]
      match j, hj with
      | 0, hj => cases hj; exact q0
      | 1, hj => cases hj; exact q1
      | 2, hj => cases hj; exact q2
      | 3, hj => cases hj; exact q3
      | 4, hj => cases hj; exact q4
      | 5, hj => cases hj; exact q5
      | 6, hj => cases hj; exact q6
      | 7, hj => cases hj; exact q7
      | 8, hj => cases hj; exact q8
      | 9, hj => cases hj; exact q9
      | 10, hj => cases hj; exact q10
      | (m + 11), hj => simp at hj)
    (by show 2 + 1 ≤ 11; omega) (x' := ⟨x.f0, x.f1, b, x.f3, x.f4⟩) (k92_mkM w B (fun _ => False) ⟨x.f0, x.f1, b, x.f3, x.f4⟩) (fun _ h => h.elim)
  rw [Int.toNat_natCast] at this
  exact this.1
/-- What stays while a target is filled in. -/
def PatS (W : World) (e g0 g1 n : Nat) (A : Option Addr) (cap : Nat) (c : Int) (mp : Value) (i : Nat) : Prop :=
  W.heap[e]? = some (.cells #[.slice A n cap, .int .i64 c, mp] 59 (0, 0)) ∧ W.cell? ⟨g0, 0, none⟩ = some (.pointer (some ⟨e, 0, none⟩)) ∧ W.cell? ⟨g1, 0, none⟩ = some (.int .i64 i)
set_option maxHeartbeats 4000000 in
set_option maxRecDepth 100000 in
theorem patch_call (B e g0 g1 i : Nat) (l : List S92) (c : Int) (mp rv : Value) (x : S92) (w : World) (h : EmW w B e (l, c) mp rv) (hx : l[i]? = some x) (hl : l.length ≤ 1000000)
    (h0 : w.cell? ⟨g0, 0, none⟩ = some (.pointer (some ⟨e, 0, none⟩))) (h1 : w.cell? ⟨g1, 0, none⟩ = some (.int .i64 i)) (hr0 : rv.ownBlock ≠ some g0) (hr1 : rv.ownBlock ≠ some g1) :
    Calls Try.prog 82 #[.pointer (some ⟨g0, 0, none⟩), .pointer (some ⟨g1, 0, none⟩)] w fun ex w' => ex = .returned (.tuple #[]) ∧ EmW w' B e (l.set i ⟨x.f0, x.f1, l.length, x.f3, x.f4⟩, c) mp rv ∧ EmF w w' e rv rv := by
  obtain ⟨he, hR⟩ := h
  have hil := (List.getElem?_eq_some_iff.mp hx).1
  obtain ⟨A3, c3, rfl⟩ := Kd.R_slice hR
  obtain ⟨g, rfl⟩ : ∃ g, A3 = some ⟨g, 0, none⟩ := by
    obtain ⟨_, inner, hown, _⟩ := hR
    rcases hown.2 with ⟨hv, hz⟩ | ⟨g', cap', cur, hv, _⟩
    · injection hv with _ e2 _; have e3 : l.length = 0 := e2; omega
    · cases hv; exact ⟨_, rfl⟩
  have hge : g ≠ e := hR.1 g rfl
  have hg0 : g ≠ g0 := fun e1 => hr0 (by rw [e1]; rfl)
  have hg1 : g ≠ g1 := fun e1 => hr1 (by rw [e1]; rfl)
  obtain ⟨hR2, ⟨u, hcu⟩, hfz⟩ := insR_set hR hx (l.length : Int)
  have hBg := Kd.R_base hR g rfl
  have k0 : K0 (PatS w.drew e g0 g1 l.length (some ⟨g, 0, none⟩) c3 c mp i) := ⟨⟨blk_drew he, h0, h1⟩⟩
  have HR := Aside0.mk hR2
  have HE := Aside0.mk he
  have hcd : w.drew.cell? ⟨g, i * 11 + 2, none⟩ = some (.int .i64 u) := hcu
  have hfd : w.drew.frozen? ⟨g, i * 11 + 2, none⟩ = false := hfz
  have z0 : ∀ W [K0 (PatS W e g0 g1 l.length (some ⟨g, 0, none⟩) c3 c mp i)], W.cell? ⟨e, 0, none⟩ = some (.slice (some ⟨g, 0, none⟩) l.length c3) := fun W k => (blk_cell k.out.1 0).trans rfl
  have z1 : ∀ W [K0 (PatS W e g0 g1 l.length (some ⟨g, 0, none⟩) c3 c mp i)], W.cell? ⟨g0, 0, none⟩ = some (.pointer (some ⟨e, 0, none⟩)) := fun W k => k.out.2.1
  have z2 : ∀ W [K0 (PatS W e g0 g1 l.length (some ⟨g, 0, none⟩) c3 c mp i)], W.cell? ⟨g1, 0, none⟩ = some (.int .i64 i) := fun W k => k.out.2.2
  have k1 : K0 (PatS (w.drew.setCell ⟨g, i * 11 + 2, none⟩ (.int .i64 l.length)) e g0 g1 l.length (some ⟨g, 0, none⟩) c3 c mp i) :=
    ⟨⟨blk_far (blk_drew he) (fun e1 => hge e1.symm) _, (cell_far (fun e1 => hg0 e1.symm) _).trans h0, (cell_far (fun e1 => hg1 e1.symm) _).trans h1⟩⟩
  clear hR hR2 he h0 h1 hr0 hr1 hcu hfz hx
  go_enter Try.func82, Try.ntmps82
  go_upto_region 0 with (fail)
  refine sp_region (S := fun W' => K0 (PatS W' e g0 g1 l.length (some ⟨g, 0, none⟩) c3 c mp i)) (.n 0 (.n 1 (.n 2 (.n 3 (.n 4 (.n 5 (.n 6 (.n 7 (.n 8 (.n 9 (.n 10 (.n 11 (.n 12 (.n 13 (.y 14 .done))))))))))))))) (by kernel_rfl) (by kernel_rfl) k0 (fun hS => ?_)
  repeat (refine sp_n ?_ ?_ rfl ?_ ?_ ?_; rotate_left 2; (intro W hW; go_simp; first | done | with_reducible rfl); (simp only [List.setIfInBounds_toArray, List.set_cons_zero, List.set_cons_succ]; try rfl))
  refine sp_1n rfl (fun hS K hK => ?_)
  go_wp2_with fail
  refine hK.out _ _ k1 (fun hS => ?_)
  refine sp_done (fun hS => ?_)
  refine bodyPost_end (results_none rfl _ _ _) rfl ?_
  have hb := (Below.refl 0 w.drew).setCell (p := ⟨g, i * 11 + 2, none⟩) (Nat.zero_le _) (.int .i64 l.length)
  refine ⟨rfl, ⟨k1.out.1, HR.out⟩, ⟨hb.os, hb.tape, hb.output, hb.size, fun k hk => absurd hk (Nat.not_lt_zero k)⟩, fun k hk he hr => Below.heap_setCell w _ _ k (fun e1 => hr (by rw [e1]; rfl)), fun k hk => .inl hk⟩
end Go.Proofs.Ytpfehkkfakofaaa.Q

namespace Go.Proofs.Ytpfehkkfakofaaa.Q
open Go.RowKit Go.Proofs.YtpfehkkfakofaaaW.PrintWords Go.Proofs.YtpfehkkfakofaaaW.PrintLast Go.Proofs.YtpfehkkfakofaaaW.PrintMore
set_option linter.unusedVariables false
set_option linter.unusedSimpArgs false
/-- What jump hands back: the function that fills in the target of instruction i. -/
def jumpV (g0 g1 : Nat) : Value := .func (.func 82) #[] #[.pointer (some ⟨g0, 0, none⟩), .pointer (some ⟨g1, 0, none⟩)]
set_option maxHeartbeats 4000000 in
set_option maxRecDepth 100000 in
theorem jump_call (B e : Nat) (l : List S92) (c : Int) (mp rv : Value) (x : S92) (w : World) (h : EmW w B e (l, c) mp rv) (hBe : B ≤ e) (hl : l.length ≤ 1000000) :
    Calls Try.prog 65 #[.pointer (some ⟨e, 0, none⟩), .agg #[.int .i64 x.f0, .int .i64 x.f1, .int .i64 x.f2, .bool x.f3, .int .i64 x.f4.f0, .string x.f4.f1, .bool x.f4.f2, .string x.f4.f3, .int .u64 x.f4.f4, .int .u64 x.f4.f5, .int .i64 x.f4.f6]] w fun ex w' => ∃ g0 g1 rv', ex = .returned (jumpV g0 g1) ∧ EmW w' B e (l ++ [x], c) mp rv' ∧ EmF w w' e rv rv' ∧ w.heap.size ≤ g0 ∧ w.heap.size ≤ g1 ∧ w'.cell? ⟨g0, 0, none⟩ = some (.pointer (some ⟨e, 0, none⟩)) ∧ w'.cell? ⟨g1, 0, none⟩ = some (.int .i64 l.length) ∧ rv'.ownBlock ≠ some g0 ∧ rv'.ownBlock ≠ some g1 := by
  have hmf : ∀ (fn : Fn) (first cap : Array Value) (w : World), (Instr.makeFunc fn first cap).run Try.prog w = .ok (.func fn first cap) w := fun _ _ _ _ => rfl
  have kr : K0 (Below w.heap.size w w) := ⟨Below.refl _ _⟩
  obtain ⟨he, hR⟩ := h
  obtain ⟨A3, c3, rfl⟩ := Kd.R_slice hR
  have c0 := clk ((blk_cell he 0).trans rfl : w.cell? ⟨e, 0, none⟩ = some (.slice A3 l.length c3))
  have HE := Aside0.mk he
  have HR := Aside0.mk hR
  have hes := lt_of_some he
  have hrow : ∀ k, Value.ownBlock (.slice A3 l.length c3) = some k → k < w.heap.size := by
    intro k hk
    obtain ⟨h0, inner, hown, -⟩ := hR
    exact (hown.lt k hk).2
  have HP := Aside0.mk (show EmW (((w.alloc (.cells #[.pointer (some ⟨e, 0, none⟩)] 94)).alloc (.cells #[.int .i64 x.f0, .int .i64 x.f1, .int .i64 x.f2, .bool x.f3, .int .i64 x.f4.f0, .string x.f4.f1, .bool x.f4.f2, .string x.f4.f3, .int .u64 x.f4.f4, .int .u64 x.f4.f5, .int .i64 x.f4.f6] 92)).alloc (.cells #[.int .i64 l.length] 3)) B e (l, c) mp (.slice A3 l.length c3) from ⟨blk_alloc (blk_alloc (blk_alloc he _) _) _, Kd.R_alloc (Kd.R_alloc (Kd.R_alloc hR _) _) _⟩)
  have HS := Aside0.mk (show (((w.alloc (.cells #[.pointer (some ⟨e, 0, none⟩)] 94)).alloc (.cells #[.int .i64 x.f0, .int .i64 x.f1, .int .i64 x.f2, .bool x.f3, .int .i64 x.f4.f0, .string x.f4.f1, .bool x.f4.f2, .string x.f4.f3, .int .u64 x.f4.f4, .int .u64 x.f4.f5, .int .i64 x.f4.f6] 92)).alloc (.cells #[.int .i64 l.length] 3)).heap.size = w.heap.size + 3 from by simp only [sz_al])
  have HO := Aside0.mk (show ∀ k, k < w.heap.size → (((w.alloc (.cells #[.pointer (some ⟨e, 0, none⟩)] 94)).alloc (.cells #[.int .i64 x.f0, .int .i64 x.f1, .int .i64 x.f2, .bool x.f3, .int .i64 x.f4.f0, .string x.f4.f1, .bool x.f4.f2, .string x.f4.f3, .int .u64 x.f4.f4, .int .u64 x.f4.f5, .int .i64 x.f4.f6] 92)).alloc (.cells #[.int .i64 l.length] 3)).heap[k]? = w.heap[k]? from fun k hk => (heap_alloc_old _ _ (by rw [sz_al, sz_al]; omega)).trans ((heap_alloc_old _ _ (by rw [sz_al]; omega)).trans (heap_alloc_old _ _ hk)))
  have HB := Aside0.mk (show Below 0 w (((w.alloc (.cells #[.pointer (some ⟨e, 0, none⟩)] 94)).alloc (.cells #[.int .i64 x.f0, .int .i64 x.f1, .int .i64 x.f2, .bool x.f3, .int .i64 x.f4.f0, .string x.f4.f1, .bool x.f4.f2, .string x.f4.f3, .int .u64 x.f4.f4, .int .u64 x.f4.f5, .int .i64 x.f4.f6] 92)).alloc (.cells #[.int .i64 l.length] 3)) from Below.alloc (Below.alloc (Below.alloc (Below.refl _ _) (Nat.zero_le _) _) (Nat.zero_le _) _) (Nat.zero_le _) _)
  have H0 := Aside0.mk (show (((w.alloc (.cells #[.pointer (some ⟨e, 0, none⟩)] 94)).alloc (.cells #[.int .i64 x.f0, .int .i64 x.f1, .int .i64 x.f2, .bool x.f3, .int .i64 x.f4.f0, .string x.f4.f1, .bool x.f4.f2, .string x.f4.f3, .int .u64 x.f4.f4, .int .u64 x.f4.f5, .int .i64 x.f4.f6] 92)).alloc (.cells #[.int .i64 l.length] 3)).heap[w.heap.size]? = some (.cells #[.pointer (some ⟨e, 0, none⟩)] 94 (0, 0)) from blk_alloc (blk_alloc (heap_alloc_new w _) _) _)
  have H1 := Aside0.mk (show (((w.alloc (.cells #[.pointer (some ⟨e, 0, none⟩)] 94)).alloc (.cells #[.int .i64 x.f0, .int .i64 x.f1, .int .i64 x.f2, .bool x.f3, .int .i64 x.f4.f0, .string x.f4.f1, .bool x.f4.f2, .string x.f4.f3, .int .u64 x.f4.f4, .int .u64 x.f4.f5, .int .i64 x.f4.f6] 92)).alloc (.cells #[.int .i64 l.length] 3)).heap[w.heap.size + 1 + 1]? = some (.cells #[.int .i64 l.length] 3 (0, 0)) from new2 w _ _ _)
  have HROW := Aside0.mk hrow
  clear he hR hrow
  go_enter Try.func65, Try.ntmps65
  go_wp2_with fail
  generalize (((w.alloc (.cells #[.pointer (some ⟨e, 0, none⟩)] 94)).alloc (.cells #[.int .i64 x.f0, .int .i64 x.f1, .int .i64 x.f2, .bool x.f3, .int .i64 x.f4.f0, .string x.f4.f1, .bool x.f4.f2, .string x.f4.f3, .int .u64 x.f4.f4, .int .u64 x.f4.f5, .int .i64 x.f4.f6] 92)).alloc (.cells #[.int .i64 l.length] 3)) = wp at *
  refine (put_call B e l c mp _ x wp HP.out hBe hl).mono ?_
  rintro ex W2 ⟨rv', rfl, hE, hF⟩
  have HE2 := Aside0.mk hE
  have HF := Aside0.mk hF
  clear hE hF
  go_wp2
  go_ret
  have hs := HS.out
  have hg : ∀ g o, w.heap.size ≤ g → g < wp.heap.size → wp.heap[g]? = some o → W2.heap[g]? = some o := fun g o h1 h2 h3 =>
    (HF.out.2.1 g h2 (by omega) (fun e1 => by have := HROW.out g e1; omega)).trans h3
  have hr : ∀ g, w.heap.size ≤ g → g < wp.heap.size → rv'.ownBlock ≠ some g := fun g h1 h2 e1 => by
    rcases HF.out.2.2 g e1 with h3 | h3
    · have := HROW.out g h3; omega
    · omega
  have q0 := hg w.heap.size _ (Nat.le_refl _) (by omega) H0.out
  have q1 := hg (w.heap.size + 1 + 1) _ (by omega) (by omega) H1.out
  refine ⟨w.heap.size, w.heap.size + 1 + 1, rv', rfl, HE2.out, ⟨HB.out.trans HF.out.1, fun k hk he hr => ?_, fun k hk => ?_⟩, Nat.le_refl _, by omega, (blk_cell q0 0).trans rfl, (blk_cell q1 0).trans rfl, hr _ (Nat.le_refl _) (by omega), hr _ (by omega) (by omega)⟩
  · exact (HF.out.2.1 k (by omega) he hr).trans (HO.out k hk)
  · rcases HF.out.2.2 k hk with h3 | h3
    · exact .inl h3
    · exact .inr (by omega)
end Go.Proofs.Ytpfehkkfakofaaa.Q

namespace Go.Proofs.Ytpfehkkfakofaaa.Q
open Go.RowKit Go.Proofs.YtpfehkkfakofaaaW.PrintWords Go.Proofs.YtpfehkkfakofaaaW.PrintLast Go.Proofs.YtpfehkkfakofaaaW.PrintMore
set_option linter.unusedVariables false
set_option linter.unusedSimpArgs false
def ptrV (a : Nat) : Value := .pointer (some ⟨a, 0, none⟩)
/-- A block of cells of its own. -/
def CellB (w : World) (a : Nat) : Prop := ∃ cs t, w.heap[a]? = some (.cells cs t (0, 0))
theorem upt : Try.prog.underlying 47 = some (.pointer 65) := Try.underlying47
theorem upm : Try.prog.underlying 55 = some (.map 47 2) := Try.underlying55
theorem eq_ptr_in (d : Nat) (w : World) (a b : Nat) (ha : CellB w a) (hb : CellB w b) : (Op.equalIn (d + 1) 47 (ptrV a) (ptrV b)).run Try.prog w = .ok (a == b) w := by
  obtain ⟨i, hi, hz0, hz1, hz2⟩ := info_parts (show (Try.prog.info? 65).map (fun i => (i.zero, i.size, i.bytes)) = some (some (.agg #[.int .i64 0, .string ⟨#[]⟩, .bool false, .string ⟨#[]⟩, .int .u64 0, .int .u64 0, .int .i64 0, .slice none 0 0]), 8, 96) from by kernel_rfl)
  obtain ⟨ca, ta, ha⟩ := ha
  obtain ⟨cb, tb, hb⟩ := hb
  unfold ptrV
  by_cases h : a = b
  · subst h
    simp [Op.equalIn, run_underlying upt, sizeOf, typeInfo, hi, hz1, run_sameAddr_same]
  · have hne : (⟨a, 0, none⟩ : Addr) ≠ ⟨b, 0, none⟩ := fun e => h (by cases e; rfl)
    simp [Op.equalIn, run_underlying upt, sizeOf, typeInfo, hi, hz1, run_sameAddr_other w hne ha hb, h]
theorem eq_ptr (w : World) (a b : Nat) (ha : CellB w a) (hb : CellB w b) : (Op.equal 47 (ptrV a) (ptrV b)).run Try.prog w = .ok (a == b) w := eq_ptr_in 9999 w a b ha hb
theorem check_in (n : Nat) (w : World) (e : Bool) (a : Nat) : (Instr.checkKey e (n + 1) 47 (.pointer (some ⟨a, 0, none⟩))).run Try.prog w = .ok () w := by
  simp [Instr.checkKey, run_underlying upt]
theorem check_run (w : World) (e : Bool) (a : Nat) : (Instr.checkKey e 10000 47 (.pointer (some ⟨a, 0, none⟩))).run Try.prog w = .ok () w := check_in 9999 w e a
/-- The map m: pointers of trees and their numbers, in the order in which they came. -/
def MapW (w : World) (m : Nat) (es : List (Nat × Int)) : Prop :=
  ∃ (L : List MapEntry) (clock : Nat), w.heap[m]? = some (.map L.toArray clock) ∧ L.map (fun e => (e.key, e.val)) = es.map (fun p => (ptrV p.1, Value.int .i64 p.2)) ∧ ∀ p ∈ es, CellB w p.1
def findE (a : Nat) : List (Nat × Int) → Nat → Option (Nat × Value)
  | [], _ => none
  | p :: r, i => if a = p.1 then some (i, .int .i64 p.2) else findE a r (i + 1)
theorem asking_run (w : World) (a : Nat) (ha : CellB w a) : ∀ (L : List MapEntry) (es : List (Nat × Int)) (i : Nat), L.map (fun e => (e.key, e.val)) = es.map (fun p => (ptrV p.1, Value.int .i64 p.2)) → (∀ p ∈ es, CellB w p.1) →
    (Instr.findAsking 47 (ptrV a) L i).run Try.prog w = .ok (findE a es i) w
  | [], [], i, h, hc => by simp [Instr.findAsking, findE]
  | [], p :: es, i, h, hc => by simp at h
  | e :: L, [], i, h, hc => by simp at h
  | e :: L, p :: es, i, h, hc => by
    simp only [List.map_cons, List.cons.injEq, Prod.mk.injEq] at h
    obtain ⟨⟨h1, h2⟩, h3⟩ := h
    have ih := asking_run w a ha L es (i + 1) h3 (fun q hq => hc q (List.mem_cons_of_mem _ hq))
    have he := eq_ptr w a p.1 ha (hc p (List.mem_cons_self ..))
    unfold Instr.findAsking findE
    rw [h1, Sem.run_bind, he, h2]
    by_cases hap : a = p.1
    · simp [hap, Result.andThen]
    · simp [hap, Result.andThen, ih]
theorem key_run (w : World) (a : Nat) (ha : CellB w a) (L : List MapEntry) (es : List (Nat × Int)) (h : L.map (fun e => (e.key, e.val)) = es.map (fun p => (ptrV p.1, Value.int .i64 p.2))) (hc : ∀ p ∈ es, CellB w p.1) :
    (Instr.findKey 47 (ptrV a) L).run Try.prog w = .ok (findE a es 0) w := by
  have h1 := asking_run w a ha L es 0 h hc
  unfold Instr.findKey
  rw [Sem.run_bind, run_underlying upt]
  simp only [Result.andThen]
  cases L with
  | nil =>
    cases es with
    | nil => simp [Instr.findNow, findE]
    | cons p es => simp at h
  | cons e L =>
    have h2 : Instr.findNow (.pointer 65) (ptrV a) (e :: L) 0 = none := by simp [Instr.findNow, Instr.sameNow]
    rw [h2]
    exact h1
theorem lookup_run (w : World) (m a i : Nat) (k : Int) (es : List (Nat × Int)) (hm : MapW w m es) (ha : CellB w a) (hf : findE a es 0 = some (i, .int .i64 k)) :
    (Instr.lookup 55 (.map (some m)) (.pointer (some ⟨a, 0, none⟩)) false).run Try.prog w = .ok (.int .i64 k) w := by
  obtain ⟨L, clock, hb, he, hc⟩ := hm
  have hk := key_run w a ha L es he hc
  rw [hf] at hk
  unfold ptrV at hk
  simp [Instr.lookup, run_underlying upm, MapKept.run_getObj_map hb, check_run, hk, Result.andThen]
theorem findE_none (a : Nat) : ∀ (es : List (Nat × Int)) (i : Nat), (∀ p ∈ es, p.1 ≠ a) → findE a es i = none
  | [], i, h => rfl
  | p :: es, i, h => by
    unfold findE
    rw [if_neg (fun e => h p (List.mem_cons_self ..) e.symm)]
    exact findE_none a es (i + 1) (fun q hq => h q (List.mem_cons_of_mem _ hq))
theorem update_run (w : World) (m a : Nat) (v : Int) (es : List (Nat × Int)) (hm : MapW w m es) (ha : CellB w a) (hn : ∀ p ∈ es, p.1 ≠ a) (hma : m ≠ a) :
    ∃ w', (Instr.mapUpdate 55 (.map (some m)) (.pointer (some ⟨a, 0, none⟩)) (.int .i64 v)).run Try.prog w = .ok () w' ∧ MapW w' m (es ++ [(a, v)]) ∧ (∀ k, k ≠ m → w'.heap[k]? = w.heap[k]?) ∧ Below 0 w w' ∧ w'.heap.size = w.heap.size := by
  obtain ⟨L, clock, hb, he, hc⟩ := hm
  have hk := key_run w a ha L es he hc
  rw [findE_none a es 0 hn] at hk
  unfold ptrV at hk
  have hs := MapKept.heap_set (w := w) (r := m) (o' := .map (L ++ [(⟨ptrV a, .int .i64 v, clock⟩ : MapEntry)]).toArray (clock + 1)) hb
  refine ⟨{ w with heap := w.heap.setIfInBounds m (.map (L ++ [(⟨ptrV a, .int .i64 v, clock⟩ : MapEntry)]).toArray (clock + 1)) }, ?_, ⟨L ++ [(⟨ptrV a, .int .i64 v, clock⟩ : MapEntry)], clock + 1, hs.1, ?_, ?_⟩, fun k hk => hs.2 k hk, ⟨rfl, rfl, rfl, ?_, fun k hk => absurd hk (Nat.not_lt_zero k)⟩, ?_⟩
  · simp [Instr.mapUpdate, run_underlying upm, MapKept.run_getObj_map hb, check_run, hk, MapKept.run_setObj_map _ hb, Result.andThen, ptrV]
  · simp [he]
  · intro p hp
    have hp2 : CellB w p.1 := by
      rcases List.mem_append.mp hp with h | h
      · exact hc p h
      · rw [List.mem_singleton.mp h]; exact ha
    obtain ⟨cs, t, h1⟩ := hp2
    refine ⟨cs, t, (hs.2 p.1 (fun e => ?_)).trans h1⟩
    rw [e, hb] at h1; cases h1
  · simp
  · simp
end Go.Proofs.Ytpfehkkfakofaaa.Q

namespace Go.Proofs.Ytpfehkkfakofaaa.Q
open Go.RowKit Go.Proofs.YtpfehkkfakofaaaW.PrintWords Go.Proofs.YtpfehkkfakofaaaW.PrintLast Go.Proofs.YtpfehkkfakofaaaW.PrintMore
set_option linter.unusedVariables false
set_option linter.unusedSimpArgs false
mutual
def OrdT (w : World) (ok : Nat → Prop) (lo hi : Nat) : Tr → Value → Prop
  | .node n ks, v => ∃ (a : Nat) (u : Value) (vs : List Value), v = .pointer (some ⟨a, 0, none⟩) ∧ a < hi ∧ ok a ∧ w.heap[a]? = some (.cells (nodeV n u) 65 (0, 0)) ∧ w.ownsRow 0 47 1 u vs.length vs ∧ (∀ k, u.ownBlock = some k → ok k) ∧ OrdTs w ok lo a ks vs
def OrdTs (w : World) (ok : Nat → Prop) (lo hi : Nat) : List Tr → List Value → Prop
  | [], vs => vs = [] ∧ lo ≤ hi
  | x :: xs, vs => ∃ mid u us, vs = u :: us ∧ OrdT w ok lo mid x u ∧ OrdTs w ok mid hi xs us
end
mutual
theorem OrdT_le {w : World} {ok : Nat → Prop} : ∀ (x : Tr) (lo hi : Nat) (v : Value), OrdT w ok lo hi x v → lo < hi
  | .node n ks, lo, hi, v, h => by
    unfold OrdT at h
    obtain ⟨a, u, vs, h1, h2, h3, h4, h5, h6, h7⟩ := h
    have := OrdTs_le ks lo a vs h7
    omega
theorem OrdTs_le {w : World} {ok : Nat → Prop} : ∀ (xs : List Tr) (lo hi : Nat) (vs : List Value), OrdTs w ok lo hi xs vs → lo ≤ hi
  | [], lo, hi, vs, h => by unfold OrdTs at h; exact h.2
  | x :: xs, lo, hi, vs, h => by
    unfold OrdTs at h
    obtain ⟨mid, u, us, h1, h2, h3⟩ := h
    have := OrdT_le x lo mid u h2
    have := OrdTs_le xs mid hi us h3
    omega
end
mutual
theorem OrdT_rep {w : World} {ok : Nat → Prop} : ∀ (x : Tr) (lo hi : Nat) (v : Value), OrdT w ok lo hi x v → RepT w ok x v
  | .node n ks, lo, hi, v, h => by
    unfold OrdT at h; unfold RepT
    obtain ⟨a, u, vs, h1, h2, h3, h4, h5, h6, h7⟩ := h
    exact ⟨a, u, vs, h1, h3, h4, h5, h6, OrdTs_rep ks lo a vs h7⟩
theorem OrdTs_rep {w : World} {ok : Nat → Prop} : ∀ (xs : List Tr) (lo hi : Nat) (vs : List Value), OrdTs w ok lo hi xs vs → RepTs w ok xs vs
  | [], lo, hi, vs, h => by unfold OrdTs at h; unfold RepTs; exact h.1
  | x :: xs, lo, hi, vs, h => by
    unfold OrdTs at h; unfold RepTs
    obtain ⟨mid, u, us, h1, h2, h3⟩ := h
    exact ⟨u, us, h1, OrdT_rep x lo mid u h2, OrdTs_rep xs mid hi us h3⟩
end
mutual
theorem OrdT_move {w w1 : World} {ok ok' : Nat → Prop} (hm : ∀ k, ok k → k < w.heap.size → ok' k ∧ w1.heap[k]? = w.heap[k]?) : ∀ (x : Tr) (lo hi : Nat) (v : Value), OrdT w ok lo hi x v → OrdT w1 ok' lo hi x v
  | .node n ks, lo, hi, v, h => by
    unfold OrdT at h ⊢
    obtain ⟨a, u, vs, h1, h0, h2, h3, h4, h5, h6⟩ := h
    have ha := hm a h2 (lt_of_some h3)
    exact ⟨a, u, vs, h1, h0, ha.1, ha.2.trans h3, own_move h4 (fun k hk => (hm k (h5 k hk) (h4.lt k hk).2).2), fun k hk => (hm k (h5 k hk) (h4.lt k hk).2).1, OrdTs_move hm ks lo a vs h6⟩
theorem OrdTs_move {w w1 : World} {ok ok' : Nat → Prop} (hm : ∀ k, ok k → k < w.heap.size → ok' k ∧ w1.heap[k]? = w.heap[k]?) : ∀ (xs : List Tr) (lo hi : Nat) (vs : List Value), OrdTs w ok lo hi xs vs → OrdTs w1 ok' lo hi xs vs
  | [], lo, hi, vs, h => by unfold OrdTs at h ⊢; exact h
  | x :: xs, lo, hi, vs, h => by
    unfold OrdTs at h ⊢
    obtain ⟨mid, u, us, h1, h2, h3⟩ := h
    exact ⟨mid, u, us, h1, OrdT_move hm x lo mid u h2, OrdTs_move hm xs mid hi us h3⟩
end
theorem OrdT_up {w : World} {ok : Nat → Prop} {x : Tr} {lo hi hi' : Nat} {v : Value} (h : OrdT w ok lo hi x v) (hh : hi ≤ hi') : OrdT w ok lo hi' x v := by
  cases x
  unfold OrdT at h ⊢
  obtain ⟨a, u, vs, h1, h2, h3⟩ := h
  exact ⟨a, u, vs, h1, by omega, h3⟩
theorem OrdTs_up {w : World} {ok : Nat → Prop} : ∀ (xs : List Tr) (lo hi hi' : Nat) (vs : List Value), OrdTs w ok lo hi xs vs → hi ≤ hi' → OrdTs w ok lo hi' xs vs
  | [], lo, hi, hi', vs, h, hh => by unfold OrdTs at h ⊢; exact ⟨h.1, by omega⟩
  | x :: xs, lo, hi, hi', vs, h, hh => by
    unfold OrdTs at h ⊢
    obtain ⟨mid, u, us, h1, h2, h3⟩ := h
    exact ⟨mid, u, us, h1, h2, OrdTs_up xs mid hi hi' us h3 hh⟩
mutual
theorem OrdT_down {w : World} {ok : Nat → Prop} : ∀ (x : Tr) (lo lo' hi : Nat) (v : Value), OrdT w ok lo hi x v → lo' ≤ lo → OrdT w ok lo' hi x v
  | .node n ks, lo, lo', hi, v, h, hh => by
    unfold OrdT at h ⊢
    obtain ⟨a, u, vs, h1, h2, h3, h4, h5, h6, h7⟩ := h
    exact ⟨a, u, vs, h1, h2, h3, h4, h5, h6, OrdTs_down ks lo lo' a vs h7 hh⟩
theorem OrdTs_down {w : World} {ok : Nat → Prop} : ∀ (xs : List Tr) (lo lo' hi : Nat) (vs : List Value), OrdTs w ok lo hi xs vs → lo' ≤ lo → OrdTs w ok lo' hi xs vs
  | [], lo, lo', hi, vs, h, hh => by unfold OrdTs at h ⊢; exact ⟨h.1, by omega⟩
  | x :: xs, lo, lo', hi, vs, h, hh => by
    unfold OrdTs at h ⊢
    obtain ⟨mid, u, us, h1, h2, h3⟩ := h
    exact ⟨mid, u, us, h1, OrdT_down x lo lo' mid u h2 hh, h3⟩
end
theorem OrdTs_len {w : World} {ok : Nat → Prop} {xs : List Tr} {lo hi : Nat} {vs : List Value} (h : OrdTs w ok lo hi xs vs) : vs.length = xs.length := RepTs_len xs vs (OrdTs_rep xs lo hi vs h)
/-- The first trees of a row of trees, and the others behind them. -/
theorem OrdTs_cut {w : World} {ok : Nat → Prop} : ∀ (xs : List Tr) (vs : List Value) (m lo hi : Nat), OrdTs w ok lo hi xs vs → ∃ mid, OrdTs w ok lo mid (xs.take m) (vs.take m) ∧ OrdTs w ok mid hi (xs.drop m) (vs.drop m)
  | xs, vs, 0, lo, hi, h => ⟨lo, by simp [OrdTs], by simpa using h⟩
  | [], vs, m + 1, lo, hi, h => by
    unfold OrdTs at h
    obtain ⟨rfl, h⟩ := h
    exact ⟨lo, by simp [OrdTs], by simp [OrdTs, h]⟩
  | x :: xs, vs, m + 1, lo, hi, h => by
    unfold OrdTs at h
    obtain ⟨mid, u, us, rfl, h2, h3⟩ := h
    obtain ⟨m2, h4, h5⟩ := OrdTs_cut xs us m mid hi h3
    refine ⟨m2, ?_, h5⟩
    simp only [List.take_succ_cons]
    unfold OrdTs
    exact ⟨mid, u, _, rfl, h2, h4⟩
theorem OrdTs_app {w : World} {ok : Nat → Prop} : ∀ (xs : List Tr) (vs : List Value) (lo mid hi : Nat) (ys : List Tr) (us : List Value), OrdTs w ok lo mid xs vs → OrdTs w ok mid hi ys us → OrdTs w ok lo hi (xs ++ ys) (vs ++ us)
  | [], vs, lo, mid, hi, [], us, h, h2 => by
    unfold OrdTs at h h2 ⊢
    obtain ⟨rfl, h⟩ := h
    exact ⟨by simpa using h2.1, by omega⟩
  | [], vs, lo, mid, hi, y :: ys, us, h, h2 => by
    unfold OrdTs at h
    obtain ⟨rfl, h⟩ := h
    exact OrdTs_down _ _ _ _ _ h2 h
  | x :: xs, vs, lo, mid, hi, ys, us, h, h2 => by
    unfold OrdTs at h
    obtain ⟨m, u, us', rfl, h3, h4⟩ := h
    show OrdTs w ok lo hi (x :: (xs ++ ys)) (u :: (us' ++ us))
    unfold OrdTs
    exact ⟨m, u, _, rfl, h3, OrdTs_app xs us' m mid hi ys us h4 h2⟩
end Go.Proofs.Ytpfehkkfakofaaa.Q

namespace Go.Proofs.Ytpfehkkfakofaaa.Q
open Go.RowKit Go.Proofs.YtpfehkkfakofaaaW.PrintWords Go.Proofs.YtpfehkkfakofaaaW.PrintLast Go.Proofs.YtpfehkkfakofaaaW.PrintMore
set_option linter.unusedVariables false
set_option linter.unusedSimpArgs false
mutual
/-- The tree t at v; its ifs have the numbers from first on in es. -/
def NumT (w : World) (ok : Nat → Prop) (es : List (Nat × Int)) : Tr → Value → Int → Prop
  | .node n ks, v, first => ∃ (a : Nat) (u : Value) (vs : List Value), v = .pointer (some ⟨a, 0, none⟩) ∧ ok a ∧ w.heap[a]? = some (.cells (nodeV n u) 65 (0, 0)) ∧ w.ownsRow 0 47 1 u vs.length vs ∧ (∀ k, u.ownBlock = some k → ok k) ∧
      (n.f0 = 16 → ∃ i, findE a es 0 = some (i, .int .i64 (first + ifsTs (ks.take 1)))) ∧ NumTs w ok es (if n.f0 = 16 then 1 else 0) ks vs first
def NumTs (w : World) (ok : Nat → Prop) (es : List (Nat × Int)) (z : Int) : List Tr → List Value → Int → Prop
  | [], vs, first => vs = []
  | x :: xs, vs, first => ∃ u us, vs = u :: us ∧ NumT w ok es x u first ∧ NumTs w ok es 0 xs us (first + ifsT x + z)
end
mutual
theorem NumT_move {w w1 : World} {ok ok' : Nat → Prop} {es : List (Nat × Int)} (hm : ∀ k, ok k → k < w.heap.size → ok' k ∧ w1.heap[k]? = w.heap[k]?) : ∀ (x : Tr) (v : Value) (first : Int), NumT w ok es x v first → NumT w1 ok' es x v first
  | .node n ks, v, first, h => by
    unfold NumT at h ⊢
    obtain ⟨a, u, vs, h1, h2, h3, h4, h5, h6, h7⟩ := h
    have ha := hm a h2 (lt_of_some h3)
    exact ⟨a, u, vs, h1, ha.1, ha.2.trans h3, own_move h4 (fun k hk => (hm k (h5 k hk) (h4.lt k hk).2).2), fun k hk => (hm k (h5 k hk) (h4.lt k hk).2).1, h6, NumTs_move hm ks vs _ first h7⟩
theorem NumTs_move {w w1 : World} {ok ok' : Nat → Prop} {es : List (Nat × Int)} (hm : ∀ k, ok k → k < w.heap.size → ok' k ∧ w1.heap[k]? = w.heap[k]?) : ∀ (xs : List Tr) (vs : List Value) (z first : Int), NumTs w ok es z xs vs first → NumTs w1 ok' es z xs vs first
  | [], vs, z, first, h => by unfold NumTs at h ⊢; exact h
  | x :: xs, vs, z, first, h => by
    unfold NumTs at h ⊢
    obtain ⟨u, us, h1, h2, h3⟩ := h
    exact ⟨u, us, h1, NumT_move hm x u first h2, NumTs_move hm xs us 0 _ h3⟩
end
theorem MapW_move {w w1 : World} {m : Nat} {es : List (Nat × Int)} {B : Nat} (h : MapW w m es) (hm : m < B) (hk : ∀ p ∈ es, p.1 < B) (hb : Below B w w1) : MapW w1 m es := by
  obtain ⟨L, clock, h1, h2, h3⟩ := h
  refine ⟨L, clock, (hb.block m hm).trans h1, h2, fun p hp => ?_⟩
  obtain ⟨cs, t, h4⟩ := h3 p hp
  exact ⟨cs, t, (hb.block p.1 (hk p hp)).trans h4⟩
set_option maxHeartbeats 4000000 in
set_option maxRecDepth 100000 in
theorem counts_call (n : S63) (w : World) : Calls Try.prog 66 #[.agg #[.int .i64 n.f0, .string n.f1, .bool n.f2, .string n.f3, .int .u64 n.f4, .int .u64 n.f5, .int .i64 n.f6]] w fun ex w' => ex = .returned (.bool (cntN n)) ∧ Below w.heap.size w w' := by
  have kr : K0 (Below w.heap.size w w) := ⟨Below.refl _ _⟩
  have hc : cntN n = (decide (n.f0 = 11) || (decide (n.f0 = 12) || decide (n.f0 = 13))) := rfl
  go_enter Try.func66, Try.ntmps66
  by_cases h1 : n.f0 = 11
  · go_wp2
    go_ret
    exact ⟨by simp [cntN, h1], kk⟩
  · by_cases h2 : n.f0 = 12
    · go_wp2
      go_ret
      exact ⟨by simp [cntN, h1, h2], kk⟩
    · by_cases h3 : n.f0 = 13
      · go_wp2
        go_ret
        exact ⟨by simp [cntN, h1, h2, h3], kk⟩
      · go_wp2
        go_ret
        exact ⟨by simp [cntN, h1, h2, h3], kk⟩
end Go.Proofs.Ytpfehkkfakofaaa.Q

namespace Go.Proofs.Ytpfehkkfakofaaa.Q
open Go.RowKit Go.Proofs.YtpfehkkfakofaaaW.PrintWords Go.Proofs.YtpfehkkfakofaaaW.PrintLast Go.Proofs.YtpfehkkfakofaaaW.PrintMore
set_option linter.unusedVariables false
set_option linter.unusedSimpArgs false
theorem clkB {B : Nat} {w : World} {g i : Nat} {v : Value} (h : w.cell? ⟨g, i, none⟩ = some v) (hg : g < B) : ∀ W [K0 (Below B w W)], W.cell? ⟨g, i, none⟩ = some v := fun W k => (k.out.cell hg).trans h
theorem EmW_below {w w' : World} {B e : Nat} {b : List S92 × Int} {mp rv rv' : Value} (h : EmW w B e b mp rv) (hF : EmF w w' e rv rv') (hB : B ≤ e) : Below B w w' :=
  hF.below hB (Kd.R_base h.2) (by have := lt_of_some h.1; omega)
theorem EmW_stay {w w' : World} {B e : Nat} {b : List S92 × Int} {mp rv : Value} (h : EmW w B e b mp rv) (hb : Below w.heap.size w w') : EmW w' B e b mp rv :=
  ⟨(hb.block e (lt_of_some h.1)).trans h.1, Kd.R_below h.2 hb⟩
theorem EmF.stay {w w' : World} {e : Nat} {rv : Value} (hb : Below w.heap.size w w') : EmF w w' e rv rv :=
  ⟨hb.mono (Nat.zero_le _), fun k hk _ _ => hb.block k hk, fun k hk => .inl hk⟩
/-- A store into the emitter's own block, or into a block that came after. -/
theorem EmF.setE {w w' : World} {e : Nat} {rv rv' : Value} (h : EmF w w' e rv rv') (p : Addr) (hp : p.block = e ∨ w.heap.size ≤ p.block) (u : Value) : EmF w (w'.setCell p u) e rv rv' :=
  ⟨h.1.setCell (Nat.zero_le _) u, fun k hk he hr => (Below.heap_setCell w' p u k (by rcases hp with e1 | e1; exact fun e2 => he (e2.trans e1); omega)).trans (h.2.1 k hk he hr), h.2.2⟩
/-- What gen does, for one tree. -/
def GenP (t : Tr) : Prop := ∀ (v : Value) (seen : Bool) (first : Int) (ok : Nat → Prop) (es : List (Nat × Int)) (B e m : Nat) (b : List S92 × Int) (rv : Value) (w : World), NumT w ok es t v first → EmW w B e b (.map (some m)) rv → MapW w m es →
    B ≤ e → (∀ k, ok k → k < B) → m < B → (∀ p ∈ es, p.1 < B) → b.1.length + 3 * (flatT t).length ≤ 1000000 → 0 ≤ b.2 → b.2 + 3 * (flatT t).length ≤ 1000000 → 0 ≤ first → first + (flatT t).length ≤ 1000000 →
    Calls Try.prog 32 #[.pointer (some ⟨e, 0, none⟩), v, .bool seen] w fun ex w' => ∃ rv', ex = .returned (.bool (seen || passT t)) ∧ EmW w' B e (putIs b (genT t seen first)) (.map (some m)) rv' ∧ EmF w w' e rv rv'
set_option maxHeartbeats 8000000 in
set_option maxRecDepth 100000 in
theorem gen_leaf (n : S63) (g1 : n.f0 ≠ 14) (g2 : n.f0 ≠ 15) (g3 : n.f0 ≠ 16) : GenP (.node n []) := by
  intro v seen first ok es B e m b rv w hT hE hM hBe hok hmB hes hb1 hb2 hb3 hf0 hf1
  unfold NumT at hT
  obtain ⟨a, u, vs, rfl, h2, h3, h4, h5, h6, h7⟩ := hT
  have ha := hok a h2
  have c0 := clkB (B := B) (node_c0 h3) ha
  have kr : K0 (Below B w w) := ⟨Below.refl _ _⟩
  have c1 := clkB (B := B) ((blk_cell h3 1).trans rfl : w.cell? ⟨a, 1, none⟩ = some (.string n.f1)) ha
  have c2 := clkB (B := B) ((blk_cell h3 2).trans rfl : w.cell? ⟨a, 2, none⟩ = some (.bool n.f2)) ha
  have c3 := clkB (B := B) ((blk_cell h3 3).trans rfl : w.cell? ⟨a, 3, none⟩ = some (.string n.f3)) ha
  have c4 := clkB (B := B) ((blk_cell h3 4).trans rfl : w.cell? ⟨a, 4, none⟩ = some (.int .u64 n.f4)) ha
  have c5 := clkB (B := B) ((blk_cell h3 5).trans rfl : w.cell? ⟨a, 5, none⟩ = some (.int .u64 n.f5)) ha
  have c6 := clkB (B := B) ((blk_cell h3 6).trans rfl : w.cell? ⟨a, 6, none⟩ = some (.int .i64 n.f6)) ha
  obtain ⟨l, c⟩ := b
  have hsz := lt_of_some hE.1
  have HE := Aside0.mk hE
  have ka : ∀ (o : Obj), K0 (Below B w (w.alloc o)) := fun o => ⟨Below.alloc (Below.refl _ _) (by omega) o⟩
  have HL : Aside0 (l.length ≤ 1000000 ∧ 0 ≤ c ∧ c ≤ 1000000) := ⟨by simp only at hb1 hb2 hb3; omega⟩
  clear h3 h4 h5 h6 h7 hE hM hb1 hb2 hb3 hf0 hf1
  obtain ⟨wx, hwx⟩ : ∃ wx, wx = w.alloc (.cells #[.int .i64 1, .int .i64 0, .int .i64 0, .bool (!seen), .int .i64 n.f0, .string n.f1, .bool n.f2, .string n.f3, .int .u64 n.f4, .int .u64 n.f5, .int .i64 n.f6] 92) := ⟨_, rfl⟩
  have hX : wx.heap[w.heap.size]? = some (.cells #[.int .i64 1, .int .i64 0, .int .i64 0, .bool (!seen), .int .i64 n.f0, .string n.f1, .bool n.f2, .string n.f3, .int .u64 n.f4, .int .u64 n.f5, .int .i64 n.f6] 92 (0, 0)) := hwx ▸ heap_alloc_new w _
  have kx : K0 (Below B w wx) := hwx ▸ ka _
  have HX : Aside0 (Below w.heap.size w wx ∧ wx.heap.size = w.heap.size + 1) := ⟨hwx ▸ Below.alloc (Below.refl _ _) (Nat.le_refl _) _, hwx ▸ sz_al w _⟩
  rw [show passT (.node n []) = cntN n from rfl]
  go_enter Try.func32, Try.ntmps32
  go_wp2_with fail
  rw [← hwx]
  refine (counts_call n wx).mono ?_
  rintro ex W1 ⟨rfl, hb⟩
  have hX1 := (hb.block _ (by have := HX.out.2; omega)).trans hX
  have hb0 := HX.out.1.trans (hb.mono (by have := HX.out.2; omega))
  have k1 : K0 (Below B w W1) := ⟨hb0.mono (by omega)⟩
  have HE1 := Aside0.mk (EmW_stay HE.out hb0)
  have HF1 := Aside0.mk (EmF.stay (e := e) (rv := rv) hb0)
  have HB1 := Aside0.mk hb0
  clear hX kx hb hb0 hwx
  cases hcn : cntN n
  · have KB := Aside0.mk k1.out
    have z0 : (W1).cell? ⟨w.heap.size, 0, none⟩ = some (.int .i64 1) := (blk_cell hX1 0).trans rfl
    have z1 : (W1).cell? ⟨w.heap.size, 1, none⟩ = some (.int .i64 0) := (blk_cell hX1 1).trans rfl
    have z2 : (W1).cell? ⟨w.heap.size, 2, none⟩ = some (.int .i64 0) := (blk_cell hX1 2).trans rfl
    have z3 : (W1).cell? ⟨w.heap.size, 3, none⟩ = some (.bool (!seen)) := (blk_cell hX1 3).trans rfl
    have z4 : (W1).cell? ⟨w.heap.size, 4, none⟩ = some (.int .i64 n.f0) := (blk_cell hX1 4).trans rfl
    have z5 : (W1).cell? ⟨w.heap.size, 5, none⟩ = some (.string n.f1) := (blk_cell hX1 5).trans rfl
    have z6 : (W1).cell? ⟨w.heap.size, 6, none⟩ = some (.bool n.f2) := (blk_cell hX1 6).trans rfl
    have z7 : (W1).cell? ⟨w.heap.size, 7, none⟩ = some (.string n.f3) := (blk_cell hX1 7).trans rfl
    have z8 : (W1).cell? ⟨w.heap.size, 8, none⟩ = some (.int .u64 n.f4) := (blk_cell hX1 8).trans rfl
    have z9 : (W1).cell? ⟨w.heap.size, 9, none⟩ = some (.int .u64 n.f5) := (blk_cell hX1 9).trans rfl
    have z10 : (W1).cell? ⟨w.heap.size, 10, none⟩ = some (.int .i64 n.f6) := (blk_cell hX1 10).trans rfl
    clear hX1 HX
    go_wp2_with fail
    refine (put_call B e l c _ rv ⟨1, 0, 0, !seen, n⟩ W1 HE1.out hBe HL.out.1).mono ?_
    clear z0 z1 z2 z3 z4 z5 z6 z7 z8 z9 z10
    rintro ex W5 ⟨rv5, rfl, e5, f5⟩
    have k5 : K0 (Below B w W5) := ⟨KB.out.trans (EmW_below HE1.out f5 hBe)⟩
    have hP : EmW W5 B e (putIs (l, c) (genT (.node n []) seen first)) (.map (some m)) rv5 ∧ EmF w W5 e rv rv5 := by
      refine ⟨?_, HF1.out.trans f5⟩
      rw [show putIs (l, c) (genT (.node n []) seen first) = (l ++ [⟨1, 0, 0, !seen, n⟩], c) from by simp [genT, genTs, genN, putIs, putI, hcn]]
      exact e5
    have HP := Aside0.mk hP
    clear hP e5 f5
    cases seen
    · go_wp2_with fail
      refine (counts_call n W5).mono ?_
      rintro ex W6 ⟨rfl, hb⟩
      have hP6 : EmW W6 B e (putIs (l, c) (genT (.node n []) false first)) (.map (some m)) rv5 ∧ EmF w W6 e rv rv5 := ⟨EmW_stay HP.out.1 hb, HP.out.2.trans (EmF.stay hb)⟩
      have HP6 := Aside0.mk hP6
      clear hP6 hb
      rw [hcn]
      go_wp2
      go_ret
      exact ⟨rv5, by rw [hcn]; rfl, HP6.out⟩
    · go_wp2
      go_ret
      exact ⟨rv5, rfl, HP.out⟩
  · have hge : w.heap.size ≠ e := by omega
    have hcw : IntKind.i64.wrap (c + 1) = c + 1 := by have := HL.out; rw [IntKind.wrap_i64]; omega
    have hE1 := HE1.out.1
    have hR1 := HE1.out.2
    have e1 : W1.cell? ⟨e, 1, none⟩ = some (.int .i64 c) := (blk_cell hE1 1).trans rfl
    have x1 : W1.cell? ⟨w.heap.size, 1, none⟩ = some (.int .i64 0) := (blk_cell hX1 1).trans rfl
    have fx := blk_frozen hX1 1
    have hX2 := blk_put hX1 1 (.int .i64 c) (cs' := #[.int .i64 1, .int .i64 c, .int .i64 0, .bool (!seen), .int .i64 n.f0, .string n.f1, .bool n.f2, .string n.f3, .int .u64 n.f4, .int .u64 n.f5, .int .i64 n.f6]) rfl
    have hE2 := blk_far (p := ⟨w.heap.size, 1, none⟩) hE1 (fun e => hge e.symm) (.int .i64 c)
    have e2 : (W1.setCell ⟨w.heap.size, 1, none⟩ (.int .i64 c)).cell? ⟨e, 1, none⟩ = some (.int .i64 c) := (blk_cell hE2 1).trans rfl
    have fe := blk_frozen hE2 1
    have hX3 := blk_far (p := ⟨e, 1, none⟩) hX2 (fun e => hge e) (.int .i64 (c + 1))
    have hE3 := blk_put hE2 1 (.int .i64 (c + 1)) (cs' := #[rv, .int .i64 (c + 1), .map (some m)]) rfl
    have hrow : ∀ k, rv.ownBlock = some k → k < w.heap.size := fun k hk => by
      obtain ⟨inner, ho⟩ := Kd.R_own HE.out.2
      exact (ho.lt k hk).2
    have hR3 := Kd.R_far (p := ⟨e, 1, none⟩) (Kd.R_far (p := ⟨w.heap.size, 1, none⟩) (Kd.R_mono (ok' := fun k => k ≠ e ∧ k ≠ w.heap.size) (Kd.R_below (Kd.R_mono (ok' := fun k => k ≠ e ∧ k ≠ w.heap.size) (Kd.R_bound HE.out.2) (fun k hk => ⟨hk.1, by have := hk.2.2.1; omega⟩)) HB1.out) (fun k hk => hk)) (fun k hk => hk.2) (.int .i64 c)) (fun k hk => hk.1) (.int .i64 (c + 1))
    have hF3 := (HF1.out.setE ⟨w.heap.size, 1, none⟩ (.inr (Nat.le_refl _)) (.int .i64 c)).setE ⟨e, 1, none⟩ (.inl rfl) (.int .i64 (c + 1))
    have HE3 : Aside0 (EmW ((W1.setCell ⟨w.heap.size, 1, none⟩ (.int .i64 c)).setCell ⟨e, 1, none⟩ (.int .i64 (c + 1))) B e (l, c + 1) (.map (some m)) rv) := ⟨hE3, Kd.R_mono hR3 (fun k hk => hk.1)⟩
    have HF3 := Aside0.mk hF3
    have KB := Aside0.mk (EmW_below HE.out hF3 hBe)
    have z0 : ((W1.setCell ⟨w.heap.size, 1, none⟩ (.int .i64 c)).setCell ⟨e, 1, none⟩ (.int .i64 (c + 1))).cell? ⟨w.heap.size, 0, none⟩ = some (.int .i64 1) := (blk_cell hX3 0).trans rfl
    have z1 : ((W1.setCell ⟨w.heap.size, 1, none⟩ (.int .i64 c)).setCell ⟨e, 1, none⟩ (.int .i64 (c + 1))).cell? ⟨w.heap.size, 1, none⟩ = some (.int .i64 c) := (blk_cell hX3 1).trans rfl
    have z2 : ((W1.setCell ⟨w.heap.size, 1, none⟩ (.int .i64 c)).setCell ⟨e, 1, none⟩ (.int .i64 (c + 1))).cell? ⟨w.heap.size, 2, none⟩ = some (.int .i64 0) := (blk_cell hX3 2).trans rfl
    have z3 : ((W1.setCell ⟨w.heap.size, 1, none⟩ (.int .i64 c)).setCell ⟨e, 1, none⟩ (.int .i64 (c + 1))).cell? ⟨w.heap.size, 3, none⟩ = some (.bool (!seen)) := (blk_cell hX3 3).trans rfl
    have z4 : ((W1.setCell ⟨w.heap.size, 1, none⟩ (.int .i64 c)).setCell ⟨e, 1, none⟩ (.int .i64 (c + 1))).cell? ⟨w.heap.size, 4, none⟩ = some (.int .i64 n.f0) := (blk_cell hX3 4).trans rfl
    have z5 : ((W1.setCell ⟨w.heap.size, 1, none⟩ (.int .i64 c)).setCell ⟨e, 1, none⟩ (.int .i64 (c + 1))).cell? ⟨w.heap.size, 5, none⟩ = some (.string n.f1) := (blk_cell hX3 5).trans rfl
    have z6 : ((W1.setCell ⟨w.heap.size, 1, none⟩ (.int .i64 c)).setCell ⟨e, 1, none⟩ (.int .i64 (c + 1))).cell? ⟨w.heap.size, 6, none⟩ = some (.bool n.f2) := (blk_cell hX3 6).trans rfl
    have z7 : ((W1.setCell ⟨w.heap.size, 1, none⟩ (.int .i64 c)).setCell ⟨e, 1, none⟩ (.int .i64 (c + 1))).cell? ⟨w.heap.size, 7, none⟩ = some (.string n.f3) := (blk_cell hX3 7).trans rfl
    have z8 : ((W1.setCell ⟨w.heap.size, 1, none⟩ (.int .i64 c)).setCell ⟨e, 1, none⟩ (.int .i64 (c + 1))).cell? ⟨w.heap.size, 8, none⟩ = some (.int .u64 n.f4) := (blk_cell hX3 8).trans rfl
    have z9 : ((W1.setCell ⟨w.heap.size, 1, none⟩ (.int .i64 c)).setCell ⟨e, 1, none⟩ (.int .i64 (c + 1))).cell? ⟨w.heap.size, 9, none⟩ = some (.int .u64 n.f5) := (blk_cell hX3 9).trans rfl
    have z10 : ((W1.setCell ⟨w.heap.size, 1, none⟩ (.int .i64 c)).setCell ⟨e, 1, none⟩ (.int .i64 (c + 1))).cell? ⟨w.heap.size, 10, none⟩ = some (.int .i64 n.f6) := (blk_cell hX3 10).trans rfl
    clear hX1 hE1 hR1 hX2 hE2 hX3 hE3 hR3 hF3 hrow HX k1
    go_wp2_with fail
    refine (put_call B e l (c + 1) _ rv ⟨1, c, 0, !seen, n⟩ _ HE3.out hBe HL.out.1).mono ?_
    clear z0 z1 z2 z3 z4 z5 z6 z7 z8 z9 z10 e1 x1 fx e2 fe
    rintro ex W5 ⟨rv5, rfl, e5, f5⟩
    have k5 : K0 (Below B w W5) := ⟨KB.out.trans (EmW_below HE3.out f5 hBe)⟩
    have hP : EmW W5 B e (putIs (l, c) (genT (.node n []) seen first)) (.map (some m)) rv5 ∧ EmF w W5 e rv rv5 := by
      refine ⟨?_, HF3.out.trans f5⟩
      rw [show putIs (l, c) (genT (.node n []) seen first) = (l ++ [⟨1, c, 0, !seen, n⟩], c + 1) from by simp [genT, genTs, genN, putIs, putI, hcn]]
      exact e5
    have HP := Aside0.mk hP
    clear hP e5 f5
    cases seen
    · go_wp2_with fail
      refine (counts_call n W5).mono ?_
      rintro ex W6 ⟨rfl, hb⟩
      have hP6 : EmW W6 B e (putIs (l, c) (genT (.node n []) false first)) (.map (some m)) rv5 ∧ EmF w W6 e rv rv5 := ⟨EmW_stay HP.out.1 hb, HP.out.2.trans (EmF.stay hb)⟩
      have HP6 := Aside0.mk hP6
      clear hP6 hb
      rw [hcn]
      go_wp2
      go_ret
      exact ⟨rv5, by rw [hcn]; rfl, HP6.out⟩
    · go_wp2
      go_ret
      exact ⟨rv5, rfl, HP.out⟩
end Go.Proofs.Ytpfehkkfakofaaa.Q

namespace Go.Proofs.Ytpfehkkfakofaaa.Q
open Go.RowKit Go.Proofs.YtpfehkkfakofaaaW.PrintWords Go.Proofs.YtpfehkkfakofaaaW.PrintLast Go.Proofs.YtpfehkkfakofaaaW.PrintMore
set_option linter.unusedVariables false
set_option linter.unusedSimpArgs false
theorem row_at {w : World} {e : TypeId} {n : Nat} {u : Value} {xs : List Value} (h : w.ownsRow 0 e 1 u n xs) (hn : n ≠ 0) : ∃ g cap, u = .slice (some ⟨g, 0, none⟩) n cap ∧ g < w.heap.size ∧ ∀ j x, xs[j]? = some x → w.cell? ⟨g, j, none⟩ = some x := by
  rcases h.2 with ⟨_, h0⟩ | ⟨g, cap, cur, rfl, hg, hh, _⟩
  · exact absurd h0 hn
  · refine ⟨g, cap, rfl, lt_of_some hh, fun j x hj => ?_⟩
    have := h.cells (g := g) rfl j x hj
    unfold Addr.add at this
    by_cases h0 : j = 0
    · subst h0; exact this
    · simpa [h0] using this
/-- What is seen of a node with two operands, as long as the blocks below B stay. -/
theorem kids2 {w : World} {ok : Nat → Prop} {es : List (Nat × Int)} {n : S63} {p q : Tr} {v : Value} {first : Int} {B : Nat} (hT : NumT w ok es (.node n [p, q]) v first) (hok : ∀ k, ok k → k < B) (h16 : n.f0 ≠ 16) :
    ∃ a g cap v1 v2, v = .pointer (some ⟨a, 0, none⟩) ∧ (∀ W [K0 (Below B w W)], W.cell? ⟨a, 0, none⟩ = some (.int .i64 n.f0)) ∧ (∀ W [K0 (Below B w W)], W.cell? ⟨a, 7, none⟩ = some (.slice (some ⟨g, 0, none⟩) 2 cap)) ∧
      (∀ W [K0 (Below B w W)], W.cell? ⟨g, 0, none⟩ = some v1) ∧ (∀ W [K0 (Below B w W)], W.cell? ⟨g, 1, none⟩ = some v2) ∧ (∀ W, Below B w W → NumT W ok es p v1 first) ∧ (∀ W, Below B w W → NumT W ok es q v2 (first + ifsT p)) := by
  unfold NumT at hT
  obtain ⟨a, u, vs, rfl, h2, h3, h4, h5, h6, h7⟩ := hT
  simp only [NumTs, if_neg h16] at h7
  obtain ⟨v1, us, rfl, n1, v2, us2, rfl, n2, rfl⟩ := h7
  obtain ⟨g, cap, rfl, hg, hc⟩ := row_at h4 (by simp)
  have ha := hok a h2
  have hgB := hok g (h5 g rfl)
  refine ⟨a, g, cap, v1, v2, rfl, clkB (node_c0 h3) ha, clkB (node_c7 h3) ha, clkB (hc 0 v1 rfl) hgB, clkB (hc 1 v2 rfl) hgB, fun W hW => NumT_move (fun k hk _ => ⟨hk, hW.block k (hok k hk)⟩) _ _ _ n1, fun W hW => ?_⟩
  rw [Int.add_zero] at n2
  exact NumT_move (fun k hk _ => ⟨hk, hW.block k (hok k hk)⟩) _ _ _ n2
theorem kids3 {w : World} {ok : Nat → Prop} {es : List (Nat × Int)} {n : S63} {z p q : Tr} {v : Value} {first : Int} {B : Nat} (hT : NumT w ok es (.node n [z, p, q]) v first) (hok : ∀ k, ok k → k < B) (h16 : n.f0 = 16) :
    ∃ a g cap v0 v1 v2 i, v = .pointer (some ⟨a, 0, none⟩) ∧ CellB w a ∧ findE a es 0 = some (i, .int .i64 (first + ifsT z)) ∧ (∀ W [K0 (Below B w W)], W.cell? ⟨a, 0, none⟩ = some (.int .i64 n.f0)) ∧ (∀ W [K0 (Below B w W)], W.cell? ⟨a, 7, none⟩ = some (.slice (some ⟨g, 0, none⟩) 3 cap)) ∧
      (∀ W [K0 (Below B w W)], W.cell? ⟨g, 0, none⟩ = some v0) ∧ (∀ W [K0 (Below B w W)], W.cell? ⟨g, 1, none⟩ = some v1) ∧ (∀ W [K0 (Below B w W)], W.cell? ⟨g, 2, none⟩ = some v2) ∧ (∀ W, Below B w W → NumT W ok es z v0 first) ∧ (∀ W, Below B w W → NumT W ok es p v1 (first + ifsT z + 1)) ∧ (∀ W, Below B w W → NumT W ok es q v2 (first + ifsT z + 1 + ifsT p)) := by
  unfold NumT at hT
  obtain ⟨a, u, vs, rfl, h2, h3, h4, h5, h6, h7⟩ := hT
  simp only [NumTs, if_pos h16] at h7
  obtain ⟨v0, us0, rfl, n0, v1, us, rfl, n1, v2, us2, rfl, n2, rfl⟩ := h7
  obtain ⟨g, cap, rfl, hg, hc⟩ := row_at h4 (by simp)
  have ha := hok a h2
  have hgB := hok g (h5 g rfl)
  obtain ⟨i, hi⟩ := h6 h16
  refine ⟨a, g, cap, v0, v1, v2, i, rfl, ⟨_, _, h3⟩, ?_, clkB (node_c0 h3) ha, clkB (node_c7 h3) ha, clkB (hc 0 v0 rfl) hgB, clkB (hc 1 v1 rfl) hgB, clkB (hc 2 v2 rfl) hgB, fun W hW => NumT_move (fun k hk _ => ⟨hk, hW.block k (hok k hk)⟩) _ _ _ n0, fun W hW => NumT_move (fun k hk _ => ⟨hk, hW.block k (hok k hk)⟩) _ _ _ n1, fun W hW => ?_⟩
  · rw [hi]; simp [ifsTs]
  rw [Int.add_zero] at n2
  exact NumT_move (fun k hk _ => ⟨hk, hW.block k (hok k hk)⟩) _ _ _ n2
theorem putI_plain (b : List S92 × Int) (x : S92) (h1 : x.f0 ≠ 1) (h5 : x.f0 ≠ 5) (h6 : x.f0 ≠ 6) : putI b x = (b.1 ++ [x], b.2) := by
  unfold putI
  rw [if_neg (fun h => h1 h.1), if_neg (by rintro (h | h); exact h5 h; exact h6 h)]
set_option maxHeartbeats 8000000 in
set_option maxRecDepth 100000 in
theorem gen_inter (n : S63) (p q : Tr) (h15 : n.f0 = 15) (hp : GenP p) (hq : GenP q) : GenP (.node n [p, q]) := by
  intro v seen first ok es B e m b rv w hT hE hM hBe hok hmB hes hb1 hb2 hb3 hf0 hf1
  obtain ⟨a, g, cap, v1, v2, rfl, c0, c7, d0, d1, n1, n2⟩ := kids2 hT hok (by omega)
  have kr : K0 (Below B w w) := ⟨Below.refl _ _⟩
  obtain ⟨l, c⟩ := b
  simp only [flatT, flatTs, List.length_append, List.length_cons, List.length_nil] at hb1 hb2 hb3 hf1
  rw [h15] at c0
  have ip := ifsT_le p
  have HN1 := Aside0.mk n1
  have HN2 := Aside0.mk n2
  have HM := Aside0.mk (fun W (hW : Below B w W) => MapW_move hM hmB hes hW)
  have HE := Aside0.mk hE
  have HP := Aside0.mk hp
  have HQ := Aside0.mk hq
  have HA := Aside0.mk (And.intro hb1 (And.intro hb2 (And.intro hb3 (And.intro hf0 (And.intro hf1 ip)))))
  have HO := Aside0.mk (And.intro hBe (And.intro hok (And.intro hmB hes)))
  clear n1 n2 hM hE hp hq hb1 hb2 hb3 hf0 hf1 ip hBe hok hmB hes hT
  rw [show passT (.node n [p, q]) = (passT p || passT q) from by simp only [passT, passTs, passN]]
  go_enter Try.func32, Try.ntmps32
  go_wp2_with fail
  refine (put_call B e l c _ rv ⟨2, 0, 0, false, zN⟩ w HE.out HO.out.1 (by have := HA.out; omega)).mono ?_
  rintro ex W1 ⟨rv1, rfl, e1, f1⟩
  have k1 : K0 (Below B w W1) := ⟨EmW_below HE.out f1 HO.out.1⟩
  have E1 := Aside0.mk (And.intro e1 f1)
  clear e1 f1
  go_wp2_with fail
  refine (HP.out v1 seen first _ es B e m (l ++ [⟨2, 0, 0, false, zN⟩], c) rv1 W1 (HN1.out W1 k1.out) E1.out.1 (HM.out W1 k1.out) HO.out.1 HO.out.2.1 HO.out.2.2.1 HO.out.2.2.2 (by have := HA.out; simp only [List.length_append, List.length_cons, List.length_nil]; omega) HA.out.2.1 (by have := HA.out; simp only; omega) HA.out.2.2.2.1 (by have := HA.out; omega)).mono ?_
  obtain ⟨l2, c2, hb2⟩ : ∃ l2 c2, putIs (l ++ [⟨2, 0, 0, false, zN⟩], c) (genT p seen first) = (l2, c2) := ⟨_, _, rfl⟩
  rw [hb2]
  rintro ex W2 ⟨rv2, rfl, e2, f2⟩
  have k2 : K0 (Below B w W2) := ⟨k1.out.trans (EmW_below E1.out.1 f2 HO.out.1)⟩
  have E2 := Aside0.mk (And.intro e2 f2)
  have L2 : Aside0 (l2.length ≤ l.length + 1 + 3 * (flatT p).length ∧ c ≤ c2 ∧ c2 ≤ c + 3 * (flatT p).length) := ⟨by
    have h1 := putIs_len (genT p seen first) (l ++ [⟨2, 0, 0, false, zN⟩], c)
    have h2 := putIs_cnt (genT p seen first) (l ++ [⟨2, 0, 0, false, zN⟩], c)
    have h3 := genT_le p seen first
    rw [hb2] at h1 h2
    simp only [List.length_append, List.length_cons, List.length_nil] at h1 h2
    omega⟩
  have HB2 := Aside0.mk hb2
  clear e2 f2 hb2
  go_wp2_with fail
  refine (put_call B e l2 c2 _ rv2 ⟨3, 0, 0, false, zN⟩ W2 E2.out.1 HO.out.1 (by have := HA.out; have := L2.out; omega)).mono ?_
  rintro ex W3 ⟨rv3, rfl, e3, f3⟩
  have k3 : K0 (Below B w W3) := ⟨k2.out.trans (EmW_below E2.out.1 f3 HO.out.1)⟩
  have E3 := Aside0.mk (And.intro e3 f3)
  clear e3 f3
  go_wp2_with fail
  refine (HQ.out v2 seen _ _ es B e m (l2 ++ [⟨3, 0, 0, false, zN⟩], c2) rv3 W3 (HN2.out W3 k3.out) E3.out.1 (HM.out W3 k3.out) HO.out.1 HO.out.2.1 HO.out.2.2.1 HO.out.2.2.2 (by have := HA.out; have := L2.out; simp only [List.length_append, List.length_cons, List.length_nil]; omega) (by have := HA.out; have := L2.out; simp only; omega) (by have := HA.out; have := L2.out; simp only; omega) (by have := HA.out; omega) (by have := HA.out; omega)).mono ?_
  obtain ⟨l4, c4, hb4⟩ : ∃ l4 c4, putIs (l2 ++ [⟨3, 0, 0, false, zN⟩], c2) (genT q seen (first + ifsT p)) = (l4, c4) := ⟨_, _, rfl⟩
  rw [hb4]
  rintro ex W4 ⟨rv4, rfl, e4, f4⟩
  have k4 : K0 (Below B w W4) := ⟨k3.out.trans (EmW_below E3.out.1 f4 HO.out.1)⟩
  have E4 := Aside0.mk (And.intro e4 f4)
  have L4 : Aside0 (l4.length ≤ l2.length + 1 + 3 * (flatT q).length) := ⟨by
    have h1 := putIs_len (genT q seen (first + ifsT p)) (l2 ++ [⟨3, 0, 0, false, zN⟩], c2)
    have h3 := genT_le q seen (first + ifsT p)
    rw [hb4] at h1
    simp only [List.length_append, List.length_cons, List.length_nil] at h1
    omega⟩
  have HB4 := Aside0.mk hb4
  clear e4 f4 hb4
  go_wp2_with fail
  refine (put_call B e l4 c4 _ rv4 ⟨4, 0, 0, false, zN⟩ W4 E4.out.1 HO.out.1 (by have := HA.out; have := L2.out; have := L4.out; omega)).mono ?_
  rintro ex W5 ⟨rv5, rfl, e5, f5⟩
  have E5 := Aside0.mk (And.intro e5 f5)
  clear e5 f5
  have fin : putIs (l, c) (genT (.node n [p, q]) seen first) = (l4 ++ [⟨4, 0, 0, false, zN⟩], c4) := by
    simp only [genT, genTs, genN, if_neg (show ¬ n.f0 = 14 by omega), putIs_app]
    rw [show putIs (l, c) [⟨2, 0, 0, false, zN⟩] = (l ++ [⟨2, 0, 0, false, zN⟩], c) from putI_plain (l, c) ⟨2, 0, 0, false, zN⟩ (by decide) (by decide) (by decide), HB2.out,
      show putIs (l2, c2) [⟨3, 0, 0, false, zN⟩] = (l2 ++ [⟨3, 0, 0, false, zN⟩], c2) from putI_plain (l2, c2) ⟨3, 0, 0, false, zN⟩ (by decide) (by decide) (by decide), HB4.out]
    exact putI_plain (l4, c4) ⟨4, 0, 0, false, zN⟩ (by decide) (by decide) (by decide)
  have post : EmW W5 B e (putIs (l, c) (genT (.node n [p, q]) seen first)) (.map (some m)) rv5 ∧ EmF w W5 e rv rv5 := by
    rw [fin]
    exact ⟨E5.out.1, E1.out.2.trans (E2.out.2.trans (E3.out.2.trans (E4.out.2.trans E5.out.2)))⟩
  have HPo := Aside0.mk post
  clear fin post
  cases seen <;> cases hpa : passT p <;> cases hpb : passT q
  all_goals
    go_wp2
    go_ret
    exact ⟨rv5, by simp only [hpa, hpb] <;> rfl, HPo.out⟩
end Go.Proofs.Ytpfehkkfakofaaa.Q

namespace Go.Proofs.Ytpfehkkfakofaaa.Q
open Go.RowKit Go.Proofs.YtpfehkkfakofaaaW.PrintWords Go.Proofs.YtpfehkkfakofaaaW.PrintLast Go.Proofs.YtpfehkkfakofaaaW.PrintMore
set_option linter.unusedVariables false
set_option linter.unusedSimpArgs false
theorem putI_jump (b : List S92 × Int) (o k z : Int) (h : o = 5 ∨ o = 6) : putI b ⟨o, k, z, false, zN⟩ = (b.1 ++ [⟨o, k, z + b.1.length, false, zN⟩], b.2) := by
  unfold putI
  rw [if_neg (fun h1 => by rcases h with h | h <;> (have := h1.1; simp only at this; omega)), if_pos h]
theorem putIs_set2 (xs l : List S92) (c : Int) (y : S92) (i : Nat) (h : i < l.length) : putIs (l.set i y, c) xs = ((putIs (l, c) xs).1.set i y, (putIs (l, c) xs).2) := putIs_set xs (l, c) y i h
/-- Filling in the targets later is the same. -/
theorem putIs_if (l : List S92) (c k : Int) (xs ys L2 L5 : List S92) (c2 c5 : Int) (h2 : putIs (l ++ [⟨5, k, 0, false, zN⟩], c) xs = (L2, c2)) (h5 : putIs ((L2 ++ [(⟨6, 0, 0, false, zN⟩ : S92)]).set l.length ⟨5, k, ((L2 ++ [(⟨6, 0, 0, false, zN⟩ : S92)]).length : Nat), false, zN⟩, c2) ys = (L5, c5)) :
    putIs (l, c) ([⟨5, k, (xs.length : Int) + 2, false, zN⟩] ++ xs ++ [⟨6, 0, (ys.length : Int) + 1, false, zN⟩] ++ ys) = (L5.set L2.length ⟨6, 0, L5.length, false, zN⟩, c5) := by
  have n2 : L2.length = l.length + 1 + xs.length := by have := putIs_len xs (l ++ [⟨5, k, 0, false, zN⟩], c); rw [h2] at this; simpa using this
  have n5 : L5.length = L2.length + 1 + ys.length := by have := putIs_len ys ((L2 ++ [(⟨6, 0, 0, false, zN⟩ : S92)]).set l.length ⟨5, k, ((L2 ++ [(⟨6, 0, 0, false, zN⟩ : S92)]).length : Nat), false, zN⟩, c2); rw [h5] at this; simpa using this
  rw [putIs_app, putIs_app, putIs_app, show ∀ b x, putIs b [x] = putI b x from fun _ _ => rfl, show ∀ b x, putIs b [x] = putI b x from fun _ _ => rfl, putI_jump _ 5 _ _ (.inl rfl)]
  have s1 : l ++ [(⟨5, k, (xs.length : Int) + 2 + (l.length : Nat), false, zN⟩ : S92)] = (l ++ [(⟨5, k, 0, false, zN⟩ : S92)]).set l.length ⟨5, k, ((L2 ++ [(⟨6, 0, 0, false, zN⟩ : S92)]).length : Nat), false, zN⟩ := by
    rw [List.set_append_right _ _ (Nat.le_refl _), Nat.sub_self, List.set_cons_zero]
    have : (xs.length : Int) + 2 + (l.length : Nat) = ((L2 ++ [(⟨6, 0, 0, false, zN⟩ : S92)]).length : Nat) := by
      rw [List.length_append, List.length_singleton, n2]; push_cast; omega
    rw [this]
  simp only
  rw [s1, putIs_set2 xs _ c _ l.length (by simp), h2]
  rw [putI_jump _ 6 _ _ (.inr rfl)]
  simp only [List.length_set]
  have s3 : L2.set l.length ⟨5, k, ((L2 ++ [(⟨6, 0, 0, false, zN⟩ : S92)]).length : Nat), false, zN⟩ ++ [(⟨6, 0, (ys.length : Int) + 1 + (L2.length : Nat), false, zN⟩ : S92)] = ((L2 ++ [(⟨6, 0, 0, false, zN⟩ : S92)]).set l.length ⟨5, k, ((L2 ++ [(⟨6, 0, 0, false, zN⟩ : S92)]).length : Nat), false, zN⟩).set L2.length ⟨6, 0, L5.length, false, zN⟩ := by
    rw [List.set_append_left _ _ (by omega), List.set_append_right _ _ (by simp), List.length_set, Nat.sub_self, List.set_cons_zero]
    have : (ys.length : Int) + 1 + (L2.length : Nat) = (L5.length : Nat) := by rw [n5]; push_cast; omega
    rw [this]
  rw [s3, putIs_set2 ys _ c2 _ L2.length (by simp), h5]
theorem putI_get (b : List S92 × Int) (x : S92) (i : Nat) (h : i < b.1.length) : (putI b x).1[i]? = b.1[i]? := by
  unfold putI
  split
  · simp [List.getElem?_append_left h]
  · split <;> simp [List.getElem?_append_left h]
theorem putIs_get : ∀ (xs : List S92) (b : List S92 × Int) (i : Nat), i < b.1.length → (putIs b xs).1[i]? = b.1[i]?
  | [], b, i, h => rfl
  | x :: xs, b, i, h => (putIs_get xs (putI b x) i (by rw [putI_len]; omega)).trans (putI_get b x i h)
end Go.Proofs.Ytpfehkkfakofaaa.Q

namespace Go.Proofs.Ytpfehkkfakofaaa.Q
open Go.RowKit Go.Proofs.YtpfehkkfakofaaaW.PrintWords Go.Proofs.YtpfehkkfakofaaaW.PrintLast Go.Proofs.YtpfehkkfakofaaaW.PrintMore
set_option linter.unusedVariables false
set_option linter.unusedSimpArgs false
theorem EmF.cell {w w' : World} {e : Nat} {rv rv' : Value} (h : EmF w w' e rv rv') {g i : Nat} {v : Value} (hc : w.cell? ⟨g, i, none⟩ = some v) (he : g ≠ e) (hr : rv.ownBlock ≠ some g) : w'.cell? ⟨g, i, none⟩ = some v :=
  (World.cell?_of_block (h.2.1 g (World.block_lt_of_cell? w _ hc) he hr)).trans hc
theorem EmF.apart {w w' : World} {e g : Nat} {rv rv' : Value} (h : EmF w w' e rv rv') (hg : g < w.heap.size) (hr : rv.ownBlock ≠ some g) : rv'.ownBlock ≠ some g := fun e1 => by
  rcases h.2.2 g e1 with h1 | h1
  · exact hr h1
  · omega
set_option maxHeartbeats 8000000 in
set_option maxRecDepth 100000 in
theorem gen_if (n : S63) (z p q : Tr) (h16 : n.f0 = 16) (hp : GenP p) (hq : GenP q) : GenP (.node n [z, p, q]) := by
  intro v seen first ok es B e m b rv w hT hE hM hBe hok hmB hes hb1 hb2 hb3 hf0 hf1
  obtain ⟨a, g, cap, v0, v1, v2, i, rfl, ca, hfi, c0, c7, d0, d1, d2, n0, n1, n2⟩ := kids3 hT hok h16
  have kr : K0 (Below B w w) := ⟨Below.refl _ _⟩
  obtain ⟨l, c⟩ := b
  simp only [flatT, flatTs, List.length_append, List.length_cons, List.length_nil] at hb1 hb2 hb3 hf1
  rw [h16] at c0
  have ip := ifsT_le p
  have iz := ifsT_le z
  have hlk := lookup_run w m a i (first + ifsT z) es hM ca hfi
  have ce2 : w.cell? ⟨e, 2, none⟩ = some (.map (some m)) := (blk_cell hE.1 2).trans rfl
  have HN1 := Aside0.mk n1
  have HN2 := Aside0.mk n2
  have HM := Aside0.mk (fun W (hW : Below B w W) => MapW_move hM hmB hes hW)
  have HE := Aside0.mk hE
  have HP := Aside0.mk hp
  have HQ := Aside0.mk hq
  have HA := Aside0.mk (And.intro hb1 (And.intro hb2 (And.intro hb3 (And.intro hf0 (And.intro hf1 (And.intro ip iz))))))
  have HO := Aside0.mk (And.intro hBe (And.intro hok (And.intro hmB hes)))
  clear n0 n1 n2 hM hE hp hq hb1 hb2 hb3 hf0 hf1 ip iz hBe hok hmB hes hT ca hfi d0
  rw [show passT (.node n [z, p, q]) = (passT p || passT q) from by simp only [passT, passTs, passN]]
  go_enter Try.func32, Try.ntmps32
  go_wp2_with fail
  refine (jump_call B e l c _ rv ⟨5, first + ifsT z, 0, false, zN⟩ w HE.out HO.out.1 (by have := HA.out; omega)).mono ?_
  rintro ex W1 ⟨g0, g1, rv1, rfl, e1, f1, hg0, hg1, q0, q1, r0, r1⟩
  have k1 : K0 (Below B w W1) := ⟨EmW_below HE.out f1 HO.out.1⟩
  have hes := lt_of_some HE.out.1
  have E1 := Aside0.mk (And.intro e1 f1)
  have X1 := Aside0.mk (And.intro q0 (And.intro q1 (And.intro r0 (And.intro r1 (And.intro (World.block_lt_of_cell? W1 _ q0) (And.intro (World.block_lt_of_cell? W1 _ q1) (And.intro (show g0 ≠ e by omega) (show g1 ≠ e by omega))))))))
  clear e1 f1 hg0 hg1 q0 q1 r0 r1 hlk ce2 hes
  unfold jumpV
  go_wp2_with fail
  refine (HP.out v1 seen _ _ es B e m (l ++ [⟨5, first + ifsT z, 0, false, zN⟩], c) rv1 W1 (HN1.out W1 k1.out) E1.out.1 (HM.out W1 k1.out) HO.out.1 HO.out.2.1 HO.out.2.2.1 HO.out.2.2.2 (by have := HA.out; simp only [List.length_append, List.length_cons, List.length_nil]; omega) HA.out.2.1 (by have := HA.out; simp only; omega) (by have := HA.out; omega) (by have := HA.out; omega)).mono ?_
  obtain ⟨l2, c2, hb2⟩ : ∃ l2 c2, putIs (l ++ [⟨5, first + ifsT z, 0, false, zN⟩], c) (genT p seen (first + ifsT z + 1)) = (l2, c2) := ⟨_, _, rfl⟩
  rw [hb2]
  rintro ex W2 ⟨rv2, rfl, e2, f2⟩
  have k2 : K0 (Below B w W2) := ⟨k1.out.trans (EmW_below E1.out.1 f2 HO.out.1)⟩
  have E2 := Aside0.mk (And.intro e2 f2)
  have L2 : Aside0 (l2.length = l.length + 1 + (genT p seen (first + ifsT z + 1)).length ∧ (genT p seen (first + ifsT z + 1)).length ≤ 3 * (flatT p).length ∧ c ≤ c2 ∧ c2 ≤ c + 3 * (flatT p).length) := ⟨by
    have h1 := putIs_len (genT p seen (first + ifsT z + 1)) (l ++ [⟨5, first + ifsT z, 0, false, zN⟩], c)
    have h2 := putIs_cnt (genT p seen (first + ifsT z + 1)) (l ++ [⟨5, first + ifsT z, 0, false, zN⟩], c)
    have h3 := genT_le p seen (first + ifsT z + 1)
    rw [hb2] at h1 h2
    simp only [List.length_append, List.length_cons, List.length_nil] at h1 h2
    omega⟩
  have HB2 := Aside0.mk hb2
  clear e2 f2 hb2
  go_wp2_with fail
  refine (jump_call B e l2 c2 _ rv2 ⟨6, 0, 0, false, zN⟩ W2 E2.out.1 HO.out.1 (by have := HA.out; have := L2.out; omega)).mono ?_
  rintro ex W3 ⟨g2, g3, rv3, rfl, e3, f3, hg2, hg3, q2, q3, r2, r3⟩
  have k3 : K0 (Below B w W3) := ⟨k2.out.trans (EmW_below E2.out.1 f3 HO.out.1)⟩
  have hes := lt_of_some E2.out.1.1
  have x0 := E2.out.2.cell X1.out.1 X1.out.2.2.2.2.2.2.1 X1.out.2.2.1
  have x1 := E2.out.2.cell X1.out.2.1 X1.out.2.2.2.2.2.2.2 X1.out.2.2.2.1
  have y0 := E2.out.2.apart X1.out.2.2.2.2.1 X1.out.2.2.1
  have y1 := E2.out.2.apart X1.out.2.2.2.2.2.1 X1.out.2.2.2.1
  have p0 := f3.cell x0 X1.out.2.2.2.2.2.2.1 y0
  have p1 := f3.cell x1 X1.out.2.2.2.2.2.2.2 y1
  have o0 := f3.apart (World.block_lt_of_cell? W2 _ x0) y0
  have o1 := f3.apart (World.block_lt_of_cell? W2 _ x1) y1
  have E3 := Aside0.mk (And.intro e3 f3)
  have X2 := Aside0.mk (And.intro q2 (And.intro q3 (And.intro r2 (And.intro r3 (And.intro (World.block_lt_of_cell? W3 _ q2) (And.intro (World.block_lt_of_cell? W3 _ q3) (And.intro (show g2 ≠ e by omega) (show g3 ≠ e by omega))))))))
  have X3 := Aside0.mk (And.intro p0 (And.intro p1 (And.intro o0 o1)))
  clear e3 f3 hg2 hg3 q2 q3 r2 r3 hes x0 x1 y0 y1 p0 p1 o0 o1
  unfold jumpV
  go_wp2_with fail
  have hx5 : (l2 ++ [(⟨6, 0, 0, false, zN⟩ : S92)])[l.length]? = some ⟨5, first + ifsT z, 0, false, zN⟩ := by
    have h1 := putIs_get (genT p seen (first + ifsT z + 1)) (l ++ [⟨5, first + ifsT z, 0, false, zN⟩], c) l.length (by simp)
    rw [HB2.out] at h1
    rw [List.getElem?_append_left (by have := L2.out; omega)]
    simp only at h1
    rw [h1]; simp
  refine (patch_call B e g0 g1 l.length (l2 ++ [⟨6, 0, 0, false, zN⟩]) c2 _ rv3 ⟨5, first + ifsT z, 0, false, zN⟩ W3 E3.out.1 hx5 (by have := HA.out; have := L2.out; simp only [List.length_append, List.length_cons, List.length_nil]; omega) X3.out.1 X3.out.2.1 X3.out.2.2.1 X3.out.2.2.2).mono ?_
  rintro ex W4 ⟨rfl, e4, f4⟩
  have k4 : K0 (Below B w W4) := ⟨k3.out.trans (EmW_below E3.out.1 f4 HO.out.1)⟩
  have x0 := f4.cell X2.out.1 X2.out.2.2.2.2.2.2.1 X2.out.2.2.1
  have x1 := f4.cell X2.out.2.1 X2.out.2.2.2.2.2.2.2 X2.out.2.2.2.1
  have E4 := Aside0.mk (And.intro e4 f4)
  have X4 := Aside0.mk (And.intro x0 x1)
  clear e4 f4 x0 x1 hx5
  go_wp2_with fail
  refine (HQ.out v2 seen _ _ es B e m _ rv3 W4 (HN2.out W4 k4.out) E4.out.1 (HM.out W4 k4.out) HO.out.1 HO.out.2.1 HO.out.2.2.1 HO.out.2.2.2 (by have := HA.out; have := L2.out; simp only [List.length_set, List.length_append, List.length_cons, List.length_nil]; omega) (by have := HA.out; have := L2.out; simp only; omega) (by have := HA.out; have := L2.out; simp only; omega) (by have := HA.out; omega) (by have := HA.out; omega)).mono ?_
  obtain ⟨l5, c5, hb5⟩ : ∃ l5 c5, putIs ((l2 ++ [(⟨6, 0, 0, false, zN⟩ : S92)]).set l.length ⟨5, first + ifsT z, ((l2 ++ [(⟨6, 0, 0, false, zN⟩ : S92)]).length : Nat), false, zN⟩, c2) (genT q seen (first + ifsT z + 1 + ifsT p)) = (l5, c5) := ⟨_, _, rfl⟩
  rw [hb5]
  rintro ex W5 ⟨rv5, rfl, e5, f5⟩
  have k5 : K0 (Below B w W5) := ⟨k4.out.trans (EmW_below E4.out.1 f5 HO.out.1)⟩
  have x0 := f5.cell X4.out.1 X2.out.2.2.2.2.2.2.1 X2.out.2.2.1
  have x1 := f5.cell X4.out.2 X2.out.2.2.2.2.2.2.2 X2.out.2.2.2.1
  have o0 := f5.apart (World.block_lt_of_cell? W4 _ X4.out.1) X2.out.2.2.1
  have o1 := f5.apart (World.block_lt_of_cell? W4 _ X4.out.2) X2.out.2.2.2.1
  have L5 : Aside0 (l5.length = l2.length + 1 + (genT q seen (first + ifsT z + 1 + ifsT p)).length ∧ (genT q seen (first + ifsT z + 1 + ifsT p)).length ≤ 3 * (flatT q).length) := ⟨by
    have h1 := putIs_len (genT q seen (first + ifsT z + 1 + ifsT p)) ((l2 ++ [(⟨6, 0, 0, false, zN⟩ : S92)]).set l.length ⟨5, first + ifsT z, ((l2 ++ [(⟨6, 0, 0, false, zN⟩ : S92)]).length : Nat), false, zN⟩, c2)
    have h3 := genT_le q seen (first + ifsT z + 1 + ifsT p)
    rw [hb5] at h1
    simp only [List.length_set, List.length_append, List.length_cons, List.length_nil] at h1
    omega⟩
  have E5 := Aside0.mk (And.intro e5 f5)
  have X5 := Aside0.mk (And.intro x0 (And.intro x1 (And.intro o0 o1)))
  have HB5 := Aside0.mk hb5
  clear e5 f5 x0 x1 o0 o1 hb5
  go_wp2_with fail
  have hx6 : l5[l2.length]? = some ⟨6, 0, 0, false, zN⟩ := by
    have h1 := putIs_get (genT q seen (first + ifsT z + 1 + ifsT p)) ((l2 ++ [(⟨6, 0, 0, false, zN⟩ : S92)]).set l.length ⟨5, first + ifsT z, ((l2 ++ [(⟨6, 0, 0, false, zN⟩ : S92)]).length : Nat), false, zN⟩, c2) l2.length (by simp)
    rw [HB5.out] at h1
    simp only at h1
    rw [h1, List.getElem?_set_ne (by have := L2.out; omega)]
    simp
  refine (patch_call B e g2 g3 l2.length l5 c5 _ rv5 ⟨6, 0, 0, false, zN⟩ W5 E5.out.1 hx6 (by have := HA.out; have := L2.out; have := L5.out; omega) X5.out.1 X5.out.2.1 X5.out.2.2.1 X5.out.2.2.2).mono ?_
  rintro ex W6 ⟨rfl, e6, f6⟩
  have fin : putIs (l, c) (genT (.node n [z, p, q]) seen first) = (l5.set l2.length ⟨6, 0, l5.length, false, zN⟩, c5) := by
    simp only [genT, genTs, genN]
    exact putIs_if l c (first + ifsT z) _ _ l2 l5 c2 c5 HB2.out HB5.out
  have post : EmW W6 B e (putIs (l, c) (genT (.node n [z, p, q]) seen first)) (.map (some m)) rv5 ∧ EmF w W6 e rv rv5 := by
    rw [fin]
    exact ⟨e6, E1.out.2.trans (E2.out.2.trans (E3.out.2.trans (E4.out.2.trans (E5.out.2.trans f6))))⟩
  have HPo := Aside0.mk post
  clear fin post hx6 e6 f6
  cases seen <;> cases hpa : passT p <;> cases hpb : passT q
  all_goals
    go_wp2
    go_ret
    exact ⟨rv5, by simp only [hpa, hpb] <;> rfl, HPo.out⟩
end Go.Proofs.Ytpfehkkfakofaaa.Q

namespace Go.Proofs.Ytpfehkkfakofaaa.Q
open Go.RowKit Go.Proofs.YtpfehkkfakofaaaW.PrintWords Go.Proofs.YtpfehkkfakofaaaW.PrintLast Go.Proofs.YtpfehkkfakofaaaW.PrintMore
set_option linter.unusedVariables false
set_option linter.unusedSimpArgs false
set_option maxHeartbeats 8000000 in
set_option maxRecDepth 100000 in
theorem gen_chain (n : S63) (p q : Tr) (h14 : n.f0 = 14) (hp : GenP p) (hq : GenP q) : GenP (.node n [p, q]) := by
  intro v seen first ok es B e m b rv w hT hE hM hBe hok hmB hes hb1 hb2 hb3 hf0 hf1
  obtain ⟨a, g, cap, v1, v2, rfl, c0, c7, d0, d1, n1, n2⟩ := kids2 hT hok (by omega)
  have kr : K0 (Below B w w) := ⟨Below.refl _ _⟩
  have kd : K0 (Below B w w.drew) := ⟨below_drew1 (Below.refl _ _)⟩
  obtain ⟨l, c⟩ := b
  simp only [flatT, flatTs, List.length_append, List.length_cons, List.length_nil] at hb1 hb2 hb3 hf1
  rw [h14] at c0
  have ip := ifsT_le p
  have HN1 := Aside0.mk n1
  have HN2 := Aside0.mk n2
  have HM := Aside0.mk (fun W (hW : Below B w W) => MapW_move hM hmB hes hW)
  have HE := Aside0.mk (And.intro (EmW_stay (w' := w.drew) hE (below_drew1 (Below.refl _ _))) (EmF.stay (e := e) (rv := rv) (w := w) (w' := w.drew) (below_drew1 (Below.refl _ _))))
  have HP := Aside0.mk hp
  have HQ := Aside0.mk hq
  have HA := Aside0.mk (And.intro hb1 (And.intro hb2 (And.intro hb3 (And.intro hf0 (And.intro hf1 ip)))))
  have HO := Aside0.mk (And.intro hBe (And.intro hok (And.intro hmB hes)))
  clear n1 n2 hM hE hp hq hb1 hb2 hb3 hf0 hf1 ip hBe hok hmB hes hT
  go_enter Try.func32, Try.ntmps32
  go_upto_region 3 with (fail)
  refine sq_region (S := fun W' => K0 (Below B w W')) [(0, false), (1, false), (2, false), (3, false), (4, false), (5, false), (6, false), (7, false), (8, false), (9, false), (10, false), (11, false), (12, false), (13, false), (14, false), (15, true), (16, true), (17, false)] (by kernel_rfl) (by kernel_rfl) kd (fun hS => ?_)
  repeat (refine sq_n ?_ ?_ rfl ?_ ?_ ?_; rotate_left 2; (intro W hW; go_simp; first | done | with_reducible rfl); (simp only [List.setIfInBounds_toArray, List.set_cons_zero, List.set_cons_succ]; try rfl))
  refine sq_1n rfl (fun hS K hK => ?_)
  go_simp
  go_at_call 32
  refine (HP.out v1 seen first _ es B e m (l, c) rv w.drew (HN1.out _ kd.out) HE.out.1 (HM.out _ kd.out) HO.out.1 HO.out.2.1 HO.out.2.2.1 HO.out.2.2.2 (by have := HA.out; simp only; omega) HA.out.2.1 (by have := HA.out; simp only; omega) HA.out.2.2.2.1 (by have := HA.out; omega)).mono ?_
  obtain ⟨l2, c2, hb2⟩ : ∃ l2 c2, putIs (l, c) (genT p seen first) = (l2, c2) := ⟨_, _, rfl⟩
  rw [hb2]
  rintro ex W2 ⟨rv2, rfl, e2, f2⟩
  have k2 : K0 (Below B w W2) := ⟨kd.out.trans (EmW_below HE.out.1 f2 HO.out.1)⟩
  have E2 := Aside0.mk (And.intro e2 f2)
  have L2 : Aside0 (l2.length ≤ l.length + 3 * (flatT p).length ∧ c ≤ c2 ∧ c2 ≤ c + 3 * (flatT p).length) := ⟨by
    have h1 := putIs_len (genT p seen first) (l, c)
    have h2 := putIs_cnt (genT p seen first) (l, c)
    have h3 := genT_le p seen first
    rw [hb2] at h1 h2
    simp only at h1 h2
    omega⟩
  have HB2 := Aside0.mk hb2
  clear e2 f2 hb2
  go_wp2_with fail
  refine hK.out _ _ k2 (fun hS => ?_)
  refine sq_1n rfl (fun hS K2 hK2 => ?_)
  go_simp
  go_at_call 32
  refine (HQ.out v2 (seen || passT p) _ _ es B e m (l2, c2) rv2 W2 (HN2.out _ k2.out) E2.out.1 (HM.out _ k2.out) HO.out.1 HO.out.2.1 HO.out.2.2.1 HO.out.2.2.2 (by have := HA.out; have := L2.out; simp only; omega) (by have := HA.out; have := L2.out; simp only; omega) (by have := HA.out; have := L2.out; simp only; omega) (by have := HA.out; omega) (by have := HA.out; omega)).mono ?_
  rintro ex W3 ⟨rv3, rfl, e3, f3⟩
  have k3 : K0 (Below B w W3) := ⟨k2.out.trans (EmW_below E2.out.1 f3 HO.out.1)⟩
  have post : EmW W3 B e (putIs (l, c) (genT (.node n [p, q]) seen first)) (.map (some m)) rv3 ∧ EmF w W3 e rv rv3 := by
    refine ⟨?_, HE.out.2.trans (E2.out.2.trans f3)⟩
    simp only [genT, genTs, genN, if_pos h14, putIs_app]
    rw [HB2.out]
    exact e3
  have HPo := Aside0.mk post
  clear post e3 f3
  go_wp2_with fail
  refine hK2.out _ _ k3 (fun hS => ?_)
  repeat (refine sq_n ?_ ?_ rfl ?_ ?_ ?_; rotate_left 2; (intro W hW; go_simp; first | done | with_reducible rfl); (simp only [List.setIfInBounds_toArray, List.set_cons_zero, List.set_cons_succ]; try rfl))
  refine sq_done (fun hS => ?_)
  go_wp2
  go_ret
  refine ⟨rv3, ?_, HPo.out⟩
  simp only [passT, passTs, passN, Bool.or_assoc]
  rfl
end Go.Proofs.Ytpfehkkfakofaaa.Q

namespace Go.Proofs.Ytpfehkkfakofaaa.Q
open Go.RowKit Go.Proofs.YtpfehkkfakofaaaW.PrintWords Go.Proofs.YtpfehkkfakofaaaW.PrintLast Go.Proofs.YtpfehkkfakofaaaW.PrintMore
set_option linter.unusedVariables false
set_option linter.unusedSimpArgs false

/-! ### spec_l6Cat: function 58 -/
def spec_l6Cat.l0 : Nat → List (List (S92)) → List (S92) → Int → Option ((List (S92)))
 | 0, _, _, _ => none
 | k + 1, x0, x3, x4 => if x4 < (x0.length : Int) then (if 0 ≤ x4 then (if x3.length + (rd_L9 x0 x4).length < 1353245080339 then (spec_l6Cat.l0 k x0 (x3 ++ (rd_L9 x0 x4)) (wrap64 (x4 + 1))) else (none)) else (none)) else (some x3)
def spec_l6Cat.f (k : Nat) (l0 : List (List (S92))) : Option ((List (S92))) := spec_l6Cat.l0 k l0 (([] : List (S92))) 0
set_option maxHeartbeats 8000000 in
set_option maxRecDepth 100000 in
theorem spec_l6Cat.calls (k : Nat) (A0 : Option Addr) (c0 : Nat) (l0 : List (List (S92))) (r : List (S92)) (w : World) (hr0 : Kd.C (Kd.slice 92 k92) w A0 l0.length l0) (hc0 : l0.length ≤ c0) (h : spec_l6Cat.f k l0 = some r) :
  Calls Try.prog 58 #[.slice A0 l0.length c0] w fun e w' => ∃ v0_ : Value, e = .returned (v0_) ∧ Kd.R k92 92 w' w.heap.size (fun _ => True) v0_ r ∧ Below w.heap.size w w' := by
 have HR0 := Aside0.mk hr0
 have HC0 := Aside0.mk hc0
 clear hr0 hc0
 have HB := Aside0.mk (Below.refl w.heap.size w)
 have H : (spec_l6Cat.l0 k l0 (([] : List (S92))) 0) = some r := h
 clear h
 obtain ⟨y236, hy236⟩ : ∃ y_ : List (S92), y_ = (([] : List (S92))) := ⟨_, rfl⟩
 replace H : (spec_l6Cat.l0 k l0 y236 0) = some r := by first | (rw [hy236]; with_reducible exact H) | (have H2_ := (Option.bind_some _ _).symm.trans H; rw [hy236]; with_reducible exact H2_) | (have H2_ := (Option.bind_some _ _).symm.trans H; with_reducible exact H2_) | with_reducible exact H | (rw [hy236]; exact H) | exact H
 have Ny236 := Aside0.mk hy236
 clear hy236
 have H' := Aside0.mk H
 clear H
 go_enter Try.func58, Try.ntmps58
 go_wp2_with (first | ((with_reducible refine gate_dst (N := 5) rfl ?_); refine Kd.R_lit k92 _ 92 ?hg (N := 5) ?hd (xs := ([] : List (S92))) (inner := []) (ok := fun _ => True) (okp := fun _ => True) ?hr ?hp (fun _ hk => hk) trivial (Below.refl _ _) (Nat.le_refl _) (by simp) ?_; (case hd => rfl); (case hg => rfl); (case hr => first | (go_simp; done) | (go_simp; rfl)); (case hp => exact (Reps.none _ _)); intro v237 w2 ho3 hb hg_ hnew_; clear hg_ hnew_; (first | rw [← Ny236.out] at ho3 | (simp only [Int.reduceToNat] at ho3; rw [← Ny236.out] at ho3)); have n0_ := Aside0.mk (Kd.R_lower ho3 (below_size bw)); have n1_ := Aside0.mk (below_step bw hb); clear HB; have HO238 := n0_; have HB := n1_; clear n0_ n1_; clear hb ho3))
 go_loopg [3, 4] k (fun kq v3 v4 w' => ∃ (x3_1 : List (S92)) (x4_1 : Int), v4 = .int .i64 x4_1 ∧ Aside0 (spec_l6Cat.l0 kq l0 x3_1 x4_1 = some r) ∧ Aside0 (kq ≤ k) ∧ Aside0 (Kd.R k92 92 w' w.heap.size (fun _ => True) v3 x3_1) ∧ Aside0 (Below w.heap.size w w'))
 case atStart => exact ⟨(y236), (0), (by first | rfl | (simp; done) | (simp [*]; done)), H', ⟨Nat.le_refl _⟩, ⟨lf HO238⟩, ⟨bw⟩⟩
 case round =>
  clear H'
  try clear p2
  obtain ⟨x3_1, x4_1, rfl, HA, HK1, HO_3, HB⟩ := hrel
  cases gk with
  | zero => exact absurd HA.out (by simp [spec_l6Cat.l0])
  | succ k1 =>
   have H := HA.out
   clear HA
   simp only [spec_l6Cat.l0] at H
   by_cases c4 : x4_1 < (l0.length : Int)
   ·rw [if_pos c4] at H
    have c4b0 : decide (x4_1 < (l0.length : Int)) = true := decide_eq_true c4
    clear c4
    by_cases c5 : 0 ≤ x4_1
    ·rw [if_pos c5] at H
     have c5b0 : decide (0 ≤ x4_1) = true := decide_eq_true c5
     clear c5
     by_cases c6 : x3_1.length + (rd_L9 l0 x4_1).length < 1353245080339
     ·rw [if_pos c6] at H
      have LMc6 := Aside0.mk c6
      clear c6
      obtain ⟨y240, hy240⟩ : ∃ y_ : List (S92), y_ = (x3_1 ++ (rd_L9 l0 x4_1)) := ⟨_, rfl⟩
      replace H : (spec_l6Cat.l0 k1 l0 y240 (wrap64 (x4_1 + 1))) = some r := by first | (rw [hy240]; with_reducible exact H) | (have H2_ := (Option.bind_some _ _).symm.trans H; rw [hy240]; with_reducible exact H2_) | (have H2_ := (Option.bind_some _ _).symm.trans H; with_reducible exact H2_) | with_reducible exact H | (rw [hy240]; exact H) | exact H
      have Ny240 := Aside0.mk hy240
      clear hy240
      have H' := Aside0.mk H
      clear H
      have p239 : 0 ≤ (x4_1 : Int) := of_decide_eq_true (by first | (with_reducible assumption) | assumption)
      have q239 : x4_1 < (l0.length : Int) := of_decide_eq_true (by first | (with_reducible assumption) | assumption)
      obtain ⟨ad239, A239_0, c239_0, e239, hx239_0, hl239_0, hi239_0⟩ := at_L9 HR0.out x4_1 p239 q239
      cases e239
      replace hx239_0 := (HB.out.cell (World.block_lt_of_cell? w _ hx239_0)).trans hx239_0
      have HR239_0 := Aside0.mk hi239_0
      have HC239_0 := Aside0.mk hl239_0
      clear hi239_0 hl239_0
      replace p239 := eq_true p239
      replace q239 := eq_true q239
      go_wp2_with (first | ((with_reducible refine gate_builtin (b := .append) (xs := #[.tmp 12, .tmp 16]) rfl ?_); at_builtin; refine Kd.R_append_rows k92 (w0 := w) w.heap.size rfl (.tmp 12) (.tmp 16) 35 92 (.agg #[(.int .i64 0), (.int .i64 0), (.int .i64 0), (.bool false), (.int .i64 0), (.string ⟨#[]⟩), (.bool false), (.string ⟨#[]⟩), (.int .u64 0), (.int .u64 0), (.int .i64 0)]) 104 rfl Try.underlying35 info92 rfl (by decide) (by omega) u3 x3_1 (rd_L9 l0 x4_1) _ _ _ (fun _ => True) (fun _ => False) rfl rfl ?aO ?aR (fun _ _ h => h) (fun _ h => h.elim) ?aF ?aB ?aS ?aL ?_; (case aR => repeat (first | exact (Kd.C_below HR239_0.out HB.out) | (with_reducible refine Kd.C_alloc ?_ _) | (with_reducible refine Kd.C_drewN ?_ _) | (with_reducible refine Kd.C_drew ?_))); (case aB => exact bw); (case aF => exact (fun _ _ => trivial)); (case aO => exact (lf HO_3)); (case aS => exact (below_size bw)); (case aL => have := LMc6.out; omega); intro v241 w7 ho hb hg hat; rw [← Ny240.out] at ho; have n0_ := Aside0.mk (hb); have n1_ := Aside0.mk (ho); clear HB; clear HO_3; have HB := n0_; have HO242 := n1_; clear n0_ n1_; clear ho hb hg hat))
      go_roundg k1
      case measure => have := HK1.out; omega
      case rel => exact ⟨(y240), (wrap64 (x4_1 + 1)), (by first | rfl | (simp; done) | (simp [*]; done)), H', ⟨by have := HK1.out; omega⟩, ⟨lf HO242⟩, ⟨bw⟩⟩
     ·rw [if_neg c6] at H
      exact absurd H (by simp)
    ·rw [if_neg c5] at H
     exact absurd H (by simp)
   ·rw [if_neg c4] at H
    have c4b0 : decide (x4_1 < (l0.length : Int)) = false := decide_eq_false c4
    clear c4
    obtain rfl := Option.some.inj H
    go_wp2
    go_ret
    exact ⟨_, by first | rfl | (simp [errW_none, errW_some] <;> rfl) | (simp [*, errW_none, errW_some] <;> rfl), lf HO_3, bw⟩

end Go.Proofs.Ytpfehkkfakofaaa.Q

namespace Go.Proofs.Ytpfehkkfakofaaa.Q
open Go.RowKit Go.Proofs.YtpfehkkfakofaaaW.PrintWords Go.Proofs.YtpfehkkfakofaaaW.PrintLast Go.Proofs.YtpfehkkfakofaaaW.PrintMore
set_option linter.unusedVariables false
set_option linter.unusedSimpArgs false

/-! ### spec_l6Counts: function 62 -/
def spec_l6Counts.f (a0_0 : Int) (a0_1 : ByteArray) (a0_2 : Bool) (a0_3 : ByteArray) (a0_4 : Int) (a0_5 : Int) (a0_6 : Int) : Option (Bool) := if a0_0 = 11 then (some true) else (if a0_0 = 12 then (some true) else (some (a0_0 == 13)))
set_option maxHeartbeats 8000000 in
set_option maxRecDepth 100000 in
theorem spec_l6Counts.calls (a0_0 : Int) (a0_1 : ByteArray) (a0_2 : Bool) (a0_3 : ByteArray) (a0_4 : Int) (a0_5 : Int) (a0_6 : Int) (r : Bool) (w : World) (h : spec_l6Counts.f a0_0 a0_1 a0_2 a0_3 a0_4 a0_5 a0_6 = some r) :
  Calls Try.prog 62 #[.agg #[.int .i64 a0_0, .string a0_1, .bool a0_2, .string a0_3, .int .u64 a0_4, .int .u64 a0_5, .int .i64 a0_6]] w fun e w' => e = .returned (.bool r) ∧ Below w.heap.size w w' := by
 have hu63 := Try.underlying63
 have HB := Aside0.mk (Below.refl w.heap.size w)
 have H : (if a0_0 = 11 then (some true) else (if a0_0 = 12 then (some true) else (some (a0_0 == 13)))) = some r := h
 clear h
 by_cases c2 : a0_0 = 11
 ·rw [if_pos c2] at H
  have c2b0 : (a0_0 == 11) = true := beq_iff_eq.mpr c2
  have c2b1 : (a0_0 != 11) = false := bne_eq_false_iff_eq.mpr c2
  clear c2
  obtain rfl := Option.some.inj H
  go_enter Try.func62, Try.ntmps62
  go_wp2_with (first | ((with_reducible refine gate_dst (N := 1) rfl ?_); refine box_event ?hg (N := 1) ?hd (cs := #[.int .i64 a0_0, .string a0_1, .bool a0_2, .string a0_3, .int .u64 a0_4, .int .u64 a0_5, .int .i64 a0_6]) (t := 63) ?hr ?_; (case hd => rfl); (case hg => rfl); (case hr => first | (go_simp; done) | (go_simp; rfl)); intro gb220 hg w3 hbox hb; have n0_ := Aside0.mk (below_step bw hb); have n1_ := Aside0.mk (hbox); have n2_ := Aside0.mk ((by rw [hg]; exact (below_size bw) : w.heap.size ≤ gb220)); have n3_ := Aside0.mk ((by rw [hg]; exact (below_size bw) : w.heap.size ≤ gb220)); clear HB; have HB := n0_; have BK220 := n1_; have GW220 := n2_; have GE220 := n3_; clear n0_ n1_ n2_ n3_; clear hb hbox hg; have hcz4_0 : w3.cell? ⟨gb220, 0, none⟩ = some (.int .i64 a0_0) := (blk_cell BK220.out 0).trans rfl; have hcz4_1 : w3.cell? ⟨gb220, 1, none⟩ = some (.string a0_1) := (blk_cell BK220.out 1).trans rfl; have hcz4_2 : w3.cell? ⟨gb220, 2, none⟩ = some (.bool a0_2) := (blk_cell BK220.out 2).trans rfl; have hcz4_3 : w3.cell? ⟨gb220, 3, none⟩ = some (.string a0_3) := (blk_cell BK220.out 3).trans rfl; have hcz4_4 : w3.cell? ⟨gb220, 4, none⟩ = some (.int .u64 a0_4) := (blk_cell BK220.out 4).trans rfl; have hcz4_5 : w3.cell? ⟨gb220, 5, none⟩ = some (.int .u64 a0_5) := (blk_cell BK220.out 5).trans rfl; have hcz4_6 : w3.cell? ⟨gb220, 6, none⟩ = some (.int .i64 a0_6) := (blk_cell BK220.out 6).trans rfl; have hfz4_0 := blk_frozen BK220.out 0; have hfz4_1 := blk_frozen BK220.out 1; have hfz4_2 := blk_frozen BK220.out 2; have hfz4_3 := blk_frozen BK220.out 3; have hfz4_4 := blk_frozen BK220.out 4; have hfz4_5 := blk_frozen BK220.out 5; have hfz4_6 := blk_frozen BK220.out 6))
  go_ret
  exact ⟨by first | rfl | (simp [errW_none, errW_some] <;> rfl) | (simp [*, errW_none, errW_some] <;> rfl), bw⟩
 ·rw [if_neg c2] at H
  have c2b0 : (a0_0 == 11) = false := beq_eq_false_iff_ne.mpr c2
  have c2b1 : (a0_0 != 11) = true := bne_iff_ne.mpr c2
  by_cases c5 : a0_0 = 12
  ·rw [if_pos c5] at H
   have c5b0 : (a0_0 == 12) = true := beq_iff_eq.mpr c5
   have c5b1 : (a0_0 != 12) = false := bne_eq_false_iff_eq.mpr c5
   clear c5
   obtain rfl := Option.some.inj H
   go_enter Try.func62, Try.ntmps62
   go_wp2_with (first | ((with_reducible refine gate_dst (N := 1) rfl ?_); refine box_event ?hg (N := 1) ?hd (cs := #[.int .i64 a0_0, .string a0_1, .bool a0_2, .string a0_3, .int .u64 a0_4, .int .u64 a0_5, .int .i64 a0_6]) (t := 63) ?hr ?_; (case hd => rfl); (case hg => rfl); (case hr => first | (go_simp; done) | (go_simp; rfl)); intro gb220 hg w6 hbox hb; have n0_ := Aside0.mk (below_step bw hb); have n1_ := Aside0.mk (hbox); have n2_ := Aside0.mk ((by rw [hg]; exact (below_size bw) : w.heap.size ≤ gb220)); have n3_ := Aside0.mk ((by rw [hg]; exact (below_size bw) : w.heap.size ≤ gb220)); clear HB; have HB := n0_; have BK220 := n1_; have GW220 := n2_; have GE220 := n3_; clear n0_ n1_ n2_ n3_; clear hb hbox hg; have hcz7_0 : w6.cell? ⟨gb220, 0, none⟩ = some (.int .i64 a0_0) := (blk_cell BK220.out 0).trans rfl; have hcz7_1 : w6.cell? ⟨gb220, 1, none⟩ = some (.string a0_1) := (blk_cell BK220.out 1).trans rfl; have hcz7_2 : w6.cell? ⟨gb220, 2, none⟩ = some (.bool a0_2) := (blk_cell BK220.out 2).trans rfl; have hcz7_3 : w6.cell? ⟨gb220, 3, none⟩ = some (.string a0_3) := (blk_cell BK220.out 3).trans rfl; have hcz7_4 : w6.cell? ⟨gb220, 4, none⟩ = some (.int .u64 a0_4) := (blk_cell BK220.out 4).trans rfl; have hcz7_5 : w6.cell? ⟨gb220, 5, none⟩ = some (.int .u64 a0_5) := (blk_cell BK220.out 5).trans rfl; have hcz7_6 : w6.cell? ⟨gb220, 6, none⟩ = some (.int .i64 a0_6) := (blk_cell BK220.out 6).trans rfl; have hfz7_0 := blk_frozen BK220.out 0; have hfz7_1 := blk_frozen BK220.out 1; have hfz7_2 := blk_frozen BK220.out 2; have hfz7_3 := blk_frozen BK220.out 3; have hfz7_4 := blk_frozen BK220.out 4; have hfz7_5 := blk_frozen BK220.out 5; have hfz7_6 := blk_frozen BK220.out 6))
   go_ret
   exact ⟨by first | rfl | (simp [errW_none, errW_some] <;> rfl) | (simp [*, errW_none, errW_some] <;> rfl), bw⟩
  ·rw [if_neg c5] at H
   have c5b0 : (a0_0 == 12) = false := beq_eq_false_iff_ne.mpr c5
   have c5b1 : (a0_0 != 12) = true := bne_iff_ne.mpr c5
   obtain rfl := Option.some.inj H
   go_enter Try.func62, Try.ntmps62
   go_wp2_with (first | ((with_reducible refine gate_dst (N := 1) rfl ?_); refine box_event ?hg (N := 1) ?hd (cs := #[.int .i64 a0_0, .string a0_1, .bool a0_2, .string a0_3, .int .u64 a0_4, .int .u64 a0_5, .int .i64 a0_6]) (t := 63) ?hr ?_; (case hd => rfl); (case hg => rfl); (case hr => first | (go_simp; done) | (go_simp; rfl)); intro gb220 hg w8 hbox hb; have n0_ := Aside0.mk (below_step bw hb); have n1_ := Aside0.mk (hbox); have n2_ := Aside0.mk ((by rw [hg]; exact (below_size bw) : w.heap.size ≤ gb220)); have n3_ := Aside0.mk ((by rw [hg]; exact (below_size bw) : w.heap.size ≤ gb220)); clear HB; have HB := n0_; have BK220 := n1_; have GW220 := n2_; have GE220 := n3_; clear n0_ n1_ n2_ n3_; clear hb hbox hg; have hcz9_0 : w8.cell? ⟨gb220, 0, none⟩ = some (.int .i64 a0_0) := (blk_cell BK220.out 0).trans rfl; have hcz9_1 : w8.cell? ⟨gb220, 1, none⟩ = some (.string a0_1) := (blk_cell BK220.out 1).trans rfl; have hcz9_2 : w8.cell? ⟨gb220, 2, none⟩ = some (.bool a0_2) := (blk_cell BK220.out 2).trans rfl; have hcz9_3 : w8.cell? ⟨gb220, 3, none⟩ = some (.string a0_3) := (blk_cell BK220.out 3).trans rfl; have hcz9_4 : w8.cell? ⟨gb220, 4, none⟩ = some (.int .u64 a0_4) := (blk_cell BK220.out 4).trans rfl; have hcz9_5 : w8.cell? ⟨gb220, 5, none⟩ = some (.int .u64 a0_5) := (blk_cell BK220.out 5).trans rfl; have hcz9_6 : w8.cell? ⟨gb220, 6, none⟩ = some (.int .i64 a0_6) := (blk_cell BK220.out 6).trans rfl; have hfz9_0 := blk_frozen BK220.out 0; have hfz9_1 := blk_frozen BK220.out 1; have hfz9_2 := blk_frozen BK220.out 2; have hfz9_3 := blk_frozen BK220.out 3; have hfz9_4 := blk_frozen BK220.out 4; have hfz9_5 := blk_frozen BK220.out 5; have hfz9_6 := blk_frozen BK220.out 6))
   go_ret
   exact ⟨by first | rfl | (simp [errW_none, errW_some] <;> rfl) | (simp [*, errW_none, errW_some] <;> rfl), bw⟩

end Go.Proofs.Ytpfehkkfakofaaa.Q

namespace Go.Proofs.Ytpfehkkfakofaaa.Q
open Go.RowKit Go.Proofs.YtpfehkkfakofaaaW.PrintWords Go.Proofs.YtpfehkkfakofaaaW.PrintLast Go.Proofs.YtpfehkkfakofaaaW.PrintMore
set_option linter.unusedVariables false
set_option linter.unusedSimpArgs false

/-! ### spec_l6HasCounter: function 81 -/
def spec_l6HasCounter.l0 : Nat → List (S63) → Int → Option (Bool)
 | 0, _, _ => none
 | k + 1, x0, x3 => if x3 < (x0.length : Int) then (if 0 ≤ x3 then ((spec_l6Counts.f ((rd_T63 x0 x3).f0) ((rd_T63 x0 x3).f1) ((rd_T63 x0 x3).f2) ((rd_T63 x0 x3).f3) ((rd_T63 x0 x3).f4) ((rd_T63 x0 x3).f5) ((rd_T63 x0 x3).f6)).bind fun t244 => (if t244 = true then (some true) else (spec_l6HasCounter.l0 k x0 (wrap64 (x3 + 1))))) else (none)) else (some false)
def spec_l6HasCounter.f (k : Nat) (l0 : List (S63)) : Option (Bool) := spec_l6HasCounter.l0 k l0 0
set_option maxHeartbeats 8000000 in
set_option maxRecDepth 100000 in
theorem spec_l6HasCounter.calls (k : Nat) (A0 : Option Addr) (c0 : Nat) (l0 : List (S63)) (r : Bool) (w : World) (hr0 : Kd.C k63 w A0 l0.length l0) (hc0 : l0.length ≤ c0) (h : spec_l6HasCounter.f k l0 = some r) :
  Calls Try.prog 81 #[.slice A0 l0.length c0] w fun e w' => e = .returned (.bool r) ∧ Below w.heap.size w w' := by
 have hu63 := Try.underlying63
 have HR0 := Aside0.mk hr0
 have HC0 := Aside0.mk hc0
 clear hr0 hc0
 have HB := Aside0.mk (Below.refl w.heap.size w)
 have H : (spec_l6HasCounter.l0 k l0 0) = some r := h
 clear h
 have H' := Aside0.mk H
 clear H
 go_enter Try.func81, Try.ntmps81
 go_wp2
 go_loopg [3] k (fun kq v3 w' => ∃ (x3_1 : Int), v3 = .int .i64 x3_1 ∧ Aside0 (spec_l6HasCounter.l0 kq l0 x3_1 = some r) ∧ Aside0 (kq ≤ k) ∧ Aside0 (Below w.heap.size w w'))
 case atStart => exact ⟨(0), (by first | rfl | (simp; done) | (simp [*]; done)), H', ⟨Nat.le_refl _⟩, ⟨bw⟩⟩
 case round =>
  clear H'
  obtain ⟨x3_1, rfl, HA, HK1, HB⟩ := hrel
  cases gk with
  | zero => exact absurd HA.out (by simp [spec_l6HasCounter.l0])
  | succ k1 =>
   have H := HA.out
   clear HA
   simp only [spec_l6HasCounter.l0] at H
   by_cases c2 : x3_1 < (l0.length : Int)
   ·rw [if_pos c2] at H
    have c2b0 : decide (x3_1 < (l0.length : Int)) = true := decide_eq_true c2
    clear c2
    by_cases c3 : 0 ≤ x3_1
    ·rw [if_pos c3] at H
     have c3b0 : decide (0 ≤ x3_1) = true := decide_eq_true c3
     clear c3
     replace H := Option.bind_eq_some_iff.mp H
     obtain ⟨t244, A40, H⟩ := H
     replace H : (if t244 = true then (some true) else (spec_l6HasCounter.l0 k1 l0 (wrap64 (x3_1 + 1)))) = some r := H
     have A4 := Aside0.mk A40
     clear A40
     by_cases c5 : t244 = true
     ·subst c5
      have H1 : (some true) = some r := by rw [if_pos rfl] at H; exact H
      clear H
      have H := H1
      clear H1
      obtain rfl := Option.some.inj H
      have p243 : 0 ≤ (x3_1 : Int) := of_decide_eq_true (by first | (with_reducible assumption) | assumption)
      have q243 : x3_1 < (l0.length : Int) := of_decide_eq_true (by first | (with_reducible assumption) | assumption)
      obtain ⟨ad243, e243, hx243_0, hx243_1, hx243_2, hx243_3, hx243_4, hx243_5, hx243_6⟩ := at_T63 HR0.out x3_1 p243 q243
      cases e243
      replace hx243_0 := (HB.out.cell (World.block_lt_of_cell? w _ hx243_0)).trans hx243_0
      replace hx243_1 := (HB.out.cell (World.block_lt_of_cell? w _ hx243_1)).trans hx243_1
      replace hx243_2 := (HB.out.cell (World.block_lt_of_cell? w _ hx243_2)).trans hx243_2
      replace hx243_3 := (HB.out.cell (World.block_lt_of_cell? w _ hx243_3)).trans hx243_3
      replace hx243_4 := (HB.out.cell (World.block_lt_of_cell? w _ hx243_4)).trans hx243_4
      replace hx243_5 := (HB.out.cell (World.block_lt_of_cell? w _ hx243_5)).trans hx243_5
      replace hx243_6 := (HB.out.cell (World.block_lt_of_cell? w _ hx243_6)).trans hx243_6
      replace p243 := eq_true p243
      replace q243 := eq_true q243
      go_wp2_with (first | ((with_reducible refine at_fn (f := 62) rfl ?_); refine goesL_ (some 14) rfl rfl Try.func62 (by kernel_rfl) rfl #[.agg #[.int .i64 ((rd_T63 l0 x3_1).f0), .string ((rd_T63 l0 x3_1).f1), .bool ((rd_T63 l0 x3_1).f2), .string ((rd_T63 l0 x3_1).f3), .int .u64 ((rd_T63 l0 x3_1).f4), .int .u64 ((rd_T63 l0 x3_1).f5), .int .i64 ((rd_T63 l0 x3_1).f6)]] rfl (by (try simp only [List.map_toArray, List.map_cons, List.map_nil]); first | done | rfl | (simp only [List.length_drop, List.length_take]; rfl)) ?_; (with_reducible refine (spec_l6Counts.calls ((rd_T63 l0 x3_1).f0) ((rd_T63 l0 x3_1).f1) ((rd_T63 l0 x3_1).f2) ((rd_T63 l0 x3_1).f3) ((rd_T63 l0 x3_1).f4) ((rd_T63 l0 x3_1).f5) ((rd_T63 l0 x3_1).f6) true _ A4.out).mono ?_); rintro e w6 ⟨rfl, hb⟩; refine ⟨_, rfl, ?_⟩; have n0_ := Aside0.mk (below_step bw hb); clear HB; have HB := n0_; clear n0_; (try clear hb); (try clear hb2); (try clear hk); (try clear hi)))
      go_ret
      exact ⟨by first | rfl | (simp [errW_none, errW_some] <;> rfl) | (simp [*, errW_none, errW_some] <;> rfl), bw⟩
     ·replace c5 := Bool.eq_false_iff.mpr c5
      subst c5
      have H1 : (spec_l6HasCounter.l0 k1 l0 (wrap64 (x3_1 + 1))) = some r := by rw [if_neg (show ¬ (false = true) by decide)] at H; exact H
      clear H
      have H := H1
      clear H1
      have H' := Aside0.mk H
      clear H
      have p243 : 0 ≤ (x3_1 : Int) := of_decide_eq_true (by first | (with_reducible assumption) | assumption)
      have q243 : x3_1 < (l0.length : Int) := of_decide_eq_true (by first | (with_reducible assumption) | assumption)
      obtain ⟨ad243, e243, hx243_0, hx243_1, hx243_2, hx243_3, hx243_4, hx243_5, hx243_6⟩ := at_T63 HR0.out x3_1 p243 q243
      cases e243
      replace hx243_0 := (HB.out.cell (World.block_lt_of_cell? w _ hx243_0)).trans hx243_0
      replace hx243_1 := (HB.out.cell (World.block_lt_of_cell? w _ hx243_1)).trans hx243_1
      replace hx243_2 := (HB.out.cell (World.block_lt_of_cell? w _ hx243_2)).trans hx243_2
      replace hx243_3 := (HB.out.cell (World.block_lt_of_cell? w _ hx243_3)).trans hx243_3
      replace hx243_4 := (HB.out.cell (World.block_lt_of_cell? w _ hx243_4)).trans hx243_4
      replace hx243_5 := (HB.out.cell (World.block_lt_of_cell? w _ hx243_5)).trans hx243_5
      replace hx243_6 := (HB.out.cell (World.block_lt_of_cell? w _ hx243_6)).trans hx243_6
      replace p243 := eq_true p243
      replace q243 := eq_true q243
      go_wp2_with (first | ((with_reducible refine at_fn (f := 62) rfl ?_); refine goesL_ (some 14) rfl rfl Try.func62 (by kernel_rfl) rfl #[.agg #[.int .i64 ((rd_T63 l0 x3_1).f0), .string ((rd_T63 l0 x3_1).f1), .bool ((rd_T63 l0 x3_1).f2), .string ((rd_T63 l0 x3_1).f3), .int .u64 ((rd_T63 l0 x3_1).f4), .int .u64 ((rd_T63 l0 x3_1).f5), .int .i64 ((rd_T63 l0 x3_1).f6)]] rfl (by (try simp only [List.map_toArray, List.map_cons, List.map_nil]); first | done | rfl | (simp only [List.length_drop, List.length_take]; rfl)) ?_; (with_reducible refine (spec_l6Counts.calls ((rd_T63 l0 x3_1).f0) ((rd_T63 l0 x3_1).f1) ((rd_T63 l0 x3_1).f2) ((rd_T63 l0 x3_1).f3) ((rd_T63 l0 x3_1).f4) ((rd_T63 l0 x3_1).f5) ((rd_T63 l0 x3_1).f6) false _ A4.out).mono ?_); rintro e w7 ⟨rfl, hb⟩; refine ⟨_, rfl, ?_⟩; have n0_ := Aside0.mk (below_step bw hb); clear HB; have HB := n0_; clear n0_; (try clear hb); (try clear hb2); (try clear hk); (try clear hi)))
      go_roundg k1
      case measure => have := HK1.out; omega
      case rel => exact ⟨(wrap64 (x3_1 + 1)), (by first | rfl | (simp; done) | (simp [*]; done)), H', ⟨by have := HK1.out; omega⟩, ⟨bw⟩⟩
    ·rw [if_neg c3] at H
     exact absurd H (by simp)
   ·rw [if_neg c2] at H
    have c2b0 : decide (x3_1 < (l0.length : Int)) = false := decide_eq_false c2
    clear c2
    obtain rfl := Option.some.inj H
    go_wp2
    go_ret
    exact ⟨by first | rfl | (simp [errW_none, errW_some] <;> rfl) | (simp [*, errW_none, errW_some] <;> rfl), bw⟩

end Go.Proofs.Ytpfehkkfakofaaa.Q
