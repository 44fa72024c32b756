/- FnRegex: the row of the law: its arguments opened, its walk, its statement over lists (PrFnRegex). No condition. -/
import Derived.Below
import Derived.Deep.Draws
import Derived.Deep.AppendLies
import Derived.Maps.AppendAt
import Derived.OwnWalk
import Derived.Laws.BytesArg
import Derived.Laws.MakeOwn
import Derived.Laws.OwnMore
import Derived.Deep.OwnRows
import Derived.Tactics
import Derived.Lib.ConvBytes
import Derived.Laws.Slices
import Derived.WalkKit
import Derived.KernelRfl
import Derived.RowKit3
import Derived.Deep.LoopGhost
import Derived.Deep.QuietTactic
import Derived.BigQuiet
import Derived.WideLaws
import Derived.Deep.DeepCutAuto
import Derived.Deep.CutBlock
import Derived.Deep.RegionHeld3
import Derived.Laws.Rows
import Derived.Lib.AppendStr
import Derived.ArgAppend
import Derived.Laws.IdiomCopy
import Derived.RowKit
import Derived.OrdersHeld
import Derived.Laws.BitsLemmas
import Derived.Laws.StructEq
import Derived.Test.YtcdpmmpdfdillaaProg
import Derived.ProofKit
import Derived.OpenShut
import Derived.ShutString
import Derived.ChangeOld
import Derived.SizedLaws
import Derived.Deep.Slices
import Derived.WalkLawsBesides
import Derived.Outline
import Derived.Deep.CutRange
import Derived.Shelf.Small.Strs
import Derived.Shelf.Strings.Search1
import Derived.Defers
import Derived.Recover
import Derived.RegionTactic
import Derived.ChangeAlike

-- PRINTED WORDS (module Derived/Print/Words.lean): go-wishes' parts 1 to 38 and go-gate-2's additions: AI agents of Go's test side, Mon Nov 16 2026; no person has read them. Plain theorems and definitions: no macro, no elab, no axiom.
set_option linter.unusedVariables false
set_option linter.unusedSimpArgs false
namespace Go.Proofs.YtcdpmmpdfdillaaW.PrintWords
open Go.RowKit

/-- A fact that the walk's simp doesn't look into. -/
structure Aside0 (p : Prop) : Prop where mk :: (out : p)
/-- The world is the old one, some orders having been drawn. -/
structure Drawn0 (w w' : World) : Prop where mk :: (out : ∃ n, w' = w.drewN n)
theorem Drawn0.refl (w : World) : Drawn0 w w := ⟨⟨0, rfl⟩⟩
theorem Drawn0.step {w w' : World} (h : Drawn0 w w') (n : Nat) : Drawn0 w (w'.drewN n) := by
  obtain ⟨m, rfl⟩ := h
  exact ⟨⟨m + n, World.drewN_drewN ..⟩⟩
theorem Drawn0.grown {w w' : World} (h : Drawn0 w w') : Grown w w' := by
  obtain ⟨n, rfl⟩ := h
  induction n with
  | zero => exact Grown.refl _
  | succ n ih => rw [← World.drew_drewN]; exact Grown.drew ih
theorem Drawn0.below {w w' : World} (h : Drawn0 w w') : Below w.heap.size w w' := by
  obtain ⟨n, rfl⟩ := h
  induction n with
  | zero => exact Below.refl _ _
  | succ n ih => rw [← World.drew_drewN]; exact ih.drew


/-! ### 1. Values and lists -/
def rd (xs : List Int) (i : Int) : Int := xs.getD i.toNat 0
def bt (s : ByteArray) (i : Int) : Int := if h : i.toNat < s.size then ((s[i.toNat]'h).toNat : Int) else 0
theorem bt_at (s : ByteArray) (i : Int) : ∀ h : i.toNat < s.size, ((s[i.toNat]'h).toNat : Int) = bt s i := fun h => by simp [bt, h]
theorem bt_range (s : ByteArray) (i : Int) : 0 ≤ bt s i ∧ bt s i ≤ 255 := by
  unfold bt
  split
  · rename_i h
    have := (s[i.toNat]'h).toNat_lt
    omega
  · omega
def nums (k : IntKind) (xs : List Int) : List Value := xs.map fun x => .int k x
theorem nums_append (k : IntKind) (xs ys : List Int) : nums k (xs ++ ys) = nums k xs ++ nums k ys := by simp [nums]

/-! ### 2. The world -/
theorem below_alloc {w W : World} (h : Below w.heap.size w W) (o : Obj) : Below w.heap.size w (W.alloc o) := h.alloc h.size o
theorem below_drew {B : Nat} {w W : World} (h : Below B w W) : Below B w W.drew := ⟨h.os, h.tape, h.output, h.size, h.block⟩
theorem pw_below_drewN {B : Nat} {w W : World} (h : Below B w W) (n : Nat) : Below B w (W.drewN n) := ⟨h.os, h.tape, h.output, h.size, h.block⟩
theorem below_then {B : Nat} {w w1 w2 : World} (h : Below B w w1) (hB : B ≤ w1.heap.size) (k : Below w1.heap.size w1 w2) : Below B w w2 :=
  h.trans ⟨k.os, k.tape, k.output, k.size, fun i hi => k.block i (Nat.lt_of_lt_of_le hi hB)⟩
theorem grown_of_below {w w1 : World} (h : Below w.heap.size w w1) (row : Option Nat) : w.grownBy w1 row := ⟨h.os, h.tape, h.output, h.size, fun i hi _ => h.block i hi⟩
theorem pw_cell_below {w w1 : World} (h : Below w.heap.size w w1) {a : Addr} {v : Value} (hc : w.cell? a = some v) : w1.cell? a = some v := (h.cell (World.block_lt_of_cell? w a hc)).trans hc

theorem add_plain (g j : Nat) : (⟨g, 0, none⟩ : Addr).add j = ⟨g, j, none⟩ := by unfold Addr.add; split <;> simp_all

/-! ### 3. A slice of whole numbers that is read; nil, empty and other slices alike -/
def ReadsInt (w : World) (k : IntKind) (A : Option Addr) (n : Nat) (xs : List Int) : Prop :=
  xs.length = n ∧ n ≤ 9223372036854775807 ∧ (0 < n → ∃ ad, A = some ad ∧ ∀ j, j < n → w.cell? (ad.add j) = some (.int k (xs.getD j 0)))
theorem ReadsInt.at_ {w : World} {k : IntKind} {A : Option Addr} {n : Nat} {xs : List Int} (h : ReadsInt w k A n xs) (i : Int) (h0 : 0 ≤ i) (h1 : i < n) : ∃ ad, A = some ad ∧ w.cell? (ad.add i.toNat) = some (.int k (rd xs i)) := by
  obtain ⟨ad, e, hc⟩ := h.2.2 (by omega)
  exact ⟨ad, e, hc _ (by omega)⟩
theorem ReadsInt.below {w w1 : World} {k : IntKind} {A : Option Addr} {n : Nat} {xs : List Int} (h : ReadsInt w k A n xs) (hb : Below w.heap.size w w1) : ReadsInt w1 k A n xs :=
  ⟨h.1, h.2.1, fun hn => by
    obtain ⟨ad, e, hc⟩ := h.2.2 hn
    exact ⟨ad, e, fun j hj => pw_cell_below hb (hc j hj)⟩⟩

/-! ### 4. A row of the call's own -/
theorem own_base {w : World} {base : Nat} {e : TypeId} {size n : Nat} {v : Value} {xs : List Value} (h : w.ownsRow base e size v n xs) (k : Nat) (hk : v.ownBlock = some k) : base ≤ k := by
  rcases h.2 with ⟨rfl, _⟩ | ⟨g, cap, cur, rfl, hb, _⟩
  · simp [Value.ownBlock] at hk
  · have : g = k := by simpa [Value.ownBlock] using hk
    omega
theorem own_lt {w : World} {base : Nat} {e : TypeId} {size n : Nat} {v : Value} {xs : List Value} (h : w.ownsRow base e size v n xs) (k : Nat) (hk : v.ownBlock = some k) : k < w.heap.size := by
  rcases h.2 with ⟨rfl, _⟩ | ⟨g, cap, cur, rfl, hb, hh, _⟩
  · simp [Value.ownBlock] at hk
  · have : g = k := by simpa [Value.ownBlock] using hk
    subst this
    exact (Array.getElem?_eq_some_iff.1 hh).1
theorem pw_own_below {w w1 : World} {base : Nat} {e : TypeId} {size n : Nat} {v : Value} {xs : List Value} (h : w.ownsRow base e size v n xs) (hb : Below w.heap.size w w1) : w1.ownsRow base e size v n xs :=
  h.kept (grown_of_below hb none) (by cases v.ownBlock <;> simp)
/-- The shape of whatever is owned. -/
theorem own_slice {w : World} {base n : Nat} {e : TypeId} {size : Nat} {v : Value} {xs : List Value} (h : w.ownsRow base e size v n xs) : ∃ A c, v = .slice A n c := by
  rcases h.2 with ⟨rfl, rfl⟩ | ⟨g, cap, cur, rfl, _⟩
  · exact ⟨none, 0, rfl⟩
  · exact ⟨_, cap, rfl⟩
theorem own_string {P : Program} {w : World} {base n : Nat} {e' src dst e : TypeId} {v : Value} {xs : List Int} (hs : P.underlying src = some (.slice e)) (he : P.underlying e = some (.int .u8)) (hd : P.underlying dst = some .string)
    (h : w.ownsRow base e' 1 v n (nums .u8 xs)) : (convert src dst v).run P w = .ok (.string (strOfNums xs)) w := by
  have hl : xs.length = n := by have := h.1; simp [nums] at this; exact this
  rcases h.2 with ⟨rfl, rfl⟩ | ⟨g, cap, cur, rfl, _⟩
  · obtain rfl : xs = [] := List.eq_nil_of_length_eq_zero hl
    exact run_convert_bytes_nil w src e hs he 0 0 dst hd
  · refine run_convert_bytes_arg w src e hs he g 0 n cap xs hl (fun i hi => ?_) dst hd
    have hc := h.cells (g := g) rfl i (.int .u8 (xs.getD i 0)) (by simp [nums, List.getElem?_eq_getElem (show i < xs.length by omega), List.getD_eq_getElem?_getD])
    have ha : (⟨g, 0, none⟩ : Addr).add i = ⟨g, 0 + i, none⟩ := by unfold Addr.add; split <;> simp_all
    rwa [ha] at hc

/-! ### 5. append(v, x): behind 'at_builtin'; the goal's world is 'W.alloc' of the variadic's box -/
section
variable {P : Program} {ops : Array Oper} {rest : List Oper} {o : Oper} {a : Act} {Q : Exit → Act → World → Prop}

end

/-! ### 6. make([]T, n), n an Int; a literal -/
section
variable {P : Program}
end
/-! ### 7. v[i] read and v[i] = x, v a row of the call's own: 'obtain ⟨g, cap, rfl, hgb, hgl⟩ := HO.out.form (by omega)' first -/
theorem own_at {W : World} {base g n cap : Nat} {e : TypeId} {k : IntKind} {xs : List Int} (h : W.ownsRow base e 1 (.slice (some ⟨g, 0, none⟩) n cap) n (nums k xs)) (i : Int) (h0 : 0 ≤ i) (h1 : i < n) :
    W.cell? ⟨g, i.toNat, none⟩ = some (.int k (rd xs i)) ∧ W.frozen? ⟨g, i.toNat, none⟩ = false := by
  have hl : xs.length = n := by have := h.1; simp [nums] at this; exact this
  constructor
  · have hc := h.cells (g := g) rfl i.toNat (.int k (rd xs i)) (by simp [nums, rd, List.getElem?_eq_getElem (show i.toNat < xs.length by omega), List.getD_eq_getElem?_getD])
    rwa [add_plain] at hc
  · rcases h.2 with ⟨h', _⟩ | ⟨g', cap', cur, h', _, hh, _⟩
    · cases h'
    · have : g = g' := by injection h' with h'; injection h' with h'; injection h' with h'
      subst this
      simp [World.frozen?, hh]
/-! ### 8. append(v, ys...): ys a slice that is read, nil let in; behind 'at_builtin' -/
section
variable {P : Program} {ops : Array Oper} {rest : List Oper} {o : Oper} {a : Act} {Q : Exit → Act → World → Prop}
end

/-! ### 9. []byte(s): a slice that is read (its row bears a conversion's mark: no row of one's own); cuts of a slice that is read -/
def bytesOf (s : ByteArray) : List Int := s.data.toList.map fun b => (b.toNat : Int)
theorem data_length (s : ByteArray) : s.data.toList.length = s.size := by rw [Array.length_toList]; rfl
theorem bytesOf_length (s : ByteArray) : (bytesOf s).length = s.size := by rw [bytesOf, List.length_map, data_length]
/-! ### 10. Rounds: more rounds give the same answer; what ends gives a number of rounds -/
/-- Where the first answers, the second answers the same. -/
def LeO {α : Type} (a b : Option α) : Prop := ∀ r, a = some r → b = some r
theorem LeO.refl {α : Type} (a : Option α) : LeO a a := fun _ h => h
theorem LeO.none {α : Type} (b : Option α) : LeO Option.none b := fun _ h => by cases h
theorem LeO.trans {α : Type} {a b c : Option α} (h : LeO a b) (k : LeO b c) : LeO a c := fun r hr => k r (h r hr)
theorem LeO.ite {α : Type} {c : Prop} [Decidable c] {a a' b b' : Option α} (h : LeO a a') (k : LeO b b') : LeO (if c then a else b) (if c then a' else b') := by
  split
  · exact h
  · exact k
theorem LeO.bind {α β : Type} {a a' : Option α} {f f' : α → Option β} (h : LeO a a') (k : ∀ x, LeO (f x) (f' x)) : LeO (a.bind f) (a'.bind f') := by
  intro r hr
  obtain ⟨x, hx, hf⟩ := Option.bind_eq_some_iff.1 hr
  exact Option.bind_eq_some_iff.2 ⟨x, h x hx, k x r hf⟩
theorem LeO.map {α β : Type} {a a' : Option α} (f : α → β) (h : LeO a a') : LeO (a.map f) (a'.map f) := by
  intro r hr
  obtain ⟨x, hx, hf⟩ := Option.map_eq_some_iff.1 hr
  exact Option.map_eq_some_iff.2 ⟨x, h x hx, hf⟩
theorem more_rounds {α : Type} {g : Nat → Option α} (h : ∀ k, LeO (g k) (g (k + 1))) (k : Nat) : ∀ j, LeO (g k) (g (k + j))
  | 0 => LeO.refl _
  | j + 1 => (more_rounds h k j).trans (h (k + j))
theorem at_rounds {α : Type} {g : Nat → Option α} (h : ∀ k, LeO (g k) (g (k + 1))) {k k' : Nat} (hk : k ≤ k') {r : α} (hr : g k = some r) : g k' = some r := by
  have := more_rounds h k (k' - k) r hr
  rwa [Nat.add_sub_cancel' hk] at this
/-! ### 11. Rows of elements of several cells (structs): read, made. R: what an element's cells say ('RepItem w': printed for each type) -/
def Reps {α : Type} (R : α → List Value → Prop) (size : Nat) (ps : List α) (cs : List Value) : Prop :=
  cs.length = ps.length * size ∧ ∀ j p, ps[j]? = some p → R p ((cs.drop (j * size)).take size)
theorem Reps.none {α : Type} (R : α → List Value → Prop) (size : Nat) : Reps R size [] [] := ⟨by simp, fun j p h => by simp at h⟩
theorem Reps.snoc {α : Type} {R : α → List Value → Prop} {size : Nat} {ps : List α} {cs c : List Value} {p : α} (h : Reps R size ps cs) (hp : R p c) (hc : c.length = size) : Reps R size (ps ++ [p]) (cs ++ c) := by
  refine ⟨by rw [List.length_append, h.1, hc, List.length_append, List.length_singleton, Nat.add_mul, Nat.one_mul], fun j q hq => ?_⟩
  rcases Nat.lt_or_ge j ps.length with hj | hj
  · rw [List.getElem?_append_left hj] at hq
    have h1 : j * size + size ≤ cs.length := by rw [h.1, ← Nat.succ_mul]; exact Nat.mul_le_mul_right _ hj
    have h2 := h.2 j q hq
    rw [List.drop_append_of_le_length (by omega), List.take_append_of_le_length (by rw [List.length_drop]; omega)]
    exact h2
  · have hj' : j = ps.length := by
      have := (List.getElem?_eq_some_iff.1 hq).1
      rw [List.length_append, List.length_singleton] at this
      omega
    subst hj'
    have hq' : p = q := by simpa using hq
    subst hq'
    rw [← h.1, List.drop_left, ← hc, List.take_length]
    exact hp
theorem Reps.imp_ {α : Type} {R R' : α → List Value → Prop} {size : Nat} {ps : List α} {cs : List Value} (h : Reps R size ps cs) (hR : ∀ p c, R p c → R' p c) : Reps R' size ps cs := ⟨h.1, fun j p hj => hR _ _ (h.2 j p hj)⟩

def ReadsRow {α : Type} (R : α → List Value → Prop) (size : Nat) (w : World) (A : Option Addr) (n : Nat) (ps : List α) : Prop :=
  ps.length = n ∧ n ≤ 9223372036854775807 ∧ (0 < n → ∃ ad, A = some ad ∧ ∀ j p, ps[j]? = some p → ∃ c, c.length = size ∧ R p c ∧ ∀ i u, c[i]? = some u → w.cell? (ad.add (j * size + i)) = some u)
theorem ReadsRow.get_ {α : Type} {R : α → List Value → Prop} {size : Nat} {w : World} {A : Option Addr} {n : Nat} {ps : List α} (h : ReadsRow R size w A n ps) (d : α) (i : Int) (h0 : 0 ≤ i) (h1 : i < n) :
    ∃ ad c, A = some ad ∧ c.length = size ∧ R (ps.getD i.toNat d) c ∧ ∀ j u, c[j]? = some u → w.cell? (ad.add (i.toNat * size + j)) = some u := by
  obtain ⟨ad, e, hc⟩ := h.2.2 (by omega)
  have hl : i.toNat < ps.length := by have := h.1; omega
  obtain ⟨c, hs, hr, hcell⟩ := hc i.toNat _ (List.getElem?_eq_getElem hl)
  refine ⟨ad, c, e, hs, ?_, hcell⟩
  rw [List.getD_eq_getElem?_getD, List.getElem?_eq_getElem hl]
  exact hr
theorem ReadsRow.imp_ {α : Type} {R R' : α → List Value → Prop} {size : Nat} {w w1 : World} {A : Option Addr} {n : Nat} {ps : List α} (h : ReadsRow R size w A n ps) (hb : Below w.heap.size w w1) (hR : ∀ p c, R p c → R' p c) : ReadsRow R' size w1 A n ps :=
  ⟨h.1, h.2.1, fun hn => by
    obtain ⟨ad, e, hc⟩ := h.2.2 hn
    refine ⟨ad, e, fun j p hj => ?_⟩
    obtain ⟨c, hs, hr, hcell⟩ := hc j p hj
    exact ⟨c, hs, hR _ _ hr, fun i u hu => pw_cell_below hb (hcell i u hu)⟩⟩
theorem own_reads_row {α : Type} {R : α → List Value → Prop} {w : World} {base n size : Nat} {e : TypeId} {v : Value} {ps : List α} {cs : List Value} (h : w.ownsRow base e size v n cs) (hR : Reps R size ps cs) (hn : ps.length = n) :
    ∃ A c, v = .slice A n c ∧ ReadsRow R size w A n ps := by
  rcases Nat.eq_zero_or_pos n with h0 | h0
  · rcases h.2 with ⟨rfl, rfl⟩ | ⟨g, cap, cur, rfl, _⟩
    · exact ⟨none, 0, rfl, hn, by omega, fun hp => absurd hp (by omega)⟩
    · exact ⟨_, cap, rfl, hn, by omega, fun hp => absurd hp (by omega)⟩
  · obtain ⟨g, cap, rfl, _, _⟩ := h.form h0
    have hm : n ≤ 9223372036854775807 := by
      rcases h.2 with ⟨_, h1⟩ | ⟨g', cap', cur, he, _, _, h1, h2, _⟩
      · omega
      · simp only [maxLen] at h2
        omega
    refine ⟨_, cap, rfl, hn, hm, fun _ => ⟨_, rfl, fun j p hj => ⟨(cs.drop (j * size)).take size, ?_, hR.2 j p hj, fun i u hu => ?_⟩⟩⟩
    · have hjl := (List.getElem?_eq_some_iff.1 hj).1
      have h1 : j * size + size ≤ cs.length := by rw [hR.1, ← Nat.succ_mul]; exact Nat.mul_le_mul_right _ hjl
      rw [List.length_take, List.length_drop]
      omega
    · refine h.cells (g := g) rfl _ u ?_
      rw [List.getElem?_take] at hu
      split at hu
      · rw [List.getElem?_drop] at hu
        exact hu
      · cases hu
section
variable {P : Program} {ops : Array Oper} {rest : List Oper} {o : Oper} {a : Act} {Q : Exit → Act → World → Prop}
/-- append(v, x), x of several cells; behind 'at_builtin'; the goal's world is 'W.alloc' of the variadic's box. -/
theorem print_append_cells {w0 W : World} (base : Nat) (hgd : o.guard = none) (s x : Operand) (t e : TypeId) (z : Value) (size bytes : Nat)
    (ho : o.op = .call { callee := .builtin .append, args := #[s, x], argTypes := #[t, t] })
    (ht : P.underlying t = some (.slice e)) (hinfo : (P.info? e).map (fun i => (i.zero, i.size, i.bytes)) = some (some z, size, bytes)) (hz : z.cells.size = size) (hs0 : 0 < size) (hb0 : 0 < bytes)
    (v : Value) (n : Nat) (xs ys : List Value) (hs : a.eval s = v) (hx : a.eval x = .slice (some ⟨W.heap.size, 0, none⟩) 1 1) (hys : ys.length = size) (h1 : ∀ u ∈ ys, u.oneCell' = true)
    (HO : W.ownsRow base e size v n xs) (HB : Below base w0 W) (hbase : base ≤ W.heap.size) (hl : (n + 1) * bytes ≤ 140737488355328)
    (h : ∀ v1 w1, w1.ownsRow base e size v1 (n + 1) (xs ++ ys) → Below base w0 w1 → W.grownBy w1 v.ownBlock → (v1.ownBlock = v.ownBlock ∨ ∃ b, v1.ownBlock = some b ∧ W.heap.size ≤ b) → wpList P ops Q rest (a.put o.dst v1) w1) :
    wpList P ops Q (o :: rest) a (W.alloc (.cells ys.toArray e)) := by
  obtain ⟨i0, hi, hzz⟩ := Option.map_eq_some_iff.1 hinfo
  simp only [Prod.mk.injEq] at hzz
  obtain ⟨hz0, hz1, hz2⟩ := hzz
  have hlen : n + 1 ≤ 140737488355328 := Nat.le_trans (Nat.le_mul_of_pos_right _ hb0) hl
  refine wpList_append_own_at (W.alloc (.cells ys.toArray e)) hgd s x t ho base e i0 z size bytes ht hi hz0 hz1 hz2 hz hs0 v n xs hs (HO.alloc _) ⟨W.heap.size, 0, none⟩ 1 1 ys hx (by rw [hys]; simp)
    (by simpa using World.news_of_block (cs := ys.toArray) (t := e) (fr := (0, 0)) (heap_alloc_new W (.cells ys.toArray e))) h1 (by simp only [maxLen]; omega) hl (by simp; omega) ?_
  intro v1 w1 hown hg _ hat
  refine h v1 w1 hown ((HB.alloc hbase _).grown hg (by simp; omega) (own_base HO)) (World.grownBy.trans (World.grownBy_alloc W _ _) hg) ?_
  rcases hat with hat | hat
  · exact .inl hat
  · exact .inr ⟨_, hat, by simp⟩
end

/-! ### 12. A block of one's own that is a state: its cells, what a store leaves -/
theorem own_ne {w : World} {base : Nat} {e t : TypeId} {size n g : Nat} {v : Value} {xs : List Value} {cs : Array Value} (h : w.ownsRow base e size v n xs) (hg : w.heap[g]? = some (.cells cs t (0, 0))) (hne : e ≠ t) : some g ≠ v.ownBlock := by
  rcases h.2 with ⟨rfl, _⟩ | ⟨g', cap, cur, rfl, _, hh, _⟩
  · simp [Value.ownBlock]
  · intro he
    have : g = g' := by simpa [Value.ownBlock] using he
    subst this
    rw [hg] at hh
    injection hh with hh
    injection hh with _ ht
    exact hne ht.symm
theorem own_setCell {w : World} {base : Nat} {e : TypeId} {size n : Nat} {v : Value} {xs : List Value} (h : w.ownsRow base e size v n xs) {p : Addr} (hne : some p.block ≠ v.ownBlock) (u : Value) : (w.setCell p u).ownsRow base e size v n xs := by
  obtain ⟨h1, h2⟩ := h
  refine ⟨h1, ?_⟩
  rcases h2 with h2 | ⟨g, cap, cur, rfl, hg, hh, r⟩
  · exact .inl h2
  · exact .inr ⟨g, cap, cur, rfl, hg, by rw [Below.heap_setCell _ _ _ _ (fun e => hne (by rw [e]; rfl))]; exact hh, r⟩
theorem blk_set {w : World} {g : Nat} {t : TypeId} {cs : Array Value} (h : w.heap[g]? = some (.cells cs t (0, 0))) (i : Nat) (u : Value) : (w.setCell ⟨g, i, none⟩ u).heap[g]? = some (.cells (cs.setIfInBounds i u) t (0, 0)) := by
  simp [World.setCell, Array.getElem?_modify, h]
theorem blk_far {w : World} {g : Nat} {t : TypeId} {cs : Array Value} (h : w.heap[g]? = some (.cells cs t (0, 0))) {p : Addr} (hp : g ≠ p.block) (u : Value) : (w.setCell p u).heap[g]? = some (.cells cs t (0, 0)) := (Below.heap_setCell w p u g hp).trans h
theorem blk_lt {w : World} {g : Nat} {o : Obj} (h : w.heap[g]? = some o) : g < w.heap.size := (Array.getElem?_eq_some_iff.1 h).1
theorem blk_cell {w : World} {g : Nat} {t : TypeId} {cs : Array Value} (h : w.heap[g]? = some (.cells cs t (0, 0))) (i : Nat) : w.cell? ⟨g, i, none⟩ = cs[i]? := cell_of_row w g i cs t (0, 0) h
theorem blk_frozen {w : World} {g : Nat} {t : TypeId} {cs : Array Value} (h : w.heap[g]? = some (.cells cs t (0, 0))) (i : Nat) : w.frozen? ⟨g, i, none⟩ = false := by simp [World.frozen?, h]
theorem blk_grown {w w1 : World} {g : Nat} {o : Obj} {row : Option Nat} (h : w.heap[g]? = some o) (hg : w.grownBy w1 row) (hne : some g ≠ row) : w1.heap[g]? = some o := (hg.block g (blk_lt h) hne).trans h
/-! ### 13. Two states at once: what a call on the state at block g (its row before: 'row') has turned -/
def KeepBut (w w' : World) (g : Nat) (row : Option Nat) : Prop := w.heap.size ≤ w'.heap.size ∧ ∀ i, i < w.heap.size → i ≠ g → some i ≠ row → w'.heap[i]? = w.heap[i]?
theorem KeepBut.refl (w : World) (g : Nat) (row : Option Nat) : KeepBut w w g row := ⟨Nat.le_refl _, fun _ _ _ _ => rfl⟩
theorem KeepBut.of_below {w w1 : World} (h : Below w.heap.size w w1) (g : Nat) (row : Option Nat) : KeepBut w w1 g row := ⟨h.size, fun i hi _ _ => h.block i hi⟩
theorem KeepBut.trans {w w1 w2 : World} {g : Nat} {row row1 : Option Nat} (h : KeepBut w w1 g row) (k : KeepBut w1 w2 g row1) (hr : row1 = row ∨ ∃ b, row1 = some b ∧ w.heap.size ≤ b) : KeepBut w w2 g row :=
  ⟨Nat.le_trans h.1 k.1, fun i hi hg hn => by
    refine (k.2 i (Nat.lt_of_lt_of_le hi h.1) hg ?_).trans (h.2 i hi hg hn)
    rcases hr with rfl | ⟨b, rfl, hb⟩
    · exact hn
    · intro e
      injection e with e
      omega⟩
/-- Another block, another row: they live on. -/
theorem KeepBut.blk {w w1 : World} {g g' : Nat} {row : Option Nat} {o : Obj} (h : KeepBut w w1 g row) (hb : w.heap[g']? = some o) (hg : g' ≠ g) (hr : some g' ≠ row) : w1.heap[g']? = some o := (h.2 g' (blk_lt hb) hg hr).trans hb
theorem KeepBut.own {w w1 : World} {g : Nat} {row : Option Nat} {base : Nat} {e : TypeId} {size n : Nat} {v : Value} {xs : List Value} (h : KeepBut w w1 g row) (ho : w.ownsRow base e size v n xs) (hg : v.ownBlock ≠ some g) (hr : v.ownBlock = none ∨ v.ownBlock ≠ row) : w1.ownsRow base e size v n xs := by
  obtain ⟨h1, h2⟩ := ho
  refine ⟨h1, ?_⟩
  rcases h2 with h2 | ⟨b, cap, cur, rfl, hb, hh, r⟩
  · exact .inl h2
  · refine .inr ⟨b, cap, cur, rfl, hb, h.blk hh ?_ ?_, r⟩
    · intro e
      exact hg (by rw [← e]; rfl)
    · rcases hr with hr | hr
      · simp [Value.ownBlock] at hr
      · exact hr
/-! ### 10b. From some number of rounds on -/
def Ev {α : Type} (g : Nat → Option α) (r : α) : Prop := ∃ K, ∀ k, K ≤ k → g k = some r
theorem Ev.of {α : Type} {g : Nat → Option α} {r : α} (hg : ∀ k, LeO (g k) (g (k + 1))) {k : Nat} (h : g k = some r) : Ev g r := ⟨k, fun _ hk => at_rounds hg hk h⟩
theorem Ev.now {α : Type} (r : α) : Ev (fun _ => some r) r := ⟨0, fun _ _ => rfl⟩
theorem Ev.bind {α β : Type} {g : Nat → Option α} {f : Nat → α → Option β} {a : α} {r : β} (h : Ev g a) (k : Ev (fun n => f n a) r) : Ev (fun n => (g n).bind (f n)) r := by
  obtain ⟨K, h⟩ := h
  obtain ⟨K', k⟩ := k
  refine ⟨max K K', fun n hn => ?_⟩
  have h1 := h n (by omega)
  have h2 := k n (by omega)
  simp only [h1, Option.bind_some]
  exact h2
/-- One round of a loop. -/
theorem Ev.step {α : Type} {g f : Nat → Option α} {r : α} (h : ∀ k, g (k + 1) = f k) (k : Ev f r) : Ev g r := by
  obtain ⟨K, k⟩ := k
  refine ⟨K + 1, fun n hn => ?_⟩
  obtain ⟨m, rfl⟩ : ∃ m, n = m + 1 := ⟨n - 1, by omega⟩
  rw [h]
  exact k m (by omega)
theorem Ev.congr {α : Type} {g f : Nat → Option α} {r : α} (h : ∀ k, g k = f k) (k : Ev f r) : Ev g r := by
  obtain ⟨K, k⟩ := k
  exact ⟨K, fun n hn => (h n).trans (k n hn)⟩
/-! ### 14. append as_ one step of a region that draws its order: for 'go_region_law' (and a region walked by hand) -/
section
variable {P : Program} {ops : Array Oper} {o : Oper} {a : Act} {Q : Exit → Act → World → Prop} {K : Act → World → Prop}
end
/-! ### 15. A row's base may be lowered -/
theorem own_weaken {w : World} {base base' : Nat} {e : TypeId} {size n : Nat} {v : Value} {xs : List Value} (h : w.ownsRow base e size v n xs) (hb : base' ≤ base) : w.ownsRow base' e size v n xs := by
  obtain ⟨h1, h2⟩ := h
  refine ⟨h1, ?_⟩
  rcases h2 with h2 | ⟨g, cap, cur, rfl, hg, r⟩
  · exact .inl h2
  · exact .inr ⟨g, cap, cur, rfl, Nat.le_trans hb hg, r⟩
/-! ### 16. Parts 3 to 9 for ANY element of one cell: 'enc' (Value.int k, Value.string, Value.bool), a default 'd' -/
section
variable {α : Type} {enc : α → Value} {d : α}
def encs (enc : α → Value) (xs : List α) : List Value := xs.map enc
def rdOf (d : α) (xs : List α) (i : Int) : α := xs.getD i.toNat d
theorem encs_length (xs : List α) : (encs enc xs).length = xs.length := by simp [encs]
theorem encs_get (xs : List α) (j : Nat) (h : j < xs.length) : (encs enc xs)[j]? = some (enc (xs.getD j d)) := by
  simp [encs, List.getElem?_eq_getElem h, List.getD_eq_getElem?_getD]
def ReadsOf (enc : α → Value) (d : α) (w : World) (A : Option Addr) (n : Nat) (xs : List α) : Prop :=
  xs.length = n ∧ n ≤ 9223372036854775807 ∧ (0 < n → ∃ ad, A = some ad ∧ ∀ j, j < n → w.cell? (ad.add j) = some (enc (xs.getD j d)))
theorem ReadsOf.at_ {w : World} {A : Option Addr} {n : Nat} {xs : List α} (h : ReadsOf enc d w A n xs) (i : Int) (h0 : 0 ≤ i) (h1 : i < n) : ∃ ad, A = some ad ∧ w.cell? (ad.add i.toNat) = some (enc (rdOf d xs i)) := by
  obtain ⟨ad, e, hc⟩ := h.2.2 (by omega)
  exact ⟨ad, e, hc _ (by omega)⟩
theorem ReadsOf.below {w w1 : World} {A : Option Addr} {n : Nat} {xs : List α} (h : ReadsOf enc d w A n xs) (hb : Below w.heap.size w w1) : ReadsOf enc d w1 A n xs :=
  ⟨h.1, h.2.1, fun hn => by
    obtain ⟨ad, e, hc⟩ := h.2.2 hn
    exact ⟨ad, e, fun j hj => pw_cell_below hb (hc j hj)⟩⟩
theorem own_at_of {W : World} {base g n cap : Nat} {e : TypeId} {xs : List α} (h : W.ownsRow base e 1 (.slice (some ⟨g, 0, none⟩) n cap) n (encs enc xs)) (i : Int) (h0 : 0 ≤ i) (h1 : i < n) :
    W.cell? ⟨g, i.toNat, none⟩ = some (enc (rdOf d xs i)) ∧ W.frozen? ⟨g, i.toNat, none⟩ = false := by
  have hl : xs.length = n := by have := h.1; simp [encs] at this; exact this
  constructor
  · have hc := h.cells (g := g) rfl i.toNat _ (encs_get (d := d) xs i.toNat (by omega))
    rwa [add_plain] at hc
  · rcases h.2 with ⟨h', _⟩ | ⟨g', cap', cur, h', _, hh, _⟩
    · cases h'
    · have : g = g' := by injection h' with h'; injection h' with h'; injection h' with h'
      subst this
      simp [World.frozen?, hh]
theorem own_store_of {W : World} {base g n cap : Nat} {e : TypeId} {xs : List α} (h : W.ownsRow base e 1 (.slice (some ⟨g, 0, none⟩) n cap) n (encs enc xs)) (i : Int) (x : α) :
    (W.setCell ⟨g, i.toNat, none⟩ (enc x)).ownsRow base e 1 (.slice (some ⟨g, 0, none⟩) n cap) n (encs enc (xs.set i.toNat x)) ∧ W.grownBy (W.setCell ⟨g, i.toNat, none⟩ (enc x)) (some g) := by
  have hs := h.stored i.toNat (enc x)
  have he : (encs enc xs).set i.toNat (enc x) = encs enc (xs.set i.toNat x) := by simp [encs, List.map_set]
  rwa [he] at hs
end
section
variable {α : Type} {P : Program} {ops : Array Oper} {rest : List Oper} {o : Oper} {a : Act} {Q : Exit → Act → World → Prop}
end

/-! ### 17. Rows of one element type held at once: no two share a block -/
/-! ### 18. A block behind a new one; behind a draw -/
theorem blk_alloc {w : World} {g : Nat} {o : Obj} (h : w.heap[g]? = some o) (o' : Obj) : (w.alloc o').heap[g]? = some o := (Below.heap_alloc w o' g (blk_lt h)).trans h
theorem blk_drew {w : World} {g : Nat} {o : Obj} (h : w.heap[g]? = some o) : w.drew.heap[g]? = some o := h
theorem blk_drewN {w : World} {g : Nat} {o : Obj} (h : w.heap[g]? = some o) (n : Nat) : (w.drewN n).heap[g]? = some o := h
theorem blk_below {w w1 : World} {g : Nat} {o : Obj} (h : w.heap[g]? = some o) (hb : Below w.heap.size w w1) : w1.heap[g]? = some o := (hb.block g (blk_lt h)).trans h
theorem blk_new (w : World) (o : Obj) : (w.alloc o).heap[w.heap.size]? = some o := heap_alloc_new w o
/-! ### 19. Results that lie in memory beside others -/
section
variable {P : Program}
theorem results_tc {fn : Func} {p u : Tmp} {ty : TypeId} (h : fn.results = #[.tmp u, .cell p ty]) (tmps : Array Value) (w : World) (g : Nat) (t : TypeId) (cs : Array Value) (fr : Nat × Nat) (d : TypeDesc)
    (hp : tmps.getD p undef = .pointer (some ⟨g, 0, none⟩)) (hg : w.heap[g]? = some (.cells cs t fr))
    (hu : P.underlying ty = some d) (hd : (match d with | .struct _ | .array _ _ => true | _ => false) = true) (hi : (P.info? ty).map (·.size) = some cs.size) :
    (results fn tmps).run P w = .ok (.tuple #[tmps.getD u undef, .agg cs]) w := by
  have hp' : tmps[p]?.getD undef = .pointer (some ⟨g, 0, none⟩) := by simpa using hp
  simp [results, h, hp', asAddr, run_loadVar_row w g t ty cs fr d hg hu hd hi]
end
/-! ### 20. Rows of elements of any kind: R is what an element's cells say -/
theorem own_le {w : World} {base n m c size : Nat} {e : TypeId} {A : Option Addr} {xs : List Value} (h : w.ownsRow base e size (.slice A m c) n xs) : m ≤ c := by
  rcases h.2 with ⟨he, _⟩ | ⟨g, cap, cur, he, _, _, hnc, _⟩
  · injection he with _ h2 h3
    omega
  · injection he with _ h2 h3
    omega
def OwnRow {α : Type} (R : α → List Value → Prop) (e : TypeId) (size : Nat) (w : World) (base : Nat) (v : Value) (ps : List α) : Prop :=
  ∃ inner, w.ownsRow base e size v ps.length inner ∧ Reps R size ps inner
section
variable {α : Type} {R R' : α → List Value → Prop} {e : TypeId} {size : Nat} {w w1 : World} {base : Nat} {v : Value} {ps : List α}
theorem OwnRow.imp_ (h : OwnRow R e size w base v ps) (hR : ∀ p c, R p c → R' p c) : OwnRow R' e size w base v ps := by
  obtain ⟨inner, ho, hr⟩ := h
  exact ⟨inner, ho, hr.imp_ hR⟩
theorem OwnRow.below (h : OwnRow R e size w base v ps) (hb : Below w.heap.size w w1) : OwnRow R e size w1 base v ps := by
  obtain ⟨inner, ho, hr⟩ := h
  exact ⟨inner, pw_own_below ho hb, hr⟩
theorem OwnRow.keep (h : OwnRow R e size w base v ps) {g : Nat} {t : TypeId} {cells : Array Value} (hb : w.heap[g]? = some (.cells cells t (0, 0))) (ht : e ≠ t) (hk : KeepBut w w1 g none) : OwnRow R e size w1 base v ps := by
  obtain ⟨inner, ho, hr⟩ := h
  exact ⟨inner, hk.own ho (Ne.symm (own_ne ho hb ht)) (by cases v.ownBlock <;> simp), hr⟩
theorem OwnRow.lower (h : OwnRow R e size w base v ps) {base' : Nat} (hb : base' ≤ base) : OwnRow R e size w base' v ps := by
  obtain ⟨inner, ho, hr⟩ := h
  exact ⟨inner, own_weaken ho hb, hr⟩
theorem OwnRow.reads (h : OwnRow R e size w base v ps) : ∃ A c, v = .slice A ps.length c ∧ ps.length ≤ c ∧ ReadsRow R size w A ps.length ps := by
  obtain ⟨inner, ho, hr⟩ := h
  obtain ⟨A, c, rfl, hrow⟩ := own_reads_row ho hr rfl
  exact ⟨A, c, rfl, own_le ho, hrow⟩
theorem OwnRow.ne_block (h : OwnRow R e size w base v ps) {g : Nat} {t : TypeId} {cells : Array Value} (hb : w.heap[g]? = some (.cells cells t (0, 0))) (ht : e ≠ t) : some g ≠ v.ownBlock := by
  obtain ⟨inner, ho, hr⟩ := h
  exact own_ne ho hb ht
end
section
variable {P : Program} {ops : Array Oper} {rest : List Oper} {o : Oper} {a : Act} {Q : Exit → Act → World → Prop} {α : Type} {R : α → List Value → Prop}
/-- append(v, x): x's cells are cs. R is that of the world AHEAD; move it over hg ('OwnRow.imp_'). -/
theorem OwnRow.append {w0 W : World} (base : Nat) (hgd : o.guard = none) (s x : Operand) (t e : TypeId) (z : Value) (size bytes : Nat)
    (ho : o.op = .call { callee := .builtin .append, args := #[s, x], argTypes := #[t, t] })
    (ht : P.underlying t = some (.slice e)) (hinfo : (P.info? e).map (fun i => (i.zero, i.size, i.bytes)) = some (some z, size, bytes)) (hz : z.cells.size = size) (hs0 : 0 < size) (hb0 : 0 < bytes)
    (v : Value) (ps : List α) (p : α) (cs : List Value) (hs : a.eval s = v) (hx : a.eval x = .slice (some ⟨W.heap.size, 0, none⟩) 1 1) (hp : R p cs) (hcs : cs.length = size) (h1 : ∀ u ∈ cs, u.oneCell' = true)
    (HO : OwnRow R e size W base v ps) (HB : Below base w0 W) (hbase : base ≤ W.heap.size) (hl : (ps.length + 1) * bytes ≤ 140737488355328)
    (h : ∀ v1 w1, OwnRow R e size w1 base v1 (ps ++ [p]) → Below base w0 w1 → W.grownBy w1 v.ownBlock → (v1.ownBlock = v.ownBlock ∨ ∃ b, v1.ownBlock = some b ∧ W.heap.size ≤ b) → wpList P ops Q rest (a.put o.dst v1) w1) :
    wpList P ops Q (o :: rest) a (W.alloc (.cells cs.toArray e)) := by
  obtain ⟨inner, hown, hr⟩ := HO
  refine print_append_cells base hgd s x t e z size bytes ho ht hinfo hz hs0 hb0 v ps.length inner cs hs hx hcs h1 hown HB hbase hl ?_
  intro v1 w1 hown1 hb1 hg1 hat1
  exact h v1 w1 ⟨inner ++ cs, by rw [List.length_append, List.length_singleton]; exact hown1, hr.snoc hp hcs⟩ hb1 hg1 hat1
end
section
variable {P : Program} {ops : Array Oper} {o : Oper} {a : Act} {Q : Exit → Act → World → Prop} {K : Act → World → Prop} {α : Type} {R : α → List Value → Prop}
end
/-! ### 21. Cuts of a slice that came in, lengths spelled as_ the lists' -/
section
variable {α : Type} {P : Program}
end

/-! ### 22. append([]byte, s...), s a string; behind 'at_builtin'. (No word on where the new row lies: two rows of bytes at once don't go by it.) -/
section
variable {P : Program} {ops : Array Oper} {rest : List Oper} {o : Oper} {a : Act} {Q : Exit → Act → World → Prop}
end
/-! ### 23. KINDS: what a value's cells say, read (K) and made (M), kind by kind; every mover proved once -/
/-- ok: which blocks the rows inside may be ('not the row that is being written'). -/
structure Kd (α : Type) where
  sz : Nat
  E : List Nat
  K : World → α → List Value → Prop
  M : World → Nat → (Nat → Prop) → α → List Value → Prop
  K_len : ∀ {w x cs}, K w x cs → cs.length = sz
  K_one : ∀ {w x cs}, K w x cs → ∀ u ∈ cs, u.oneCell' = true
  K_below : ∀ {w w1 : World} {x cs}, Below w.heap.size w w1 → K w x cs → K w1 x cs
  K_of_M : ∀ {w base ok x cs}, M w base ok x cs → K w x cs
  M_mono : ∀ {w base ok ok' x cs}, (∀ k, ok k → ok' k) → M w base ok x cs → M w base ok' x cs
  M_bound : ∀ {w : World} {base ok x cs}, M w base ok x cs → M w base (fun k => ok k ∧ base ≤ k ∧ k < w.heap.size ∧ ∃ q, q ∈ E ∧ ∃ cells, w.heap[k]? = some (.cells cells q (0, 0))) x cs
  M_move : ∀ {w w1 : World} {base ok x cs}, (∀ k, ok k → w1.heap[k]? = w.heap[k]?) → M w base ok x cs → M w1 base ok x cs
  M_lower : ∀ {w base base' ok x cs}, base' ≤ base → M w base ok x cs → M w base' ok x cs

theorem own_move {w w1 : World} {base : Nat} {e : TypeId} {size n : Nat} {v : Value} {xs : List Value} (h : w.ownsRow base e size v n xs) (hm : ∀ k, v.ownBlock = some k → w1.heap[k]? = w.heap[k]?) : w1.ownsRow base e size v n xs := by
  obtain ⟨h1, h2⟩ := h
  refine ⟨h1, ?_⟩
  rcases h2 with h2 | ⟨g, cap, cur, rfl, hg, hh, r⟩
  · exact .inl h2
  · exact .inr ⟨g, cap, cur, rfl, hg, (hm g (by simp [Value.ownBlock])).trans hh, r⟩
theorem own_typed {w : World} {base : Nat} {e : TypeId} {size n : Nat} {v : Value} {xs : List Value} (h : w.ownsRow base e size v n xs) (k : Nat) (hk : v.ownBlock = some k) : ∃ cells, w.heap[k]? = some (.cells cells e (0, 0)) := by
  rcases h.2 with ⟨rfl, _⟩ | ⟨g, cap, cur, rfl, hg, hh, r⟩
  · simp [Value.ownBlock] at hk
  · have : g = k := by simpa [Value.ownBlock] using hk
    subst this
    exact ⟨cur, hh⟩

namespace Kd
/-- A row of elements that is read. -/
def C {α : Type} (d : Kd α) (w : World) (A : Option Addr) (n : Nat) (xs : List α) : Prop := ReadsRow (d.K w) d.sz w A n xs
/-- A row of elements (type e) of the call's own; the elements' rows are not this one. -/
def R {α : Type} (d : Kd α) (e : Nat) (w : World) (base : Nat) (ok : Nat → Prop) (v : Value) (xs : List α) : Prop :=
  (∀ k, v.ownBlock = some k → ok k) ∧ OwnRow (d.M w base (fun k => ok k ∧ some k ≠ v.ownBlock)) e d.sz w base v xs
section
variable {α : Type} {d : Kd α} {e : Nat} {w w1 : World} {base : Nat} {ok ok' : Nat → Prop} {v : Value} {xs : List α}
theorem C_below {A : Option Addr} {n : Nat} (h : d.C w A n xs) (hb : Below w.heap.size w w1) : d.C w1 A n xs := ReadsRow.imp_ h hb (fun _ _ hp => d.K_below hb hp)
theorem R_mono (h : d.R e w base ok v xs) (hok : ∀ k, ok k → ok' k) : d.R e w base ok' v xs := ⟨fun k hk => hok k (h.1 k hk), h.2.imp_ (fun _ _ hp => d.M_mono (fun k hk => ⟨hok k hk.1, hk.2⟩) hp)⟩
theorem R_bound (h : d.R e w base ok v xs) : d.R e w base (fun k => ok k ∧ base ≤ k ∧ k < w.heap.size ∧ ∃ q, q ∈ e :: d.E ∧ ∃ cells, w.heap[k]? = some (.cells cells q (0, 0))) v xs := by
  obtain ⟨h0, inner, ho, hr⟩ := h
  refine ⟨fun k hk => ?_, inner, ho, hr.imp_ (fun _ _ hp => d.M_mono (fun k hk => ?_) (d.M_bound hp))⟩
  · obtain ⟨cells, hc⟩ := own_typed ho k hk
    exact ⟨h0 k hk, own_base ho k hk, own_lt ho k hk, e, List.mem_cons_self, cells, hc⟩
  · obtain ⟨⟨h1, h2⟩, h3, h4, q, hq, hc⟩ := hk
    exact ⟨⟨h1, h3, h4, q, List.mem_cons_of_mem _ hq, hc⟩, h2⟩
theorem R_move (h : d.R e w base ok v xs) (hm : ∀ k, ok k → w1.heap[k]? = w.heap[k]?) : d.R e w1 base ok v xs := by
  obtain ⟨h0, inner, ho, hr⟩ := h
  exact ⟨h0, inner, own_move ho (fun k hk => hm k (h0 k hk)), hr.imp_ (fun _ _ hp => d.M_move (fun k hk => hm k hk.1) hp)⟩
theorem R_lower {base' : Nat} (h : d.R e w base ok v xs) (hb : base' ≤ base) : d.R e w base' ok v xs := by
  obtain ⟨h0, inner, ho, hr⟩ := h
  exact ⟨h0, inner, own_weaken ho hb, hr.imp_ (fun _ _ hp => d.M_lower hb hp)⟩
/-- Any mover: what is ok, and a block of w's, stays. -/
theorem R_step (h : d.R e w base ok v xs) (hm : ∀ k, ok k → k < w.heap.size → w1.heap[k]? = w.heap[k]?) : d.R e w1 base ok v xs :=
  R_mono (R_move (R_bound h) (fun k hk => hm k hk.1 hk.2.2.1)) (fun _ hk => hk.1)
theorem M_step {x : α} {cs : List Value} (h : d.M w base ok x cs) (hm : ∀ k, ok k → k < w.heap.size → w1.heap[k]? = w.heap[k]?) : d.M w1 base ok x cs :=
  d.M_mono (fun _ hk => hk.1) (d.M_move (fun k hk => hm k hk.1 hk.2.2.1) (d.M_bound h))
theorem R_below (h : d.R e w base ok v xs) (hb : Below w.heap.size w w1) : d.R e w1 base ok v xs := R_step h (fun k _ hk => hb.block k hk)
theorem M_below {x : α} {cs : List Value} (h : d.M w base ok x cs) (hb : Below w.heap.size w w1) : d.M w1 base ok x cs := M_step h (fun k _ hk => hb.block k hk)
theorem R_reads (h : d.R e w base ok v xs) : ∃ A c, v = .slice A xs.length c ∧ xs.length ≤ c ∧ d.C w A xs.length xs := by
  obtain ⟨A, c, he, hl, hr⟩ := OwnRow.reads h.2
  exact ⟨A, c, he, hl, hr.imp_ (Below.refl _ _) (fun _ _ hp => d.K_of_M hp)⟩
theorem R_slice (h : d.R e w base ok v xs) : ∃ A c, v = .slice A xs.length c := by
  obtain ⟨A, c, he, _⟩ := R_reads h
  exact ⟨A, c, he⟩
theorem R_own (h : d.R e w base ok v xs) : ∃ inner, w.ownsRow base e d.sz v xs.length inner := by
  obtain ⟨_, inner, ho, _⟩ := h
  exact ⟨inner, ho⟩
theorem R_ne (h : d.R e w base ok v xs) {g t : Nat} {cells : Array Value} (hb : w.heap[g]? = some (.cells cells t (0, 0))) (ht : e ≠ t) : some g ≠ v.ownBlock := OwnRow.ne_block h.2 hb ht
end

/-! #### the kinds -/
def scalar {α : Type} (enc : α → Value) (h1 : ∀ x, (enc x).oneCell' = true) : Kd α where
  sz := 1
  E := []
  K := fun _ x cs => cs = [enc x]
  M := fun _ _ _ x cs => cs = [enc x]
  K_len := fun h => by rw [h]; rfl
  K_one := fun h u hu => by
    rw [h] at hu
    rw [List.mem_singleton.1 hu]
    exact h1 _
  K_below := fun _ h => h
  K_of_M := fun h => h
  M_mono := fun _ h => h
  M_bound := fun h => h
  M_move := fun _ h => h
  M_lower := fun _ h => h
def int (k : IntKind) : Kd Int := scalar (Value.int k) (fun _ => rfl)
def bool : Kd Bool := scalar Value.bool (fun _ => rfl)
def string : Kd ByteArray := scalar Value.string (fun _ => rfl)
def slice {α : Type} (e : Nat) (d : Kd α) : Kd (List α) where
  sz := 1
  E := e :: d.E
  K := fun w xs cs => ∃ A c, cs = [.slice A xs.length c] ∧ xs.length ≤ c ∧ d.C w A xs.length xs
  M := fun w base ok xs cs => ∃ v, cs = [v] ∧ d.R e w base ok v xs
  K_len := by
    rintro w x cs ⟨A, c, rfl, _⟩
    rfl
  K_one := by
    rintro w x cs ⟨A, c, rfl, _⟩ u hu
    rw [List.mem_singleton.1 hu]
    rfl
  K_below := by
    rintro w w1 x cs hb ⟨A, c, rfl, hl, hr⟩
    exact ⟨A, c, rfl, hl, C_below hr hb⟩
  K_of_M := by
    rintro w base ok x cs ⟨v, rfl, h⟩
    obtain ⟨A, c, rfl, hl, hr⟩ := R_reads h
    exact ⟨A, c, rfl, hl, hr⟩
  M_mono := by
    rintro w base ok ok' x cs hok ⟨v, rfl, h⟩
    exact ⟨v, rfl, R_mono h hok⟩
  M_bound := by
    rintro w base ok x cs ⟨v, rfl, h⟩
    exact ⟨v, rfl, R_bound h⟩
  M_move := by
    rintro w w1 base ok x cs hm ⟨v, rfl, h⟩
    exact ⟨v, rfl, R_move h hm⟩
  M_lower := by
    rintro w base base' ok x cs hb ⟨v, rfl, h⟩
    exact ⟨v, rfl, R_lower h hb⟩
/-- Nothing is of this kind: where the nesting's depth is used up. -/
def bot {α : Type} (sz : Nat) (E : List Nat) : Kd α where
  sz := sz
  E := E
  K := fun _ _ _ => False
  M := fun _ _ _ _ _ => False
  K_len := fun h => h.elim
  K_one := fun h => h.elim
  K_below := fun _ h => h
  K_of_M := fun h => h
  M_mono := fun _ h => h
  M_bound := fun h => h
  M_move := fun _ h => h
  M_lower := fun _ h => h
/-- A type nested in itself: nested at most n deep .. -/
def upto {α : Type} (F : Kd α → Kd α) (sz : Nat) (E : List Nat) : Nat → Kd α
  | 0 => bot sz E
  | n + 1 => F (upto F sz E n)
/-! #### an element of a row that is read; an element appended -/
theorem C_get {α : Type} {d : Kd α} {w : World} {A : Option Addr} {n : Nat} {xs : List α} (h : d.C w A n xs) (z : α) (i : Int) (h0 : 0 ≤ i) (h1 : i < n) :
    ∃ ad c, A = some ad ∧ c.length = d.sz ∧ d.K w (xs.getD i.toNat z) c ∧ ∀ j u, c[j]? = some u → w.cell? (ad.add (i.toNat * d.sz + j)) = some u := ReadsRow.get_ h z i h0 h1
/-- What an append leaves: the old elements' rows and the new one's are not the new row's block. -/
theorem R_appended {α : Type} {d : Kd α} {e base : Nat} {ok okp : Nat → Prop} {W w1 : World} {v v1 : Value} {xs : List α} {p : α} {inner cs : List Value} (h0 : ∀ k, v.ownBlock = some k → ok k) (hr : Reps (d.M W base (fun k => ok k ∧ some k ≠ v.ownBlock)) d.sz xs inner) (hp : d.M W base okp p cs) (hokp : ∀ k, okp k → ok k ∧ some k ≠ v.ownBlock) (hfresh : ∀ k, W.heap.size ≤ k → ok k)
    (hown : w1.ownsRow base e d.sz v1 (xs.length + 1) (inner ++ cs)) (hg : W.grownBy w1 v.ownBlock) (hat : v1.ownBlock = v.ownBlock ∨ ∃ b, v1.ownBlock = some b ∧ W.heap.size ≤ b) : d.R e w1 base ok v1 (xs ++ [p]) := by
  have hne : ∀ k, some k ≠ v.ownBlock → k < W.heap.size → some k ≠ v1.ownBlock := by
    intro k hk hlt
    rcases hat with hat | ⟨b, hb, hle⟩
    · rw [hat]; exact hk
    · rw [hb]
      intro he
      injection he with he
      omega
  have step : ∀ {q : α} {c : List Value} {o : Nat → Prop}, d.M W base o q c → (∀ k, o k → ok k ∧ some k ≠ v.ownBlock) → d.M w1 base (fun k => ok k ∧ some k ≠ v1.ownBlock) q c := by
    intro q c o hq ho
    have h1 := d.M_move (w1 := w1) (fun k hk => hg.block k hk.2.2.1 (ho k hk.1).2) (d.M_bound hq)
    exact d.M_mono (fun k hk => ⟨(ho k hk.1).1, hne k (ho k hk.1).2 hk.2.2.1⟩) h1
  refine ⟨fun k hk => ?_, inner ++ cs, by rw [List.length_append, List.length_singleton]; exact hown, ?_⟩
  · rcases hat with hat | ⟨b, hb, hle⟩
    · exact h0 k (hat ▸ hk)
    · rw [hb] at hk
      injection hk with hk
      exact hfresh k (by omega)
  · exact (hr.imp_ (fun _ _ hq => step hq (fun _ hk => hk))).snoc (step hp hokp) (d.K_len (d.K_of_M hp))
section
variable {P : Program} {ops : Array Oper} {rest : List Oper} {o : Oper} {a : Act} {Q : Exit → Act → World → Prop} {α : Type}
/-- append(v, x), behind 'at_builtin'; the goal's world is 'W.alloc' of the variadic's box; x's cells are cs, made (its rows satisfy okp). hfresh: a block that is new at W is ok. -/
theorem R_append (d : Kd α) {w0 W : World} (base : Nat) (hgd : o.guard = none) (s x : Operand) (t e : TypeId) (z : Value) (bytes : Nat)
    (ho : o.op = .call { callee := .builtin .append, args := #[s, x], argTypes := #[t, t] })
    (ht : P.underlying t = some (.slice e)) (hinfo : (P.info? e).map (fun i => (i.zero, i.size, i.bytes)) = some (some z, d.sz, bytes)) (hz : z.cells.size = d.sz) (hs0 : 0 < d.sz) (hb0 : 0 < bytes)
    (v : Value) (xs : List α) (p : α) (cs : List Value) (ok okp : Nat → Prop) (hs : a.eval s = v) (hx : a.eval x = .slice (some ⟨W.heap.size, 0, none⟩) 1 1) (hp : d.M W base okp p cs) (hokp : ∀ k, okp k → ok k ∧ some k ≠ v.ownBlock) (hfresh : ∀ k, W.heap.size ≤ k → ok k)
    (HO : d.R e W base ok v xs) (HB : Below base w0 W) (hbase : base ≤ W.heap.size) (hl : (xs.length + 1) * bytes ≤ 140737488355328)
    (h : ∀ v1 w1, d.R e w1 base ok v1 (xs ++ [p]) → Below base w0 w1 → W.grownBy w1 v.ownBlock → (v1.ownBlock = v.ownBlock ∨ ∃ b, v1.ownBlock = some b ∧ W.heap.size ≤ b) → wpList P ops Q rest (a.put o.dst v1) w1) :
    wpList P ops Q (o :: rest) a (W.alloc (.cells cs.toArray e)) := by
  obtain ⟨h0, inner, hown, hr⟩ := HO
  refine print_append_cells base hgd s x t e z d.sz bytes ho ht hinfo hz hs0 hb0 v xs.length inner cs hs hx (d.K_len (d.K_of_M hp)) (d.K_one (d.K_of_M hp)) hown HB hbase hl ?_
  intro v1 w1 hown1 hb1 hg1 hat1
  exact h v1 w1 (R_appended h0 hr hp hokp hfresh hown1 hg1 hat1) hb1 hg1 hat1
end
section
variable {P : Program} {ops : Array Oper} {o : Oper} {a : Act} {Q : Exit → Act → World → Prop} {Kc : Act → World → Prop} {α : Type}
end
/-- A row of scalars is the elder form. -/
theorem reps_scalar {α : Type} {enc : α → Value} (xs : List α) : Reps (fun (x : α) (cs : List Value) => cs = [enc x]) 1 xs (encs enc xs) := by
  refine ⟨by simp [encs], fun j p hj => ?_⟩
  obtain ⟨hl, hp⟩ := List.getElem?_eq_some_iff.1 hj
  have hl' : j < (encs enc xs).length := by rw [encs_length]; exact hl
  rw [Nat.mul_one, List.drop_eq_getElem_cons hl']
  simp [encs, hp]
theorem R_of_own {α : Type} {enc : α → Value} {h1 : ∀ x, (enc x).oneCell' = true} {e : Nat} {w : World} {base : Nat} {ok : Nat → Prop} {v : Value} {xs : List α} (ho : w.ownsRow base e 1 v xs.length (encs enc xs)) (hok : ∀ k, v.ownBlock = some k → ok k) : (scalar enc h1).R e w base ok v xs := ⟨hok, encs enc xs, ho, reps_scalar xs⟩
theorem own_of_R {α : Type} {enc : α → Value} {h1 : ∀ x, (enc x).oneCell' = true} {e : Nat} {w : World} {base : Nat} {ok : Nat → Prop} {v : Value} {xs : List α} (h : (scalar enc h1).R e w base ok v xs) : w.ownsRow base e 1 v xs.length (encs enc xs) := by
  obtain ⟨_, inner, ho, hr⟩ := h
  have : inner = encs enc xs := by
    apply List.ext_getElem?
    intro j
    rcases Nat.lt_or_ge j xs.length with hj | hj
    · have h2 := hr.2 j _ (List.getElem?_eq_getElem hj)
      have hl : j < inner.length := by have := hr.1; simp [scalar] at this; omega
      have h3 : (inner.drop (j * 1)).take 1 = [enc xs[j]] := h2
      rw [Nat.mul_one, List.drop_eq_getElem_cons hl] at h3
      have h4 : inner[j] = enc xs[j] := by
        have h5 := congrArg List.head? h3
        rw [List.take_succ_cons] at h5
        exact Option.some.inj h5
      rw [List.getElem?_eq_getElem hl, h4]
      simp [encs, List.getElem?_eq_getElem hj]
    · have h3 : inner.length = xs.length := by have := hr.1; simp [scalar] at this; omega
      rw [List.getElem?_eq_none (by omega), List.getElem?_eq_none (by rw [encs_length]; omega)]
  rw [← this]
  exact ho
theorem reads_of_C {α : Type} {enc : α → Value} {d : α} {h1 : ∀ x, (enc x).oneCell' = true} {w : World} {A : Option Addr} {n : Nat} {xs : List α} (h : (scalar enc h1).C w A n xs) : ReadsOf enc d w A n xs := by
  refine ⟨h.1, h.2.1, fun hn => ?_⟩
  obtain ⟨ad, e, hc⟩ := h.2.2 hn
  refine ⟨ad, e, fun j hj => ?_⟩
  have hl : j < xs.length := by have := h.1; omega
  obtain ⟨c, _, hK, hcell⟩ := hc j _ (List.getElem?_eq_getElem hl)
  have hK' : c = [enc xs[j]] := hK
  subst hK'
  have := hcell 0 _ rfl
  simpa [scalar, List.getD_eq_getElem?_getD, List.getElem?_eq_getElem hl] using this
end Kd
/-! ### 24. Kinds nested in themselves -/
namespace Kd
/-- F says the more, the more its argument says. -/
structure Mono {α β : Type} (F : Kd α → Kd β) : Prop where
  sz : ∀ d d' : Kd α, d.sz = d'.sz → (F d).sz = (F d').sz
  K : ∀ d d' : Kd α, d.sz = d'.sz → (∀ w x cs, d.K w x cs → d'.K w x cs) → ∀ w x cs, (F d).K w x cs → (F d').K w x cs
  M : ∀ d d' : Kd α, d.sz = d'.sz → (∀ w base ok x cs, d.M w base ok x cs → d'.M w base ok x cs) → ∀ w base ok x cs, (F d).M w base ok x cs → (F d').M w base ok x cs
section
variable {α : Type} {F : Kd α → Kd α} {sz : Nat} {E : List Nat} {hs : ∀ n, (upto F sz E n).sz = sz} {hE : ∀ n q, q ∈ (upto F sz E n).E → q ∈ E}
end
end Kd
/-! ### 25. What is held while another row is written: 'ok' says that its rows are none of that row's block -/
namespace Kd
/-- Behind an append to v (it left v1): what is held apart from v is held apart from v1. -/
theorem R_after {α : Type} {d : Kd α} {e base : Nat} {ok : Nat → Prop} {W w1 : World} {u v v1 : Value} {xs : List α} (h : d.R e W base (fun k => ok k ∧ some k ≠ v.ownBlock) u xs) (hg : W.grownBy w1 v.ownBlock) (hat : v1.ownBlock = v.ownBlock ∨ ∃ b, v1.ownBlock = some b ∧ W.heap.size ≤ b) : d.R e w1 base (fun k => ok k ∧ some k ≠ v1.ownBlock) u xs := by
  refine R_mono (R_move (R_bound h) (fun k hk => hg.block k hk.2.2.1 hk.1.2)) (fun k hk => ⟨hk.1.1, ?_⟩)
  rcases hat with hat | ⟨b, hb, hle⟩
  · rw [hat]; exact hk.1.2
  · rw [hb]
    intro he
    injection he with he
    have := hk.2.2.1
    omega
/-- A row that is owned as_ an element of a row of rows: its block is v's, no more is said. -/
theorem M_row {α : Type} {d : Kd α} {e base : Nat} {ok : Nat → Prop} {w : World} {v : Value} {xs : List α} (h : d.R e w base ok v xs) : (slice e d).M w base ok xs [v] := ⟨v, rfl, h⟩
end Kd
/-! ### 26. Words for a printer that takes every slice by its kind -/
namespace Kd
section
variable {α β : Type} {d : Kd α} {d' : Kd β} {e e' : Nat} {w w1 W : World} {base b b' : Nat} {ok ok' okv oku : Nat → Prop} {v u : Value} {xs : List α} {ys : List β}
theorem R_alloc (h : d.R e w base ok v xs) (o : Obj) : d.R e (w.alloc o) base ok v xs := R_below h (below_alloc (Below.refl _ _) o)
theorem R_drew (h : d.R e w base ok v xs) : d.R e w.drew base ok v xs := R_below h (below_drew (Below.refl _ _))
theorem R_drewN (h : d.R e w base ok v xs) (m : Nat) : d.R e (w.drewN m) base ok v xs := R_below h (pw_below_drewN (Below.refl _ _) m)
theorem R_reads' {A : Option Addr} {n c : Nat} (h : d.R e w base ok (.slice A n c) xs) : n = xs.length ∧ n ≤ c ∧ d.C w A xs.length xs := by
  obtain ⟨A', c', he, hl, hr⟩ := R_reads h
  injection he with h1 h2 h3
  subst h1
  exact ⟨h2, by omega, hr⟩
theorem R_base (h : d.R e w base ok v xs) : ∀ k, v.ownBlock = some k → base ≤ k := by
  obtain ⟨inner, ho⟩ := R_own h
  exact own_base ho
theorem R_form (h : d.R e w base ok v xs) (hp : 0 < xs.length) : ∃ g cap, v = .slice (some ⟨g, 0, none⟩) xs.length cap ∧ base ≤ g ∧ g < w.heap.size ∧ ∃ cells, w.heap[g]? = some (.cells cells e (0, 0)) := by
  obtain ⟨inner, ho⟩ := R_own h
  obtain ⟨g, cap, he, hb, hl⟩ := ho.form hp
  obtain ⟨cells, hc⟩ := own_typed ho g (by rw [he]; simp [Value.ownBlock])
  exact ⟨g, cap, he, hb, hl, cells, hc⟩
end
/-! #### scalars -/
section
variable {w W : World} {A : Option Addr} {n : Nat}
theorem at_int {k : IntKind} {xs : List Int} (h : (Kd.int k).C w A n xs) (i : Int) (h0 : 0 ≤ i) (h1 : i < n) : ∃ ad, A = some ad ∧ w.cell? (ad.add i.toNat) = some (.int k (rd xs i)) :=
  ReadsOf.at_ (reads_of_C (enc := Value.int k) (d := (0 : Int)) (h1 := fun _ => rfl) h) i h0 h1
theorem at_bool {xs : List Bool} (h : Kd.bool.C w A n xs) (i : Int) (h0 : 0 ≤ i) (h1 : i < n) : ∃ ad, A = some ad ∧ w.cell? (ad.add i.toNat) = some (.bool (rdOf false xs i)) :=
  ReadsOf.at_ (reads_of_C (enc := Value.bool) (d := false) (h1 := fun _ => rfl) h) i h0 h1
theorem at_string {xs : List ByteArray} (h : Kd.string.C w A n xs) (i : Int) (h0 : 0 ≤ i) (h1 : i < n) : ∃ ad, A = some ad ∧ w.cell? (ad.add i.toNat) = some (.string (rdOf ByteArray.empty xs i)) :=
  ReadsOf.at_ (reads_of_C (enc := Value.string) (d := ByteArray.empty) (h1 := fun _ => rfl) h) i h0 h1
variable {α : Type} {enc : α → Value} {h1 : ∀ x, (enc x).oneCell' = true} {e base g cap : Nat} {ok : Nat → Prop} {xs : List α}
theorem R_cell (d : α) (h : (scalar enc h1).R e W base ok (.slice (some ⟨g, 0, none⟩) xs.length cap) xs) (i : Int) (h0 : 0 ≤ i) (hi : i < xs.length) : W.cell? ⟨g, i.toNat, none⟩ = some (enc (rdOf d xs i)) ∧ W.frozen? ⟨g, i.toNat, none⟩ = false := own_at_of (own_of_R h) i h0 hi
theorem R_put (h : (scalar enc h1).R e W base ok (.slice (some ⟨g, 0, none⟩) xs.length cap) xs) (i : Int) (x : α) : (scalar enc h1).R e (W.setCell ⟨g, i.toNat, none⟩ (enc x)) base ok (.slice (some ⟨g, 0, none⟩) xs.length cap) (xs.set i.toNat x) ∧ W.grownBy (W.setCell ⟨g, i.toNat, none⟩ (enc x)) (some g) := by
  obtain ⟨ho, hg⟩ := own_store_of (own_of_R h) i x
  exact ⟨R_of_own (by rw [List.length_set]; exact ho) h.1, hg⟩
end

/-! #### events: a letter for what make and a literal leave -/
section
variable {P : Program} {ops : Array Oper} {rest : List Oper} {o : Oper} {a : Act} {Q : Exit → Act → World → Prop}
theorem event_run {W w1 : World} {v : Value} (hgd : o.guard = none) (hrun : (execOp a.eval o).run P W = .ok (.value v) w1) (h : wpList P ops Q rest (a.put o.dst v) w1) : wpList P ops Q (o :: rest) a W := by
  refine wpList_plain hgd fun K hK => ?_
  unfold Oper.wp
  rw [hrun]
  exact hK _ _ h
variable {α : Type}
/-- A literal '[]T{..}': inner its cells. 'hd' picks the operation; 'hrun' by '(by go_simp; rfl)'. -/
theorem R_lit (d : Kd α) {w0 W : World} (base e : Nat) (hgd : o.guard = none) {N : Tmp} (_hd : o.dst = some N) {xs : List α} {inner : List Value} {ok okp : Nat → Prop}
    (hrun : (execOp a.eval o).run P W = .ok (.value (.slice (some ⟨W.heap.size, 0, none⟩) xs.length xs.length)) (W.alloc (.cells inner.toArray e)))
    (hrep : Reps (d.M W base okp) d.sz xs inner) (hok : ∀ k, okp k → ok k) (hfresh : ok W.heap.size) (HB : Below base w0 W) (hbase : base ≤ W.heap.size) (hm : xs.length ≤ 9223372036854775807)
    (h : ∀ v1 w1, d.R e w1 base ok v1 xs → Below base w0 w1 → W.grownBy w1 none → (∃ b, v1.ownBlock = some b ∧ W.heap.size ≤ b) → wpList P ops Q rest (a.put o.dst v1) w1) : wpList P ops Q (o :: rest) a W := by
  refine event_run hgd hrun (h _ _ ⟨fun k hk => ?_, inner, ?_, ?_⟩ (HB.alloc hbase _) (World.grownBy_alloc W _ none) ⟨W.heap.size, by simp [Value.ownBlock], Nat.le_refl _⟩)
  · have : W.heap.size = k := by simpa [Value.ownBlock] using hk
    subst this
    exact hfresh
  · have h2 := World.ownsRow_lit (base := base) (e := e) (size := d.sz) W inner.toArray xs.length hbase (by simpa [maxLen] using hm) (by simpa using hrep.1)
    simpa using h2
  · refine hrep.imp_ (fun p c hp => d.M_mono (fun k hk => ⟨hok k hk.1, fun he => ?_⟩) (M_below (d.M_bound hp) (below_alloc (Below.refl _ _) _)))
    have h3 : k = W.heap.size := by simpa [Value.ownBlock] using he
    have := hk.2.2.1
    omega
end
end Kd
/-! ### 27. Cuts of a row of one's own: 'xs = xs[:n]' stays a row (R_take); 'xs = xs[k:]' is a row that begins inside its block (Kd.Q), append goes on it too -/
section
variable {P : Program}
end
/-- A row of one's own that may begin inside its block. -/
def QRow (w : World) (base : Nat) (e : TypeId) (size : Nat) (v : Value) (n : Nat) (xs : List Value) : Prop :=
  xs.length = n * size ∧
  ((n = 0 ∧ ∃ A, v = .slice A 0 0 ∧ ∀ a, A = some a → base ≤ a.block ∧ ∃ cur, w.heap[a.block]? = some (.cells cur e (0, 0))) ∨
   ∃ g off cap cur, v = .slice (some ⟨g, off * size, none⟩) n cap ∧ base ≤ g ∧ w.heap[g]? = some (.cells cur e (0, 0)) ∧ n ≤ cap ∧ off + cap ≤ maxLen ∧ cur.size = (off + cap) * size ∧ (cur.toList.drop (off * size)).take (n * size) = xs)
section
variable {w w1 : World} {base n size : Nat} {e : TypeId} {v : Value} {xs : List Value}
theorem add_at (g o j : Nat) : (⟨g, o, none⟩ : Addr).add j = ⟨g, o + j, none⟩ := by unfold Addr.add; split <;> simp_all
end
section
variable {P : Program}
end
/-! ### 28. The kinds' words for cuts: R_take; Q (a row that may begin inside its block) with all of R's movers -/
namespace Kd
def Q {α : Type} (d : Kd α) (e : Nat) (w : World) (base : Nat) (ok : Nat → Prop) (v : Value) (xs : List α) : Prop :=
  (∀ k, v.ownBlock = some k → ok k) ∧ ∃ inner, QRow w base e d.sz v xs.length inner ∧ Reps (d.M w base (fun k => ok k ∧ some k ≠ v.ownBlock)) d.sz xs inner
section
variable {α : Type} {d : Kd α} {e : Nat} {w w1 W : World} {base : Nat} {ok ok' : Nat → Prop} {v : Value} {xs : List α}
end
section
variable {P : Program} {ops : Array Oper} {rest : List Oper} {o : Oper} {a : Act} {Q' : Exit → Act → World → Prop} {Kc : Act → World → Prop} {α : Type}
end
end Kd
/-! ### 29. Movers that ask of another row no more than they need: for R and for Q -/
namespace Kd
section
variable {α : Type} {d : Kd α} {e e' : Nat} {w w1 W : World} {base : Nat} {ok : Nat → Prop} {u v : Value} {xs : List α}
theorem R_typed (h : d.R e w base ok v xs) : ∀ k, v.ownBlock = some k → ∃ cells, w.heap[k]? = some (.cells cells e (0, 0)) := by
  obtain ⟨inner, ho⟩ := R_own h
  exact fun k hk => own_typed ho k hk
theorem R_apart' (h : d.R e W base ok u xs) (hty : ∀ k, v.ownBlock = some k → ∃ cells, W.heap[k]? = some (.cells cells e' (0, 0))) (ht : ∀ q, q ∈ e :: d.E → q ≠ e') : d.R e W base (fun k => ok k ∧ some k ≠ v.ownBlock) u xs := by
  refine R_mono (R_bound h) (fun k hk => ⟨hk.1, fun he => ?_⟩)
  obtain ⟨_, _, _, q, hq, cells, hc⟩ := hk
  obtain ⟨cells', hc'⟩ := hty k he.symm
  rw [hc] at hc'
  injection hc' with hc'
  injection hc' with _ hc'
  exact ht q hq hc'
theorem R_elder' (hu : d.R e W base ok u xs) (hbase : ∀ k, v.ownBlock = some k → W.heap.size ≤ k) (hb : Below W.heap.size W w1) : d.R e w1 base (fun k => ok k ∧ some k ≠ v.ownBlock) u xs :=
  R_mono (R_move (R_bound hu) (fun k hk => hb.block k hk.2.2.1)) (fun k hk => ⟨hk.1, fun he => by have := hbase k he.symm; have := hk.2.2.1; omega⟩)
end
end Kd
/-! ### 30. Elements written: x[i] = T{..}, x[i].f = v, swaps, in a row of elements of any kind -/
namespace Kd
section
variable {α : Type} {d : Kd α} {e base g n cap : Nat} {ok okp : Nat → Prop} {W : World} {xs : List α}
/-- Element i of a row of one's own: its cells. -/
theorem R_elem (h : d.R e W base ok (.slice (some ⟨g, 0, none⟩) n cap) xs) (z : α) (i : Int) (h0 : 0 ≤ i) (h1 : i < n) :
    ∃ c, c.length = d.sz ∧ d.M W base (fun k => ok k ∧ k ≠ g) (xs.getD i.toNat z) c ∧ (∀ j u, c[j]? = some u → W.cell? ⟨g, i.toNat * d.sz + j, none⟩ = some u) ∧ ∀ j, W.frozen? ⟨g, i.toNat * d.sz + j, none⟩ = false := by
  obtain ⟨hn, hnc, hC⟩ := R_reads' h
  obtain ⟨_, inner, ho, hr⟩ := h
  have hil : i.toNat < xs.length := by omega
  have hseg : i.toNat * d.sz + d.sz ≤ inner.length := by rw [hr.1, ← Nat.succ_mul]; exact Nat.mul_le_mul_right _ hil
  have hM := hr.2 i.toNat _ (List.getElem?_eq_getElem hil)
  refine ⟨(inner.drop (i.toNat * d.sz)).take d.sz, by rw [List.length_take, List.length_drop]; omega, ?_, fun j u hu => ?_, fun j => ?_⟩
  · rw [List.getD_eq_getElem?_getD, List.getElem?_eq_getElem hil]
    exact d.M_mono (fun k hk => ⟨hk.1, fun he => hk.2 (by rw [he]; simp [Value.ownBlock])⟩) hM
  · rw [List.getElem?_take] at hu
    split at hu
    · rw [List.getElem?_drop] at hu
      have := ho.cells (g := g) (by simp [Value.ownBlock]) _ u hu
      rwa [add_plain] at this
    · cases hu
  · obtain ⟨cells, hc⟩ := own_typed ho g (by simp [Value.ownBlock])
    exact blk_frozen hc _
end
end Kd
/-! ### 31. What came in, put into what is made: 'fixed d w0' (read in w0, whatever happens since), 'or_ a b', 'mix' (a slice that came in, or one that is made) -/
namespace Kd
section
variable {α : Type} {F : Kd α → Kd α} {sz : Nat} {E : List Nat} {hs : ∀ n, (upto F sz E n).sz = sz} {hE : ∀ n q, q ∈ (upto F sz E n).E → q ∈ E}
end
end Kd
/-! ### 32. A whole row appended, of elements of any kind; copy onto a row of scalars of one's own -/
namespace Kd
section
variable {P : Program} {ops : Array Oper} {rest : List Oper} {o : Oper} {a : Act} {Q : Exit → Act → World → Prop} {α : Type}
end
end Kd
/-! ### 33. A store into a row of one's own, as_ an event: no go_simp -/
namespace Kd
section
variable {P : Program} {ops : Array Oper} {rest : List Oper} {o : Oper} {a : Act} {Q : Exit → Act → World → Prop} {α : Type}
end
end Kd
/-! ### 34. Cuts that are only read, of any row -/
namespace Kd
section
variable {α : Type} {k : Kd α} {w : World} {A : Option Addr} {xs : List α} {m c : Nat}
end
end Kd
section
variable {P : Program}
end
/-! ### 35. string(b), b read (a cut too) -/
/-! ### 6. What the printer adds -/
theorem below_size {w W : World} (h : Below w.heap.size w W) : w.heap.size ≤ W.heap.size := h.size
theorem below_step {w W w2 : World} (h : Below w.heap.size w W) (k : Below W.heap.size W w2) : Below w.heap.size w w2 := below_then h h.size k
theorem ReadsInt.nil (W : World) (k : IntKind) : ReadsInt W k none ([] : List Int).length [] := ⟨rfl, by simp, fun h => absurd h (Nat.lt_irrefl 0)⟩
theorem ReadsInt.drewN {W : World} {k : IntKind} {A : Option Addr} {n : Nat} {xs : List Int} (h : ReadsInt W k A n xs) (m : Nat) : ReadsInt (W.drewN m) k A n xs := h
theorem below_set {w W : World} {g j : Nat} {v : Value} (h : Below w.heap.size w W) (hg : w.heap.size ≤ g) : Below w.heap.size w (W.setCell ⟨g, j, none⟩ v) := h.setCell hg _
theorem keep_cell {w W : World} {g : Nat} (h : KeepBut w W g none) {a : Addr} {v : Value} (hc : w.cell? a = some v) (hne : a.block ≠ g) : W.cell? a = some v := by
  have := h.2 a.block (World.block_lt_of_cell? w a hc) hne (by simp)
  simpa [World.cell?, this] using hc
theorem add_block (a : Addr) (i : Nat) : (a.add i).block = a.block := by unfold Addr.add; split <;> rfl
theorem ReadsOf.nil {α : Type} (enc : α → Value) (d : α) (W : World) : ReadsOf enc d W none ([] : List α).length [] := ⟨rfl, by simp, fun h => absurd h (Nat.lt_irrefl 0)⟩
theorem ReadsOf.drewN {α : Type} {enc : α → Value} {d : α} {W : World} {A : Option Addr} {n : Nat} {xs : List α} (h : ReadsOf enc d W A n xs) (m : Nat) : ReadsOf enc d (W.drewN m) A n xs := h
theorem ReadsInt.keep {w W : World} {k : IntKind} {A : Option Addr} {n g : Nat} {xs : List Int} (h : ReadsInt w k A n xs) (hk : KeepBut w W g none) (hf : ∀ ad, A = some ad → 0 < n → ad.block ≠ g) : ReadsInt W k A n xs :=
  ⟨h.1, h.2.1, fun hn => by
    obtain ⟨ad, e, hc⟩ := h.2.2 hn
    exact ⟨ad, e, fun j hj => keep_cell hk (hc j hj) (by rw [add_block]; exact hf ad e hn)⟩⟩
theorem ReadsOf.keep {α : Type} {enc : α → Value} {d : α} {w W : World} {A : Option Addr} {n g : Nat} {xs : List α} (h : ReadsOf enc d w A n xs) (hk : KeepBut w W g none) (hf : ∀ ad, A = some ad → 0 < n → ad.block ≠ g) : ReadsOf enc d W A n xs :=
  ⟨h.1, h.2.1, fun hn => by
    obtain ⟨ad, e, hc⟩ := h.2.2 hn
    exact ⟨ad, e, fun j hj => keep_cell hk (hc j hj) (by rw [add_block]; exact hf ad e hn)⟩⟩
theorem blk_put {w : World} {g : Nat} {t : TypeId} {cs cs' : Array Value} (h : w.heap[g]? = some (.cells cs t (0, 0))) (i : Nat) (u : Value) (e : cs.setIfInBounds i u = cs') : (w.setCell ⟨g, i, none⟩ u).heap[g]? = some (.cells cs' t (0, 0)) := e ▸ blk_set h i u
theorem below_drew1 {base : Nat} {w W : World} (h : Below base w W) : Below base w W.drew := h.drew
namespace Kd
section
variable {α β : Type} {d : Kd α} {d' : Kd β} {e e' base base' n : Nat} {ok ok' : Nat → Prop} {w W w1 W1 : World} {v u : Value} {xs : List α} {ys : List β} {A : Option Addr} {c : Nat}
end
section
variable {α : Type} {enc : α → Value} {h1 : ∀ x, (enc x).oneCell' = true} {w W : World} {A : Option Addr} {n g : Nat} {xs : List α}
end
end Kd
namespace Kd
section
variable {α : Type} {d : Kd α} {e base g : Nat} {ok : Nat → Prop} {w w1 : World} {v : Value} {xs : List α} {o : Obj}
end
end Kd
section
variable {P : Program} {ops : Array Oper} {rest : List Oper} {o : Oper} {a : Act} {Q : Exit → Act → World → Prop}
theorem box_event {W : World} (hgd : o.guard = none) {N : Tmp} (_hd : o.dst = some N) {cs : Array Value} {t : TypeId}
    (hrun : (execOp a.eval o).run P W = .ok (.value (.pointer (some ⟨W.heap.size, 0, none⟩))) (W.alloc (.cells cs t (0, 0))))
    (h : ∀ g, g = W.heap.size → ∀ w1, w1.heap[g]? = some (.cells cs t (0, 0)) → Below W.heap.size W w1 → wpList P ops Q rest (a.put o.dst (.pointer (some ⟨g, 0, none⟩))) w1) : wpList P ops Q (o :: rest) a W :=
  Kd.event_run hgd hrun (h _ rfl _ (blk_new W _) (below_alloc (Below.refl _ _) _))
end
namespace Kd
section
variable {α : Type} {enc : α → Value} {h1 : ∀ x, (enc x).oneCell' = true} {e base g n cap : Nat} {ok : Nat → Prop} {W : World} {xs : List α}
theorem R_celln (d : α) (h : (scalar enc h1).R e W base ok (.slice (some ⟨g, 0, none⟩) n cap) xs) (i : Int) (h0 : 0 ≤ i) (hi : i < n) : W.cell? ⟨g, i.toNat, none⟩ = some (enc (rdOf d xs i)) ∧ W.frozen? ⟨g, i.toNat, none⟩ = false := by
  obtain ⟨rfl, _⟩ := R_reads' h
  exact R_cell d h i h0 hi
end
end Kd
section
variable {P : Program} {ops : Array Oper} {rest : List Oper} {o : Oper} {a : Act} {Q : Exit → Act → World → Prop}
theorem store_event {W w1 : World} (hgd : o.guard = none) {t : TypeId} {p : Tmp} {v : Operand} (_ho : o.op = .store t (.tmp p) v) (hN : o.dst = none)
    (hrun : (execOp a.eval o).run P W = .ok .skip w1) (h : ∀ w', w' = w1 → wpList P ops Q rest a w') : wpList P ops Q (o :: rest) a W := by
  refine wpList_plain hgd fun K hK => ?_
  unfold Oper.wp
  rw [hrun]
  show K (a.put o.dst undef) w1
  rw [hN]
  exact hK _ _ (h _ rfl)
end
namespace Kd
section
variable {α : Type} {enc : α → Value} {h1 : ∀ x, (enc x).oneCell' = true} {e base g n cap : Nat} {ok : Nat → Prop} {W : World} {xs : List α}
theorem R_putg (h : (scalar enc h1).R e W base ok (.slice (some ⟨g, 0, none⟩) n cap) xs) (i : Int) (x : α) : (scalar enc h1).R e (W.setCell ⟨g, i.toNat, none⟩ (enc x)) base ok (.slice (some ⟨g, 0, none⟩) n cap) (xs.set i.toNat x) ∧ W.grownBy (W.setCell ⟨g, i.toNat, none⟩ (enc x)) (some g) := by
  obtain ⟨rfl, _⟩ := R_reads' h
  exact R_put h i x
end
end Kd
section
variable {P : Program} {ops : Array Oper} {rest : List Oper} {o : Oper} {a : Act} {Q : Exit → Act → World → Prop} {W : World}
theorem gate_dst {N : Tmp} (_hN : o.dst = some N) (h : wpList P ops Q (o :: rest) a W) : wpList P ops Q (o :: rest) a W := h
theorem gate_store {t : TypeId} {p : Tmp} {v : Operand} (_ho : o.op = .store t (.tmp p) v) (h : wpList P ops Q (o :: rest) a W) : wpList P ops Q (o :: rest) a W := h
end
/-! ### 36. Events as_ one step of a region that draws (for one_, two_, three_) -/
section
variable {P : Program} {ops : Array Oper} {o : Oper} {a : Act} {Q : Exit → Act → World → Prop} {Kc : Act → World → Prop}
namespace Kd
variable {α : Type}
end Kd
end
/-! ### 37. Results of any shape -/
inductive Vals (P : Program) (tmps : Array Value) (w : World) : List ResultVar → List Value → Prop where
  | nil : Vals P tmps w [] []
  | tmp {u : Tmp} {rs : List ResultVar} {vs : List Value} (h : Vals P tmps w rs vs) : Vals P tmps w (.tmp u :: rs) (tmps.getD u undef :: vs)
  | cell {p : Tmp} {ty : TypeId} {rs : List ResultVar} {vs : List Value} (g : Nat) (t : TypeId) (cs : Array Value) (fr : Nat × Nat) (d : TypeDesc)
      (hp : tmps.getD p undef = .pointer (some ⟨g, 0, none⟩)) (hg : w.heap[g]? = some (.cells cs t fr))
      (hu : P.underlying ty = some d) (hd : (match d with | .struct _ | .array _ _ => true | _ => false) = true) (hi : (P.info? ty).map (·.size) = some cs.size)
      (h : Vals P tmps w rs vs) : Vals P tmps w (.cell p ty :: rs) (.agg cs :: vs)
section
variable {P : Program} {tmps : Array Value} {w : World}
end
/-! ### 38. 'out = append(out[:k], out[k+1:]...)': an element taken out of a row of one's own, in place -/
namespace Kd
section
variable {P : Program} {α : Type}
end
section
variable {P : Program} {ops : Array Oper} {rest : List Oper} {o : Oper} {a : Act} {Q : Exit → Act → World → Prop} {Kc : Act → World → Prop} {α : Type}
end
end Kd

end Go.Proofs.YtcdpmmpdfdillaaW.PrintWords

namespace Go.Proofs.YtcdpmmpdfdillaaW.PrintLast

section
variable {P : Program} {ops : Array Oper} {Q : Exit → Act → World → Prop} {md : Region.Mode} {S : World → Prop} {ds : List Nat}

def ListedClosed (md : Region.Mode) (ops : Array Oper) (listed : Array Bool) : Prop :=
  ∀ j oj, ops[j]? = some oj → listed.getD j false = true → ∀ e ∈ oj.after, Region.binds md e = true → listed.getD e.on false = true

theorem ListedClosed.set {listed : Array Bool} {i : Nat} (h : ListedClosed md ops listed) (hi : i ∈ Region.ready md ops listed) : ListedClosed md ops (listed.setIfInBounds i true) := by
  obtain ⟨_, oi, hoi, hall⟩ := mem_ready.1 hi
  intro j oj hj hl e he hb
  by_cases hij : i = j
  · subst hij
    have : oj = oi := Option.some.inj (hj.symm.trans hoi)
    subst this
    exact getD_set_true (hall e he hb)
  · rw [getD_set_ne false hij] at hl
    exact getD_set_true (h j oj hj hl e he hb)

/-- Whatever order is picked from here on, AND 'S' HOLDS BEHIND EVERY OPERATION THAT IS CARRIED OUT, those of ds apart. -/
def wpAnyLast (P : Program) (md : Region.Mode) (ops : Array Oper) (Q : Exit → Act → World → Prop) (S : World → Prop) (ds : List Nat) : Nat → Array Bool → Act → World → Prop
  | 0, listed, a, w => Region.ready md ops listed = [] ∧ Q .normal a w
  | fuel + 1, listed, a, w =>
    (Region.ready md ops listed = [] → Q .normal a w) ∧
    ∀ i ∈ Region.ready md ops listed, wpOp P ops Q i (fun a' w' => (i ∉ ds → S w → S w') ∧ wpAnyLast P md ops Q S ds fuel (listed.setIfInBounds i true) a' w') a w

end

section
variable {P : Program} {ops : Array Oper} {Q : Exit → Act → World → Prop} {md : Region.Mode} {S : World → Prop} {ds : List Nat}

def AllReadyL (P : Program) (md : Region.Mode) (ops : Array Oper) (Q : Exit → Act → World → Prop) (S : World → Prop) (ds : List Nat) (fuel : Nat) (listed : Array Bool) (a : Act) (w : World) (rs : List Nat) : Prop :=
  ∀ i ∈ rs, wpOp P ops Q i (fun a' w' => (i ∉ ds → S w → S w') ∧ wpAnyLast P md ops Q S ds fuel (listed.setIfInBounds i true) a' w') a w
theorem AllReadyL.nil {fuel : Nat} {listed : Array Bool} {a : Act} {w : World} : AllReadyL P md ops Q S ds fuel listed a w [] := fun _ h => by cases h
theorem AllReadyL.cons {fuel : Nat} {listed : Array Bool} {a : Act} {w : World} {i : Nat} {o : Oper} {rs : List Nat} (ho : ops[i]? = some o) (hd : i ∉ ds)
    (h : ∀ K' : Act → World → Prop, Shut (∀ a w, S w → (S w → wpAnyLast P md ops Q S ds fuel (listed.setIfInBounds i true) a w) → K' a w) → if Region.wanted o (yielded ops a.tmps) = true then Oper.wp P o a w K' Q else K' (a.put o.dst undef) w)
    (hs : AllReadyL P md ops Q S ds fuel listed a w rs) : AllReadyL P md ops Q S ds fuel listed a w (i :: rs) := fun j hj => by
  rcases List.mem_cons.1 hj with rfl | hj
  · exact wpOp_step ho (fun K' hK => h K' (fun a w hS hW => hK a w ⟨fun _ _ => hS, hW hS⟩))
  · exact hs j hj
/-! ### Several operations that write or call may come up: each order is walked, what follows is shown once (join_) -/
theorem enters_ {f : FuncId} {fn : Func} (hf : P.funcs[f]? = some fn) (hname : (fn.name == "runtime.NumGoroutine") = false) (hb : fn.body.isSome = true) (args : Array Value) (w : World) : (callFunc f args).run P w = .ok (.enter f args) w := by
  have h1 : fn.name ≠ "runtime.NumGoroutine" := by simpa using hname
  obtain ⟨c, hc⟩ := Option.isSome_iff_exists.1 hb
  simp [callFunc, hf, h1, hc]
/-- A call in a plain region, as an arm of go_wp2_with ('hd' first: it fails at once at another operation). -/
theorem goesL_ {rest : List Oper} {oi : Oper} {a : Act} {w : World} (N : Option Tmp) (hd : oi.dst = N) (hg : oi.guard = none) {f : FuncId} {fn : Func} {as_ : Array Operand} {ts : Array TypeId} (hf : P.funcs[f]? = some fn) (hname : (fn.name == "runtime.NumGoroutine") = false) (hb : fn.body.isSome = true) (args : Array Value)
    (hop : oi.op = .call { callee := .value (.func f), args := as_, argTypes := ts }) (hargs : as_.map a.eval = args)
    (h : Calls P f args w fun e w' => ∃ v, e = .returned v ∧ wpList P ops Q rest (a.put N v) w') : wpList P ops Q (oi :: rest) a w := by
  refine wpList_plain hg fun K hK => ?_
  have he := enters_ hf hname hb args w
  have hrun : (execOp a.eval oi).run P w = .ok (.enter f args) w := by
    unfold execOp
    simp [hop, resolve, Deferred.ofValue, invoke, Act.eval, hargs, he]
  unfold Oper.wp
  rw [hrun, Oper.upon_enter]
  refine h.mono fun e w'' hh => ?_
  obtain ⟨v, rfl, hk⟩ := hh
  subst hd
  exact hK _ _ hk
theorem i64_w (n : Int) : IntKind.i64.wrap n = Go.RowKit.wrap64 n := by unfold Go.RowKit.wrap64; exact IntKind.wrap_i64 n
theorem i32_w (n : Int) : IntKind.i32.wrap n = Go.RowKit.wrap32 n := by unfold Go.RowKit.wrap32; exact IntKind.wrap_i32 n
end
end Go.Proofs.YtcdpmmpdfdillaaW.PrintLast

namespace Go.Proofs.YtcdpmmpdfdillaaW.PrintWords
open Go.RowKit
namespace Kd
/-- An element with its index: its blocks are those that f gives to it. -/
def tag {α : Type} (f : Nat → Nat) (d : Kd α) : Kd (α × Nat) where
  sz := d.sz
  E := d.E
  K := fun w x cs => d.K w x.1 cs
  M := fun w base ok x cs => d.M w base (fun k => ok k ∧ f k = x.2) x.1 cs
  K_len := fun h => d.K_len h
  K_one := fun h => d.K_one h
  K_below := fun hb h => d.K_below hb h
  K_of_M := fun h => d.K_of_M h
  M_mono := fun hok h => d.M_mono (fun k hk => ⟨hok k hk.1, hk.2⟩) h
  M_bound := fun h => d.M_mono (fun _ hk => ⟨⟨hk.1.1, hk.2⟩, hk.1.2⟩) (d.M_bound h)
  M_move := fun hm h => d.M_move (fun k hk => hm k hk.1) h
  M_lower := fun hb h => d.M_lower hb h
/-- Nothing but its cells: no block is said of it. -/
def bare {α : Type} (d : Kd α) : Kd α where
  sz := d.sz
  E := d.E
  K := d.K
  M := fun w base _ x cs => d.M w base (fun _ => False) x cs
  K_len := fun h => d.K_len h
  K_one := fun h => d.K_one h
  K_below := fun hb h => d.K_below hb h
  K_of_M := fun h => d.K_of_M h
  M_mono := fun _ h => h
  M_bound := fun h => h
  M_move := fun _ h => d.M_move (fun _ hk => hk.elim) h
  M_lower := fun hb h => d.M_lower hb h
/-- The cells themselves. -/
def raw (sz : Nat) : Kd (List Value) where
  sz := sz
  E := []
  K := fun _ x cs => cs = x ∧ cs.length = sz ∧ ∀ u ∈ cs, u.oneCell' = true
  M := fun _ _ _ x cs => cs = x ∧ cs.length = sz ∧ ∀ u ∈ cs, u.oneCell' = true
  K_len := fun h => h.2.1
  K_one := fun h => h.2.2
  K_below := fun _ h => h
  K_of_M := fun h => h
  M_mono := fun _ h => h
  M_bound := fun h => h
  M_move := fun _ h => h
  M_lower := fun _ h => h
/-- A row of elements (type e) of the call's own, no two of which lead to one block. -/
def S {α : Type} (d : Kd α) (e : Nat) (w : World) (base : Nat) (ok : Nat → Prop) (v : Value) (xs : List α) : Prop := ∃ f, (tag f d).R e w base ok v xs.zipIdx
section
variable {α β : Type} {d : Kd α} {d' : Kd β} {e e' : Nat} {w w1 W : World} {base b : Nat} {ok ok' okv oku : Nat → Prop} {u v : Value} {xs : List α} {ys : List β}
theorem zip_at {xs : List α} {j : Nat} {p : α} (h : xs[j]? = some p) : xs.zipIdx[j]? = some (p, j) := by rw [List.getElem?_zipIdx, h, Nat.zero_add]; rfl
theorem S_R (h : S d e w base ok v xs) : d.R e w base ok v xs := by
  obtain ⟨f, h0, inner, ho, hr⟩ := h
  rw [List.length_zipIdx] at ho
  exact ⟨h0, inner, ho, by have := hr.1; rw [List.length_zipIdx] at this; exact this, fun j p hj => d.M_mono (fun _ hk => hk.1) (hr.2 j (p, j) (zip_at hj))⟩
/-- Where a row begins (any row of one's own begins at its block's head). -/
theorem R_head {ad : Addr} {n cap : Nat} (h : d.R e w base ok (.slice (some ad) n cap) xs) : ∃ g, ad = ⟨g, 0, none⟩ := by
  obtain ⟨_, inner, ho, hr⟩ := h
  rcases ho.2 with ⟨hv, _⟩ | ⟨g, cap', cur, hv, _⟩
  · cases hv
  · injection hv with ha _ _
    injection ha with ha
    exact ⟨g, ha⟩
theorem R_getA {ad : Addr} {n cap : Nat} (h : d.R e W base ok (.slice (some ad) n cap) xs) (z : α) (i : Int) (h0 : 0 ≤ i) (h1 : i < n) :
    ∃ c, c.length = d.sz ∧ d.M W base (fun k => ok k ∧ some k ≠ (Value.slice (some ad) n cap).ownBlock) (xs.getD i.toNat z) c ∧ ∀ j u, c[j]? = some u → W.cell? (ad.add (i.toNat * d.sz + j)) = some u := by
  obtain ⟨g, rfl⟩ := R_head h
  obtain ⟨c, hcl, hM, hcc, _⟩ := R_elem h z i h0 h1
  refine ⟨c, hcl, d.M_mono (fun k hk => ⟨hk.1, fun he => hk.2 (by simpa [Value.ownBlock] using he)⟩) hM, fun j u hu => ?_⟩
  rw [add_at, Nat.zero_add]
  exact hcc j u hu
/-- A row whose elements lead to nothing: its blocks are its own one. -/
theorem R_tight (hE : d.E = []) (h : d.R e w base ok v xs) : d.R e w base (fun k => some k = v.ownBlock) v xs := by
  obtain ⟨h0, inner, ho, hr⟩ := h
  refine ⟨fun k hk => hk.symm, inner, ho, hr.imp_ (fun p c hp => d.M_mono (fun k hk => ?_) (d.M_bound hp))⟩
  obtain ⟨_, _, _, q, hq, _⟩ := hk
  rw [hE] at hq
  cases hq
theorem S_mono (h : S d e w base ok v xs) (hok : ∀ k, ok k → ok' k) : S d e w base ok' v xs := by
  obtain ⟨f, h⟩ := h
  exact ⟨f, R_mono h hok⟩
theorem S_bound (h : S d e w base ok v xs) : S d e w base (fun k => ok k ∧ base ≤ k ∧ k < w.heap.size ∧ ∃ q, q ∈ e :: d.E ∧ ∃ cells, w.heap[k]? = some (.cells cells q (0, 0))) v xs := by
  obtain ⟨f, h⟩ := h
  exact ⟨f, R_bound h⟩
theorem S_move (h : S d e w base ok v xs) (hm : ∀ k, ok k → w1.heap[k]? = w.heap[k]?) : S d e w1 base ok v xs := by
  obtain ⟨f, h⟩ := h
  exact ⟨f, R_move h hm⟩
theorem S_lower {base' : Nat} (h : S d e w base ok v xs) (hb : base' ≤ base) : S d e w base' ok v xs := by
  obtain ⟨f, h⟩ := h
  exact ⟨f, R_lower h hb⟩
theorem S_step (h : S d e w base ok v xs) (hm : ∀ k, ok k → k < w.heap.size → w1.heap[k]? = w.heap[k]?) : S d e w1 base ok v xs :=
  S_mono (S_move (S_bound h) (fun k hk => hm k hk.1 hk.2.2.1)) (fun _ hk => hk.1)
theorem S_below (h : S d e w base ok v xs) (hb : Below w.heap.size w w1) : S d e w1 base ok v xs := S_step h (fun k _ hk => hb.block k hk)
theorem S_alloc (h : S d e w base ok v xs) (o : Obj) : S d e (w.alloc o) base ok v xs := S_below h (below_alloc (Below.refl _ _) o)
theorem S_drew (h : S d e w base ok v xs) : S d e w.drew base ok v xs := S_below h (below_drew (Below.refl _ _))
theorem S_drewN (h : S d e w base ok v xs) (m : Nat) : S d e (w.drewN m) base ok v xs := S_below h (pw_below_drewN (Below.refl _ _) m)
theorem S_typed (h : S d e w base ok v xs) : ∀ k, v.ownBlock = some k → ∃ cells, w.heap[k]? = some (.cells cells e (0, 0)) := R_typed (S_R h)
theorem S_elder' (h : S d e W base ok u xs) (hbase : ∀ k, v.ownBlock = some k → W.heap.size ≤ k) (hb : Below W.heap.size W w1) : S d e w1 base (fun k => ok k ∧ some k ≠ v.ownBlock) u xs := by
  obtain ⟨f, h⟩ := h
  exact ⟨f, R_elder' h hbase hb⟩
/-- Behind an append to v (it left v1): what is held apart from v is held apart from v1. -/
theorem S_after {v1 : Value} (h : S d e W base (fun k => ok k ∧ some k ≠ v.ownBlock) u xs) (hg : W.grownBy w1 v.ownBlock) (hat : v1.ownBlock = v.ownBlock ∨ ∃ b, v1.ownBlock = some b ∧ W.heap.size ≤ b) : S d e w1 base (fun k => ok k ∧ some k ≠ v1.ownBlock) u xs := by
  obtain ⟨f, h⟩ := h
  exact ⟨f, R_after h hg hat⟩
/-- Elements that lead to nothing. -/
theorem S_bare (h : (bare d).R e w base ok v xs) : S d e w base ok v xs := by
  obtain ⟨h0, inner, ho, hr⟩ := h
  refine ⟨fun _ => 0, h0, inner, by rw [List.length_zipIdx]; exact ho, by rw [List.length_zipIdx]; exact hr.1, fun j p hj => ?_⟩
  rw [List.getElem?_zipIdx, Nat.zero_add] at hj
  obtain ⟨x, hx, rfl⟩ := Option.map_eq_some_iff.1 hj
  exact d.M_mono (fun _ hk => hk.elim) (hr.2 j x hx)
/-- The owner may be told anew where nothing is said. -/
theorem R_tag {f f' : Nat → Nat} {zs : List (α × Nat)} (h : (tag f d).R e w base ok v zs) (hf : ∀ k, ok k → k < w.heap.size → f' k = f k) : (tag f' d).R e w base ok v zs := by
  obtain ⟨h0, inner, ho, hr⟩ := R_bound h
  exact ⟨fun k hk => (h0 k hk).1, inner, ho, hr.1, fun j p hj => d.M_mono (fun k hk => ⟨⟨hk.1.1.1, hk.1.2⟩, (hf k hk.1.1.1 hk.1.1.2.2.1).trans hk.2⟩) (hr.2 j p hj)⟩
end
section
variable {α β : Type} {d : Kd α} {d' : Kd β} {e e' g : Nat} {w w1 W : World} {base b : Nat} {ok ok' okv oku : Nat → Prop} {u v : Value} {xs : List α} {ys : List β}
theorem S_form (h : S d e w base ok v xs) (hp : 0 < xs.length) : ∃ g cap, v = .slice (some ⟨g, 0, none⟩) xs.length cap ∧ base ≤ g ∧ g < w.heap.size ∧ ∃ cells, w.heap[g]? = some (.cells cells e (0, 0)) := R_form (S_R h) hp
theorem S_slice (h : S d e w base ok v xs) : ∃ A c, v = .slice A xs.length c := R_slice (S_R h)
theorem S_reads' {A : Option Addr} {n c : Nat} (h : S d e w base ok (.slice A n c) xs) : n = xs.length ∧ n ≤ c ∧ d.C w A xs.length xs := R_reads' (S_R h)
/-- Only read: its cells and what it leads to, as_ the row has them. -/
theorem S_get {ad : Addr} {n cap : Nat} (h : S d e W base ok (.slice (some ad) n cap) xs) (z : α) (i : Int) (h0 : 0 ≤ i) (h1 : i < n) :
    ∃ c, c.length = d.sz ∧ d.M W base (fun k => ok k ∧ some k ≠ (Value.slice (some ad) n cap).ownBlock) (xs.getD i.toNat z) c ∧ ∀ j u, c[j]? = some u → W.cell? (ad.add (i.toNat * d.sz + j)) = some u := R_getA (S_R h) z i h0 h1
theorem zip_snoc (xs : List α) (p : α) : (xs ++ [p]).zipIdx = xs.zipIdx ++ [(p, xs.length)] := by rw [List.zipIdx_append]; simp
end
/-! #### append, make, literals: the new element's blocks are none of the elder ones' -/
section
open Classical in
/-- The next element's blocks are okp: none is one of v's (okv). -/
theorem S_tag {α : Type} {d : Kd α} {e base : Nat} {okv : Nat → Prop} {w : World} {v : Value} {xs : List α} (h : S d e w base okv v xs) (m : Nat) (okp : Nat → Prop) (hap : ∀ k, okp k → ¬ okv k) : ∃ f, (∀ k, okp k → f k = m) ∧ (tag f d).R e w base okv v xs.zipIdx := by
  obtain ⟨f, h⟩ := h
  exact ⟨fun k => if okp k then m else f k, fun k hk => if_pos hk, R_tag h (fun k hk _ => if_neg (fun h2 => hap k h2 hk))⟩
variable {P : Program} {ops : Array Oper} {rest : List Oper} {o : Oper} {a : Act} {Q : Exit → Act → World → Prop} {Kc : Act → World → Prop} {α : Type}
/-- append(v, x), behind 'at_builtin': x's blocks are okp, none of them v's. -/
theorem S_append (d : Kd α) {w0 W : World} (base : Nat) (hgd : o.guard = none) (s x : Operand) (t e : TypeId) (z : Value) (bytes : Nat)
    (ho : o.op = .call { callee := .builtin .append, args := #[s, x], argTypes := #[t, t] })
    (ht : P.underlying t = some (.slice e)) (hinfo : (P.info? e).map (fun i => (i.zero, i.size, i.bytes)) = some (some z, d.sz, bytes)) (hz : z.cells.size = d.sz) (hs0 : 0 < d.sz) (hb0 : 0 < bytes)
    (v : Value) (xs : List α) (p : α) (cs : List Value) (ok okp : Nat → Prop) (hs : a.eval s = v) (hx : a.eval x = .slice (some ⟨W.heap.size, 0, none⟩) 1 1) (hp : d.M W base okp p cs) (hokp : ∀ k, okp k → ok k ∧ some k ≠ v.ownBlock) (hfresh : ∀ k, W.heap.size ≤ k → ok k)
    (HO : S d e W base (fun k => ok k ∧ ¬ okp k) v xs) (HB : Below base w0 W) (hbase : base ≤ W.heap.size) (hl : (xs.length + 1) * bytes ≤ 140737488355328)
    (h : ∀ v1 w1, S d e w1 base ok v1 (xs ++ [p]) → Below base w0 w1 → W.grownBy w1 v.ownBlock → (v1.ownBlock = v.ownBlock ∨ ∃ b, v1.ownBlock = some b ∧ W.heap.size ≤ b) → wpList P ops Q rest (a.put o.dst v1) w1) :
    wpList P ops Q (o :: rest) a (W.alloc (.cells cs.toArray e)) := by
  obtain ⟨f, hf, hR⟩ := S_tag HO xs.length okp (fun _ hk h2 => h2.2 hk)
  refine R_append (tag f d) base hgd s x t e z bytes ho ht hinfo hz hs0 hb0 v xs.zipIdx (p, xs.length) cs ok okp hs hx (d.M_mono (fun k hk => ⟨hk, hf k hk⟩) hp) hokp hfresh (R_mono hR (fun _ hk => hk.1)) HB hbase (by rw [List.length_zipIdx]; exact hl) ?_
  intro v1 w1 hr
  rw [← zip_snoc] at hr
  exact h v1 w1 ⟨f, hr⟩
/-- A literal whose elements lead to nothing. -/
theorem S_lit (d : Kd α) {w0 W : World} (base e : Nat) (hgd : o.guard = none) {N : Tmp} (_hd : o.dst = some N) {xs : List α} {inner : List Value} {ok okp : Nat → Prop}
    (hrun : (execOp a.eval o).run P W = .ok (.value (.slice (some ⟨W.heap.size, 0, none⟩) xs.length xs.length)) (W.alloc (.cells inner.toArray e)))
    (hrep : Reps (d.M W base (fun _ => False)) d.sz xs inner) (_hok : ∀ k, okp k → ok k) (hfresh : ok W.heap.size) (HB : Below base w0 W) (hbase : base ≤ W.heap.size) (hm : xs.length ≤ 9223372036854775807)
    (h : ∀ v1 w1, S d e w1 base ok v1 xs → Below base w0 w1 → W.grownBy w1 none → (∃ b, v1.ownBlock = some b ∧ W.heap.size ≤ b) → wpList P ops Q rest (a.put o.dst v1) w1) : wpList P ops Q (o :: rest) a W :=
  R_lit (bare d) base e hgd _hd (ok := ok) (okp := ok) hrun hrep (fun _ hk => hk) hfresh HB hbase hm (fun v1 w1 hr => h v1 w1 (S_bare hr))
end
/-! #### a row with a hole: element i is lent, its blocks are oki; of it the row says its cells alone -/
/-- Element i is these cells; the others are d's. -/
def gap {α : Type} (f : Nat → Nat) (d : Kd α) (i : Nat) (c : List Value) : Kd (α × Nat) where
  sz := d.sz
  E := d.E
  K := fun w x cs => (x.2 = i → cs = c ∧ cs.length = d.sz ∧ ∀ u ∈ cs, u.oneCell' = true) ∧ (x.2 ≠ i → d.K w x.1 cs)
  M := fun w base ok x cs => (x.2 = i → cs = c ∧ cs.length = d.sz ∧ ∀ u ∈ cs, u.oneCell' = true) ∧ (x.2 ≠ i → d.M w base (fun k => ok k ∧ f k = x.2) x.1 cs)
  K_len := fun {w x cs} h => by
    by_cases hx : x.2 = i
    · exact (h.1 hx).2.1
    · exact d.K_len (h.2 hx)
  K_one := fun {w x cs} h => by
    by_cases hx : x.2 = i
    · exact (h.1 hx).2.2
    · exact d.K_one (h.2 hx)
  K_below := fun hb h => ⟨h.1, fun hx => d.K_below hb (h.2 hx)⟩
  K_of_M := fun h => ⟨h.1, fun hx => d.K_of_M (h.2 hx)⟩
  M_mono := fun hok h => ⟨h.1, fun hx => d.M_mono (fun k hk => ⟨hok k hk.1, hk.2⟩) (h.2 hx)⟩
  M_bound := fun h => ⟨h.1, fun hx => d.M_mono (fun _ hk => ⟨⟨hk.1.1, hk.2⟩, hk.1.2⟩) (d.M_bound (h.2 hx))⟩
  M_move := fun hm h => ⟨h.1, fun hx => d.M_move (fun k hk => hm k hk.1) (h.2 hx)⟩
  M_lower := fun hb h => ⟨h.1, fun hx => d.M_lower hb (h.2 hx)⟩
def H {α : Type} (d : Kd α) (e : Nat) (w : World) (base : Nat) (ok : Nat → Prop) (v : Value) (xs : List α) (i : Int) (oki : Nat → Prop) (c : List Value) : Prop :=
  (∀ k, oki k → ok k) ∧ ∃ f, (gap f d i.toNat c).R e w base (fun k => ok k ∧ ¬ oki k) v xs.zipIdx
section
variable {α β : Type} {d : Kd α} {e e' g n cap : Nat} {w w1 W : World} {base : Nat} {ok ok' oki okp : Nat → Prop} {u v : Value} {xs : List α} {i : Int} {c : List Value}
/-- Element i, lent: its cells, its blocks, and the row without it. -/
theorem S_lend (h : S d e W base ok (.slice (some ⟨g, 0, none⟩) n cap) xs) (z : α) (i : Int) (h0 : 0 ≤ i) (h1 : i < n) :
    ∃ (oki : Nat → Prop) (c : List Value), c.length = d.sz ∧ d.M W base oki (xs.getD i.toNat z) c ∧ (∀ j u, c[j]? = some u → W.cell? ⟨g, i.toNat * d.sz + j, none⟩ = some u) ∧ (∀ k, oki k → ok k ∧ k ≠ g) ∧ H d e W base ok (.slice (some ⟨g, 0, none⟩) n cap) xs i oki c := by
  obtain ⟨f, hR⟩ := h
  have hn := (R_reads' hR).1
  rw [List.length_zipIdx] at hn
  have hgo : some g = (Value.slice (some ⟨g, 0, none⟩) n cap).ownBlock := by simp [Value.ownBlock]
  obtain ⟨hok0, inner, ho, hr⟩ := hR
  have hil : i.toNat < xs.length := by omega
  have hlen : inner.length = xs.length * d.sz := by have := hr.1; rw [List.length_zipIdx] at this; exact this
  have hseg : i.toNat * d.sz + d.sz ≤ inner.length := by rw [hlen, ← Nat.succ_mul]; exact Nat.mul_le_mul_right _ hil
  have hM := hr.2 i.toNat _ (zip_at (List.getElem?_eq_getElem hil))
  have hkg : ∀ k, some k ≠ (Value.slice (some ⟨g, 0, none⟩) n cap).ownBlock → k ≠ g := fun k hk he => hk (by rw [he]; exact hgo)
  refine ⟨fun k => (ok k ∧ k ≠ g) ∧ f k = i.toNat, (inner.drop (i.toNat * d.sz)).take d.sz, by rw [List.length_take, List.length_drop]; omega, ?_, fun j u hu => ?_, fun k hk => hk.1, fun k hk => hk.1.1, f, fun k hk => ⟨hok0 k hk, fun h2 => h2.1.2 ?_⟩, inner, ho, hr.1, fun m p hm => ?_⟩
  · rw [List.getD_eq_getElem?_getD, List.getElem?_eq_getElem hil]
    exact d.M_mono (fun k hk => ⟨⟨hk.1.1, hkg k hk.1.2⟩, hk.2⟩) hM
  · rw [List.getElem?_take] at hu
    split at hu
    · rw [List.getElem?_drop] at hu
      have := ho.cells (g := g) hgo.symm _ u hu
      rwa [add_plain] at this
    · cases hu
  · rw [← hgo] at hk; injection hk with hk; exact hk.symm
  · have hold := hr.2 m p hm
    have hp2 : p.2 = m := by
      rw [List.getElem?_zipIdx, Nat.zero_add] at hm
      obtain ⟨q, _, rfl⟩ := Option.map_eq_some_iff.1 hm
      rfl
    refine ⟨fun hx => ?_, fun hx => d.M_mono (fun k hk => ⟨⟨⟨hk.1.1, fun h2 => hx ?_⟩, hk.1.2⟩, hk.2⟩) hold⟩
    · have hmi : m = i.toNat := by omega
      subst hmi
      exact ⟨rfl, d.K_len (d.K_of_M hM), d.K_one (d.K_of_M hM)⟩
    · rw [← hk.2]; exact h2.2
open Classical in
/-- The element put back: its blocks are among those that were lent. -/
theorem H_back (h : H d e w base ok v xs i oki c) {x' : α} (hM : d.M w base okp x' c) (hok : ∀ k, okp k → oki k) : S d e w base ok v (xs.set i.toNat x') := by
  obtain ⟨ho, f, h0, inner, hown, hr⟩ := h
  refine ⟨fun k => if oki k then i.toNat else f k, fun k hk => (h0 k hk).1, inner, by rw [List.length_zipIdx, List.length_set]; rw [List.length_zipIdx] at hown; exact hown, by have := hr.1; rw [List.length_zipIdx] at this; rw [List.length_zipIdx, List.length_set]; exact this, fun m p hm => ?_⟩
  rw [List.getElem?_zipIdx, Nat.zero_add] at hm
  obtain ⟨q, hq, rfl⟩ := Option.map_eq_some_iff.1 hm
  have hml : m < xs.length := by
    have := (List.getElem?_eq_some_iff.1 hq).1
    rwa [List.length_set] at this
  by_cases hmi : m = i.toNat
  · subst hmi
    rw [List.getElem?_set_self hml] at hq
    injection hq with hq
    subst hq
    have hc := ((hr.2 i.toNat _ (zip_at (List.getElem?_eq_getElem hml))).1 rfl).1
    show d.M w base _ x' ((inner.drop (i.toNat * d.sz)).take d.sz)
    rw [show (inner.drop (i.toNat * d.sz)).take d.sz = c from hc]
    exact d.M_mono (fun k hk => ⟨⟨ho k (hok k hk), fun he => (h0 k he.symm).2 (hok k hk)⟩, if_pos (hok k hk)⟩) hM
  · rw [List.getElem?_set_ne (Ne.symm hmi)] at hq
    exact d.M_mono (fun k hk => ⟨⟨hk.1.1.1, hk.1.2⟩, (if_neg hk.1.1.2).trans hk.2⟩) ((hr.2 m (q, m) (zip_at hq)).2 hmi)
theorem H_step (h : H d e w base ok v xs i oki c) (hm : ∀ k, ok k → ¬ oki k → k < w.heap.size → w1.heap[k]? = w.heap[k]?) : H d e w1 base ok v xs i oki c := by
  obtain ⟨ho, f, h⟩ := h
  exact ⟨ho, f, R_step h (fun k hk hlt => hm k hk.1 hk.2 hlt)⟩
/-- A row that was lent has been written (appended to, stored into). -/
theorem H_grown (h : H d e w base ok v xs i oki c) {row : Option Nat} (hg : w.grownBy w1 row) (hrow : ∀ k, row = some k → oki k) : H d e w1 base ok v xs i oki c :=
  H_step h (fun k _ hn hlt => hg.block k hlt (fun he => hn (hrow k he.symm)))
/-- For one event on what element i leads to (an inner row stored into): the element's cells stay. -/
theorem S_borrow {ad : Addr} (h : S d e W base ok (.slice (some ad) n cap) xs) (z : α) (i : Int) (h0 : 0 ≤ i) (h1 : i < n) :
    ∃ (oki : Nat → Prop) (c : List Value), c.length = d.sz ∧ d.M W base oki (xs.getD i.toNat z) c ∧ (∀ j u, c[j]? = some u → W.cell? (ad.add (i.toNat * d.sz + j)) = some u) ∧ (∀ k, oki k → ok k ∧ some k ≠ (Value.slice (some ad) n cap).ownBlock) ∧
      ∀ {w1 : World} {row : Option Nat} {x' : α}, W.grownBy w1 row → (∀ k, row = some k → oki k) → d.M w1 base oki x' c → S d e w1 base ok (.slice (some ad) n cap) (xs.set i.toNat x') := by
  obtain ⟨g, rfl⟩ := R_head (S_R h)
  obtain ⟨oki, c, hcl, hM, hcc, hoki, hH⟩ := S_lend h z i h0 h1
  refine ⟨oki, c, hcl, hM, fun j u hu => ?_, fun k hk => ⟨(hoki k hk).1, fun he => (hoki k hk).2 ?_⟩, fun hg hrow hM1 => H_back (H_grown hH hg hrow) hM1 (fun _ hk => hk)⟩
  · rw [add_at, Nat.zero_add]
    exact hcc j u hu
  · simpa [Value.ownBlock] using he
end
section
variable {P : Program} {ops : Array Oper} {rest : List Oper} {o : Oper} {a : Act} {Q : Exit → Act → World → Prop} {α : Type}
end
end Kd
end Go.Proofs.YtcdpmmpdfdillaaW.PrintWords

namespace Go.Proofs.YtcdpmmpdfdillaaW.PrintWords
open Go.RowKit
namespace Kd
/-- What a kind reads lies in the blocks: nothing else of the world is looked at. -/
structure Heap {α : Type} (d : Kd α) : Prop where
  K : ∀ {w w1 : World} {x : α} {cs : List Value}, (∀ k, k < w.heap.size → w1.heap[k]? = w.heap[k]?) → d.K w x cs → d.K w1 x cs
theorem cell_heap {w w1 : World} (hb : ∀ k, k < w.heap.size → w1.heap[k]? = w.heap[k]?) {a : Addr} {v : Value} (h : w.cell? a = some v) : w1.cell? a = some v := by
  have := hb a.block (World.block_lt_of_cell? w a h)
  simpa [World.cell?, this] using h
theorem Heap.C {α : Type} {d : Kd α} (hd : Heap d) {w w1 : World} {A : Option Addr} {n : Nat} {xs : List α} (hb : ∀ k, k < w.heap.size → w1.heap[k]? = w.heap[k]?) (h : d.C w A n xs) : d.C w1 A n xs :=
  ⟨h.1, h.2.1, fun hn => by
    obtain ⟨ad, e, hc⟩ := h.2.2 hn
    refine ⟨ad, e, fun j p hj => ?_⟩
    obtain ⟨c, hs, hr, hcell⟩ := hc j p hj
    exact ⟨c, hs, hd.K hb hr, fun i u hu => cell_heap hb (hcell i u hu)⟩⟩
section
variable {α : Type} {d : Kd α} {e base g n c : Nat} {ok : Nat → Prop} {w w0 W : World} {A : Option Addr} {xs : List α}
end
end Kd
end Go.Proofs.YtcdpmmpdfdillaaW.PrintWords

namespace Go.Proofs.YtcdpmmpdfdillaaW.PrintWords
open Go.RowKit
def Kept (w W : World) (S : Nat → Prop) : Prop := w.heap.size ≤ W.heap.size ∧ ∀ i, i < w.heap.size → ¬ S i → W.heap[i]? = w.heap[i]?
section
variable {w W W2 : World} {S S2 S' : Nat → Prop}
theorem Kept.refl (w : World) (S : Nat → Prop) : Kept w w S := ⟨Nat.le_refl _, fun _ _ _ => rfl⟩
theorem Kept.of_below (h : Below w.heap.size w W) (S : Nat → Prop) : Kept w W S := ⟨h.size, fun i hi _ => h.block i hi⟩
theorem Kept.then_ (h : Kept w W S) (k : Kept W W2 S2) (hs : ∀ k, S2 k → S k ∨ w.heap.size ≤ k) : Kept w W2 S :=
  ⟨Nat.le_trans h.1 k.1, fun i hi hn => (k.2 i (Nat.lt_of_lt_of_le hi h.1) (fun h2 => (hs i h2).elim hn (fun h3 => by omega))).trans (h.2 i hi hn)⟩
theorem Kept.below (h : Kept w W S) (hb : Below W.heap.size W W2) : Kept w W2 S := h.then_ (Kept.of_below hb (fun _ => False)) (fun _ hk => hk.elim)
theorem Kept.alloc (h : Kept w W S) (o : Obj) : Kept w (W.alloc o) S := h.below (below_alloc (Below.refl _ _) o)
theorem Kept.drew (h : Kept w W S) : Kept w W.drew S := h
theorem Kept.drewN (h : Kept w W S) (m : Nat) : Kept w (W.drewN m) S := h
theorem Kept.setCell (h : Kept w W S) {p : Addr} (hp : S p.block ∨ w.heap.size ≤ p.block) (u : Value) : Kept w (W.setCell p u) S :=
  h.then_ (S2 := fun k => k = p.block) ⟨by simp [World.setCell], fun i _ hn => Below.heap_setCell W p u i hn⟩ (fun k hk => by rw [hk]; exact hp)
/-- Beside a state: what was written is new since. -/
theorem Kept.keep {g : Nat} (h : KeepBut w W g none) (k : Kept W W2 S2) (hs : ∀ k, S2 k → w.heap.size ≤ k) : KeepBut w W2 g none :=
  ⟨Nat.le_trans h.1 k.1, fun i hi hg hr => (k.2 i (Nat.lt_of_lt_of_le hi h.1) (fun h2 => by have := hs i h2; omega)).trans (h.2 i hi hg hr)⟩
end
namespace Kd
section
variable {α : Type} {d : Kd α} {e base n c : Nat} {ok oki S S2 : Nat → Prop} {w w0 W W1 W2 : World} {v : Value} {A : Option Addr} {xs : List α} {i : Int} {cs : List Value}
end
end Kd
end Go.Proofs.YtcdpmmpdfdillaaW.PrintWords

namespace Go.Proofs.YtcdpmmpdfdillaaW.PrintWords
open Go.RowKit
/-- P holds in W and in every world that has W's blocks of ok. -/
def Foot (P : World → Prop) (W : World) (ok : Nat → Prop) : Prop := ∀ W' : World, (∀ k, ok k → k < W.heap.size → W'.heap[k]? = W.heap[k]?) → P W'
theorem heap_lt {W W1 : World} {k : Nat} (h : W1.heap[k]? = W.heap[k]?) (hlt : k < W.heap.size) : k < W1.heap.size := by
  rw [Array.getElem?_eq_getElem hlt] at h
  exact (Array.getElem?_eq_some_iff.1 h).1
namespace Foot
variable {P Q : World → Prop} {W W1 : World} {ok ok' : Nat → Prop}
theorem now (h : Foot P W ok) : P W := h W (fun _ _ _ => rfl)
theorem mono (h : Foot P W ok) (hok : ∀ k, ok k → ok' k) : Foot P W ok' := fun W' hW => h W' (fun k hk hlt => hW k (hok k hk) hlt)
theorem step (h : Foot P W ok) (hm : ∀ k, ok k → k < W.heap.size → W1.heap[k]? = W.heap[k]?) : Foot P W1 ok := fun W' hW => h W' (fun k hk hlt => (hW k hk (heap_lt (hm k hk hlt) hlt)).trans (hm k hk hlt))
theorem imp (h : Foot P W ok) (hi : ∀ W', P W' → Q W') : Foot Q W ok := fun W' hW => hi W' (h W' hW)
end Foot
namespace Kd
/-- A row that is only read: what it leads to lies in ok. -/
def F {α : Type} (d : Kd α) (W : World) (ok : Nat → Prop) (A : Option Addr) (n : Nat) (xs : List α) : Prop := Foot (fun W => d.C W A n xs) W ok
/-- An element's cells: what they lead to lies in ok. -/
def FK {α : Type} (d : Kd α) (W : World) (ok : Nat → Prop) (x : α) (c : List Value) : Prop := Foot (fun W => d.K W x c) W ok
section
variable {α β : Type} {d : Kd α} {e base n n' cc g N : Nat} {ok ok' okp S : Nat → Prop} {w w0 w1 W W1 : World} {A A' : Option Addr} {u v v1 : Value} {xs : List α} {xs' : List β} {d' : Kd β} {x : α} {c : List Value}
end
end Kd
end Go.Proofs.YtcdpmmpdfdillaaW.PrintWords

namespace Go.Proofs.YtcdpmmpdfdillaaW.PrintWords
open Go.RowKit
namespace Kd
section
variable {α : Type} {d : Kd α} {e base n cc g : Nat} {ok ok' okp S : Nat → Prop} {w w1 W W1 : World} {A : Option Addr} {u v v1 : Value} {xs : List α} {x : α} {c : List Value}
/-- A row of elements (type e) of the call's own; what the elements lead to is only read, and is not this row. -/
def N {α : Type} (d : Kd α) (e : Nat) (w : World) (base : Nat) (ok : Nat → Prop) (v : Value) (xs : List α) : Prop :=
  (∀ k, v.ownBlock = some k → ok k) ∧ ∃ rows : List (List Value), rows.length = xs.length ∧ (raw d.sz).R e w base (fun k => some k = v.ownBlock) v rows ∧ ∀ (j : Nat) (x : α) (c : List Value), xs[j]? = some x → rows[j]? = some c → FK d w (fun k => ok k ∧ some k ≠ v.ownBlock) x c
end
end Kd
end Go.Proofs.YtcdpmmpdfdillaaW.PrintWords

namespace Go.Proofs.YtcdpmmpdfdillaaW.PrintWords
open Go.RowKit
section
variable {P : Program} {d : Nat} {xs ys : Array Value} {f : Field} {fs : List Field} {a b : Value} {r s : Bool} {w : World}
theorem eqf_cons (hn : (f.name == "_") = false) (ha : (part f.type xs f.offset).run P w = .ok a w) (hb : (part f.type ys f.offset).run P w = .ok b w) (he : (Op.equalIn d f.type a b).run P w = .ok r w) (hr : (Op.eqFields d xs ys fs).run P w = .ok s w) : (Op.eqFields d xs ys (f :: fs)).run P w = .ok (r && s) w := by
  have hn' : f.name ≠ "_" := by simpa using hn
  rw [Op.eqFields]
  simp only [if_pos hn', Sem.run_bind, ha, hb, he, Result.andThen_ok]
  cases r
  · simp
  · simpa using hr
/-- The last that counts, behind it such as_ don't. -/
theorem eqf_end (hn : (f.name == "_") = false) (ha : (part f.type xs f.offset).run P w = .ok a w) (hb : (part f.type ys f.offset).run P w = .ok b w) (he : (Op.equalIn d f.type a b).run P w = .ok r w) (hr : (Op.eqFields d xs ys fs).run P w = .ok true w) : (Op.eqFields d xs ys (f :: fs)).run P w = .ok r w := by
  have h := eqf_cons hn ha hb he hr
  rwa [Bool.and_true] at h
theorem eqf_nil : (Op.eqFields d xs ys []).run P w = .ok true w := by simp [Op.eqFields]
theorem eqA_of {t : TypeId} {fs : Array Field} (hu : P.underlying t = some (.struct fs)) (hp : P.stoodInHeld t = false) (h : (Op.eqFields d xs ys fs.toList).run P w = .ok r w) : (Op.equalIn (d + 1) t (.agg xs) (.agg ys)).run P w = .ok r w := by
  have hf : P.fieldsOf t = fs := by simp [Program.fieldsOf, hu]
  rw [run_equalIn_struct (P := P) w d t xs ys (by rw [hf]; exact hu) hp, hf]
  exact h
end
end Go.Proofs.YtcdpmmpdfdillaaW.PrintWords

namespace Go.Proofs.YtcdpmmpdfdillaaW.PrintWords
/-- One cell an element. -/
theorem Reps.one {α : Type} {R : α → List Value → Prop} {ps : List α} {cs : List Value} {p : α} {v : Value} (hp : R p [v]) (h : Reps R 1 ps cs) : Reps R 1 (p :: ps) (v :: cs) := by
  refine ⟨by simp [h.1], fun j q hq => ?_⟩
  cases j with
  | zero =>
    simp only [List.getElem?_cons_zero, Option.some.injEq] at hq
    subst hq
    simpa using hp
  | succ j =>
    simp only [List.getElem?_cons_succ] at hq
    have h1 := h.2 j q hq
    simpa [Nat.mul_one] using h1
/-- More cells an element: told apart by the cells' list. -/
theorem Reps.front {α : Type} {R : α → List Value → Prop} {size : Nat} {ps : List α} {cs c all : List Value} {p : α} (hp : R p c) (hc : c.length = size) (h : Reps R size ps cs) (ha : c ++ cs = all) : Reps R size (p :: ps) all := by
  subst ha
  refine ⟨by rw [List.length_append, hc, h.1, List.length_cons, Nat.succ_mul, Nat.add_comm], fun j q hq => ?_⟩
  cases j with
  | zero =>
    simp only [List.getElem?_cons_zero, Option.some.injEq] at hq
    subst hq
    rw [Nat.zero_mul, List.drop_zero, List.take_append_of_le_length (by omega), List.take_of_length_le (by omega)]
    exact hp
  | succ j =>
    simp only [List.getElem?_cons_succ] at hq
    have h1 := h.2 j q hq
    rw [Nat.succ_mul, List.drop_append, List.drop_of_length_le (by rw [hc]; exact Nat.le_add_left _ _), List.nil_append, hc, Nat.add_sub_cancel]
    exact h1
theorem Reps.c2 {α : Type} {R : α → List Value → Prop} {ps : List α} {cs : List Value} {p : α} {va vb : Value} (hp : R p [va, vb]) (h : Reps R 2 ps cs) : Reps R 2 (p :: ps) (va :: vb :: cs) := Reps.front hp rfl h rfl
theorem Reps.c3 {α : Type} {R : α → List Value → Prop} {ps : List α} {cs : List Value} {p : α} {va vb vc : Value} (hp : R p [va, vb, vc]) (h : Reps R 3 ps cs) : Reps R 3 (p :: ps) (va :: vb :: vc :: cs) := Reps.front hp rfl h rfl
theorem Reps.c4 {α : Type} {R : α → List Value → Prop} {ps : List α} {cs : List Value} {p : α} {va vb vc vd : Value} (hp : R p [va, vb, vc, vd]) (h : Reps R 4 ps cs) : Reps R 4 (p :: ps) (va :: vb :: vc :: vd :: cs) := Reps.front hp rfl h rfl
theorem Reps.c5 {α : Type} {R : α → List Value → Prop} {ps : List α} {cs : List Value} {p : α} {va vb vc vd ve : Value} (hp : R p [va, vb, vc, vd, ve]) (h : Reps R 5 ps cs) : Reps R 5 (p :: ps) (va :: vb :: vc :: vd :: ve :: cs) := Reps.front hp rfl h rfl
theorem Reps.c6 {α : Type} {R : α → List Value → Prop} {ps : List α} {cs : List Value} {p : α} {va vb vc vd ve vf : Value} (hp : R p [va, vb, vc, vd, ve, vf]) (h : Reps R 6 ps cs) : Reps R 6 (p :: ps) (va :: vb :: vc :: vd :: ve :: vf :: cs) := Reps.front hp rfl h rfl
theorem Reps.c7 {α : Type} {R : α → List Value → Prop} {ps : List α} {cs : List Value} {p : α} {va vb vc vd ve vf vg : Value} (hp : R p [va, vb, vc, vd, ve, vf, vg]) (h : Reps R 7 ps cs) : Reps R 7 (p :: ps) (va :: vb :: vc :: vd :: ve :: vf :: vg :: cs) := Reps.front hp rfl h rfl
theorem Reps.c8 {α : Type} {R : α → List Value → Prop} {ps : List α} {cs : List Value} {p : α} {va vb vc vd ve vf vg vh : Value} (hp : R p [va, vb, vc, vd, ve, vf, vg, vh]) (h : Reps R 8 ps cs) : Reps R 8 (p :: ps) (va :: vb :: vc :: vd :: ve :: vf :: vg :: vh :: cs) := Reps.front hp rfl h rfl
theorem Reps.c9 {α : Type} {R : α → List Value → Prop} {ps : List α} {cs : List Value} {p : α} {va vb vc vd ve vf vg vh vi : Value} (hp : R p [va, vb, vc, vd, ve, vf, vg, vh, vi]) (h : Reps R 9 ps cs) : Reps R 9 (p :: ps) (va :: vb :: vc :: vd :: ve :: vf :: vg :: vh :: vi :: cs) := Reps.front hp rfl h rfl
theorem Reps.c10 {α : Type} {R : α → List Value → Prop} {ps : List α} {cs : List Value} {p : α} {va vb vc vd ve vf vg vh vi vj : Value} (hp : R p [va, vb, vc, vd, ve, vf, vg, vh, vi, vj]) (h : Reps R 10 ps cs) : Reps R 10 (p :: ps) (va :: vb :: vc :: vd :: ve :: vf :: vg :: vh :: vi :: vj :: cs) := Reps.front hp rfl h rfl
end Go.Proofs.YtcdpmmpdfdillaaW.PrintWords

namespace Go.Proofs.YtcdpmmpdfdillaaW.PrintLast
/-- Number i is listed too. -/
def up (b : Nat → Bool) (i : Nat) : Nat → Bool := fun j => if j = i then true else b j
section
variable {P : Program} {ops : Array Oper} {Q : Exit → Act → World → Prop} {md : Region.Mode} {T : Bool × List (List Nat × List Nat)} {B : List Nat} {O : List Nat} {b : Nat → Bool} {i j n : Nat}
def Closed (T : List (List Nat × List Nat)) (O : List Nat) (b : Nat → Bool) : Prop := ∀ d r, T[d]? = some r → O.contains d = true → b d = true → ∀ n ∈ r.1, O.contains n = true → b n = true
/-! The frame: what is listed has its destination filled. -/
end
end Go.Proofs.YtcdpmmpdfdillaaW.PrintLast

namespace Go.Proofs.YtcdpmmpdfdillaaW.PrintWords
open Go.RowKit
/-- Two rows, one made behind the other's standing. -/
theorem own_apart {v1 v2 : Value} {n : Nat} (hlt : ∀ k, v1.ownBlock = some k → k < n) (hge : ∀ k, v2.ownBlock = some k → n ≤ k) : v1.ownBlock = none ∨ v1.ownBlock ≠ v2.ownBlock := by
  cases h : v1.ownBlock with
  | none => exact .inl rfl
  | some k => exact .inr (fun e => by have := hlt k h; have := hge k e.symm; omega)
end Go.Proofs.YtcdpmmpdfdillaaW.PrintWords
namespace Go.Proofs.YtcdpmmpdfdillaaW.PrintLast
section
variable {ops : Array Oper} {a : Act} {o og : Oper} {g : Nat} {t : Tmp} {u : Bool}
end
end Go.Proofs.YtcdpmmpdfdillaaW.PrintLast

namespace Go.Proofs.YtcdpmmpdfdillaaW.PrintWords
open Go.RowKit
section
variable {P : Program} {ops : Array Oper} {rest : List Oper} {o : Oper} {a : Act} {Q : Exit → Act → World → Prop} {W : World}
/-- The gate takes the guard off (hw: 'by rfl', 'by kernel_rfl': the guard's slot holds what is wanted). -/
theorem gate_guard (hw : Region.wanted o (yielded ops a.tmps) = true) (h : wpList P ops Q ({ o with guard := none } :: rest) a W) : wpList P ops Q (o :: rest) a W := by
  have h1 : Region.wanted { o with guard := none } (yielded ops a.tmps) = true := rfl
  unfold wpList at h ⊢
  rw [if_pos h1] at h
  rw [if_pos hw]
  exact h
end
end Go.Proofs.YtcdpmmpdfdillaaW.PrintWords

-- PRINTED WORDS (module Derived/Print/More.lean): go-gate-2's additions: an AI agent of Go's test side, Tue Nov 17 2026; no person has read it. Lean checks it.
namespace Go.Proofs.YtcdpmmpdfdillaaW.PrintMore
open Go.RowKit Go.Proofs.YtcdpmmpdfdillaaW.PrintWords
namespace Kd
open Go.Proofs.YtcdpmmpdfdillaaW.PrintWords.Kd
end Kd

namespace Kd
open Go.Proofs.YtcdpmmpdfdillaaW.PrintWords.Kd
section
variable {α : Type} {d : Kd α} {e base g N : Nat} {ok : Nat → Prop} {W w1 : World} {u v : Value} {xs : List α}
end
end Kd
/-- 'max' and 'min' of two whole numbers. -/
theorem max2_int (k k' : IntKind) (x y : Int) : Builtin.max2 (.int k x) (.int k' y) = pure (.int k (if x < y then y else x)) := by simp only [Builtin.max2, gt_iff_lt]
theorem min2_int (k k' : IntKind) (x y : Int) : Builtin.min2 (.int k x) (.int k' y) = pure (.int k (if y < x then y else x)) := by simp only [Builtin.min2]
theorem max_two (ats : Array TypeId) (ty : TypeId) (a b : Value) : Builtin.max_ ats ty #[a, b] = (Builtin.max2 a b >>= fun s => pure s) := by simp only [Builtin.max_, List.foldlM_cons, List.foldlM_nil]
theorem min_two (ats : Array TypeId) (ty : TypeId) (a b : Value) : Builtin.min_ ats ty #[a, b] = (Builtin.min2 a b >>= fun s => pure s) := by simp only [Builtin.min_, List.foldlM_cons, List.foldlM_nil]
theorem max_three (ats : Array TypeId) (ty : TypeId) (a b c : Value) : Builtin.max_ ats ty #[a, b, c] = (Builtin.max2 a b >>= fun s => Builtin.max2 s c >>= fun s => pure s) := by simp only [Builtin.max_, List.foldlM_cons, List.foldlM_nil]
theorem min_three (ats : Array TypeId) (ty : TypeId) (a b c : Value) : Builtin.min_ ats ty #[a, b, c] = (Builtin.min2 a b >>= fun s => Builtin.min2 s c >>= fun s => pure s) := by simp only [Builtin.min_, List.foldlM_cons, List.foldlM_nil]
theorem max_four (ats : Array TypeId) (ty : TypeId) (a b c d : Value) : Builtin.max_ ats ty #[a, b, c, d] = (Builtin.max2 a b >>= fun s => Builtin.max2 s c >>= fun s => Builtin.max2 s d >>= fun s => pure s) := by simp only [Builtin.max_, List.foldlM_cons, List.foldlM_nil]
theorem min_four (ats : Array TypeId) (ty : TypeId) (a b c d : Value) : Builtin.min_ ats ty #[a, b, c, d] = (Builtin.min2 a b >>= fun s => Builtin.min2 s c >>= fun s => Builtin.min2 s d >>= fun s => pure s) := by simp only [Builtin.min_, List.foldlM_cons, List.foldlM_nil]
end Go.Proofs.YtcdpmmpdfdillaaW.PrintMore
namespace Go.Proofs.YtcdpmmpdfdillaaW.PrintWords
open Go.RowKit
section
variable {P : Program} {ops : Array Oper} {rest : List Oper} {o : Oper} {a : Act} {Q : Exit → Act → World → Prop} {W : World}
/-- The operation is a builtin over these places. -/
theorem gate_builtin {b : Builtin} {xs : Array Operand} {ts : Array TypeId} (_ho : o.op = .call { callee := .builtin b, args := xs, argTypes := ts }) (h : wpList P ops Q (o :: rest) a W) : wpList P ops Q (o :: rest) a W := h
end
/-- It says x = x, and that is its use: 'rw [drewN_self w]' fails where the world was not drawn, and the row behind it is skipped. -/
theorem drewN_self (w : World) (n : Nat) : w.drewN n = w.drewN n := rfl
namespace Kd
section
variable {α : Type} {d : Kd α} {e base : Nat} {ok : Nat → Prop} {W w1 : World} {v : Value} {xs : List α}
end
section
variable {α : Type} {d : Kd α} {e base g n cap : Nat} {ok oki okp : Nat → Prop} {W : World} {xs : List α} {i : Int} {c : List Value}
end
section
variable {α : Type} {d : Kd α} {e base b b' g N : Nat} {ok ok1 : Nat → Prop} {W W2 w1 : World} {u v : Value} {xs ys : List α} {S : Nat → Prop}
end
end Kd
end Go.Proofs.YtcdpmmpdfdillaaW.PrintWords
namespace Go.Proofs.YtcdpmmpdfdillaaW.PrintWords
open Go.RowKit
namespace Kd
section
variable {α β : Type} {d : Kd α} {e base base' n m c g N' lo hi : Nat} {ok ok' S : Nat → Prop} {w W w1 : World} {A : Option Addr} {ad : Addr} {u v v1 : Value} {xs : List α}
end
end Kd
end Go.Proofs.YtcdpmmpdfdillaaW.PrintWords

namespace Go.Proofs.Ytcdpmmpdfdillaa.Q
open Go.RowKit Go.Proofs.YtcdpmmpdfdillaaW.PrintWords Go.Proofs.YtcdpmmpdfdillaaW.PrintLast Go.Proofs.YtcdpmmpdfdillaaW.PrintMore
set_option linter.unusedVariables false
set_option linter.unusedSimpArgs false



def errW : Option Int → Value
  | none => .nilIface
  | some c => .iface 0 (.int .i64 c)
theorem errW_none : errW none = .nilIface := rfl
theorem errW_some (c : Int) : errW (some c) = .iface 0 (.int .i64 c) := rfl

theorem info4 : (Try.prog.info? 4).map (fun i => (i.zero, i.size, i.bytes)) = some (some (.bool false), 1, 1) := by kernel_rfl
theorem info5 : (Try.prog.info? 5).map (fun i => (i.zero, i.size, i.bytes)) = some (some (.int .u8 0), 1, 1) := by kernel_rfl
theorem info9 : (Try.prog.info? 9).map (fun i => (i.zero, i.size, i.bytes)) = some (some (.string ⟨#[]⟩), 1, 16) := by kernel_rfl
theorem info33 : (Try.prog.info? 33).map (fun i => (i.zero, i.size, i.bytes)) = some (some (.slice none 0 0), 1, 24) := by kernel_rfl
-- the values' own types
def rd_L2 (xs : List (List Bool)) (i : Int) : (List Bool) := xs.getD i.toNat ([] : List Bool)
theorem at_L2 {w : World} {A : Option Addr} {n : Nat} {xs : List (List Bool)} (h : Kd.C (Kd.slice 4 Kd.bool) w A n xs) (i : Int) (h0 : 0 ≤ i) (h1 : i < n) : ∃ ad A0 c0, A = some ad ∧ w.cell? (ad.add i.toNat) = some (.slice A0 (rd_L2 xs i).length c0) ∧ (rd_L2 xs i).length ≤ c0 ∧ Kd.bool.C w A0 (rd_L2 xs i).length (rd_L2 xs i) := by
  obtain ⟨ad, c, e, _, hK, hc0⟩ := Kd.C_get h ([] : List Bool) i h0 h1
  have hc : ∀ j u, c[j]? = some u → w.cell? (ad.add (i.toNat * 1 + j)) = some u := hc0
  obtain ⟨A0, c0, rfl, l0, g0⟩ := hK
  exact ⟨ad, A0, c0, e, by have hq := hc 0 _ rfl; rwa [Nat.mul_one, Nat.add_zero] at hq, l0, g0⟩

/-! #### struct type 27 -/
structure S27 where
  f0 : ByteArray
  f1 : Bool
/-! #### struct type 30 -/
structure S30 where
  f0 : Int
  f1 : Int
/-- The walk's own small steps, each said once. -/
theorem bw {p : Prop} (h : p := by repeat (first | (with_reducible first | exact HB.out | apply below_alloc | apply pw_below_drewN | apply below_drew1 | refine below_set ?_ (Aside0.out (by assumption))) | exact HB.out)) : p := h
theorem lf {q p : Prop} (h : Aside0 q) (k : q → p := by intro h_; (with_reducible repeat (first | apply Kd.R_alloc | apply Kd.R_drewN | apply Kd.R_drew)); exact h_) : p := k h.out
theorem lb {q p : Prop} (h : Aside0 q) (k : q → p := by intro h_; (with_reducible repeat (first | refine blk_drewN ?_ _ | refine blk_drew ?_ | refine blk_alloc ?_ _)); exact h_) : p := k h.out
end Go.Proofs.Ytcdpmmpdfdillaa.Q

namespace Go.Proofs.Ytcdpmmpdfdillaa.RowK
open Go.ChangeShapes Go.WideShapes Go.ChangeAt Go.RowKit Go.Proofs.YtcdpmmpdfdillaaW.PrintWords
set_option linter.unusedVariables false

/-- What is read at type t is a value of kind d, and ok says what is known of it. -/
structure Opens (P : Program) (t : TypeId) {α : Type} (d : Kd α) (ok : α → Prop) : Prop where
  mk :: (out : ∀ (H : Type) (enc : TypeId × Value → H) (w : World) (base : Nat) (spare : Nat → Bool) (held : Bool) (fuel : Nat) (cs : List Value) (x : DataW H × List MemPlace),
    DataW.trod enc P w base spare held fuel t cs = some x → ∃ a : α, d.K w a cs ∧ ok a)

section
variable {P : Program}
theorem opens_int {t : TypeId} {k : IntKind} (ht : P.underlying t = some (.int k)) : Opens P t (Kd.int k) (fun a => (Lit.int k a).wf = true) := by
  refine ⟨?_⟩
  intro H enc w base spare held fuel cs x h
  obtain ⟨n, rfl, _, hw⟩ := DataW.trod_int ht h
  exact ⟨n, rfl, hw⟩
theorem cell_of_cells {w : World} {base : Nat} {a : Addr} {n : Nat} {cs : List Value} (h : w.cells? base a n = some cs) : cs.length = n ∧ ∀ i u, cs[i]? = some u → w.cell? (a.add i) = some u := by
  obtain ⟨_, hl, hat⟩ := World.cells?_some h
  refine ⟨hl, fun i u hu => ?_⟩
  have hi : i < n := by
    rcases Nat.lt_or_ge i n with h1 | h1
    · exact h1
    · rw [List.getElem?_eq_none (by omega)] at hu; cases hu
  have := hat i hi
  rw [this, hu]
theorem add_add_ (a : Addr) (i j : Nat) : (a.add i).add j = a.add (i + j) := by
  unfold Addr.add
  by_cases hi : i = 0 <;> by_cases hj : j = 0 <;> simp [hi, hj, Nat.add_assoc]
theorem list_of_fn {α : Type} (ok : α → Prop) (Q : Nat → α → Prop) : ∀ n, (∀ i, i < n → ∃ a, Q i a ∧ ok a) → ∃ l : List α, l.length = n ∧ (∀ i a, l[i]? = some a → Q i a) ∧ ∀ a ∈ l, ok a
  | 0, _ => ⟨[], rfl, by simp, by simp⟩
  | n + 1, h => by
    obtain ⟨l, hl, hq, ho⟩ := list_of_fn ok Q n (fun i hi => h i (by omega))
    obtain ⟨a, qa, oa⟩ := h n (by omega)
    refine ⟨l ++ [a], by simp [hl], fun i b hb => ?_, fun b hb => ?_⟩
    · rcases Nat.lt_or_ge i l.length with h1 | h1
      · rw [List.getElem?_append_left h1] at hb; exact hq i b hb
      · rw [List.getElem?_append_right h1] at hb
        have h2 : i - l.length = 0 := by
          rcases Nat.eq_zero_or_pos (i - l.length) with h3 | h3
          · exact h3
          · rw [List.getElem?_eq_none (by simp; omega)] at hb; cases hb
        rw [h2] at hb
        simp at hb
        subst hb
        have : i = n := by omega
        subst this
        exact qa
    · rcases List.mem_append.1 hb with h1 | h1
      · exact ho b h1
      · rw [List.mem_singleton.1 h1]; exact oa
theorem opens_slice {t e : TypeId} {α : Type} {d : Kd α} {ok : α → Prop} (ht : P.underlying t = some (.slice e)) (hc : P.cellsOf e = d.sz) (ho : Opens P e d ok) :
    Opens P t (Kd.slice e d) (fun l => l.length ≤ maxLen ∧ ∀ a ∈ l, ok a) := by
  refine ⟨?_⟩
  intro H enc w base spare held fuel cs x h
  rcases DataW.trod_slice ht h with ⟨rfl, _⟩ | ⟨a, len, cap, elems, rest, n, _, rfl, _, _, hl, hm, hlen, hel, _, _⟩
  · exact ⟨[], ⟨none, 0, rfl, Nat.zero_le _, ⟨rfl, by simp, fun h => absurd h (Nat.lt_irrefl 0)⟩⟩, by simp, by simp⟩
  · obtain ⟨l, hll, hq, hok⟩ := list_of_fn ok (fun i b => ∃ cs', cs'.length = d.sz ∧ d.K w b cs' ∧ ∀ j u, cs'[j]? = some u → w.cell? ((a.add (i * d.sz)).add j) = some u) len (fun i hi => by
      have hi2 := hel i hi
      have h3 : i < elems.length := by omega
      rw [List.getElem?_eq_getElem h3] at hi2
      obtain ⟨cs', h4, h5⟩ := Option.bind_eq_some_iff.1 hi2
      obtain ⟨b, hb, hob⟩ := ho.out _ enc w base spare held n cs' _ h5
      obtain ⟨h6, h7⟩ := cell_of_cells h4
      rw [hc] at h6 h7
      exact ⟨b, ⟨cs', h6, hb, h7⟩, hob⟩)
    subst hll
    refine ⟨l, ⟨some a, cap, rfl, hl, rfl, ?_, fun _ => ⟨a, rfl, fun j p hp => ?_⟩⟩, by omega, hok⟩
    · simp only [maxLen] at hm; omega
    · obtain ⟨cs', h1, h2, h3⟩ := hq j p hp
      exact ⟨cs', h1, h2, fun i u hu => by rw [← add_add_]; exact h3 i u hu⟩
/-- A struct's fields from one offset on. -/
structure OpensF (P : Program) (fs : List Field) (off : Nat) {α : Type} (d : Kd α) (ok : α → Prop) : Prop where
  mk :: (out : ∀ (H : Type) (enc : TypeId × Value → H) (w : World) (base : Nat) (spare : Nat → Bool) (held : Bool) (fuel : Nat) (cs : List Value), cs.length = off + d.sz →
    (∀ f ∈ fs, ∃ x, DataW.trod enc P w base spare held fuel f.type ((cs.drop f.offset).take (P.cellsOf f.type)) = some x) → ∃ a : α, d.K w a (cs.drop off) ∧ ok a)
theorem opens_imp {t : TypeId} {α : Type} {d : Kd α} {ok ok' : α → Prop} (ho : Opens P t d ok) (h : ∀ a, ok a → ok' a) : Opens P t d ok' := by
  refine ⟨?_⟩
  intro H enc w base spare held fuel cs x hx
  obtain ⟨a, ha, oa⟩ := ho.out _ enc w base spare held fuel cs x hx
  exact ⟨a, ha, h a oa⟩
/-- An argument: its value, by its cells. -/
theorem Opens.arg {t : TypeId} {α : Type} {d : Kd α} {ok : α → Prop} (ho : Opens P t d ok) {H : Type} {enc : TypeId × Value → H} {w : World} {base : Nat} {spare : Nat → Bool} {held : Bool} {v : Value} {x : DataW H} {ps : List MemPlace}
    (h : DataW.Trod enc P w base spare held t v x ps) : ∃ a : α, d.K w a v.cells.toList ∧ ok a := by
  obtain ⟨fuel, hf⟩ := h
  exact ho.out _ enc w base spare held fuel _ _ hf
end
end Go.Proofs.Ytcdpmmpdfdillaa.RowK

namespace Go.Proofs.Ytcdpmmpdfdillaa.Q
open Go.RowKit Go.Proofs.YtcdpmmpdfdillaaW.PrintWords Go.Proofs.YtcdpmmpdfdillaaW.PrintLast
class K0 (p : Prop) : Prop where mk :: (out : p)
theorem kk {p : Prop} [h : K0 p] : p := h.out
section
variable {w W : World} {g row : Nat} {o : Obj} {v : Value}
instance [h : K0 (Below w.heap.size w W)] {o : Obj} : K0 (Below w.heap.size w (W.alloc o)) := ⟨below_alloc h.out o⟩
instance [h : K0 (Below w.heap.size w W)] {m : Nat} : K0 (Below w.heap.size w (W.drewN m)) := ⟨pw_below_drewN h.out m⟩
instance [h : K0 (Below w.heap.size w W)] : K0 (Below w.heap.size w W.drew) := ⟨below_drew1 h.out⟩
instance {j : Nat} [h : K0 (Below w.heap.size w W)] [hg : K0 (w.heap.size ≤ g)] : K0 (Below w.heap.size w (W.setCell ⟨g, j, none⟩ v)) := ⟨below_set h.out hg.out⟩
instance {o' : Obj} [h : K0 (W.heap[g]? = some o)] : K0 ((W.alloc o').heap[g]? = some o) := ⟨blk_alloc h.out o'⟩
instance {m : Nat} [h : K0 (W.heap[g]? = some o)] : K0 ((W.drewN m).heap[g]? = some o) := ⟨blk_drewN h.out m⟩
instance [h : K0 (W.heap[g]? = some o)] : K0 (W.drew.heap[g]? = some o) := ⟨blk_drew h.out⟩
instance {t : TypeId} {cs : Array Value} {p : Addr} {u : Value} [h : K0 (W.heap[g]? = some (.cells cs t (0, 0)))] [hp : K0 (g ≠ p.block)] : K0 ((W.setCell p u).heap[g]? = some (.cells cs t (0, 0))) := ⟨blk_far h.out hp.out u⟩
section
variable {α : Type} {d : Kd α} {e base : Nat} {ok : Nat → Prop} {xs : List α}
instance [h : K0 (Kd.R d e w base ok v xs)] {o : Obj} : K0 (Kd.R d e (w.alloc o) base ok v xs) := ⟨Kd.R_alloc h.out o⟩
instance [h : K0 (Kd.R d e w base ok v xs)] {m : Nat} : K0 (Kd.R d e (w.drewN m) base ok v xs) := ⟨Kd.R_drewN h.out m⟩
instance [h : K0 (Kd.R d e w base ok v xs)] : K0 (Kd.R d e w.drew base ok v xs) := ⟨Kd.R_drew h.out⟩
end
end
theorem sz_al (w : World) (o : Obj) : (w.alloc o).heap.size = w.heap.size + 1 := by show (w.heap.push _).size = _; simp
theorem new1 (w : World) (a b : Obj) : ((w.alloc a).alloc b).heap[w.heap.size + 1]? = some b := by have := heap_alloc_new (w.alloc a) b; rwa [sz_al] at this
theorem new2 (w : World) (a b c : Obj) : (((w.alloc a).alloc b).alloc c).heap[w.heap.size + 1 + 1]? = some c := by have := new1 (w.alloc a) b c; rwa [sz_al] at this
theorem old1 (w : World) (a b c : Obj) : (((w.alloc a).alloc b).alloc c).heap[w.heap.size + 1]? = some b := by have := heap_alloc_old ((w.alloc a).alloc b) c (r := w.heap.size + 1) (by rw [sz_al, sz_al]; omega); rw [this]; exact new1 w a b
/-- What a cell held it holds in each world that lies below. -/
theorem clk {w : World} {a : Addr} {v : Value} (h : w.cell? a = some v) : ∀ W [K0 (Below w.heap.size w W)], W.cell? a = some v := fun _ k => (k.out.cell (World.block_lt_of_cell? w _ h)).trans h
end Go.Proofs.Ytcdpmmpdfdillaa.Q

namespace Go.Proofs.Ytcdpmmpdfdillaa.Q
/-- Number i comes up now: with true it alone may (a call, a make), with false what it yields is the same in each world that meets S. -/
def planB (md : Region.Mode) (ops : Array Oper) : List (Nat × Bool) → Array Bool → Bool
  | [], l => Region.ready md ops l == []
  | (i, false) :: r, l => Region.free md ops l i && ((Region.ready md ops l).contains i && planB md ops r (l.setIfInBounds i true))
  | (i, true) :: r, l => (Region.ready md ops l == [i]) && planB md ops r (l.setIfInBounds i true)
section
variable {P : Program} {ops : Array Oper} {Q : Exit → Act → World → Prop} {md : Region.Mode} {S : World → Prop}
def Sq (P : Program) (md : Region.Mode) (ops : Array Oper) (Q : Exit → Act → World → Prop) (S : World → Prop) (r : List (Nat × Bool)) (a : Act) (w : World) : Prop :=
  S w → Region.noSelect ops = true → ∀ l, planB md ops r l = true → wpAnyH P md ops (NoPanic Q) S r.length l a w
theorem sq_region {id : Nat} {a : Act} {w : World} (r : List (Nat × Bool)) (hm : P.follows .mixedOrders = true) (hc : (Region.noSelect ops && (planB .any ops r (Array.replicate ops.size false) && (r.length == ops.size))) = true)
    (hS : S w.drew) (h : S w.drew → Sq P .any ops Q S r a w.drew) : (Code.region id ops true).wp P Q a w := by
  simp only [Bool.and_eq_true, beq_iff_eq] at hc
  refine wp_region_noPanic (wp_region_held_drew hm hS fun h1 => ?_)
  have h2 := h h1 h1 hc.1 _ hc.2.1
  rw [hc.2.2] at h2
  exact h2
theorem sq_done {a : Act} {w : World} (h : S w → Q .normal a w) : Sq P md ops Q S [] a w := fun hS _ l hl => wpAnyH_done (by simpa [planB] using hl) (NoPanic.normal (h hS)) _
theorem sq_off {i : Nat} {b : Bool} {r : List (Nat × Bool)} {d : Tmp} {op : Op} {ty : TypeId} {pos : String} {af : Array Edge} {gu : Option (Nat × Bool)} {a : Act} {w : World}
    (ho : ops[i]? = some ⟨some d, op, ty, pos, af, gu⟩) (hw : Region.wanted ⟨some d, op, ty, pos, af, gu⟩ (yielded ops a.tmps) = false) (h : Sq P md ops Q S r (a.put (some d) undef) w) : Sq P md ops Q S ((i, b) :: r) a w := by
  intro hS hs l hl
  cases b with
  | false =>
    simp only [planB, Bool.and_eq_true] at hl
    exact wpAnyH_take ho hs hl.1 hl.2.1 (fun _ _ _ h => h.elim) (.inr ⟨hw, rfl⟩) hS (h hS hs _ hl.2.2)
  | true =>
    simp only [planB, Bool.and_eq_true, beq_iff_eq] at hl
    refine wpAnyH_ready hl.1 (by simp) (AllReadyH.cons ho (fun K hK => ?_) AllReadyH.nil)
    rw [if_neg (by rw [hw]; simp)]
    exact hK.out _ _ hS fun h2 => h hS hs _ hl.2
theorem sq_on {i : Nat} {r : List (Nat × Bool)} {d : Tmp} {op : Op} {ty : TypeId} {pos : String} {af : Array Edge} {gu : Option (Nat × Bool)} {a : Act} {w : World} (v : Value)
    (ho : ops[i]? = some ⟨some d, op, ty, pos, af, gu⟩) (hw : Region.wanted ⟨some d, op, ty, pos, af, gu⟩ (yielded ops a.tmps) = true) (hv : ∀ W, S W → (execOp a.eval ⟨some d, op, ty, pos, af, gu⟩).run P W = .ok (.value v) W) (h : Sq P md ops Q S r (a.put (some d) v) w) : Sq P md ops Q S ((i, false) :: r) a w := by
  intro hS hs l hl
  simp only [planB, Bool.and_eq_true] at hl
  exact wpAnyH_take ho hs hl.1 hl.2.1 (fun _ _ _ h => h.elim) (.inl ⟨hw, hv⟩) hS (h hS hs _ hl.2.2)
theorem sq_one {i : Nat} {r : List (Nat × Bool)} {d : Option Tmp} {op : Op} {ty : TypeId} {pos : String} {af : Array Edge} {gu : Option (Nat × Bool)} {a : Act} {w : World} (ho : ops[i]? = some ⟨d, op, ty, pos, af, gu⟩) (hw : Region.wanted ⟨d, op, ty, pos, af, gu⟩ (yielded ops a.tmps) = true)
    (h : S w → ∀ K : Act → World → Prop, Shut (∀ a' w', S w' → (S w' → Sq P md ops Q S r a' w') → K a' w') → Oper.wp P ⟨d, op, ty, pos, af, gu⟩ a w K (NoPanic Q)) : Sq P md ops Q S ((i, true) :: r) a w := by
  intro hS hs l hl
  simp only [planB, Bool.and_eq_true, beq_iff_eq] at hl
  refine wpAnyH_ready hl.1 (by simp) (AllReadyH.cons ho (fun K hK => ?_) AllReadyH.nil)
  rw [if_pos hw]
  exact h hS K fun a' w' h1 h2 => hK.out a' w' h1 fun h3 => h2 h3 h3 hs _ hl.2
/-! The same by the guard's form, so that Lean sees at once which step is due. -/
variable {i j dj : Nat} {r : List (Nat × Bool)} {d : Tmp} {od od' : Option Tmp} {op op' : Op} {ty ty' : TypeId} {pos pos' : String} {af af' : Array Edge} {gu' : Option (Nat × Bool)} {g b : Bool} {T : Array Value} {D : List Deferred} {w : World}
theorem yes_n {y : Nat → Option Bool} : Region.wanted ⟨od, op, ty, pos, af, none⟩ y = true := rfl
theorem yes_g (hj : ops[j]? = some ⟨some dj, op', ty', pos', af', gu'⟩) (hd : T[dj]? = some (.bool g)) : Region.wanted ⟨od, op, ty, pos, af, some (j, g)⟩ (yielded ops T) = true := by simp [Region.wanted, yielded, hj, hd]
theorem no_g (hj : ops[j]? = some ⟨some dj, op', ty', pos', af', gu'⟩) (hd : T[dj]? = some (.bool (!g))) : Region.wanted ⟨od, op, ty, pos, af, some (j, g)⟩ (yielded ops T) = false := by simp [Region.wanted, yielded, hj, hd]
theorem no_u (hj : ops[j]? = some ⟨some dj, op', ty', pos', af', gu'⟩) (hd : T[dj]? = some undef) : Region.wanted ⟨od, op, ty, pos, af, some (j, g)⟩ (yielded ops T) = false := by simp [Region.wanted, yielded, hj, hd, undef]
theorem sq_f (T' : Array Value) (ho : ops[i]? = some ⟨some d, op, ty, pos, af, some (j, g)⟩) (hj : ops[j]? = some ⟨some dj, op', ty', pos', af', gu'⟩) (hd : T[dj]? = some (.bool (!g))) (hT : T.setIfInBounds d undef = T') (h : Sq P md ops Q S r ⟨T', D⟩ w) : Sq P md ops Q S ((i, b) :: r) ⟨T, D⟩ w := by
  subst hT; exact sq_off ho (no_g hj hd) h
theorem sq_u (T' : Array Value) (ho : ops[i]? = some ⟨some d, op, ty, pos, af, some (j, g)⟩) (hj : ops[j]? = some ⟨some dj, op', ty', pos', af', gu'⟩) (hd : T[dj]? = some undef) (hT : T.setIfInBounds d undef = T') (h : Sq P md ops Q S r ⟨T', D⟩ w) : Sq P md ops Q S ((i, b) :: r) ⟨T, D⟩ w := by
  subst hT; exact sq_off ho (no_u hj hd) h
theorem sq_n (T' : Array Value) (v : Value) (ho : ops[i]? = some ⟨some d, op, ty, pos, af, none⟩) (hv : ∀ W, S W → (execOp (Act.eval ⟨T, D⟩) ⟨some d, op, ty, pos, af, none⟩).run P W = .ok (.value v) W) (hT : T.setIfInBounds d v = T') (h : Sq P md ops Q S r ⟨T', D⟩ w) : Sq P md ops Q S ((i, false) :: r) ⟨T, D⟩ w := by
  subst hT; exact sq_on v ho yes_n hv h
theorem sq_g (T' : Array Value) (v : Value) (ho : ops[i]? = some ⟨some d, op, ty, pos, af, some (j, g)⟩) (hj : ops[j]? = some ⟨some dj, op', ty', pos', af', gu'⟩) (hd : T[dj]? = some (.bool g)) (hv : ∀ W, S W → (execOp (Act.eval ⟨T, D⟩) ⟨some d, op, ty, pos, af, some (j, g)⟩).run P W = .ok (.value v) W) (hT : T.setIfInBounds d v = T') (h : Sq P md ops Q S r ⟨T', D⟩ w) : Sq P md ops Q S ((i, false) :: r) ⟨T, D⟩ w := by
  subst hT; exact sq_on v ho (yes_g hj hd) hv h
theorem sq_1n (ho : ops[i]? = some ⟨od, op, ty, pos, af, none⟩)
    (h : S w → ∀ K : Act → World → Prop, Shut (∀ a' w', S w' → (S w' → Sq P md ops Q S r a' w') → K a' w') → Oper.wp P ⟨od, op, ty, pos, af, none⟩ ⟨T, D⟩ w K (NoPanic Q)) : Sq P md ops Q S ((i, true) :: r) ⟨T, D⟩ w := sq_one ho yes_n h
theorem sq_1g (ho : ops[i]? = some ⟨od, op, ty, pos, af, some (j, g)⟩) (hj : ops[j]? = some ⟨some dj, op', ty', pos', af', gu'⟩) (hd : T[dj]? = some (.bool g))
    (h : S w → ∀ K : Act → World → Prop, Shut (∀ a' w', S w' → (S w' → Sq P md ops Q S r a' w') → K a' w') → Oper.wp P ⟨od, op, ty, pos, af, some (j, g)⟩ ⟨T, D⟩ w K (NoPanic Q)) : Sq P md ops Q S ((i, true) :: r) ⟨T, D⟩ w := sq_one ho (yes_g hj hd) h
end
end Go.Proofs.Ytcdpmmpdfdillaa.Q

namespace Go.Proofs.Ytcdpmmpdfdillaa.Q
open Go.RowKit Go.Proofs.YtcdpmmpdfdillaaW.PrintWords Go.Proofs.YtcdpmmpdfdillaaW.PrintLast
/-- Below block number B, and but for block g, the world w' is as w was. -/
structure Bx (B g : Nat) (w w' : World) : Prop where
  os : w'.os = w.os
  tape : w'.tape = w.tape
  output : w'.output = w.output
  size : w.heap.size ≤ w'.heap.size
  block : ∀ k, k < B → k ≠ g → w'.heap[k]? = w.heap[k]?
theorem Bx.of {B g : Nat} {w w' : World} (h : Below B w w') : Bx B g w w' := ⟨h.os, h.tape, h.output, h.size, fun k hk _ => h.block k hk⟩
theorem Bx.refl (B g : Nat) (w : World) : Bx B g w w := .of (Below.refl _ _)
theorem Bx.trans {B g : Nat} {a b c : World} (h : Bx B g a b) (k : Bx B g b c) : Bx B g a c :=
  ⟨k.os.trans h.os, k.tape.trans h.tape, k.output.trans h.output, Nat.le_trans h.size k.size, fun i hi hg => (k.block i hi hg).trans (h.block i hi hg)⟩
theorem Bx.lower {B B' g : Nat} {w w' : World} (h : Bx B g w w') (hB : B' ≤ B) : Bx B' g w w' := ⟨h.os, h.tape, h.output, h.size, fun k hk => h.block k (by omega)⟩
/-- Two calls behind each other. -/
theorem Bx.step {g : Nat} {w a b : World} (h : Bx w.heap.size g w a) (k : Bx a.heap.size g a b) : Bx w.heap.size g w b := h.trans (k.lower h.size)
/-- The state's block is one of the call's own. -/
theorem Bx.below {B g : Nat} {w w' : World} (h : Bx B g w w') {C : Nat} (hC : C ≤ B) (hg : C ≤ g) : Below C w w' := ⟨h.os, h.tape, h.output, h.size, fun k hk => h.block k (by omega) (by omega)⟩
theorem Bx.cell {B g : Nat} {w w' : World} (h : Bx B g w w') {p : Addr} (hp : p.block < B) (hg : p.block ≠ g) : w'.cell? p = w.cell? p := by
  unfold World.cell?; rw [h.block _ hp hg]
section
variable {w W : World} {g x : Nat} {o : Obj} {v : Value}
instance [h : K0 (Bx w.heap.size g w W)] {o : Obj} : K0 (Bx w.heap.size g w (W.alloc o)) := ⟨h.out.trans (.of (Below.alloc (Below.refl _ _) h.out.size o))⟩
instance [h : K0 (Bx w.heap.size g w W)] {m : Nat} : K0 (Bx w.heap.size g w (W.drewN m)) := ⟨h.out.trans (.of (pw_below_drewN (Below.refl _ _) m))⟩
instance [h : K0 (Bx w.heap.size g w W)] : K0 (Bx w.heap.size g w W.drew) := ⟨h.out.trans (.of (Below.drew (Below.refl _ _)))⟩
instance [h : K0 (Bx w.heap.size g w W)] {j : Nat} : K0 (Bx w.heap.size g w (W.setCell ⟨g, j, none⟩ v)) :=
  ⟨h.out.trans ⟨rfl, rfl, rfl, by simp [World.setCell], fun k _ hk => Below.heap_setCell _ _ _ _ hk⟩⟩
instance (priority := low) [h : K0 (Bx w.heap.size g w W)] {j : Nat} [hx : K0 (w.heap.size ≤ x)] : K0 (Bx w.heap.size g w (W.setCell ⟨x, j, none⟩ v)) :=
  ⟨h.out.trans ⟨rfl, rfl, rfl, by simp [World.setCell], fun k hk _ => Below.heap_setCell _ _ _ _ (by have := hx.out; show k ≠ x; omega)⟩⟩
end
/-- The block behind a store into it. -/
theorem bk_put {W : World} {g j : Nat} {cs : Array Value} {t : TypeId} (h : W.heap[g]? = some (.cells cs t (0, 0))) (v : Value) : (W.setCell ⟨g, j, none⟩ v).heap[g]? = some (.cells (cs.setIfInBounds j v) t (0, 0)) := by
  simp [World.setCell, Array.getElem?_modify, h]
end Go.Proofs.Ytcdpmmpdfdillaa.Q

namespace Go.Proofs.Ytcdpmmpdfdillaa.Q
open Go.RowKit Go.Proofs.YtcdpmmpdfdillaaW.PrintWords Go.Proofs.YtcdpmmpdfdillaaW.PrintLast
set_option linter.unusedVariables false
theorem wrap_nat (i : Nat) (h : i < 4611686018427387904) : wrap64 ((i : Int) + 1) = ((i + 1 : Nat) : Int) := by unfold wrap64; omega
theorem wrap_id (x : Int) (h0 : -9223372036854775808 ≤ x) (h1 : x ≤ 9223372036854775807) : wrap64 x = x := by unfold wrap64; omega
theorem Ev.bind_some {α β : Type} {g : Option α} {f : Nat → α → Option β} {a : α} {r : β} (h : g = some a) (k : Ev (fun n => f n a) r) : Ev (fun n => g.bind (f n)) r := by subst h; exact k
/-- From here on, one round is told. -/
theorem Ev.round {α : Type} {g : Nat → Option α} {f : Nat → Option α} {r : α} (h : ∀ k, g (k + 1) = f k) (k : Ev f r) : Ev g r := Ev.step h k
theorem Ev.if_pos {α : Type} {c : Prop} [Decidable c] {g f : Nat → Option α} {r : α} (h : c) (k : Ev g r) : Ev (fun n => if c then g n else f n) r := by simp only [h, if_true]; exact k
theorem Ev.if_neg {α : Type} {c : Prop} [Decidable c] {g f : Nat → Option α} {r : α} (h : ¬ c) (k : Ev f r) : Ev (fun n => if c then g n else f n) r := by simp only [h, if_false]; exact k
theorem Ev.same {α : Type} {g : Nat → Option α} {r q : α} (h : Ev g r) (h' : Ev g q) : r = q := by
  obtain ⟨a, ha⟩ := h; obtain ⟨b, hb⟩ := h'
  have h1 := ha (max a b) (Nat.le_max_left _ _); have h2 := hb (max a b) (Nat.le_max_right _ _)
  rw [h1] at h2; exact Option.some.inj h2
/-- What was filled so far, and what is still nought. -/
theorem set_fill {α : Type} (done : List α) (z x : α) (m : Nat) : (done ++ List.replicate (m + 1) z).set done.length x = (done ++ [x]) ++ List.replicate m z := by
  rw [List.set_append_right _ _ (Nat.le_refl _)]; simp [List.replicate_succ]
end Go.Proofs.Ytcdpmmpdfdillaa.Q

namespace Go.Proofs.Ytcdpmmpdfdillaa.Q
open Go.RowKit Go.Proofs.YtcdpmmpdfdillaaW.PrintWords Go.Proofs.YtcdpmmpdfdillaaW.PrintLast
set_option linter.unusedVariables false
set_option linter.unusedSimpArgs false
/-- The state of a reading: its text, the place, how many are open. -/
def St (w : World) (g : Nat) (p : ByteArray) (i o : Int) : Prop := w.heap[g]? = some (.cells #[.string p, .int .i64 i, .int .i64 o] 77 (0, 0))
def flt (c a : Int) : List PanicEntry := [{ v := .iface 39 (.agg #[.int .i64 c, .int .i64 a]), recovered := false }]
theorem St.c0 {w : World} {g : Nat} {p : ByteArray} {i o : Int} (h : St w g p i o) : w.cell? ⟨g, 0, none⟩ = some (.string p) := cell_of_row _ g 0 _ 77 _ h
theorem St.c1 {w : World} {g : Nat} {p : ByteArray} {i o : Int} (h : St w g p i o) : w.cell? ⟨g, 1, none⟩ = some (.int .i64 i) := cell_of_row _ g 1 _ 77 _ h
theorem St.c2 {w : World} {g : Nat} {p : ByteArray} {i o : Int} (h : St w g p i o) : w.cell? ⟨g, 2, none⟩ = some (.int .i64 o) := cell_of_row _ g 2 _ 77 _ h
theorem St.fr {w : World} {g : Nat} {p : ByteArray} {i o : Int} (h : St w g p i o) (j : Nat) : w.frozen? ⟨g, j, none⟩ = false := by
  unfold World.frozen?; rw [h]; simp
theorem st_drewN {w : World} {g n : Nat} {p : ByteArray} {i o : Int} (h : St w g p i o) : St (w.drewN n) g p i o := blk_drewN h n
theorem st_drew {w : World} {g : Nat} {p : ByteArray} {i o : Int} (h : St w g p i o) : St w.drew g p i o := blk_drew h
theorem st_alloc {w : World} {g : Nat} {b : Obj} {p : ByteArray} {i o : Int} (h : St w g p i o) : St (w.alloc b) g p i o := blk_alloc h b
theorem st_set1 {w : World} {g : Nat} {p : ByteArray} {i j o : Int} (h : St w g p i o) : St (w.setCell ⟨g, 1, none⟩ (.int .i64 j)) g p j o := by have := bk_put (j := 1) h (.int .i64 j); simpa [St] using this
theorem st_set2 {w : World} {g : Nat} {p : ByteArray} {i j o : Int} (h : St w g p i o) : St (w.setCell ⟨g, 2, none⟩ (.int .i64 j)) g p i j := by have := bk_put (j := 2) h (.int .i64 j); simpa [St] using this
theorem stt {w W : World} {g : Nat} {p : ByteArray} {i o j q : Int} (h : Aside0 (St w g p i o)) (k : St w g p i o → St W g p j q := by intro h_; (repeat (first | exact h_ | apply st_drewN | apply st_drew | apply st_set1 | apply st_set2 | apply st_alloc))) : St W g p j q := k h.out
def RP {α : Type} (r : Except (Int × Int) α) (ok : α → Prop) (bad : Int → Int → Prop) : Prop := match r with | .ok a => ok a | .error (c, a) => bad c a
def chF (p : ByteArray) (i : Int) : Except (Int × Int) (Int × Int) :=
  if i < p.size ∧ bt p i = 92 then (if i + 1 = p.size then .error (2, i + 1) else .ok (bt p (i + 1), i + 2))
  else if i = p.size ∨ bt p i = 93 ∨ bt p i = 45 then .error (2, i) else .ok (bt p i, i + 1)
theorem run_pn (t : TypeId) (x : Value) (w : World) : (Instr.panic (.iface t x)).run Try.prog w = .halt (.panic (.iface t x)) w := rfl
theorem fail_calls (v : Value) (c a : Int) (w : World) : Calls Try.prog 36 #[v, .int .i64 c, .int .i64 a] w fun e w' => e = .panicked (flt c a) ∧ w' = w := by
  have hp := run_pn
  go_enter Try.func36, Try.ntmps36
  go_wp2
  exact ⟨rfl, rfl, rfl⟩
set_option maxHeartbeats 1000000 in
theorem ch_calls (g : Nat) (p : ByteArray) (i o : Int) (w : World) (hs : St w g p i o) (h0 : 0 ≤ i) (h1 : i ≤ p.size) (hp : p.size ≤ 200) :
    Calls Try.prog 53 #[.pointer (some ⟨g, 0, none⟩)] w fun e w' => RP (chF p i) (fun x => e = .returned (.int .u8 x.1) ∧ St w' g p x.2 o ∧ Bx w.heap.size g w w') (fun c a => e = .panicked (flt c a) ∧ Bx w.heap.size g w w') := by
  have c0 := hs.c0
  have c1 := hs.c1
  have f1 := hs.fr 1
  have kr : K0 (Bx w.heap.size g w w) := ⟨Bx.refl _ _ _⟩
  have HS := Aside0.mk hs
  clear hs
  by_cases hlt : i < p.size
  · by_cases hb : bt p i = 92
    · by_cases he : i + 1 = p.size
      · have hr : chF p i = .error (2, i + 1) := by unfold chF; rw [if_pos ⟨hlt, hb⟩, if_pos he]
        rw [hr]
        have d1 : decide (i < (p.size : Int)) = true := decide_eq_true hlt
        have hx := bt_at p i
        have d2 : (bt p i == 92) = true := beq_iff_eq.mpr hb
        have d3 : (i + 1 == (p.size : Int)) = true := beq_iff_eq.mpr he
        clear hb he hr
        go_enter Try.func53, Try.ntmps53
        go_wp2
        go_quiet (fail)
        go_wp2
        go_quiet (fail)
        go_wp2_with fail
        go_at_call 36
        refine (fail_calls _ _ _ _).mono ?_
        rintro e w' ⟨rfl, rfl⟩
        exact ⟨rfl, rfl, kk⟩
      · have hr : chF p i = .ok (bt p (i + 1), i + 2) := by unfold chF; rw [if_pos ⟨hlt, hb⟩, if_neg he]
        rw [hr]
        have d1 : decide (i < (p.size : Int)) = true := decide_eq_true hlt
        have hx := bt_at p i
        have hx1 := bt_at p (i + 1)
        have d2 : (bt p i == 92) = true := beq_iff_eq.mpr hb
        have d3 : (i + 1 == (p.size : Int)) = false := beq_eq_false_iff_ne.mpr he
        have h2 : i + 1 < (p.size : Int) := by omega
        clear hb he hr
        go_enter Try.func53, Try.ntmps53
        go_wp2
        go_quiet (fail)
        go_wp2
        go_quiet (fail)
        go_wp2
        go_quiet (fail)
        go_wp2
        go_ret
        exact ⟨rfl, (show i + 2 = i + 1 + 1 by omega) ▸ stt HS, kk⟩
    · have d1 : decide (i < (p.size : Int)) = true := decide_eq_true hlt
      have hx := bt_at p i
      have d2 : (bt p i == 92) = false := beq_eq_false_iff_ne.mpr hb
      have d4 : (i == (p.size : Int)) = false := beq_eq_false_iff_ne.mpr (by omega)
      by_cases h5 : bt p i = 93
      · have hr : chF p i = .error (2, i) := by unfold chF; rw [if_neg (by omega), if_pos (by omega)]
        rw [hr]
        have d5 : (bt p i == 93) = true := beq_iff_eq.mpr h5
        clear hb hr h5
        go_enter Try.func53, Try.ntmps53
        go_wp2
        go_quiet (fail)
        go_wp2
        go_quiet (fail)
        go_wp2_with fail
        go_at_call 36
        refine (fail_calls _ _ _ _).mono ?_
        rintro e w' ⟨rfl, rfl⟩
        exact ⟨rfl, rfl, kk⟩
      · have d5 : (bt p i == 93) = false := beq_eq_false_iff_ne.mpr h5
        by_cases h6 : bt p i = 45
        · have hr : chF p i = .error (2, i) := by unfold chF; rw [if_neg (by omega), if_pos (by omega)]
          rw [hr]
          have d6 : (bt p i == 45) = true := beq_iff_eq.mpr h6
          clear hb hr h5 h6
          go_enter Try.func53, Try.ntmps53
          go_wp2
          go_quiet (fail)
          go_wp2
          go_quiet (fail)
          go_wp2_with fail
          go_at_call 36
          refine (fail_calls _ _ _ _).mono ?_
          rintro e w' ⟨rfl, rfl⟩
          exact ⟨rfl, rfl, kk⟩
        · have hr : chF p i = .ok (bt p i, i + 1) := by unfold chF; rw [if_neg (by omega), if_neg (by omega)]
          rw [hr]
          have d6 : (bt p i == 45) = false := beq_eq_false_iff_ne.mpr h6
          clear hb hr h5 h6
          go_enter Try.func53, Try.ntmps53
          go_wp2
          go_quiet (fail)
          go_wp2
          go_quiet (fail)
          go_wp2
          go_quiet (fail)
          go_wp2
          go_ret
          exact ⟨rfl, stt HS, kk⟩
  · have hr : chF p i = .error (2, i) := by unfold chF; rw [if_neg (by omega), if_pos (by omega)]
    rw [hr]
    have d1 : decide (i < (p.size : Int)) = false := decide_eq_false hlt
    have d4 : (i == (p.size : Int)) = true := beq_iff_eq.mpr (by omega)
    clear hr
    go_enter Try.func53, Try.ntmps53
    go_wp2
    go_quiet (fail)
    go_wp2
    go_quiet (fail)
    go_wp2_with fail
    go_at_call 36
    refine (fail_calls _ _ _ _).mono ?_
    rintro e w' ⟨rfl, rfl⟩
    exact ⟨rfl, rfl, kk⟩
end Go.Proofs.Ytcdpmmpdfdillaa.Q

namespace Go.Proofs.Ytcdpmmpdfdillaa.Q
open Go.RowKit Go.Proofs.YtcdpmmpdfdillaaW.PrintWords Go.Proofs.YtcdpmmpdfdillaaW.PrintLast
set_option linter.unusedVariables false
set_option linter.unusedSimpArgs false
/-- The cells of a node for one byte: its set, its byte, whether it stands for itself. -/
def oneA (s : List Bool) (b : Int) (pl : Bool) : Array Value := (s.map Value.bool ++ [Value.int .u8 b, Value.bool pl]).toArray
def noB : List Bool := List.replicate 256 false
theorem oneA_size (s : List Bool) (b : Int) (pl : Bool) (h : s.length = 256) : (oneA s b pl).size = 258 := by simp [oneA, h]
theorem oneA_one (s : List Bool) (b : Int) (pl : Bool) : (oneA s b pl).all (·.oneCell') = true := by
  rw [Array.all_eq_true_iff_forall_mem]
  intro v hv
  simp only [oneA, List.mem_toArray, List.mem_append, List.mem_map] at hv
  rcases hv with ⟨x, _, rfl⟩ | h
  · rfl
  · rcases List.mem_cons.mp h with rfl | h
    · rfl
    · rcases List.mem_cons.mp h with rfl | h
      · rfl
      · cases h
theorem oneA_set (s : List Bool) (b : Int) (pl : Bool) (h : s.length = 256) (j : Nat) (hj : j < 256) (x : Bool) : (oneA s b pl).setIfInBounds j (.bool x) = oneA (s.set j x) b pl := by
  unfold oneA
  rw [List.setIfInBounds_toArray, List.set_append_left _ _ (by simp [h]; omega), List.map_set]
theorem oneA_at (s : List Bool) (b : Int) (pl : Bool) (h : s.length = 256) (j : Nat) (hj : j < 256) : (oneA s b pl)[j]? = some (.bool (s.getD j false)) := by
  simp [oneA, List.getElem?_append, h, hj, List.getD]
theorem zero87 (w : World) : (zeroValue 82).run Try.prog w = .ok (.agg (oneA noB 0 false)) w := by kernel_rfl
theorem info87 : (Try.prog.info? 82).map (·.size) = some 258 := by kernel_rfl
theorem run_one (b : Int) (pl : Bool) (w : World) : (Instr.build 82 #[(1, .int .u8 b), (2, .bool pl)]).run Try.prog w = .ok (.agg (oneA noB b pl)) w := by kernel_rfl
attribute [irreducible] oneA
attribute [local go_sem high] zero87
theorem wpList_one {ops : Array Oper} {rest : List Oper} {o : Oper} {a : Act} {w : World} {Q : Exit → Act → World → Prop} (hg : o.guard = none) (x y : Operand) (ho : o.op = .build 82 #[(1, x), (2, y)]) (b : Int) (pl : Bool)
    (hx : a.eval x = .int .u8 b) (hy : a.eval y = .bool pl) (h : wpList Try.prog ops Q rest (a.put o.dst (.agg (oneA noB b pl))) w) : wpList Try.prog ops Q (o :: rest) a w :=
  wpList_plain hg fun K hK => by
    unfold Oper.wp execOp
    have e := run_one b pl w
    simp only [ho, List.map_toArray, List.map_cons, List.map_nil, hx, hy, Sem.run_bind, e, Result.andThen_ok]
    exact hK _ _ h
theorem setRow_alloc (w : World) (A B : Array Value) (t : TypeId) : (w.alloc (.cells A t)).setRow w.heap.size B = w.alloc (.cells B t) := by
  have hm : ∀ (h : Array Obj) (x : Obj) (f : Obj → Obj), (h.push x).modify h.size f = h.push (f x) := by
    intro h x f
    apply Array.ext
    · simp
    · intro i h1 h2
      simp only [Array.getElem_modify, Array.getElem_push]
      split <;> rename_i e <;> simp at * <;> first | (subst e; simp) | (split <;> first | rfl | omega)
  show World.mk _ _ _ _ _ = World.mk _ _ _ _ _
  congr 1
  exact hm _ _ _
theorem below_setRow {B : Nat} {w W : World} {g : Nat} {cs : Array Value} (h : Below B w W) (hg : B ≤ g) : Below B w (W.setRow g cs) :=
  ⟨h.os, h.tape, h.output, by rw [size_setRow]; exact h.size, fun i hi => by
    rw [← h.block i hi]
    unfold World.setRow
    simp only [Array.getElem?_modify]
    rw [if_neg (by omega)]⟩
theorem oneA_bd (s : List Bool) (b : Int) (pl : Bool) (h : s.length = 256) (c : Int) (h0 : 0 ≤ c) (h1 : c < 256) : c.toNat < (oneA s b pl).size := by rw [oneA_size _ _ _ h]; omega
set_option maxHeartbeats 1000000 in
set_option maxRecDepth 100000 in
theorem single_calls (c : Int) (h0 : 0 ≤ c) (h1 : c < 256) (w : World) :
    Calls Try.prog 51 #[.int .u8 c] w fun e w' => e = .returned (.agg (oneA (noB.set c.toNat true) c true)) ∧ Below w.heap.size w w' := by
  have hn : noB.length = 256 := by simp [noB]
  have hsz : (Try.prog.info? 82).map (·.size) = some (oneA noB c true).size := by rw [oneA_size _ _ _ hn]; exact info87
  have hsz0 : (oneA noB 0 false).size = (oneA noB c true).size := by rw [oneA_size _ _ _ hn, oneA_size _ _ _ hn]
  have hone := oneA_one noB c true
  go_enter Try.func51, Try.ntmps51
  go_upto_region 2 with (first | (refine wpList_one rfl _ _ rfl c true rfl rfl ?_) | (refine wpList_store_row rfl 82 (.tmp 3) (.tmp 5) rfl (w.heap.size + 1) (oneA noB c true) rfl rfl 82 (oneA noB 0 false) (by first | exact new1 _ _ _ | (rw [show Try.zeroCells82 = oneA noB 0 false from by kernel_rfl]; exact new1 _ _ _)) hsz hsz0 hone ?_))
  try rw [show Try.zeroCells82 = oneA noB 0 false from by kernel_rfl]
  have e := setRow_alloc (w.alloc (.cells (oneA noB 0 false) 82)) (oneA noB 0 false) (oneA noB c true) 82
  rw [sz_al] at e
  rw [e]
  clear e
  have hb := oneA_bd noB c true hn c h0 h1
  go_upto_region 3 with (fail)
  rw [oneA_set noB c true hn c.toNat (by omega) true]
  have hn2 : (noB.set c.toNat true).length = 256 := by rw [List.length_set]; exact hn
  have hsz2 : (Try.prog.info? 82).map (·.size) = some (oneA (noB.set c.toNat true) c true).size := by rw [oneA_size _ _ _ hn2]; exact info87
  have hsz3 : (oneA noB 0 false).size = (oneA (noB.set c.toNat true) c true).size := by rw [oneA_size _ _ _ hn, oneA_size _ _ _ hn2]
  have hone2 := oneA_one (noB.set c.toNat true) c true
  have hg0 : ((w.alloc (.cells (oneA noB 0 false) 82)).alloc (.cells (oneA (noB.set c.toNat true) c true) 82)).heap[w.heap.size]? = some (.cells (oneA noB 0 false) 82 (0, 0)) := by
    rw [heap_alloc_old _ _ (by rw [sz_al]; omega)]; exact heap_alloc_new _ _
  have hg1 := setRow_heap _ w.heap.size _ (oneA (noB.set c.toNat true) c true) 82 (0, 0) hg0
  have HG := Aside0.mk hg1
  clear hg1 hb hsz hsz0 hone
  go_wp2_with (first | (refine wpList_load_row rfl 82 (.tmp 3) rfl (w.heap.size + 1) rfl 82 (oneA (noB.set c.toNat true) c true) (0, 0) _ (new1 _ _ _) Try.underlying82 rfl hsz2 ?_) | (refine wpList_store_row rfl 82 (.tmp 2) (.tmp 9) rfl w.heap.size (oneA (noB.set c.toNat true) c true) rfl rfl 82 (oneA noB 0 false) hg0 hsz2 hsz3 hone2 ?_))
  refine bodyPost_ret (results_cell_row rfl _ _ w.heap.size 82 _ (0, 0) _ rfl HG.out Try.underlying82 rfl hsz2) rfl ⟨rfl, ?_⟩
  exact below_setRow (below_alloc (below_alloc (Below.refl _ _) _) _) (Nat.le_refl _)
end Go.Proofs.Ytcdpmmpdfdillaa.Q

namespace Go.Proofs.Ytcdpmmpdfdillaa.Q
open Go.RowKit Go.Proofs.YtcdpmmpdfdillaaW.PrintWords Go.Proofs.YtcdpmmpdfdillaaW.PrintLast
set_option linter.unusedVariables false
set_option linter.unusedSimpArgs false
attribute [local go_sem high] zero87
def setN (s : List Bool) (lo : Int) : Nat → List Bool
  | 0 => s
  | n + 1 => (setN s lo n).set (lo + n).toNat true
def setR (s : List Bool) (lo hi : Int) : List Bool := setN s lo (hi + 1 - lo).toNat
def clsF : Nat → ByteArray → Int → Bool → List Bool → Option (Except (Int × Int) (List Bool × Int))
  | 0, _, _, _, _ => none
  | k + 1, p, i, first, s =>
    if first = true ∨ i = p.size ∨ bt p i ≠ 93 then
      match chF p i with
      | .error x => some (.error x)
      | .ok (lo, j) =>
        if j < p.size ∧ bt p j = 45 then
          match chF p (j + 1) with
          | .error x => some (.error x)
          | .ok (hi, m) => if lo > hi then some (.error (4, i)) else clsF k p m false (setR s lo hi)
        else clsF k p j false (setR s lo lo)
    else some (.ok (s, i))
def notQ (p : ByteArray) (i : Int) : Bool := decide (i < p.size) && (bt p i == 94)
def notI (p : ByteArray) (i : Int) : Int := if notQ p i then i + 1 else i
def claF (k : Nat) (p : ByteArray) (i : Int) : Option (Except (Int × Int) (List Bool × Int)) :=
  (clsF k p (notI p i) true noB).map fun r => r.map fun x => (if notQ p i then x.1.map (!·) else x.1, x.2 + 1)
theorem setN_len (s : List Bool) (lo : Int) : ∀ n, (setN s lo n).length = s.length
  | 0 => rfl
  | n + 1 => by simp [setN, setN_len s lo n]
theorem chF_ok {p : ByteArray} {i c j : Int} (h : chF p i = .ok (c, j)) (h0 : 0 ≤ i) (h1 : i ≤ p.size) : 0 ≤ c ∧ c ≤ 255 ∧ i < j ∧ j ≤ p.size := by
  unfold chF at h
  have r0 := bt_range p i
  have r1 := bt_range p (i + 1)
  split at h
  · split at h
    · cases h
    · cases h; omega
  · split at h
    · cases h
    · cases h; omega
theorem noB_len : noB.length = 256 := by unfold noB; exact List.length_replicate
theorem lt_of_some {w : World} {g : Nat} {b : Obj} (h : w.heap[g]? = some b) : g < w.heap.size := (Array.getElem?_eq_some_iff.mp h).1
theorem st_far {w : World} {g x j : Nat} {v : Value} {p : ByteArray} {i o : Int} (h : St w g p i o) (hx : g ≠ x) : St (w.setCell ⟨x, j, none⟩ v) g p i o := blk_far h hx v
/-- The row of a class under way. -/
def Row (w : World) (x : Nat) (s : List Bool) : Prop := w.heap[x]? = some (.cells (oneA s 0 false) 82 (0, 0))
def cndB (n : Int) (p : ByteArray) (i : Int) : Bool := decide (n = 0) || (decide (i = p.size) || decide (bt p i ≠ 93))
theorem cndB_iff (n : Int) (p : ByteArray) (i : Int) : (cndB n p i = true) ↔ (decide (n = 0) = true ∨ i = p.size ∨ bt p i ≠ 93) := by unfold cndB; simp
theorem Row.cell {w : World} {x : Nat} {s : List Bool} (h : Row w x s) (hl : s.length = 256) (j : Nat) (hj : j < 256) : w.cell? ⟨x, j, none⟩ = some (.bool (s.getD j false)) := by
  unfold World.cell?; rw [h]; simp [oneA_at s 0 false hl j hj]
theorem Row.fr {w : World} {x : Nat} {s : List Bool} (h : Row w x s) (j : Nat) : w.frozen? ⟨x, j, none⟩ = false := by
  unfold World.frozen?; rw [h]; simp
theorem Row.set {w : World} {x : Nat} {s : List Bool} (h : Row w x s) (hl : s.length = 256) (j : Nat) (hj : j < 256) (b : Bool) : Row (w.setCell ⟨x, j, none⟩ (.bool b)) x (s.set j b) := by
  have := bk_put (j := j) h (.bool b)
  rwa [oneA_set s 0 false hl j hj b] at this
theorem Row.far {w : World} {g x j : Nat} {v : Value} {s : List Bool} (h : Row w x s) (hx : x ≠ g) : Row (w.setCell ⟨g, j, none⟩ v) x s := blk_far h hx v
theorem Row.drewN {w : World} {x : Nat} {s : List Bool} (h : Row w x s) (n : Nat) : Row (w.drewN n) x s := blk_drewN h n
theorem Row.of {w w' : World} {g x : Nat} {s : List Bool} (h : Row w x s) (hb : Bx w.heap.size g w w') (hx : x ≠ g) : Row w' x s := by
  unfold Row at *; rw [hb.block x (lt_of_some h) hx]; exact h
def invTo (k : Nat) (s : List Bool) : List Bool := (s.take k).map (!·) ++ s.drop k
theorem invTo_succ (k : Nat) (s : List Bool) (h : k < s.length) : (invTo k s).set k (!(s.getD k false)) = invTo (k + 1) s := by
  apply List.ext_getElem?
  intro j
  unfold invTo
  rw [List.getElem?_set]
  by_cases e : k = j
  · subst e
    have hl : k < ((s.take k).map (!·) ++ s.drop k).length := by simp; omega
    rw [if_pos rfl, if_pos hl, List.getElem?_append_left (by simp; omega)]
    simp [List.getElem?_take, h]
  · rw [if_neg e]
    by_cases e2 : j < k
    · rw [List.getElem?_append_left (by simp; omega), List.getElem?_append_left (by simp; omega)]
      simp [List.getElem?_take, e2, show j < k + 1 by omega]
    · rw [List.getElem?_append_right (by simp; omega), List.getElem?_append_right (by simp; omega)]
      simp
      congr 1; omega
theorem invTo_get (k : Nat) (s : List Bool) (h : k < s.length) : (invTo k s).getD k false = s.getD k false := by
  unfold invTo
  simp only [List.getD_eq_getElem?_getD]
  rw [List.getElem?_append_right (by simp; omega)]
  simp [Nat.min_eq_left (Nat.le_of_lt h)]
theorem invTo_len (k : Nat) (s : List Bool) : (invTo k s).length = s.length := by unfold invTo; simp; omega
theorem invTo_all (s : List Bool) : invTo s.length s = s.map (!·) := by unfold invTo; simp
theorem bt_end (p : ByteArray) : bt p (p.size : Int) = 0 := by unfold bt; rw [dif_neg (by omega)]
def dshB (p : ByteArray) (i : Int) : Bool := decide (i < p.size) && (bt p i == 45)
theorem claF_err {k : Nat} {p : ByteArray} {i : Int} {r : Except (Int × Int) (List Bool × Int)} (h : claF k p i = some r) : ∃ q, clsF k p (notI p i) true noB = some q ∧ q.map (fun x => (if notQ p i then x.1.map (!·) else x.1, x.2 + 1)) = r := by
  unfold claF at h
  cases e : clsF k p (notI p i) true noB with
  | none => rw [e] at h; cases h
  | some q => rw [e] at h; exact ⟨q, rfl, Option.some.inj h⟩
set_option maxHeartbeats 4000000 in
set_option maxRecDepth 100000 in
theorem class_calls (k : Nat) (g : Nat) (p : ByteArray) (i o : Int) (w : World) (hs : St w g p i o) (h0 : 0 ≤ i) (h1 : i ≤ p.size) (hp : p.size ≤ 200) (r : Except (Int × Int) (List Bool × Int)) (h : claF k p i = some r) :
    Calls Try.prog 50 #[.pointer (some ⟨g, 0, none⟩)] w fun e w' => RP r (fun x => e = .returned (.iface 82 (.agg (oneA x.1 0 false))) ∧ St w' g p x.2 o ∧ Bx w.heap.size g w w') (fun c a => e = .panicked (flt c a) ∧ Bx w.heap.size g w w') := by
  have c0 := hs.c0
  have c1 := hs.c1
  have f1 := hs.fr 1
  have hgl : g < w.heap.size := lt_of_some hs
  have kr : K0 (Bx w.heap.size g w w) := ⟨Bx.refl _ _ _⟩
  have HS := Aside0.mk hs
  have H := Aside0.mk h
  clear hs h
  go_enter Try.func50, Try.ntmps50
  go_upto_region 2 with (fail)
  have hst : St (w.alloc (.cells (oneA noB 0 false) 82)) g p i o := stt HS
  have hrow : Row (w.alloc (.cells (oneA noB 0 false) 82)) w.heap.size noB := heap_alloc_new _ _
  have hbx : Bx w.heap.size g w (w.alloc (.cells (oneA noB 0 false) 82)) := kk
  have c0 := hst.c0
  have c1 := hst.c1
  have f1 := hst.fr 1
  try rw [show Try.zeroCells82 = oneA noB 0 false from by kernel_rfl]
  generalize w.alloc (.cells (oneA noB 0 false) 82) = wa at *
  go_cut [4] (fun v4 wc => v4 = .bool (notQ p i) ∧ ∃ m, wc = wa.drewN m)
  case first =>
    by_cases hlt : i < p.size
    · have d1 : decide (i < (p.size : Int)) = true := decide_eq_true hlt
      have hx := bt_at p i
      cases hb : bt p i == 94
      · have hn : notQ p i = false := by unfold notQ; rw [hb]; simp
        go_quiet (fail)
        go_wp2
        go_meet
        case rel => exact ⟨by rw [hn], _, rfl⟩
      · have hn : notQ p i = true := by unfold notQ; rw [hb, d1]; rfl
        go_quiet (fail)
        go_wp2
        go_meet
        case rel => exact ⟨by rw [hn], _, rfl⟩
    · have d1 : decide (i < (p.size : Int)) = false := decide_eq_false hlt
      have hn : notQ p i = false := by unfold notQ; rw [d1]; rfl
      go_quiet (fail)
      go_wp2
      go_meet
      case rel => exact ⟨by rw [hn], _, rfl⟩
  case rest =>
    obtain ⟨rfl, m, rfl⟩ := hcut
    obtain ⟨q, hq, hqr⟩ := claF_err H.out
    have HQ := Aside0.mk hq
    have HR := Aside0.mk hqr
    clear hq hqr H
    generalize hnt : notQ p i = nt at HR ⊢
    have HNT := Aside0.mk hnt
    clear hnt
    clear c0 c1 f1
    have c0 := hst.c0
    have c1 := hst.c1
    have f1 := hst.fr 1
    have HST := Aside0.mk hst
    have HROW := Aside0.mk hrow
    have ka : K0 (Bx w.heap.size g w wa) := ⟨hbx⟩
    clear hst hrow hbx
    have hgx : w.heap.size ≠ g := by omega
    have HGX := Aside0.mk hgx
    clear hgx
    have hni : 0 ≤ notI p i ∧ notI p i ≤ p.size := by
      unfold notI; split
      · rename_i hh; unfold notQ at hh; simp at hh; omega
      · omega
    have HNI := Aside0.mk hni
    clear hni
    go_upto_if 33 with (fail)
    go_cut [] (fun wc => Aside0 (St wc g p (notI p i) o) ∧ Aside0 (Row wc w.heap.size noB) ∧ Aside0 (Bx w.heap.size g w wc))
    case first =>
      cases nt
      · have e : notI p i = i := by unfold notI; rw [HNT.out]; rfl
        have E := Aside0.mk e
        clear e
        go_wp2
        go_meet
        case rel => exact ⟨⟨by rw [E.out]; exact stt HST⟩, ⟨HROW.out.drewN _⟩, ⟨kk⟩⟩
      · have e : notI p i = i + 1 := by unfold notI; rw [HNT.out]; rfl
        have hlt : i < p.size := by have hb := HNT.out; unfold notQ at hb; simp at hb; omega
        have E := Aside0.mk e
        clear e
        go_wp2
        go_meet
        case rel => exact ⟨⟨by rw [E.out]; exact stt HST⟩, ⟨(HROW.out.drewN _).far HGX.out⟩, ⟨kk⟩⟩
    case rest =>
      obtain ⟨HST2, HROW2, HB2⟩ := hcut
      clear c0 c1 f1 ka HST HROW
      go_upto_region 6 with (fail)
      go_loopg [5] k (fun kq v5 W => ∃ (n j : Int) (s : List Bool), v5 = .int .i64 n ∧ Aside0 (clsF kq p j (decide (n = 0)) s = some q) ∧ Aside0 (kq ≤ k) ∧ Aside0 (0 ≤ n ∧ n ≤ j ∧ 0 ≤ j ∧ j ≤ p.size ∧ s.length = 256) ∧ Aside0 (St W g p j o) ∧ Aside0 (Row W w.heap.size s) ∧ Aside0 (Bx w.heap.size g w W))
      case atStart => exact ⟨0, notI p i, noB, rfl, HQ, ⟨Nat.le_refl _⟩, ⟨by omega, HNI.out.1, HNI.out.1, HNI.out.2, noB_len⟩, HST2, HROW2, HB2⟩
      case round =>
        clear HST2 HROW2 HB2 HQ
        obtain ⟨n, j, s, rfl, HA, HK, HN, HST, HROW, HB⟩ := hrel
        cases gk with
        | zero => exact absurd HA.out (by simp [clsF])
        | succ k1 =>
        have c0 := HST.out.c0
        have c1 := HST.out.c1
        have f1 := HST.out.fr 1
        have n0 := HN.out.1
        have n1 := HN.out.2.1
        have j0 := HN.out.2.2.1
        have j1 := HN.out.2.2.2.1
        have kw : K0 (Bx w.heap.size g w wr) := ⟨HB.out⟩
        go_upto_region 6 with (fail)
        go_cut [66] (fun v66 wc => v66 = .bool (cndB n p j) ∧ ∃ m, wc = wr.drewN m)
        case first =>
          by_cases e1 : n = 0
          · have hc : cndB n p j = true := by unfold cndB; rw [decide_eq_true e1]; rfl
            have d1 : (n == 0) = true := beq_iff_eq.mpr e1
            have HC := Aside0.mk hc
            clear hc e1
            go_quiet (fail)
            go_wp2
            go_meet
            case rel => exact ⟨by rw [HC.out], _, rfl⟩
          · have d1 : (n == 0) = false := beq_eq_false_iff_ne.mpr e1
            by_cases e2 : j = p.size
            · have hc : cndB n p j = true := by unfold cndB; rw [decide_eq_true e2]; simp
              have d2 : (j == (p.size : Int)) = true := beq_iff_eq.mpr e2
              have HC := Aside0.mk hc
              clear hc e1 e2
              go_quiet (fail)
              go_wp2
              go_meet
              case rel => exact ⟨by rw [HC.out], _, rfl⟩
            · have d2 : (j == (p.size : Int)) = false := beq_eq_false_iff_ne.mpr e2
              have j2 : j < p.size := by omega
              have hx := bt_at p j
              have hc : cndB n p j = (bt p j != 93) := by
                unfold cndB; rw [decide_eq_false e1, decide_eq_false e2]
                by_cases e3 : bt p j = 93 <;> simp [e3]
              have HC := Aside0.mk hc
              clear hc e1 e2
              go_quiet (fail)
              go_wp2
              go_meet
              case rel => exact ⟨by rw [HC.out], _, rfl⟩
        case rest =>
          obtain ⟨rfl, m, rfl⟩ := hcut
          have hA := HA.out
          simp only [clsF, ← cndB_iff] at hA
          generalize hcb : cndB n p j = cb at hA ⊢
          have HCB := Aside0.mk hcb
          clear hcb
          cases cb
          · obtain rfl := Option.some.inj hA
            have hj : j < p.size := by
              have := HCB.out
              unfold cndB at this
              simp at this; omega
            have hr := HR.out
            simp only [Except.map] at hr
            subst hr
            have hsl := HN.out.2.2.2.2
            have HSL := Aside0.mk hsl
            have HST1 := Aside0.mk (st_drewN (n := m) HST.out)
            have HROW1 := Aside0.mk (HROW.out.drewN m)
            have hb1 : Bx w.heap.size g w (wr.drewN m) := kk
            have HCB2 := HCB
            clear hsl HA HN HST HROW HB kw hA HCB HK n1
            generalize wr.drewN m = wx at *
            have kw : K0 (Bx w.heap.size g w wx) := ⟨hb1⟩
            have c0 := HST1.out.c0
            have c1 := HST1.out.c1
            have f1 := HST1.out.fr 1
            clear hb1
            go_upto_if 131 with (fail)
            go_cut [] (fun wc => Aside0 (St wc g p (j + 1) o) ∧ Aside0 (Row wc w.heap.size (if nt = true then s.map (!·) else s)) ∧ Aside0 (Bx w.heap.size g w wc))
            case first =>
              have hs2 : St (wx.setCell ⟨g, 1, none⟩ (.int .i64 (j + 1))) g p (j + 1) o := stt HST1
              have hr2 : Row (wx.setCell ⟨g, 1, none⟩ (.int .i64 (j + 1))) w.heap.size s := HROW1.out.far HGX.out
              have hx2 : Bx w.heap.size g w (wx.setCell ⟨g, 1, none⟩ (.int .i64 (j + 1))) := kk
              have HS2 := Aside0.mk hs2
              have HR2 := Aside0.mk hr2
              have HX2 := Aside0.mk hx2
              clear hs2 hr2 hx2 c0 c1 f1 kw HST1 HROW1
              cases nt
              · go_wp2
                go_meet
                case rel => exact ⟨HS2, HR2, HX2⟩
              · go_upto_region 23 with (fail)
                generalize wx.setCell ⟨g, 1, none⟩ (.int .i64 (j + 1)) = wy at *
                go_loopg [132] 256 (fun kq v W => ∃ b : Nat, v = .int .i64 b ∧ Aside0 (b + kq = 256) ∧ Aside0 (St W g p (j + 1) o) ∧ Aside0 (Row W w.heap.size (invTo b s)) ∧ Aside0 (Bx w.heap.size g w W))
                case atStart => exact ⟨0, rfl, ⟨rfl⟩, HS2, ⟨by unfold invTo; simpa using HR2.out⟩, HX2⟩
                case round =>
                  clear HS2 HR2 HX2
                  obtain ⟨b, rfl, HE, HST, HROW, HB⟩ := hrel
                  have kb : K0 (Bx w.heap.size g w wr) := ⟨HB.out⟩
                  have hl2 : (invTo b s).length = 256 := by rw [invTo_len]; exact HSL.out
                  have HL2 := Aside0.mk hl2
                  clear hl2
                  cases gk with
                  | zero =>
                    obtain rfl : b = 256 := by have := HE.out; omega
                    go_wp2
                    go_meet
                    case rel => exact ⟨HST, ⟨by have e := invTo_all s; rw [HSL.out] at e; have h := HROW.out; rw [e] at h; simpa using h⟩, HB⟩
                  | succ kq =>
                    have hb : b < 256 := by have := HE.out; omega
                    have hcl := HROW.out.cell HL2.out b hb
                    have e0 : (invTo b s).getD b false = s.getD b false := invTo_get b s (by rw [HSL.out]; exact hb)
                    rw [e0] at hcl
                    have hfr := HROW.out.fr b
                    have kx : K0 (w.heap.size ≤ w.heap.size) := ⟨Nat.le_refl _⟩
                    have hset := HROW.out.set HL2.out b hb (!(s.getD b false))
                    rw [invTo_succ b s (by rw [HSL.out]; exact hb)] at hset
                    have HSET := Aside0.mk hset
                    clear e0 hset
                    generalize s.getD b false = sb at *
                    go_wp2
                    go_roundg kq
                    case measure => omega
                    case rel => exact ⟨b + 1, by go_num, ⟨by have := HE.out; omega⟩, ⟨st_far HST.out (Ne.symm HGX.out)⟩, HSET, ⟨kk⟩⟩
            case rest =>
              obtain ⟨HST, HROW, HB⟩ := hcut
              have hsz : (Try.prog.info? 82).map (·.size) = some (oneA (if nt = true then s.map (!·) else s) 0 false).size := by
                rw [oneA_size _ _ _ (by split <;> simp [HSL.out])]; exact info87
              have HSZ := Aside0.mk hsz
              clear hsz
              go_wp2_with (refine wpList_load_row rfl 82 (.tmp 3) rfl w.heap.size rfl 82 (oneA (if nt = true then s.map (!·) else s) 0 false) (0, 0) _ HROW.out Try.underlying82 rfl HSZ.out ?_)
              all_goals (go_ret; exact ⟨rfl, HST.out, HB.out⟩)
          · rw [if_pos rfl] at hA
            have HA' := Aside0.mk hA
            clear hA
            go_wp2_with fail
            go_at_call 53
            refine (ch_calls g p j o _ (stt HST) j0 j1 hp).mono ?_
            rintro e w1 hch
            clear c0 c1 f1
            cases hc : chF p j with
            | error x =>
              obtain ⟨c, a⟩ := x
              rw [hc] at hch
              obtain ⟨rfl, hb1⟩ := hch
              have hA := HA'.out
              rw [hc] at hA
              obtain rfl := Option.some.inj hA
              have hr := HR.out
              simp only [Except.map] at hr
              subst hr
              exact ⟨rfl, rfl, (HB.out.trans (Bx.of (pw_below_drewN (Below.refl _ _) _))).trans (hb1.lower (HB.out.size))⟩
            | ok x =>
              obtain ⟨lo, m1⟩ := x
              rw [hc] at hch
              obtain ⟨rfl, hs1, hb1⟩ := hch
              have hA := HA'.out
              rw [hc] at hA
              simp only [] at hA
              have HA2 := Aside0.mk hA
              clear hA HA'
              obtain ⟨l0, l1, m0, m2⟩ := chF_ok hc j0 j1
              have HS1 := Aside0.mk hs1
              have hx1 : Bx w.heap.size g w w1 := (HB.out.trans (Bx.of (pw_below_drewN (Below.refl _ _) _))).trans (hb1.lower (HB.out.size))
              have HROW1 := Aside0.mk (Row.of (HROW.out.drewN _) hb1 HGX.out)
              have c0 := hs1.c0
              have c1 := hs1.c1
              have f1 := hs1.fr 1
              have k1w : K0 (Bx w.heap.size g w w1) := ⟨hx1⟩
              have HN0 := HN.out
              clear hb1 hx1 hc hs1 HST HROW HB kw
              go_upto_region 11 with (fail)
              go_cut [97] (fun v97 wc => v97 = .bool (dshB p m1) ∧ ∃ m, wc = w1.drewN m)
              case first =>
                by_cases e1 : m1 < p.size
                · have d1 : decide (m1 < (p.size : Int)) = true := decide_eq_true e1
                  have hx := bt_at p m1
                  have hc : dshB p m1 = (bt p m1 == 45) := by unfold dshB; rw [d1]; rfl
                  have HC := Aside0.mk hc
                  clear hc
                  have mm : 0 ≤ m1 := by omega
                  go_quiet (fail)
                  go_wp2
                  go_meet
                  case rel => exact ⟨by rw [HC.out], _, rfl⟩
                · have d1 : decide (m1 < (p.size : Int)) = false := decide_eq_false e1
                  have hc : dshB p m1 = false := by unfold dshB; rw [d1]; rfl
                  have HC := Aside0.mk hc
                  clear hc
                  go_quiet (fail)
                  go_wp2
                  go_meet
                  case rel => exact ⟨by rw [HC.out], _, rfl⟩
              case rest =>
                obtain ⟨rfl, m, rfl⟩ := hcut
                have hA := HA2.out
                have hd : (m1 < p.size ∧ bt p m1 = 45) ↔ dshB p m1 = true := by unfold dshB; simp
                simp only [hd] at hA
                generalize hdb : dshB p m1 = db at hA hd ⊢
                have HD := Aside0.mk hd
                have HA3 := Aside0.mk hA
                clear hdb hd hA HA2
                go_upto_if 97 with (fail)
                go_cut [8] (fun v8 wc => ∃ hi m3 : Int, v8 = .int .u8 hi ∧ Aside0 (0 ≤ hi ∧ hi ≤ 255 ∧ m1 ≤ m3 ∧ m3 ≤ p.size) ∧ Aside0 (St wc g p m3 o) ∧ Aside0 (Row wc w.heap.size s) ∧ Aside0 (Bx w.heap.size g w wc) ∧ Aside0 ((if lo > hi then some (.error (4, j)) else clsF k1 p m3 false (setR s lo hi)) = some q))
                case first =>
                  cases db
                  · go_wp2
                    go_meet
                    case rel =>
                      have hA := HA3.out
                      rw [if_neg (by simp)] at hA
                      exact ⟨lo, m1, rfl, ⟨by omega, by omega, by omega, m2⟩, ⟨stt HS1⟩, ⟨HROW1.out.drewN _⟩, ⟨kk⟩, ⟨by rw [if_neg (by omega)]; exact hA⟩⟩
                  · have hA := HA3.out
                    rw [if_pos rfl] at hA
                    have HA4 := Aside0.mk hA
                    have e1 : m1 < p.size := (HD.out.mpr rfl).1
                    have e2 : 0 ≤ m1 + 1 := by omega
                    have e3 : m1 + 1 ≤ p.size := by omega
                    clear hA HA3
                    go_wp2_with fail
                    go_at_call 53
                    refine (ch_calls g p (m1 + 1) o _ (stt HS1) e2 e3 hp).mono ?_
                    rintro e w2 hch
                    have hx2 : Bx w.heap.size g w (((w1.drewN m).setCell ⟨g, 1, none⟩ (.int .i64 (m1 + 1)))) := kk
                    have hr2 : Row ((w1.drewN m).setCell ⟨g, 1, none⟩ (.int .i64 (m1 + 1))) w.heap.size s := (HROW1.out.drewN _).far HGX.out
                    cases hc : chF p (m1 + 1) with
                    | error x =>
                      obtain ⟨c, a⟩ := x
                      rw [hc] at hch
                      obtain ⟨rfl, hb1⟩ := hch
                      have hA := HA4.out
                      rw [hc] at hA
                      obtain rfl := Option.some.inj hA
                      have hr := HR.out
                      simp only [Except.map] at hr
                      subst hr
                      exact ⟨rfl, rfl, hx2.trans (hb1.lower hx2.size)⟩
                    | ok x =>
                      obtain ⟨hi, m3⟩ := x
                      rw [hc] at hch
                      obtain ⟨rfl, hs2, hb1⟩ := hch
                      have hA := HA4.out
                      rw [hc] at hA
                      simp only [] at hA
                      obtain ⟨q0, q1, q2, q3⟩ := chF_ok hc e2 e3
                      have hx3 := hx2.trans (hb1.lower hx2.size)
                      have hr3 := Row.of hr2 hb1 HGX.out
                      have HF := Aside0.mk (And.intro hs2 (And.intro hr3 (And.intro hx3 hA)))
                      clear hs2 hr3 hx3 hr2 hx2 hb1 hA hc
                      go_wp2
                      go_meet
                      case rel => exact ⟨hi, m3, rfl, ⟨q0, q1, by omega, q3⟩, ⟨HF.out.1⟩, ⟨HF.out.2.1⟩, ⟨HF.out.2.2.1⟩, ⟨HF.out.2.2.2⟩⟩
                case rest =>
                  obtain ⟨hi, m3, rfl, HHI, HST, HROW, HB, HA⟩ := hcut
                  clear c0 c1 f1 HA3 HS1 HROW1 k1w
                  have q0 := HHI.out.1
                  have q1 := HHI.out.2.1
                  have hA := HA.out
                  by_cases hlh : lo > hi
                  · rw [if_pos hlh] at hA
                    obtain rfl := Option.some.inj hA
                    have hr := HR.out
                    simp only [Except.map] at hr
                    subst hr
                    have d1 : decide (hi < lo) = true := decide_eq_true hlh
                    go_wp2_with fail
                    go_at_call 36
                    refine (fail_calls _ _ _ _).mono ?_
                    rintro e w' ⟨rfl, rfl⟩
                    exact ⟨rfl, rfl, HB.out⟩
                  · rw [if_neg hlh] at hA
                    have HA5 := Aside0.mk hA
                    have d1 : decide (hi < lo) = false := decide_eq_false hlh
                    clear hA HA
                    go_upto_region 17 with (fail)
                    have hln := HN0.2.2.2.2
                    have HLN := Aside0.mk hln
                    have HLE := Aside0.mk HN0
                    clear hln HN0
                    go_loopg [9] ((hi + 1 - lo).toNat) (fun kq v9 W => ∃ b : Int, v9 = .int .i64 b ∧ Aside0 (lo ≤ b ∧ b + kq = hi + 1) ∧ Aside0 (St W g p m3 o) ∧ Aside0 (Row W w.heap.size (setN s lo (b - lo).toNat)) ∧ Aside0 (Bx w.heap.size g w W))
                    case atStart => exact ⟨lo, rfl, ⟨by omega, by omega⟩, HST, ⟨by rw [Int.sub_self]; exact HROW.out⟩, HB⟩
                    case round =>
                      clear HST HROW HB
                      obtain ⟨b, rfl, HE, HST, HROW, HB⟩ := hrel
                      have kb : K0 (Bx w.heap.size g w wr) := ⟨HB.out⟩
                      cases gk with
                      | zero =>
                        have d2 : decide (b ≤ hi) = false := decide_eq_false (by have := HE.out; omega)
                        have hb : (b - lo).toNat = (hi + 1 - lo).toNat := by have := HE.out; omega
                        have hrw := HROW.out
                        rw [hb] at hrw
                        have HROW2 := Aside0.mk hrw
                        have hb0 : 0 ≤ b := by have := HE.out; omega
                        have hb1 : b ≤ 256 := by have := HE.out; omega
                        have hn2 : n ≤ 200 := by omega
                        clear hb hrw
                        go_wp2
                        go_roundg k1
                        case measure => omega
                        case rel => exact ⟨n + 1, m3, setR s lo hi, rfl, ⟨by rw [decide_eq_false (by omega)]; exact HA5.out⟩, ⟨by have := HK.out; omega⟩, ⟨by have := HHI.out; have := HLE.out; exact ⟨by omega, by omega, by omega, by omega, by unfold setR; rw [setN_len]; exact HLN.out⟩⟩, HST, HROW2, HB⟩
                      | succ kq =>
                        have d2 : decide (b ≤ hi) = true := decide_eq_true (by have := HE.out; omega)
                        have hb0 : 0 ≤ b := by have := HE.out; omega
                        have hb1 : b < 256 := by have := HE.out; omega
                        have hl2 : (setN s lo (b - lo).toNat).length = 256 := by rw [setN_len]; exact HLN.out
                        have hb2 : b.toNat < 256 := by omega
                        have hcl := HROW.out.cell hl2 b.toNat hb2
                        have hfr := HROW.out.fr b.toNat
                        have kx : K0 (w.heap.size ≤ w.heap.size) := ⟨Nat.le_refl _⟩
                        have hset := HROW.out.set hl2 b.toNat hb2 true
                        have e : (setN s lo (b - lo).toNat).set b.toNat true = setN s lo (b + 1 - lo).toNat := by
                          have := HE.out
                          rw [show (b + 1 - lo).toNat = (b - lo).toNat + 1 by omega]
                          show _ = (setN s lo (b - lo).toNat).set (lo + ((b - lo).toNat : Int)).toNat true
                          rw [show (lo + ((b - lo).toNat : Int)).toNat = b.toNat by omega]
                        rw [e] at hset
                        have HSET := Aside0.mk hset
                        clear e hset hl2
                        go_wp2
                        go_roundg kq
                        case measure => omega
                        case rel => exact ⟨b + 1, rfl, ⟨by have := HE.out; omega, by have := HE.out; omega⟩, ⟨st_far HST.out (Ne.symm HGX.out)⟩, HSET, ⟨kk⟩⟩
end Go.Proofs.Ytcdpmmpdfdillaa.Q

namespace Go.Proofs.Ytcdpmmpdfdillaa.Q
open Go.RowKit Go.Proofs.YtcdpmmpdfdillaaW.PrintWords Go.Proofs.YtcdpmmpdfdillaaW.PrintLast
theorem own_lower {w : World} {b b' : Nat} {e : TypeId} {size n : Nat} {v : Value} {xs : List Value} (h : w.ownsRow b e size v n xs) (hb : b' ≤ b) : w.ownsRow b' e size v n xs := by
  refine ⟨h.1, ?_⟩
  rcases h.2 with hn | ⟨g, cap, cur, rfl, hg, r⟩
  · exact .inl hn
  · exact .inr ⟨g, cap, cur, rfl, by omega, r⟩
section
variable {P : Program} {w : World}
theorem append_at (base : Nat) (t ty e : TypeId) (i : TypeInfo) (z : Value) (size bytes : Nat) (ht : P.underlying t = some (.slice e)) (hi : P.info? e = some i) (hz : i.zero = some z)
    (hsize : i.size = size) (hby : i.bytes = bytes) (hzs : z.cells.size = size) (hsz : 0 < size)
    (v : Value) (n : Nat) (xs : List Value) (hown : w.ownsRow base e size v n xs)
    (a : Addr) (m c : Nat) (news : List Value) (hl : news.length = m * size) (hnews : ∀ j u, news[j]? = some u → w.cell? (a.add j) = some u) (h1 : ∀ u ∈ news, u.oneCell' = true)
    (h63 : n + m ≤ maxLen) (hbytes : (n + m) * bytes ≤ 140737488355328) (hbase : base ≤ w.heap.size) :
    ∃ v' w', (Builtin.append_ #[t, t] ty #[v, .slice (some a) m c]).run P w = .ok v' w' ∧ w'.ownsRow base e size v' (n + m) (xs ++ news) ∧ w.grownBy w' v.ownBlock ∧ (∀ k, v'.ownBlock = some k → v.ownBlock = some k ∨ w.heap.size ≤ k) := by
  obtain ⟨v', w', hr, h2, h3, -⟩ := run_append_own (P := P) w base t ty e i z size bytes ht hi hz hsize hby hzs hsz v n xs hown a m c news hl hnews h1 h63 hbytes hbase
  refine ⟨v', w', hr, h2, h3, ?_⟩
  rcases hown.2 with ⟨rfl, rfl⟩ | ⟨g, cap, cur, rfl, hbg, hg, hnc, hcm, hcs, htake⟩
  · obtain rfl : xs = [] := List.eq_nil_of_length_eq_zero (by simpa using hown.1)
    obtain ⟨v2, w2, hr2, h4, -, -⟩ := run_append_own (P := P) w w.heap.size t ty e i z size bytes ht hi hz hsize hby hzs hsz (.slice none 0 0) 0 [] (World.ownsRow_nil w _ e size) a m c news hl hnews h1 h63 hbytes (Nat.le_refl _)
    rw [hr] at hr2
    cases hr2
    exact fun k hk => .inr (h4.lt k hk).1
  · by_cases hroom : n + m ≤ cap
    · subst hsize
      have hr2 := run_append_room (P := P) w t ty e i ht hi g n cap cur hg a m c news hl hnews h1 hroom (by rw [hcs, hl, ← Nat.add_mul]; exact Nat.mul_le_mul_right _ hroom)
      rw [hr] at hr2
      cases hr2
      exact fun k hk => .inl hk
    · have holds : ∀ j u, xs[j]? = some u → w.cell? ((⟨g, 0, none⟩ : Addr).add j) = some u := hown.cells (g := g) rfl
      obtain ⟨v2, w2, hr2, h4, -⟩ := run_append_arg_grows (P := P) w t ty e i z size bytes ht hi hz hsize hby hzs hsz ⟨g, 0, none⟩ n cap xs hown.1 holds a m c news hl hnews (by omega) h63 hbytes
      rw [hr] at hr2
      cases hr2
      exact fun k hk => .inr (h4.lt k hk).1
variable {ops : Array Oper} {rest : List Oper} {o : Oper} {a : Act} {Q : Exit → Act → World → Prop}
theorem wp_append_at {K : Act → World → Prop} (s x : Operand) (t : TypeId)
    (ho : o.op = .call { callee := .builtin .append, args := #[s, x], argTypes := #[t, t] })
    (base : Nat) (e : TypeId) (i : TypeInfo) (z : Value) (size bytes : Nat) (ht : P.underlying t = some (.slice e)) (hi : P.info? e = some i) (hz : i.zero = some z)
    (hsize : i.size = size) (hby : i.bytes = bytes) (hzs : z.cells.size = size) (hsz : 0 < size)
    (v : Value) (n : Nat) (xs : List Value) (hs : a.eval s = v) (hown : w.ownsRow base e size v n xs)
    (ad : Addr) (m c : Nat) (news : List Value) (hx : a.eval x = .slice (some ad) m c) (hl : news.length = m * size) (hnews : ∀ j u, news[j]? = some u → w.cell? (ad.add j) = some u) (h1 : ∀ u ∈ news, u.oneCell' = true)
    (h63 : n + m ≤ maxLen) (hbytes : (n + m) * bytes ≤ 140737488355328) (hbase : base ≤ w.heap.size)
    (h : ∀ v' w', w'.ownsRow base e size v' (n + m) (xs ++ news) → w.grownBy w' v.ownBlock → (∀ k, v'.ownBlock = some k → v.ownBlock = some k ∨ w.heap.size ≤ k) → K (a.put o.dst v') w') : o.wp P a w K Q := by
  obtain ⟨v', w', hr, h2, h3, h4⟩ := append_at (P := P) (w := w) base t o.type e i z size bytes ht hi hz hsize hby hzs hsz v n xs hown ad m c news hl hnews h1 h63 hbytes hbase
  unfold Oper.wp
  simp [execOp, ho, resolve, invoke, builtin, hs, hx, hr, Result.andThen]
  exact h v' w' h2 h3 h4
theorem wpList_append_at (hgd : o.guard = none) (s x : Operand) (t : TypeId)
    (ho : o.op = .call { callee := .builtin .append, args := #[s, x], argTypes := #[t, t] })
    (base : Nat) (e : TypeId) (i : TypeInfo) (z : Value) (size bytes : Nat) (ht : P.underlying t = some (.slice e)) (hi : P.info? e = some i) (hz : i.zero = some z)
    (hsize : i.size = size) (hby : i.bytes = bytes) (hzs : z.cells.size = size) (hsz : 0 < size)
    (v : Value) (n : Nat) (xs : List Value) (hs : a.eval s = v) (hown : w.ownsRow base e size v n xs)
    (ad : Addr) (m c : Nat) (news : List Value) (hx : a.eval x = .slice (some ad) m c) (hl : news.length = m * size) (hnews : ∀ j u, news[j]? = some u → w.cell? (ad.add j) = some u) (h1 : ∀ u ∈ news, u.oneCell' = true)
    (h63 : n + m ≤ maxLen) (hbytes : (n + m) * bytes ≤ 140737488355328) (hbase : base ≤ w.heap.size)
    (h : ∀ v' w', w'.ownsRow base e size v' (n + m) (xs ++ news) → w.grownBy w' v.ownBlock → (∀ k, v'.ownBlock = some k → v.ownBlock = some k ∨ w.heap.size ≤ k) → wpList P ops Q rest (a.put o.dst v') w') : wpList P ops Q (o :: rest) a w :=
  wpList_plain hgd fun _ hK => wp_append_at s x t ho base e i z size bytes ht hi hz hsize hby hzs hsz v n xs hs hown ad m c news hx hl hnews h1 h63 hbytes hbase fun v' w' h2 h3 h4 => hK _ _ (h v' w' h2 h3 h4)
end
end Go.Proofs.Ytcdpmmpdfdillaa.Q

namespace Go.Proofs.Ytcdpmmpdfdillaa.Q
section
variable {P : Program} {ops : Array Oper} {Q : Exit → Act → World → Prop} {md : Region.Mode} {S : World → Prop} {z : Nat}
/-- Whatever order is picked from here on, and S holds behind every operation but the last one, z. -/
def wpAnyZ (P : Program) (md : Region.Mode) (ops : Array Oper) (Q : Exit → Act → World → Prop) (S : World → Prop) (z : Nat) : Nat → Array Bool → Act → World → Prop
  | 0, l, a, w => Region.ready md ops l = [] ∧ Q .normal a w
  | fuel + 1, l, a, w => (Region.ready md ops l = [] → Q .normal a w) ∧ ∀ i ∈ Region.ready md ops l, wpOp P ops Q i (fun a' w' => ((l.setIfInBounds i true).getD z false = false → S w') ∧ wpAnyZ P md ops Q S z fuel (l.setIfInBounds i true) a' w') a w
theorem wpAny_of_Z : ∀ (fuel : Nat) (l : Array Bool) (a : Act) (w : World), wpAnyZ P md ops Q S z fuel l a w → wpAny P md ops Q fuel l a w
  | 0, _, _, _, h => h
  | fuel + 1, _, _, _, h => ⟨h.1, fun i hi => wpOp_mono (fun a' w' h' => wpAny_of_Z fuel _ a' w' h'.2) (h.2 i hi)⟩
/-- Operation z waits for number i, or there is none. -/
def zOk (md : Region.Mode) (ops : Array Oper) (z i : Nat) : Bool := match ops[z]? with | none => true | some o => o.after.toList.any fun e => Region.binds md e && e.on == i
theorem zOk_ne {l : Array Bool} {i j : Nat} (hz : zOk md ops z i = true) (hi : i ∈ Region.ready md ops l) (hj : j ∈ Region.ready md ops l) : z ≠ j := by
  rintro rfl
  obtain ⟨-, oj, hoj, hall⟩ := mem_ready.1 hj
  unfold zOk at hz
  rw [hoj] at hz
  simp only [List.any_eq_true, Bool.and_eq_true, beq_iff_eq] at hz
  obtain ⟨e, he, hb, rfl⟩ := hz
  have h1 := hall e (by simpa using he) hb
  have h0 := (mem_ready.1 hi).1
  rcases Nat.lt_or_ge e.on l.size with h' | h'
  · simp [h'] at h0 h1; rw [h0] at h1; cases h1
  · simp [Array.getElem?_eq_none h'] at h1
theorem wpAnyZ_first {i : Nat} {oi : Oper} {v : Value} (hi : ops[i]? = some oi) (hsel : ∀ (j : Nat) (o : Oper) cs b, ops[j]? = some o → o.op ≠ .select cs b)
    (hQ : ∀ c a w, Q (.panic c) (a.put oi.dst v) w → Q (.panic c) a w) (hz : zOk md ops z i = true) (hzi : z ≠ i) :
    ∀ (fuel : Nat) (l : Array Bool) (a : Act) (w : World),
      (∀ j oj, ops[j]? = some oj → j ≠ i → l.getD j true = false → (∀ e ∈ oj.after, Region.binds md e = true → e.on ≠ i) → oi.apart ops oj = true) →
      i ∈ Region.ready md ops l → YieldsIf P ops S oi v a → S w → l.getD z false = false →
      wpAnyZ P md ops Q S z fuel (l.setIfInBounds i true) (a.put oi.dst v) w → wpAnyZ P md ops Q S z (fuel + 1) l a w := by
  intro fuel
  induction fuel with
  | zero =>
    intro l a w _ hr hy hS hlz H
    refine ⟨fun h => (by rw [h] at hr; cases hr), fun j hj => ?_⟩
    by_cases hji : j = i
    · subst hji; exact hy.wpOp hi hS ⟨fun _ => hS, H⟩
    · have := ready_mono hj hji
      rw [H.1] at this
      cases this
  | succ fuel ih =>
    intro l a w hfree hr hy hS hlz H
    refine ⟨fun h => (by rw [h] at hr; cases hr), fun j hj => ?_⟩
    by_cases hji : j = i
    · subst hji; exact hy.wpOp hi hS ⟨fun _ => hS, H⟩
    · have hzj : z ≠ j := zOk_ne hz hr hj
      have h1 := H.2 j (ready_mono hj hji)
      obtain ⟨hjun, oj, hoj, hall⟩ := mem_ready.1 hj
      have hnot : ∀ e ∈ oj.after, Region.binds md e = true → e.on ≠ i := fun e he hb heq => by
        have h1 := hall e he hb
        have h0 := (mem_ready.1 hr).1
        rw [heq] at h1
        rcases Nat.lt_or_ge i l.size with h' | h'
        · simp [h'] at h0 h1; rw [h0] at h1; cases h1
        · simp [Array.getElem?_eq_none h'] at h1
      have h2 := wpOp_putIf hoj (hfree j oj hoj hji hjun hnot) (fun cs b => hsel i oi cs b hi) (fun cs b => hsel j oj cs b hoj) hQ hy h1
      have hfree' : ∀ k ok, ops[k]? = some ok → k ≠ i → (l.setIfInBounds j true).getD k true = false →
          (∀ e ∈ ok.after, Region.binds md e = true → e.on ≠ i) → oi.apart ops ok = true := fun k ok hk hki hun hno => by
        refine hfree k ok hk hki ?_ hno
        by_cases hjk : j = k
        · subst hjk; exact hjun
        · rw [getD_set_ne true hjk] at hun; exact hun
      have hlz' : (l.setIfInBounds j true).getD z false = false := by rw [getD_set_ne false (Ne.symm hzj)]; exact hlz
      refine wpOp_mono (fun a' w' h3 => ?_) h2
      have hS' : S w' := h3.2.1 (by rw [getD_set_ne false (Ne.symm hzj), getD_set_ne false (Ne.symm hzi)]; exact hlz)
      refine ⟨fun _ => hS', ih (l.setIfInBounds j true) a' w' hfree' (ready_mono hr (Ne.symm hji)) h3.1 hS' hlz' ?_⟩
      rw [Array.setIfInBounds_comm _ _ hji]
      exact h3.2.2
/-- The plan: as 'planB', and what is taken first comes before z. -/
def planZ (md : Region.Mode) (ops : Array Oper) (z : Nat) : List (Nat × Bool) → Array Bool → Bool
  | [], l => Region.ready md ops l == []
  | (i, false) :: r, l => Region.free md ops l i && ((Region.ready md ops l).contains i && (zOk md ops z i && (z != i && (l.getD z false == false && planZ md ops z r (l.setIfInBounds i true)))))
  | (i, true) :: r, l => (Region.ready md ops l == [i]) && planZ md ops z r (l.setIfInBounds i true)
/-- A panic does not look at the temporaries. -/
def QOk (Q : Exit → Act → World → Prop) : Prop := ∀ d v c a w, Q (.panic c) (Act.put a d v) w → Q (.panic c) a w
def Sz (P : Program) (md : Region.Mode) (ops : Array Oper) (Q : Exit → Act → World → Prop) (S : World → Prop) (z : Nat) (r : List (Nat × Bool)) (a : Act) (w : World) : Prop :=
  QOk Q → Region.noSelect ops = true → ∀ l, planZ md ops z r l = true → (l.getD z false = false → S w) → wpAnyZ P md ops Q S z r.length l a w
theorem sz_region {id : Nat} {a : Act} {w : World} (z : Nat) (r : List (Nat × Bool)) (hQ : QOk Q) (hm : P.follows .mixedOrders = true) (hc : (Region.noSelect ops && (planZ .any ops z r (Array.replicate ops.size false) && (r.length == ops.size))) = true)
    (hS : S w.drew) (h : Sz P .any ops Q S z r a w.drew) : (Code.region id ops true).wp P Q a w := by
  simp only [Bool.and_eq_true, beq_iff_eq] at hc
  have h2 := h hQ hc.1 _ hc.2.1 (fun _ => hS)
  rw [hc.2.2] at h2
  exact wp_region_any hm (wpAny_of_Z _ _ _ _ h2)
theorem sz_done {a : Act} {w : World} (h : Q .normal a w) : Sz P md ops Q S z [] a w := fun _ _ l hl _ => ⟨by simpa [planZ] using hl, h⟩
theorem sz_off {i : Nat} {r : List (Nat × Bool)} {d : Tmp} {op : Op} {ty : TypeId} {pos : String} {af : Array Edge} {gu : Option (Nat × Bool)} {a : Act} {w : World}
    (ho : ops[i]? = some ⟨some d, op, ty, pos, af, gu⟩) (hw : Region.wanted ⟨some d, op, ty, pos, af, gu⟩ (yielded ops a.tmps) = false) (h : Sz P md ops Q S z r (a.put (some d) undef) w) : Sz P md ops Q S z ((i, false) :: r) a w := by
  intro hQ hs l hl hS
  simp only [planZ, Bool.and_eq_true, beq_iff_eq, bne_iff_ne] at hl
  have hlz : (l.setIfInBounds i true).getD z false = false := by rw [getD_set_ne false (Ne.symm hl.2.2.2.1)]; exact hl.2.2.2.2.1
  exact wpAnyZ_first ho (Region.noSelect_spec hs) (fun c a w => hQ _ _ c a w) hl.2.2.1 hl.2.2.2.1 r.length l a w (Region.free_spec ho hl.1) (by simpa using hl.2.1) (.inr ⟨hw, rfl⟩) (hS hl.2.2.2.2.1) hl.2.2.2.2.1 (h hQ hs _ hl.2.2.2.2.2 (fun _ => hS hl.2.2.2.2.1))
theorem sz_on {i : Nat} {r : List (Nat × Bool)} {d : Tmp} {op : Op} {ty : TypeId} {pos : String} {af : Array Edge} {gu : Option (Nat × Bool)} {a : Act} {w : World} (v : Value)
    (ho : ops[i]? = some ⟨some d, op, ty, pos, af, gu⟩) (hw : Region.wanted ⟨some d, op, ty, pos, af, gu⟩ (yielded ops a.tmps) = true) (hv : ∀ W, S W → (execOp a.eval ⟨some d, op, ty, pos, af, gu⟩).run P W = .ok (.value v) W) (h : Sz P md ops Q S z r (a.put (some d) v) w) : Sz P md ops Q S z ((i, false) :: r) a w := by
  intro hQ hs l hl hS
  simp only [planZ, Bool.and_eq_true, beq_iff_eq, bne_iff_ne] at hl
  exact wpAnyZ_first ho (Region.noSelect_spec hs) (fun c a w => hQ _ _ c a w) hl.2.2.1 hl.2.2.2.1 r.length l a w (Region.free_spec ho hl.1) (by simpa using hl.2.1) (.inl ⟨hw, hv⟩) (hS hl.2.2.2.2.1) hl.2.2.2.2.1 (h hQ hs _ hl.2.2.2.2.2 (fun _ => hS hl.2.2.2.2.1))
theorem sz_one {i : Nat} {r : List (Nat × Bool)} {d : Option Tmp} {op : Op} {ty : TypeId} {pos : String} {af : Array Edge} {gu : Option (Nat × Bool)} {a : Act} {w : World} (ho : ops[i]? = some ⟨d, op, ty, pos, af, gu⟩) (hw : Region.wanted ⟨d, op, ty, pos, af, gu⟩ (yielded ops a.tmps) = true)
    (h : ∀ K : Act → World → Prop, Shut (∀ a' w', (z = i ∨ S w') → Sz P md ops Q S z r a' w' → K a' w') → Oper.wp P ⟨d, op, ty, pos, af, gu⟩ a w K Q) : Sz P md ops Q S z ((i, true) :: r) a w := by
  intro hQ hs l hl hS
  simp only [planZ, Bool.and_eq_true, beq_iff_eq] at hl
  refine ⟨fun h0 => absurd (hl.1.symm.trans h0) (by simp), ?_⟩
  rw [hl.1]
  intro j hj
  obtain rfl := List.mem_singleton.mp hj
  have hj' : j ∈ Region.ready md ops l := by rw [hl.1]; exact hj
  refine wpOp_step ho (fun K' hK => ?_)
  rw [if_pos hw]
  refine h K' (fun a' w' h1 h2 => hK a' w' ?_)
  have hS2 : (l.setIfInBounds j true).getD z false = false → S w' := by
    intro hzf
    rcases h1 with rfl | h1
    · have := (mem_ready.1 hj').1
      exfalso
      rcases Nat.lt_or_ge z l.size with h' | h'
      · simp [h'] at hzf
      · simp [Array.getElem?_eq_none h'] at this
    · exact h1
  exact ⟨hS2, h2 hQ hs _ hl.2 hS2⟩
variable {i j dj : Nat} {r : List (Nat × Bool)} {d : Tmp} {od od' : Option Tmp} {op op' : Op} {ty ty' : TypeId} {pos pos' : String} {af af' : Array Edge} {gu' : Option (Nat × Bool)} {g b : Bool} {T : Array Value} {D : List Deferred} {w : World}
theorem sz_f (T' : Array Value) (ho : ops[i]? = some ⟨some d, op, ty, pos, af, some (j, g)⟩) (hj : ops[j]? = some ⟨some dj, op', ty', pos', af', gu'⟩) (hd : T[dj]? = some (.bool (!g))) (hT : T.setIfInBounds d undef = T') (h : Sz P md ops Q S z r ⟨T', D⟩ w) : Sz P md ops Q S z ((i, false) :: r) ⟨T, D⟩ w := by
  subst hT; exact sz_off ho (no_g hj hd) h
theorem sz_u (T' : Array Value) (ho : ops[i]? = some ⟨some d, op, ty, pos, af, some (j, g)⟩) (hj : ops[j]? = some ⟨some dj, op', ty', pos', af', gu'⟩) (hd : T[dj]? = some undef) (hT : T.setIfInBounds d undef = T') (h : Sz P md ops Q S z r ⟨T', D⟩ w) : Sz P md ops Q S z ((i, false) :: r) ⟨T, D⟩ w := by
  subst hT; exact sz_off ho (no_u hj hd) h
theorem sz_n (T' : Array Value) (v : Value) (ho : ops[i]? = some ⟨some d, op, ty, pos, af, none⟩) (hv : ∀ W, S W → (execOp (Act.eval ⟨T, D⟩) ⟨some d, op, ty, pos, af, none⟩).run P W = .ok (.value v) W) (hT : T.setIfInBounds d v = T') (h : Sz P md ops Q S z r ⟨T', D⟩ w) : Sz P md ops Q S z ((i, false) :: r) ⟨T, D⟩ w := by
  subst hT; exact sz_on v ho yes_n hv h
theorem sz_g (T' : Array Value) (v : Value) (ho : ops[i]? = some ⟨some d, op, ty, pos, af, some (j, g)⟩) (hj : ops[j]? = some ⟨some dj, op', ty', pos', af', gu'⟩) (hd : T[dj]? = some (.bool g)) (hv : ∀ W, S W → (execOp (Act.eval ⟨T, D⟩) ⟨some d, op, ty, pos, af, some (j, g)⟩).run P W = .ok (.value v) W) (hT : T.setIfInBounds d v = T') (h : Sz P md ops Q S z r ⟨T', D⟩ w) : Sz P md ops Q S z ((i, false) :: r) ⟨T, D⟩ w := by
  subst hT; exact sz_on v ho (yes_g hj hd) hv h
theorem sz_1n (ho : ops[i]? = some ⟨od, op, ty, pos, af, none⟩)
    (h : ∀ K : Act → World → Prop, Shut (∀ a' w', (z = i ∨ S w') → Sz P md ops Q S z r a' w' → K a' w') → Oper.wp P ⟨od, op, ty, pos, af, none⟩ ⟨T, D⟩ w K Q) : Sz P md ops Q S z ((i, true) :: r) ⟨T, D⟩ w := sz_one ho yes_n h
end
end Go.Proofs.Ytcdpmmpdfdillaa.Q

namespace Go.Proofs.Ytcdpmmpdfdillaa.Q
open Go.RowKit Go.Proofs.YtcdpmmpdfdillaaW.PrintWords Go.Proofs.YtcdpmmpdfdillaaW.PrintLast
set_option linter.unusedVariables false
set_option linter.unusedSimpArgs false
/-- A pattern as a tree. -/
inductive Rx where
  | one (s : List Bool) (b : Int) (plain : Bool)
  | seq (xs : List Rx)
  | alt (xs : List Rx)
  | rep (x : Rx) (op : Int)
mutual
def RepX (w : World) (ok : Nat → Prop) : Rx → Value → Prop
  | .one s b pl, v => s.length = 256 ∧ v = .iface 82 (.agg (oneA s b pl))
  | .rep x op, v => ∃ u, RepX w ok x u ∧ v = .iface 84 (.agg #[u, .int .u8 op])
  | .seq xs, v => ∃ u vs, v = .iface 65 (.agg #[u]) ∧ w.ownsRow 0 37 1 u vs.length vs ∧ (∀ k, u.ownBlock = some k → ok k) ∧ RepXs w ok xs vs
  | .alt xs, v => ∃ u vs, v = .iface 64 (.agg #[u]) ∧ w.ownsRow 0 37 1 u vs.length vs ∧ (∀ k, u.ownBlock = some k → ok k) ∧ RepXs w ok xs vs
def RepXs (w : World) (ok : Nat → Prop) : List Rx → List Value → Prop
  | [], vs => vs = []
  | x :: xs, vs => ∃ u us, vs = u :: us ∧ RepX w ok x u ∧ RepXs w ok xs us
end
mutual
theorem RepX_move {w w1 : World} {ok ok' : Nat → Prop} (hm : ∀ k, ok k → k < w.heap.size → ok' k ∧ w1.heap[k]? = w.heap[k]?) : ∀ (x : Rx) (v : Value), RepX w ok x v → RepX w1 ok' x v
  | .one s b pl, v, h => by unfold RepX at h ⊢; exact h
  | .rep x op, v, h => by
    unfold RepX at h ⊢
    obtain ⟨u, h1, h2⟩ := h
    exact ⟨u, RepX_move hm x u h1, h2⟩
  | .seq xs, v, h => by
    unfold RepX at h ⊢
    obtain ⟨u, vs, h1, h2, h3, h4⟩ := h
    exact ⟨u, vs, h1, own_move h2 (fun k hk => (hm k (h3 k hk) (h2.lt k hk).2).2), fun k hk => (hm k (h3 k hk) (h2.lt k hk).2).1, RepXs_move hm xs vs h4⟩
  | .alt xs, v, h => by
    unfold RepX at h ⊢
    obtain ⟨u, vs, h1, h2, h3, h4⟩ := h
    exact ⟨u, vs, h1, own_move h2 (fun k hk => (hm k (h3 k hk) (h2.lt k hk).2).2), fun k hk => (hm k (h3 k hk) (h2.lt k hk).2).1, RepXs_move hm xs vs h4⟩
theorem RepXs_move {w w1 : World} {ok ok' : Nat → Prop} (hm : ∀ k, ok k → k < w.heap.size → ok' k ∧ w1.heap[k]? = w.heap[k]?) : ∀ (xs : List Rx) (vs : List Value), RepXs w ok xs vs → RepXs w1 ok' xs vs
  | [], vs, h => by unfold RepXs at h ⊢; exact h
  | x :: xs, vs, h => by
    unfold RepXs at h ⊢
    obtain ⟨u, us, h1, h2, h3⟩ := h
    exact ⟨u, us, h1, RepX_move hm x u h2, RepXs_move hm xs us h3⟩
end
theorem RepXs_len {w : World} {ok : Nat → Prop} : ∀ (xs : List Rx) (vs : List Value), RepXs w ok xs vs → vs.length = xs.length
  | [], vs, h => by unfold RepXs at h; subst h; rfl
  | x :: xs, vs, h => by
    unfold RepXs at h
    obtain ⟨u, us, rfl, h2, h3⟩ := h
    simp [RepXs_len xs us h3]
theorem RepXs_app {w : World} {ok : Nat → Prop} : ∀ (xs : List Rx) (vs : List Value) (ys : List Rx) (us : List Value), RepXs w ok xs vs → RepXs w ok ys us → RepXs w ok (xs ++ ys) (vs ++ us)
  | [], vs, ys, us, h, h2 => by unfold RepXs at h; subst h; exact h2
  | x :: xs, vs, ys, us, h, h2 => by
    unfold RepXs at h
    obtain ⟨u, us', rfl, h3, h4⟩ := h
    show RepXs w ok (x :: (xs ++ ys)) (u :: (us' ++ us))
    unfold RepXs
    exact ⟨u, _, rfl, h3, RepXs_app xs us' ys us h4 h2⟩
/-- A list of parts under way: the variable at block x holds v, whose elements are vs. -/
def Acc (w : World) (x T : Nat) (acc : List Rx) (v : Value) (vs : List Value) : Prop :=
  w.heap[x]? = some (.cells #[v] T (0, 0)) ∧ w.ownsRow x 37 1 v vs.length vs ∧ v.ownBlock ≠ some x ∧ RepXs w (fun k => x < k ∧ some k ≠ v.ownBlock) acc vs
theorem acc_move {w w1 : World} {x T : Nat} {acc : List Rx} {v : Value} {vs : List Value} (h : Acc w x T acc v vs) (hm : ∀ k, x ≤ k → k < w.heap.size → w1.heap[k]? = w.heap[k]?) : Acc w1 x T acc v vs := by
  obtain ⟨h1, h2, h3, h4⟩ := h
  exact ⟨(hm x (Nat.le_refl _) (lt_of_some h1)).trans h1, own_move h2 (fun k hk => hm k (h2.lt k hk).1 (h2.lt k hk).2), h3, RepXs_move (fun k hk hl => ⟨hk, hm k (Nat.le_of_lt hk.1) hl⟩) _ _ h4⟩
theorem acc_push {w1 w2 : World} {x T B : Nat} {acc : List Rx} {v v2 : Value} {vs : List Value} {y : Rx} {u : Value} {ok : Nat → Prop}
    (h : Acc w1 x T acc v vs) (hy : RepX w1 ok y u) (hok : ∀ k, ok k → B ≤ k) (hxB : x < B) (hvB : ∀ k, v.ownBlock = some k → k < B)
    (hg : (w1.alloc (.cells #[u] 37)).grownBy w2 v.ownBlock) (ho : w2.ownsRow x 37 1 v2 (vs.length + 1) (vs ++ [u])) (hl : ∀ k, v2.ownBlock = some k → v.ownBlock = some k ∨ (w1.alloc (.cells #[u] 37)).heap.size ≤ k) :
    Acc (w2.setCell ⟨x, 0, none⟩ v2) x T (acc ++ [y]) v2 (vs ++ [u]) := by
  obtain ⟨h1, h2, h3, h4⟩ := h
  have hsz := sz_al w1 (.cells #[u] 37)
  have hb : ∀ k, k < w1.heap.size → some k ≠ v.ownBlock → w2.heap[k]? = w1.heap[k]? := fun k hk hn => (hg.block k (by omega) hn).trans (heap_alloc_old w1 _ hk)
  have hx2 : v2.ownBlock ≠ some x := by
    intro e
    rcases hl x e with h' | h'
    · exact h3 h'
    · have := lt_of_some h1; omega
  refine ⟨bk_put ((hb x (lt_of_some h1) (fun e => h3 e.symm)).trans h1) v2, ?_, hx2, ?_⟩
  · rw [List.length_append]
    exact own_move ho (fun k hk => Below.heap_setCell _ _ _ _ (fun e => hx2 (by rw [hk]; congr 1)))
  · have hk2 : ∀ k, k < w1.heap.size → some k ≠ v.ownBlock → x < k → (x < k ∧ some k ≠ v2.ownBlock) ∧ (w2.setCell ⟨x, 0, none⟩ v2).heap[k]? = w1.heap[k]? := by
      intro k hk hn hx
      refine ⟨⟨hx, fun e => ?_⟩, ?_⟩
      · rcases hl k e.symm with h' | h'
        · exact hn h'.symm
        · omega
      · rw [Below.heap_setCell _ _ _ _ (show k ≠ x by omega)]; exact hb k hk hn
    refine RepXs_app _ _ _ _ (RepXs_move (fun k hk hl' => hk2 k hl' hk.2 hk.1) _ _ h4) ?_
    unfold RepXs
    refine ⟨u, [], rfl, RepX_move (fun k hk hl' => hk2 k hl' (fun e => ?_) (by have := hok k hk; omega)) _ _ hy, by unfold RepXs; rfl⟩
    have := hvB k e.symm; have := hok k hk; omega
def obind {α β : Type} (x : Option (Except (Int × Int) α)) (f : α → Option (Except (Int × Int) β)) : Option (Except (Int × Int) β) :=
  match x with | none => none | some (.error e) => some (.error e) | some (.ok a) => f a
def isOp (c : Int) : Bool := c == 42 || (c == 43 || c == 63)
def opsF : Nat → ByteArray → Int → Rx → Option (Rx × Int)
  | 0, _, _, _ => none
  | k + 1, p, i, x => if i < p.size ∧ isOp (bt p i) = true then opsF k p (i + 1) (.rep x (bt p i)) else some (x, i)
def sgl (c : Int) : Rx := .one (noB.set c.toNat true) c true
mutual
def altL : Nat → ByteArray → Int → Int → List Rx → Option (Except (Int × Int) (Rx × Int))
  | 0, _, _, _, _ => none
  | k + 1, p, i, o, acc => obind (seqL k p i o []) fun x => if x.2 = p.size ∨ bt p x.2 ≠ 124 then some (.ok (.alt (acc ++ [x.1]), x.2)) else altL k p (x.2 + 1) o (acc ++ [x.1])
def seqL : Nat → ByteArray → Int → Int → List Rx → Option (Except (Int × Int) (Rx × Int))
  | 0, _, _, _, _ => none
  | k + 1, p, i, o, acc => if i < p.size ∧ (bt p i ≠ 124 ∧ bt p i ≠ 41) then obind (atomF k p i o) fun x => (opsF k p x.2 x.1).bind fun y => seqL k p y.2 o (acc ++ [y.1]) else some (.ok (.seq acc, i))
def atomF : Nat → ByteArray → Int → Int → Option (Except (Int × Int) (Rx × Int))
  | 0, _, _, _ => none
  | k + 1, p, i, o =>
    if bt p i = 40 then (if o = 20 then some (.error (3, i)) else obind (altL k p (i + 1) (o + 1) []) fun x => if x.2 = p.size then some (.error (2, x.2)) else some (.ok (x.1, x.2 + 1)))
    else if bt p i = 91 then obind (claF k p (i + 1)) fun x => some (.ok (.one x.1 0 false, x.2))
    else if bt p i = 46 then some (.ok (.one (List.replicate 256 true) 0 false, i + 1))
    else if isOp (bt p i) = true ∨ bt p i = 93 then some (.error (2, i))
    else if bt p i = 92 then (if i + 1 = p.size then some (.error (2, i + 1)) else some (.ok (sgl (bt p (i + 1)), i + 2)))
    else some (.ok (sgl (bt p i), i + 1))
end
theorem obind_ok {α β : Type} {x : Option (Except (Int × Int) α)} {f : α → Option (Except (Int × Int) β)} {r : β} (h : obind x f = some (.ok r)) : ∃ a, x = some (.ok a) ∧ f a = some (.ok r) := by
  rcases x with _ | (e | a)
  · cases h
  · cases h
  · exact ⟨a, rfl, h⟩
theorem clsF_ok : ∀ (k : Nat) (p : ByteArray) (i : Int) (f : Bool) (s : List Bool) (r : List Bool × Int), clsF k p i f s = some (.ok r) → 0 ≤ i → i ≤ p.size → s.length = 256 → i ≤ r.2 ∧ r.2 < p.size ∧ r.1.length = 256
  | 0, _, _, _, _, _, h, _, _, _ => by simp [clsF] at h
  | k + 1, p, i, f, s, r, h, h0, h1, hs => by
    have he := bt_end p
    simp only [clsF] at h
    split at h
    · rename_i hc
      cases hch : chF p i with
      | error x => rw [hch] at h; cases h
      | ok x =>
        obtain ⟨lo, j⟩ := x
        obtain ⟨l0, l1, l2, l3⟩ := chF_ok hch h0 h1
        rw [hch] at h
        simp only [] at h
        split at h
        · rename_i hd
          cases hch2 : chF p (j + 1) with
          | error x => rw [hch2] at h; cases h
          | ok x =>
            obtain ⟨hi, m⟩ := x
            obtain ⟨q0, q1, q2, q3⟩ := chF_ok hch2 (by omega) (by omega)
            rw [hch2] at h
            simp only [] at h
            split at h
            · cases h
            · obtain ⟨a, b, c⟩ := clsF_ok k p m false _ r h (by omega) q3 (by unfold setR; rw [setN_len]; exact hs)
              exact ⟨by omega, b, c⟩
        · obtain ⟨a, b, c⟩ := clsF_ok k p j false _ r h (by omega) l3 (by unfold setR; rw [setN_len]; exact hs)
          exact ⟨by omega, b, c⟩
    · rename_i hc
      have h2 : i ≠ (p.size : Int) := fun e => hc (.inr (.inl e))
      cases h
      exact ⟨Int.le_refl _, by show i < _; omega, hs⟩
theorem claF_ok {k : Nat} {p : ByteArray} {i : Int} {r : List Bool × Int} (h : claF k p i = some (.ok r)) (h0 : 0 ≤ i) (h1 : i ≤ p.size) : i < r.2 ∧ r.2 ≤ p.size ∧ r.1.length = 256 := by
  obtain ⟨q, hq, hr⟩ := claF_err h
  cases q with
  | error e => cases hr
  | ok x =>
    simp only [Except.map, Except.ok.injEq] at hr
    subst hr
    have hn : i ≤ notI p i ∧ notI p i ≤ p.size := by
      unfold notI; split
      · rename_i hh; unfold notQ at hh; simp at hh; omega
      · omega
    obtain ⟨a, b, c⟩ := clsF_ok k p _ true noB x hq (by omega) hn.2 noB_len
    exact ⟨by show i < x.2 + 1; omega, by show x.2 + 1 ≤ _; omega, by show (if _ then _ else _ : List Bool).length = 256; split <;> simp [c]⟩
theorem opsF_ok : ∀ (k : Nat) (p : ByteArray) (i : Int) (x : Rx) (r : Rx × Int), opsF k p i x = some r → i ≤ p.size → i ≤ r.2 ∧ r.2 ≤ p.size
  | 0, _, _, _, _, h, _ => by cases h
  | k + 1, p, i, x, r, h, h1 => by
    simp only [opsF] at h
    split at h
    · have := opsF_ok k p (i + 1) _ r h (by omega); omega
    · cases h; exact ⟨Int.le_refl _, h1⟩
theorem par_ok : ∀ k, (∀ p i o acc r, altL k p i o acc = some (.ok r) → 0 ≤ i → i ≤ (p.size : Int) → i ≤ r.2 ∧ r.2 ≤ p.size) ∧ (∀ p i o acc r, seqL k p i o acc = some (.ok r) → 0 ≤ i → i ≤ (p.size : Int) → i ≤ r.2 ∧ r.2 ≤ p.size) ∧ (∀ p i o r, atomF k p i o = some (.ok r) → 0 ≤ i → i < (p.size : Int) → i < r.2 ∧ r.2 ≤ p.size)
  | 0 => ⟨fun _ _ _ _ _ h => (by cases h), fun _ _ _ _ _ h => (by cases h), fun _ _ _ _ h => (by cases h)⟩
  | k + 1 => by
    obtain ⟨ia, is, im⟩ := par_ok k
    refine ⟨fun p i o acc r h h0 h1 => ?_, fun p i o acc r h h0 h1 => ?_, fun p i o r h h0 h1 => ?_⟩
    · simp only [altL] at h
      obtain ⟨x, hx, h⟩ := obind_ok h
      have hb := is _ _ _ _ _ hx h0 h1
      split at h
      · cases h; exact hb
      · have := ia _ _ _ _ _ h (by omega) (by omega)
        omega
    · simp only [seqL] at h
      split at h
      · obtain ⟨x, hx, h⟩ := obind_ok h
        have hb := im _ _ _ _ hx h0 (by omega)
        obtain ⟨y, hy, h⟩ := Option.bind_eq_some_iff.mp h
        have hc := opsF_ok _ _ _ _ _ hy hb.2
        have := is _ _ _ _ _ h (by omega) hc.2
        omega
      · cases h; exact ⟨Int.le_refl _, h1⟩
    · simp only [atomF] at h
      split at h
      · split at h
        · cases h
        · obtain ⟨x, hx, h⟩ := obind_ok h
          have hb := ia _ _ _ _ _ hx (by omega) (by omega)
          split at h
          · cases h
          · cases h; show i < x.2 + 1 ∧ x.2 + 1 ≤ _; omega
      · split at h
        · obtain ⟨x, hx, h⟩ := obind_ok h
          have := claF_ok hx (by omega) (by omega)
          cases h; show i < x.2 ∧ x.2 ≤ _; omega
        · split at h
          · cases h; show i < i + 1 ∧ i + 1 ≤ _; omega
          · split at h
            · cases h
            · split at h
              · split at h
                · cases h
                · cases h; show i < i + 2 ∧ i + 2 ≤ _; omega
              · cases h; show i < i + 1 ∧ i + 1 ≤ _; omega
end Go.Proofs.Ytcdpmmpdfdillaa.Q

namespace Go.Proofs.Ytcdpmmpdfdillaa.Q
open Go.RowKit Go.Proofs.YtcdpmmpdfdillaaW.PrintWords Go.Proofs.YtcdpmmpdfdillaaW.PrintLast
set_option linter.unusedVariables false
set_option linter.unusedSimpArgs false
attribute [local go_sem high] zero87
def PostX (g : Nat) (p : ByteArray) (o : Int) (w : World) (r : Except (Int × Int) (Rx × Int)) (e : Ending) (w' : World) : Prop :=
  RP r (fun x => ∃ v, e = .returned v ∧ RepX w' (fun k => w.heap.size ≤ k) x.1 v ∧ St w' g p x.2 o ∧ Bx w.heap.size g w w') (fun c a => e = .panicked (flt c a) ∧ Bx w.heap.size g w w')
def AltC (k : Nat) : Prop := ∀ (g : Nat) (p : ByteArray) (i o : Int) (r : Except (Int × Int) (Rx × Int)), altL k p i o [] = some r → 0 ≤ i → i ≤ p.size → p.size ≤ 200 → 0 ≤ o → o ≤ 20 → ∀ w, St w g p i o → Calls Try.prog 35 #[.pointer (some ⟨g, 0, none⟩)] w (PostX g p o w r)
def SeqC (k : Nat) : Prop := ∀ (g : Nat) (p : ByteArray) (i o : Int) (r : Except (Int × Int) (Rx × Int)), seqL k p i o [] = some r → 0 ≤ i → i ≤ p.size → p.size ≤ 200 → 0 ≤ o → o ≤ 20 → ∀ w, St w g p i o → Calls Try.prog 45 #[.pointer (some ⟨g, 0, none⟩)] w (PostX g p o w r)
def AtomC (k : Nat) : Prop := ∀ (g : Nat) (p : ByteArray) (i o : Int) (r : Except (Int × Int) (Rx × Int)), atomF k p i o = some r → 0 ≤ i → i < p.size → p.size ≤ 200 → 0 ≤ o → o ≤ 20 → ∀ w, St w g p i o → Calls Try.prog 48 #[.pointer (some ⟨g, 0, none⟩)] w (PostX g p o w r)
theorem RepX_bx {w w1 : World} {g : Nat} {x : Rx} {v : Value} {ok : Nat → Prop} (h : RepX w ok x v) (hb : Bx w.heap.size g w w1) (hg : ∀ k, ok k → k ≠ g) : RepX w1 ok x v := RepX_move (fun k hk hl => ⟨hk, hb.block k hl (hg k hk)⟩) _ _ h
set_option maxHeartbeats 4000000 in
set_option maxRecDepth 100000 in
theorem atom_paren (k : Nat) (IH : AltC k) (g : Nat) (p : ByteArray) (i o : Int) (r : Except (Int × Int) (Rx × Int)) (h : atomF (k + 1) p i o = some r) (h0 : 0 ≤ i) (h1 : i < p.size) (hp : p.size ≤ 200) (o0 : 0 ≤ o) (o1 : o ≤ 20) (w : World) (hs : St w g p i o) (e1 : bt p i = 40) :
    Calls Try.prog 48 #[.pointer (some ⟨g, 0, none⟩)] w (PostX g p o w r) := by
  have HS := Aside0.mk hs
  have hgl : g < w.heap.size := lt_of_some hs
  have c0 := hs.c0
  have c1 := hs.c1
  have c2 := hs.c2
  have f1 := hs.fr 1
  have f2 := hs.fr 2
  have kr : K0 (Bx w.heap.size g w w) := ⟨Bx.refl _ _ _⟩
  have hx := bt_at p i
  have HIH := Aside0.mk IH
  have hA := h
  simp only [atomF] at hA
  rw [if_pos e1] at hA
  have d1 : (bt p i == 40) = true := beq_iff_eq.mpr e1
  clear IH h hs e1
  by_cases e2 : o = 20
  · rw [if_pos e2] at hA
    obtain rfl := Option.some.inj hA
    have d2 : (o == 20) = true := beq_iff_eq.mpr e2
    clear e2
    go_enter Try.func48, Try.ntmps48
    go_wp2_with fail
    go_at_call 36
    refine (fail_calls _ _ _ _).mono ?_
    rintro e w' ⟨rfl, rfl⟩
    exact ⟨rfl, rfl, kk⟩
  · rw [if_neg e2] at hA
    have d2 : (o == 20) = false := beq_eq_false_iff_ne.mpr e2
    have o2 : 0 ≤ o + 1 := by omega
    have o3 : o + 1 ≤ 20 := by omega
    have i2 : 0 ≤ i + 1 := by omega
    have i3 : i + 1 ≤ p.size := by omega
    have HA := Aside0.mk hA
    clear e2 hA
    have hs2 : St ((w.setCell ⟨g, 1, none⟩ (.int .i64 (i + 1))).setCell ⟨g, 2, none⟩ (.int .i64 (o + 1))) g p (i + 1) (o + 1) := stt HS
    have hx2 : Bx w.heap.size g w ((w.setCell ⟨g, 1, none⟩ (.int .i64 (i + 1))).setCell ⟨g, 2, none⟩ (.int .i64 (o + 1))) := kk
    have HS2 := Aside0.mk hs2
    have HX2 := Aside0.mk hx2
    clear hs2 hx2
    go_enter Try.func48, Try.ntmps48
    go_wp2_with fail
    go_at_call 35
    cases hq : altL k p (i + 1) (o + 1) [] with
    | none => exfalso; have := HA.out; rw [hq] at this; cases this
    | some q =>
    refine (HIH.out g p (i + 1) (o + 1) q hq i2 i3 hp o2 o3 _ HS2.out).mono ?_
    rintro e w1 hch
    clear c0 c1 c2 f1 f2 kr
    rcases q with ⟨c, a⟩ | ⟨x, j⟩
    · obtain ⟨rfl, hb1⟩ := hch
      have hA := HA.out
      rw [hq] at hA
      obtain rfl := Option.some.inj hA
      exact ⟨rfl, rfl, HX2.out.trans (hb1.lower HX2.out.size)⟩
    · obtain ⟨v, rfl, hrep, hst, hb1⟩ := hch
      have hA := HA.out
      rw [hq] at hA
      simp only [obind] at hA
      have hjb := (par_ok k).1 _ _ _ _ _ hq i2 i3
      have j0 : 0 ≤ j := by have := hjb.1; omega
      have j1 : j ≤ p.size := hjb.2
      have hx3 : Bx w.heap.size g w w1 := HX2.out.trans (hb1.lower HX2.out.size)
      have hrep2 : RepX w1 (fun k => w.heap.size ≤ k) x v := RepX_move (fun k hk hl => ⟨Nat.le_trans HX2.out.size hk, rfl⟩) _ _ hrep
      have HREP := Aside0.mk hrep2
      have kr : K0 (Bx w.heap.size g w w1) := ⟨hx3⟩
      have HST := Aside0.mk hst
      have c0 := hst.c0
      have c1 := hst.c1
      have c2 := hst.c2
      have f1 := hst.fr 1
      have f2 := hst.fr 2
      clear hst hb1 hx3 hrep hrep2 hq HA HX2 HS2 HS hjb
      by_cases e3 : j = p.size
      · rw [if_pos e3] at hA
        obtain rfl := Option.some.inj hA
        have d3 : (j == (p.size : Int)) = true := beq_iff_eq.mpr e3
        clear e3 hA
        go_wp2
        go_quiet (fail)
        go_wp2_with fail
        go_at_call 36
        refine (fail_calls _ _ _ _).mono ?_
        rintro e w' ⟨rfl, rfl⟩
        exact ⟨rfl, rfl, kk⟩
      · rw [if_neg e3] at hA
        obtain rfl := Option.some.inj hA
        have d3 : (j == (p.size : Int)) = false := beq_eq_false_iff_ne.mpr e3
        have e : o + 1 - 1 = o := by omega
        have hEO := Aside0.mk e
        clear e3 hA e
        go_wp2
        go_quiet (fail)
        go_wp2
        go_ret
        have kr1 : K0 (Bx w1.heap.size g w1 w1) := ⟨Bx.refl _ _ _⟩
        refine ⟨v, rfl, RepX_bx (g := g) HREP.out ?_ ?_, ?_, kk⟩
        · exact kk
        · intro k hk e
          have : w.heap.size ≤ k := hk
          omega
        · exact stt HST
set_option maxHeartbeats 4000000 in
set_option maxRecDepth 100000 in
theorem atom_class (k : Nat) (g : Nat) (p : ByteArray) (i o : Int) (r : Except (Int × Int) (Rx × Int)) (h : atomF (k + 1) p i o = some r) (h0 : 0 ≤ i) (h1 : i < p.size) (hp : p.size ≤ 200) (o0 : 0 ≤ o) (o1 : o ≤ 20) (w : World) (hs : St w g p i o) (e1 : bt p i ≠ 40) (e2 : bt p i = 91) :
    Calls Try.prog 48 #[.pointer (some ⟨g, 0, none⟩)] w (PostX g p o w r) := by
  have HS := Aside0.mk hs
  have hgl : g < w.heap.size := lt_of_some hs
  have c0 := hs.c0
  have c1 := hs.c1
  have c2 := hs.c2
  have f1 := hs.fr 1
  have f2 := hs.fr 2
  have kr : K0 (Bx w.heap.size g w w) := ⟨Bx.refl _ _ _⟩
  have hx := bt_at p i
  have hA := h
  simp only [atomF] at hA
  rw [if_neg e1] at hA
  have d1 : (bt p i == 40) = false := beq_eq_false_iff_ne.mpr e1
  clear h hs e1 c2 f2
  rw [if_pos e2] at hA
  have d2 : (bt p i == 91) = true := beq_iff_eq.mpr e2
  have i2 : 0 ≤ i + 1 := by omega
  have i3 : i + 1 ≤ p.size := by omega
  have HA := Aside0.mk hA
  have hs2 : St (w.setCell ⟨g, 1, none⟩ (.int .i64 (i + 1))) g p (i + 1) o := stt HS
  have hx2 : Bx w.heap.size g w (w.setCell ⟨g, 1, none⟩ (.int .i64 (i + 1))) := kk
  have HS2 := Aside0.mk hs2
  have HX2 := Aside0.mk hx2
  clear hs2 hx2 e2 hA
  go_enter Try.func48, Try.ntmps48
  go_wp2_with fail
  go_at_call 50
  cases hq : claF k p (i + 1) with
  | none => exfalso; have := HA.out; rw [hq] at this; cases this
  | some q =>
  refine (class_calls k g p (i + 1) o _ HS2.out i2 i3 hp q hq).mono ?_
  rintro e w1 hch
  have hA := HA.out
  rw [hq] at hA
  rcases q with ⟨c, a⟩ | ⟨s, j⟩
  · obtain ⟨rfl, hb1⟩ := hch
    obtain rfl := Option.some.inj hA
    exact ⟨rfl, rfl, HX2.out.trans (hb1.lower HX2.out.size)⟩
  · obtain ⟨rfl, hst, hb1⟩ := hch
    obtain rfl := Option.some.inj hA
    have hl := (claF_ok hq i2 i3).2.2
    have HL := Aside0.mk hl
    have HB := Aside0.mk (HX2.out.trans (hb1.lower HX2.out.size))
    have HST := Aside0.mk hst
    clear hb1 hst hA hq HA hl
    go_wp2
    go_ret
    exact ⟨_, rfl, by unfold RepX; exact ⟨HL.out, rfl⟩, HST.out, HB.out⟩
/-- The set of all bytes, filled from the first. -/
def fillT (n : Nat) : List Bool := List.replicate n true ++ List.replicate (256 - n) false
theorem fillT_len (n : Nat) (h : n ≤ 256) : (fillT n).length = 256 := by unfold fillT; rw [List.length_append, List.length_replicate, List.length_replicate]; omega
theorem fillT_set (n : Nat) (h : n < 256) : (fillT n).set n true = fillT (n + 1) := by
  unfold fillT
  have e : 256 - n = (256 - (n + 1)) + 1 := by omega
  have := set_fill (List.replicate n true) false true (256 - (n + 1))
  rw [List.length_replicate] at this
  rw [e, this, List.replicate_succ']
theorem fillT_0 : fillT 0 = noB := rfl
theorem fillT_all : fillT 256 = List.replicate 256 true := by unfold fillT; rw [Nat.sub_self]; exact List.append_nil _
set_option maxHeartbeats 4000000 in
set_option maxRecDepth 100000 in
theorem atom_dot (k : Nat) (g : Nat) (p : ByteArray) (i o : Int) (r : Except (Int × Int) (Rx × Int)) (h : atomF (k + 1) p i o = some r) (h0 : 0 ≤ i) (h1 : i < p.size) (hp : p.size ≤ 200) (o0 : 0 ≤ o) (o1 : o ≤ 20) (w : World) (hs : St w g p i o) (e1 : bt p i ≠ 40) (e2 : bt p i ≠ 91) (e3 : bt p i = 46) :
    Calls Try.prog 48 #[.pointer (some ⟨g, 0, none⟩)] w (PostX g p o w r) := by
  have HS := Aside0.mk hs
  have hgl : g < w.heap.size := lt_of_some hs
  have c0 := hs.c0
  have c1 := hs.c1
  have c2 := hs.c2
  have f1 := hs.fr 1
  have f2 := hs.fr 2
  have kr : K0 (Bx w.heap.size g w w) := ⟨Bx.refl _ _ _⟩
  have hx := bt_at p i
  have hA := h
  simp only [atomF] at hA
  rw [if_neg e1, if_neg e2, if_pos e3] at hA
  obtain rfl := Option.some.inj hA
  have d1 : (bt p i == 40) = false := beq_eq_false_iff_ne.mpr e1
  have d2 : (bt p i == 91) = false := beq_eq_false_iff_ne.mpr e2
  have d3 : (bt p i == 46) = true := beq_iff_eq.mpr e3
  clear h hs e1 e2 e3 hA c2 f2
  have hgx : w.heap.size ≠ g := by omega
  have HGX := Aside0.mk hgx
  have i3 : i + 1 ≤ p.size := by omega
  clear hgx
  go_enter Try.func48, Try.ntmps48
  go_upto_region 21 with (fail)
  try rw [show Try.zeroCells82 = oneA noB 0 false from by kernel_rfl]
  have hs2 : St ((w.setCell ⟨g, 1, none⟩ (.int .i64 (i + 1))).alloc (.cells (oneA noB 0 false) 82)) g p (i + 1) o := stt HS
  have hrow : Row ((w.setCell ⟨g, 1, none⟩ (.int .i64 (i + 1))).alloc (.cells (oneA noB 0 false) 82)) w.heap.size (fillT 0) := by
    have h := heap_alloc_new (w.setCell ⟨g, 1, none⟩ (.int .i64 (i + 1))) (.cells (oneA noB 0 false) 82)
    rw [show (w.setCell ⟨g, 1, none⟩ (.int .i64 (i + 1))).heap.size = w.heap.size by simp [World.setCell]] at h
    rw [fillT_0]
    exact h
  have hx2 : Bx w.heap.size g w ((w.setCell ⟨g, 1, none⟩ (.int .i64 (i + 1))).alloc (.cells (oneA noB 0 false) 82)) := kk
  have HS2 := Aside0.mk hs2
  have HR2 := Aside0.mk hrow
  have HX2 := Aside0.mk hx2
  clear hs2 hrow hx2 c0 c1 f1 kr HS
  go_loopg [85] 256 (fun kq v W => ∃ b : Nat, v = .int .i64 b ∧ Aside0 (b + kq = 256) ∧ Aside0 (St W g p (i + 1) o) ∧ Aside0 (Row W w.heap.size (fillT b)) ∧ Aside0 (Bx w.heap.size g w W))
  case atStart => exact ⟨0, rfl, ⟨rfl⟩, HS2, HR2, HX2⟩
  case round =>
    clear HS2 HR2 HX2
    obtain ⟨b, rfl, HE, HST, HROW, HB⟩ := hrel
    have kb : K0 (Bx w.heap.size g w wr) := ⟨HB.out⟩
    cases gk with
    | zero =>
      obtain rfl : b = 256 := by have := HE.out; omega
      have hrow := HROW.out
      rw [fillT_all] at hrow
      have hl : (List.replicate 256 true).length = 256 := List.length_replicate
      have hsz : (Try.prog.info? 82).map (·.size) = some (oneA (List.replicate 256 true) 0 false).size := by rw [oneA_size _ _ _ hl]; exact info87
      have HSZ := Aside0.mk hsz
      have HRW := Aside0.mk hrow
      have HL := Aside0.mk hl
      clear hsz hrow hl HROW
      generalize List.replicate 256 true = al at *
      go_wp2_with (refine wpList_load_row rfl 82 (.tmp 6) rfl w.heap.size rfl 82 (oneA al 0 false) (0, 0) _ HRW.out Try.underlying82 rfl HSZ.out ?_)
      go_ret
      exact ⟨_, rfl, by unfold RepX; exact ⟨HL.out, rfl⟩, HST.out, HB.out⟩
    | succ kq =>
      have hb : b < 256 := by have := HE.out; omega
      have hcl := HROW.out.cell (fillT_len b (Nat.le_of_lt hb)) b hb
      have hfr := HROW.out.fr b
      have kx : K0 (w.heap.size ≤ w.heap.size) := ⟨Nat.le_refl _⟩
      have hset := HROW.out.set (fillT_len b (Nat.le_of_lt hb)) b hb true
      rw [fillT_set b hb] at hset
      have HSET := Aside0.mk hset
      clear hset
      go_wp2
      go_roundg kq
      case measure => omega
      case rel => exact ⟨b + 1, by go_num, ⟨by have := HE.out; omega⟩, ⟨st_far HST.out (Ne.symm HGX.out)⟩, HSET, ⟨kk⟩⟩
set_option maxHeartbeats 4000000 in
set_option maxRecDepth 100000 in
theorem atom_bad42 (k : Nat) (g : Nat) (p : ByteArray) (i o : Int) (r : Except (Int × Int) (Rx × Int)) (h : atomF (k + 1) p i o = some r) (h0 : 0 ≤ i) (h1 : i < p.size) (hp : p.size ≤ 200) (o0 : 0 ≤ o) (o1 : o ≤ 20) (w : World) (hs : St w g p i o) (e1 : bt p i = 42) :
    Calls Try.prog 48 #[.pointer (some ⟨g, 0, none⟩)] w (PostX g p o w r) := by
  have HS := Aside0.mk hs
  have hgl : g < w.heap.size := lt_of_some hs
  have c0 := hs.c0
  have c1 := hs.c1
  have c2 := hs.c2
  have f1 := hs.fr 1
  have f2 := hs.fr 2
  have kr : K0 (Bx w.heap.size g w w) := ⟨Bx.refl _ _ _⟩
  have hx := bt_at p i
  have hA := h
  have hA2 : some (Except.error (2, i)) = some r := by
    simp only [atomF] at hA
    rw [e1] at hA
    exact hA
  obtain rfl := Option.some.inj hA2
  clear h hs hA hA2 c2 f2
  have b40 : (bt p i == 40) = false := by rw [e1]; rfl
  have b91 : (bt p i == 91) = false := by rw [e1]; rfl
  have b46 : (bt p i == 46) = false := by rw [e1]; rfl
  have b42 : (bt p i == 42) = true := by rw [e1]; rfl
  have b43 : (bt p i == 43) = false := by rw [e1]; rfl
  have b63 : (bt p i == 63) = false := by rw [e1]; rfl
  have b93 : (bt p i == 93) = false := by rw [e1]; rfl
  clear e1
  go_enter Try.func48, Try.ntmps48
  go_wp2_with fail
  go_at_call 36
  refine (fail_calls _ _ _ _).mono ?_
  rintro e w' ⟨rfl, rfl⟩
  exact ⟨rfl, rfl, kk⟩
set_option maxHeartbeats 4000000 in
set_option maxRecDepth 100000 in
theorem atom_bad43 (k : Nat) (g : Nat) (p : ByteArray) (i o : Int) (r : Except (Int × Int) (Rx × Int)) (h : atomF (k + 1) p i o = some r) (h0 : 0 ≤ i) (h1 : i < p.size) (hp : p.size ≤ 200) (o0 : 0 ≤ o) (o1 : o ≤ 20) (w : World) (hs : St w g p i o) (e1 : bt p i = 43) :
    Calls Try.prog 48 #[.pointer (some ⟨g, 0, none⟩)] w (PostX g p o w r) := by
  have HS := Aside0.mk hs
  have hgl : g < w.heap.size := lt_of_some hs
  have c0 := hs.c0
  have c1 := hs.c1
  have c2 := hs.c2
  have f1 := hs.fr 1
  have f2 := hs.fr 2
  have kr : K0 (Bx w.heap.size g w w) := ⟨Bx.refl _ _ _⟩
  have hx := bt_at p i
  have hA := h
  have hA2 : some (Except.error (2, i)) = some r := by
    simp only [atomF] at hA
    rw [e1] at hA
    exact hA
  obtain rfl := Option.some.inj hA2
  clear h hs hA hA2 c2 f2
  have b40 : (bt p i == 40) = false := by rw [e1]; rfl
  have b91 : (bt p i == 91) = false := by rw [e1]; rfl
  have b46 : (bt p i == 46) = false := by rw [e1]; rfl
  have b42 : (bt p i == 42) = false := by rw [e1]; rfl
  have b43 : (bt p i == 43) = true := by rw [e1]; rfl
  have b63 : (bt p i == 63) = false := by rw [e1]; rfl
  have b93 : (bt p i == 93) = false := by rw [e1]; rfl
  clear e1
  go_enter Try.func48, Try.ntmps48
  go_wp2_with fail
  go_at_call 36
  refine (fail_calls _ _ _ _).mono ?_
  rintro e w' ⟨rfl, rfl⟩
  exact ⟨rfl, rfl, kk⟩
set_option maxHeartbeats 4000000 in
set_option maxRecDepth 100000 in
theorem atom_bad63 (k : Nat) (g : Nat) (p : ByteArray) (i o : Int) (r : Except (Int × Int) (Rx × Int)) (h : atomF (k + 1) p i o = some r) (h0 : 0 ≤ i) (h1 : i < p.size) (hp : p.size ≤ 200) (o0 : 0 ≤ o) (o1 : o ≤ 20) (w : World) (hs : St w g p i o) (e1 : bt p i = 63) :
    Calls Try.prog 48 #[.pointer (some ⟨g, 0, none⟩)] w (PostX g p o w r) := by
  have HS := Aside0.mk hs
  have hgl : g < w.heap.size := lt_of_some hs
  have c0 := hs.c0
  have c1 := hs.c1
  have c2 := hs.c2
  have f1 := hs.fr 1
  have f2 := hs.fr 2
  have kr : K0 (Bx w.heap.size g w w) := ⟨Bx.refl _ _ _⟩
  have hx := bt_at p i
  have hA := h
  have hA2 : some (Except.error (2, i)) = some r := by
    simp only [atomF] at hA
    rw [e1] at hA
    exact hA
  obtain rfl := Option.some.inj hA2
  clear h hs hA hA2 c2 f2
  have b40 : (bt p i == 40) = false := by rw [e1]; rfl
  have b91 : (bt p i == 91) = false := by rw [e1]; rfl
  have b46 : (bt p i == 46) = false := by rw [e1]; rfl
  have b42 : (bt p i == 42) = false := by rw [e1]; rfl
  have b43 : (bt p i == 43) = false := by rw [e1]; rfl
  have b63 : (bt p i == 63) = true := by rw [e1]; rfl
  have b93 : (bt p i == 93) = false := by rw [e1]; rfl
  clear e1
  go_enter Try.func48, Try.ntmps48
  go_wp2_with fail
  go_at_call 36
  refine (fail_calls _ _ _ _).mono ?_
  rintro e w' ⟨rfl, rfl⟩
  exact ⟨rfl, rfl, kk⟩
set_option maxHeartbeats 4000000 in
set_option maxRecDepth 100000 in
theorem atom_bad93 (k : Nat) (g : Nat) (p : ByteArray) (i o : Int) (r : Except (Int × Int) (Rx × Int)) (h : atomF (k + 1) p i o = some r) (h0 : 0 ≤ i) (h1 : i < p.size) (hp : p.size ≤ 200) (o0 : 0 ≤ o) (o1 : o ≤ 20) (w : World) (hs : St w g p i o) (e1 : bt p i = 93) :
    Calls Try.prog 48 #[.pointer (some ⟨g, 0, none⟩)] w (PostX g p o w r) := by
  have HS := Aside0.mk hs
  have hgl : g < w.heap.size := lt_of_some hs
  have c0 := hs.c0
  have c1 := hs.c1
  have c2 := hs.c2
  have f1 := hs.fr 1
  have f2 := hs.fr 2
  have kr : K0 (Bx w.heap.size g w w) := ⟨Bx.refl _ _ _⟩
  have hx := bt_at p i
  have hA := h
  have hA2 : some (Except.error (2, i)) = some r := by
    simp only [atomF] at hA
    rw [e1] at hA
    exact hA
  obtain rfl := Option.some.inj hA2
  clear h hs hA hA2 c2 f2
  have b40 : (bt p i == 40) = false := by rw [e1]; rfl
  have b91 : (bt p i == 91) = false := by rw [e1]; rfl
  have b46 : (bt p i == 46) = false := by rw [e1]; rfl
  have b42 : (bt p i == 42) = false := by rw [e1]; rfl
  have b43 : (bt p i == 43) = false := by rw [e1]; rfl
  have b63 : (bt p i == 63) = false := by rw [e1]; rfl
  have b93 : (bt p i == 93) = true := by rw [e1]; rfl
  clear e1
  go_enter Try.func48, Try.ntmps48
  go_wp2_with fail
  go_at_call 36
  refine (fail_calls _ _ _ _).mono ?_
  rintro e w' ⟨rfl, rfl⟩
  exact ⟨rfl, rfl, kk⟩
set_option maxHeartbeats 4000000 in
set_option maxRecDepth 100000 in
theorem atom_lit (k : Nat) (g : Nat) (p : ByteArray) (i o : Int) (r : Except (Int × Int) (Rx × Int)) (h : atomF (k + 1) p i o = some r) (h0 : 0 ≤ i) (h1 : i < p.size) (hp : p.size ≤ 200) (o0 : 0 ≤ o) (o1 : o ≤ 20) (w : World) (hs : St w g p i o) (n40 : bt p i ≠ 40) (n91 : bt p i ≠ 91) (n46 : bt p i ≠ 46) (n42 : bt p i ≠ 42) (n43 : bt p i ≠ 43) (n63 : bt p i ≠ 63) (n93 : bt p i ≠ 93) (n92 : bt p i ≠ 92) :
    Calls Try.prog 48 #[.pointer (some ⟨g, 0, none⟩)] w (PostX g p o w r) := by
  have HS := Aside0.mk hs
  have hgl : g < w.heap.size := lt_of_some hs
  have c0 := hs.c0
  have c1 := hs.c1
  have c2 := hs.c2
  have f1 := hs.fr 1
  have f2 := hs.fr 2
  have kr : K0 (Bx w.heap.size g w w) := ⟨Bx.refl _ _ _⟩
  have hx := bt_at p i
  have hop : ¬ (isOp (bt p i) = true ∨ bt p i = 93) := by unfold isOp; simp [n42, n43, n63, n93]
  have hA := h
  simp only [atomF] at hA
  rw [if_neg n40, if_neg n91, if_neg n46, if_neg hop] at hA
  rw [if_neg n92] at hA
  obtain rfl := Option.some.inj hA
  have b40 : (bt p i == 40) = false := beq_eq_false_iff_ne.mpr n40
  have b91 : (bt p i == 91) = false := beq_eq_false_iff_ne.mpr n91
  have b46 : (bt p i == 46) = false := beq_eq_false_iff_ne.mpr n46
  have b42 : (bt p i == 42) = false := beq_eq_false_iff_ne.mpr n42
  have b43 : (bt p i == 43) = false := beq_eq_false_iff_ne.mpr n43
  have b63 : (bt p i == 63) = false := beq_eq_false_iff_ne.mpr n63
  have b93 : (bt p i == 93) = false := beq_eq_false_iff_ne.mpr n93
  have b92 : (bt p i == 92) = false := beq_eq_false_iff_ne.mpr n92
  have br := bt_range p i
  have q0 : 0 ≤ bt p i := br.1
  have q1 : bt p i < 256 := by omega
  clear h hs hop c2 f2 n40 n91 n46 n42 n43 n63 n93
  clear hA n92 br
  have hs2 : St (w.setCell ⟨g, 1, none⟩ (.int .i64 (i + 1))) g p (i + 1) o := stt HS
  have hx2 : Bx w.heap.size g w (w.setCell ⟨g, 1, none⟩ (.int .i64 (i + 1))) := kk
  have HS2 := Aside0.mk hs2
  have HX2 := Aside0.mk hx2
  clear hs2 hx2
  go_enter Try.func48, Try.ntmps48
  go_wp2_with fail
  go_at_call 51
  refine (single_calls _ q0 q1 _).mono ?_
  rintro e w1 ⟨rfl, hb⟩
  have hbx : Bx w.heap.size g w w1 := HX2.out.trans ((Bx.of hb).lower HX2.out.size)
  have hst : St w1 g p (i + 1) o := by have := HS2.out; unfold St at this ⊢; rw [hb.block g (lt_of_some this)]; exact this
  have HBX := Aside0.mk hbx
  have HST := Aside0.mk hst
  have kr : K0 (Bx w.heap.size g w w1) := ⟨hbx⟩
  clear hb hbx hst HS2 HX2
  go_wp2
  go_ret
  exact ⟨_, rfl, by unfold sgl RepX; exact ⟨by rw [List.length_set]; exact noB_len, rfl⟩, HST.out, HBX.out⟩
set_option maxHeartbeats 4000000 in
set_option maxRecDepth 100000 in
theorem atom_esc (k : Nat) (g : Nat) (p : ByteArray) (i o : Int) (r : Except (Int × Int) (Rx × Int)) (h : atomF (k + 1) p i o = some r) (h0 : 0 ≤ i) (h1 : i < p.size) (hp : p.size ≤ 200) (o0 : 0 ≤ o) (o1 : o ≤ 20) (w : World) (hs : St w g p i o) (n40 : bt p i ≠ 40) (n91 : bt p i ≠ 91) (n46 : bt p i ≠ 46) (n42 : bt p i ≠ 42) (n43 : bt p i ≠ 43) (n63 : bt p i ≠ 63) (n93 : bt p i ≠ 93) (n92 : bt p i = 92) :
    Calls Try.prog 48 #[.pointer (some ⟨g, 0, none⟩)] w (PostX g p o w r) := by
  have HS := Aside0.mk hs
  have hgl : g < w.heap.size := lt_of_some hs
  have c0 := hs.c0
  have c1 := hs.c1
  have c2 := hs.c2
  have f1 := hs.fr 1
  have f2 := hs.fr 2
  have kr : K0 (Bx w.heap.size g w w) := ⟨Bx.refl _ _ _⟩
  have hx := bt_at p i
  have hop : ¬ (isOp (bt p i) = true ∨ bt p i = 93) := by unfold isOp; simp [n42, n43, n63, n93]
  have hA := h
  simp only [atomF] at hA
  rw [if_neg n40, if_neg n91, if_neg n46, if_neg hop] at hA
  rw [if_pos n92] at hA
  have b40 : (bt p i == 40) = false := beq_eq_false_iff_ne.mpr n40
  have b91 : (bt p i == 91) = false := beq_eq_false_iff_ne.mpr n91
  have b46 : (bt p i == 46) = false := beq_eq_false_iff_ne.mpr n46
  have b42 : (bt p i == 42) = false := beq_eq_false_iff_ne.mpr n42
  have b43 : (bt p i == 43) = false := beq_eq_false_iff_ne.mpr n43
  have b63 : (bt p i == 63) = false := beq_eq_false_iff_ne.mpr n63
  have b93 : (bt p i == 93) = false := beq_eq_false_iff_ne.mpr n93
  have b92 : (bt p i == 92) = true := beq_iff_eq.mpr n92
  clear h hs hop c2 f2 n40 n91 n46 n42 n43 n63 n93
  clear n92
  by_cases e1 : i + 1 = p.size
  · rw [if_pos e1] at hA
    obtain rfl := Option.some.inj hA
    have d1 : (i + 1 == (p.size : Int)) = true := beq_iff_eq.mpr e1
    clear e1 hA
    go_enter Try.func48, Try.ntmps48
    go_wp2
    go_quiet (fail)
    go_wp2_with fail
    go_at_call 36
    refine (fail_calls _ _ _ _).mono ?_
    rintro e w' ⟨rfl, rfl⟩
    exact ⟨rfl, rfl, kk⟩
  · rw [if_neg e1] at hA
    obtain rfl := Option.some.inj hA
    have d1 : (i + 1 == (p.size : Int)) = false := beq_eq_false_iff_ne.mpr e1
    have hx1 := bt_at p (i + 1)
    have br := bt_range p (i + 1)
    have q0 : 0 ≤ bt p (i + 1) := br.1
    have q1 : bt p (i + 1) < 256 := by omega
    have i3 : i + 1 < p.size := by omega
    clear e1 hA br
    go_enter Try.func48, Try.ntmps48
    go_wp2
    go_quiet (fail)
    rename_i nq
    go_wp2_with fail
    go_at_call 51
    have hs2 : St (((w.setCell ⟨g, 1, none⟩ (.int .i64 (i + 1))).drewN nq).setCell ⟨g, 1, none⟩ (.int .i64 (i + 1 + 1))) g p (i + 1 + 1) o := stt HS
    have hx2 : Bx w.heap.size g w (((w.setCell ⟨g, 1, none⟩ (.int .i64 (i + 1))).drewN nq).setCell ⟨g, 1, none⟩ (.int .i64 (i + 1 + 1))) := kk
    have e2 : i + 1 + 1 = i + 2 := by omega
    have HE2 := Aside0.mk e2
    have HS2 := Aside0.mk hs2
    have HX2 := Aside0.mk hx2
    clear hs2 hx2 e2
    refine (single_calls _ q0 q1 _).mono ?_
    rintro e w1 ⟨rfl, hb⟩
    have hbx : Bx w.heap.size g w w1 := HX2.out.trans ((Bx.of hb).lower HX2.out.size)
    have hst : St w1 g p (i + 1 + 1) o := by have := HS2.out; unfold St at this ⊢; rw [hb.block g (lt_of_some this)]; exact this
    have HBX := Aside0.mk hbx
    have HST := Aside0.mk hst
    have kr : K0 (Bx w.heap.size g w w1) := ⟨hbx⟩
    clear hb hbx hst HS2 HX2
    go_wp2
    go_ret
    exact ⟨_, rfl, by unfold sgl RepX; exact ⟨by rw [List.length_set]; exact noB_len, rfl⟩, by have h := HST.out; rwa [HE2.out] at h, HBX.out⟩
theorem atom_calls (k : Nat) (IH : AltC k) : AtomC (k + 1) := by
  intro g p i o r h h0 h1 hp o0 o1 w hs
  by_cases n40 : bt p i = 40
  · exact atom_paren k IH g p i o r h h0 h1 hp o0 o1 w hs n40
  by_cases n91 : bt p i = 91
  · exact atom_class k g p i o r h h0 h1 hp o0 o1 w hs n40 n91
  by_cases n46 : bt p i = 46
  · exact atom_dot k g p i o r h h0 h1 hp o0 o1 w hs n40 n91 n46
  by_cases n42 : bt p i = 42
  · exact atom_bad42 k g p i o r h h0 h1 hp o0 o1 w hs n42
  by_cases n43 : bt p i = 43
  · exact atom_bad43 k g p i o r h h0 h1 hp o0 o1 w hs n43
  by_cases n63 : bt p i = 63
  · exact atom_bad63 k g p i o r h h0 h1 hp o0 o1 w hs n63
  by_cases n93 : bt p i = 93
  · exact atom_bad93 k g p i o r h h0 h1 hp o0 o1 w hs n93
  by_cases n92 : bt p i = 92
  · exact atom_esc k g p i o r h h0 h1 hp o0 o1 w hs n40 n91 n46 n42 n43 n63 n93 n92
  · exact atom_lit k g p i o r h h0 h1 hp o0 o1 w hs n40 n91 n46 n42 n43 n63 n93 n92
end Go.Proofs.Ytcdpmmpdfdillaa.Q

namespace Go.Proofs
open Go.Shelf
def Try.lays137_ren : Go.Shelf.Ren := ⟨fun | 137 => 49 | 217 => 52 | 266 => 54 | n => n, fun | 9 => 9 | 5 => 5 | 3 => 3 | n => n, fun | n => n⟩
theorem Try.lays137 : Go.Proofs.Lays.n137 Try.prog Try.lays137_ren := {
  mixed := by kernel_rfl
  f137 := Try.func49.trans (congrArg some (by kernel_rfl))
  f217 := Try.func52.trans (congrArg some (by kernel_rfl))
  f266 := Try.func54.trans (congrArg some (by kernel_rfl))
  t3 := Try.underlying3
  a3 := Try.isAgg3
  z3 := Try.sizeOf3
  v3 := Try.zeroValue3
  t5 := Try.underlying5
  a5 := Try.isAgg5
  z5 := Try.sizeOf5
  v5 := Try.zeroValue5
  t9 := Try.underlying9
  a9 := Try.isAgg9
  z9 := Try.sizeOf9
  v9 := Try.zeroValue9 }
open Go.RowKit in
/-- strings.IndexByte: "IndexByte returns the index of the first instance of c in s, or -1 if c is not present in s.": IT RETURNS 'Lib.indexByte s c'; the world is as it was. (LAID: no walk: one application.) -/
theorem Try.strings_IndexByte (s : ByteArray) (c : Int) (w : World) :
    Calls Try.prog 49 #[.string s, .int .u8 c] w fun e w' => e = .returned (.int .i64 (Lib.indexByte s.data.toList c.toNat.toUInt8)) ∧ w' = w := Any.strings_IndexByte Try.lays137 s c w
end Go.Proofs

namespace Go.Proofs.Ytcdpmmpdfdillaa.Q
open Go.RowKit Go.Proofs.YtcdpmmpdfdillaaW.PrintWords Go.Proofs.YtcdpmmpdfdillaaW.PrintLast
set_option linter.unusedVariables false
set_option linter.unusedSimpArgs false
def ibx (c : Int) : Int := Lib.indexByte [42, 43, 63] c.toNat.toUInt8
theorem ibx_all : (List.range 256).all (fun n => decide (0 ≤ ibx (n : Int)) == isOp (n : Int)) = true := by kernel_rfl
theorem ibx_op (c : Int) (h0 : 0 ≤ c) (h1 : c ≤ 255) : decide (0 ≤ ibx c) = isOp c := by
  have h := List.all_eq_true.mp ibx_all c.toNat (List.mem_range.mpr (by omega))
  rw [show ((c.toNat : Nat) : Int) = c by omega] at h
  exact beq_iff_eq.mp h
theorem ib_calls (c : Int) (w : World) : Calls Try.prog 49 #[.string ⟨#[42, 43, 63]⟩, .int .u8 c] w fun e w' => e = .returned (.int .i64 (ibx c)) ∧ w' = w := Try.strings_IndexByte _ _ _
def seqB (p : ByteArray) (j : Int) : Bool := decide (j < p.size) && (bt p j != 124 && bt p j != 41)
theorem seqB_iff (p : ByteArray) (j : Int) : (seqB p j = true) ↔ (j < p.size ∧ (bt p j ≠ 124 ∧ bt p j ≠ 41)) := by unfold seqB; simp
def opB (p : ByteArray) (j : Int) : Bool := decide (j < p.size) && isOp (bt p j)
theorem opB_iff (p : ByteArray) (j : Int) : (opB p j = true) ↔ (j < p.size ∧ isOp (bt p j) = true) := by unfold opB; simp
theorem info40 : (Try.prog.info? 37).map (fun i => (i.zero, i.size, i.bytes)) = some (some .nilIface, 1, 16) := by kernel_rfl
theorem RepX_iface {w : World} {ok : Nat → Prop} {x : Rx} {v : Value} (h : RepX w ok x v) : ∃ T u, v = .iface T u := by
  cases x <;> unfold RepX at h
  · exact ⟨_, _, h.2⟩
  · obtain ⟨u, vs, rfl, -⟩ := h; exact ⟨_, _, rfl⟩
  · obtain ⟨u, vs, rfl, -⟩ := h; exact ⟨_, _, rfl⟩
  · obtain ⟨u, -, rfl⟩ := h; exact ⟨_, _, rfl⟩
theorem Acc.cell {w : World} {x T : Nat} {acc : List Rx} {v : Value} {vs : List Value} (h : Acc w x T acc v vs) : w.cell? ⟨x, 0, none⟩ = some v := cell_of_row _ x 0 _ T _ h.1
theorem acc_bx {w w1 : World} {g x T : Nat} {acc : List Rx} {v : Value} {vs : List Value} (h : Acc w x T acc v vs) (hb : Bx w.heap.size g w w1) (hg : g < x) : Acc w1 x T acc v vs := acc_move h fun k hk hl => hb.block k hl (by omega)
theorem own_sl {w : World} {b : Nat} {e : TypeId} {size n : Nat} {v : Value} {xs : List Value} (h : w.ownsRow b e size v n xs) : ∃ A m c, v = .slice A m c := by
  rcases h.2 with ⟨rfl, _⟩ | ⟨g, cap, cur, rfl, _⟩ <;> exact ⟨_, _, _, rfl⟩
theorem acc_grown {w1 w2 : World} {x T : Nat} {acc : List Rx} {v : Value} {vs : List Value} {o : Obj} (h : Acc w1 x T acc v vs) (hg : (w1.alloc o).grownBy w2 v.ownBlock) : w2.heap[x]? = some (.cells #[v] T (0, 0)) := by
  have hl := lt_of_some h.1
  exact ((hg.block x (by rw [sz_al]; omega) (fun e => h.2.2.1 e.symm)).trans (heap_alloc_old w1 _ hl)).trans h.1
theorem st_grown {w1 w2 : World} {g : Nat} {p : ByteArray} {i o' : Int} {o : Obj} {row : Option Nat} (h : St w1 g p i o') (hg : (w1.alloc o).grownBy w2 row) (hr : some g ≠ row) : St w2 g p i o' := by
  have hl := lt_of_some h
  exact ((hg.block g (by rw [sz_al]; omega) hr).trans (heap_alloc_old w1 _ hl)).trans h
theorem bx_grown {w w1 w2 : World} {g : Nat} {o : Obj} {row : Option Nat} (h : Bx w.heap.size g w w1) (hg : (w1.alloc o).grownBy w2 row) (hr : ∀ k, row = some k → w.heap.size ≤ k) : Bx w.heap.size g w w2 :=
  h.trans ⟨hg.os, hg.tape, hg.output, by have := hg.size; rw [sz_al] at this; omega, fun k hk _ => (hg.block k (by rw [sz_al]; have := h.size; omega) (fun e => by have := hr k e.symm; omega)).trans (heap_alloc_old w1 _ (by have := h.size; omega))⟩
theorem bk_cell {w : World} {x T : Nat} {v : Value} (h : w.heap[x]? = some (.cells #[v] T (0, 0))) : w.cell? ⟨x, 0, none⟩ = some v := cell_of_row _ x 0 _ T _ h
theorem bk_fr {w : World} {x T : Nat} {cs : Array Value} (h : w.heap[x]? = some (.cells cs T (0, 0))) (j : Nat) : w.frozen? ⟨x, j, none⟩ = false := by unfold World.frozen?; rw [h]; simp
theorem acc_nil (w : World) (T : Nat) : Acc (w.alloc (.cells #[.slice none 0 0] T)) w.heap.size T [] (.slice none 0 0) [] :=
  ⟨heap_alloc_new _ _, World.ownsRow_nil _ _ _ _, by simp [Value.ownBlock], by unfold RepXs; rfl⟩
set_option maxHeartbeats 4000000 in
set_option maxRecDepth 100000 in
theorem seq_calls (k : Nat) (IH : ∀ m, m < k → AtomC m) : SeqC k := by
  intro g p i o r h h0 h1 hp o0 o1 w hs
  have HIH := Aside0.mk IH
  have H := Aside0.mk h
  have HS := Aside0.mk hs
  have hgl : g < w.heap.size := lt_of_some hs
  have HGL := Aside0.mk hgl
  have kr : K0 (Bx w.heap.size g w w) := ⟨Bx.refl _ _ _⟩
  obtain ⟨i0, hi, hz0, hz1, hz2⟩ := info_parts info40
  have HI := Aside0.mk hi
  have HZ := Aside0.mk (And.intro hz0 (And.intro hz1 hz2))
  clear IH h hs hi hz0 hz1 hz2 hgl
  go_enter Try.func45, Try.ntmps45
  go_upto_region 2 with (fail)
  have HS2 := Aside0.mk (show St (w.alloc (.cells #[.slice none 0 0] 65)) g p i o from stt HS)
  have HA2 := Aside0.mk (acc_nil w 65)
  have HX2 := Aside0.mk (show Bx w.heap.size g w (w.alloc (.cells #[.slice none 0 0] 65)) from kk)
  clear kr HS
  go_loopg [4] k (fun kq v4 W => ∃ (j : Int) (acc : List Rx) (v : Value) (vs : List Value), Aside0 (seqL kq p j o acc = some r) ∧ Aside0 (kq ≤ k) ∧ Aside0 (0 ≤ j ∧ j ≤ p.size ∧ acc.length ≤ j) ∧ Aside0 (St W g p j o) ∧ Aside0 (Acc W w.heap.size 65 acc v vs) ∧ Aside0 (Bx w.heap.size g w W))
  case atStart => exact ⟨i, [], _, [], H, ⟨Nat.le_refl _⟩, ⟨h0, h1, h0⟩, HS2, HA2, HX2⟩
  case round =>
    clear HS2 HA2 HX2 H
    obtain ⟨j, acc, v, vs, HA, HK, HN, HST, HACC, HB⟩ := hrel
    cases gk with
    | zero => exact absurd HA.out (by simp [seqL])
    | succ k1 =>
    have c0 := HST.out.c0
    have c1 := HST.out.c1
    have f1 := HST.out.fr 1
    have j0 := HN.out.1
    have j1 := HN.out.2.1
    have kw : K0 (Bx w.heap.size g w wr) := ⟨HB.out⟩
    have hx := bt_at p j
    go_upto_region 2 with (fail)
    go_cut [38] (fun v38 wc => v38 = .bool (seqB p j) ∧ ∃ m, wc = wr.drewN m)
    case first =>
      by_cases e1 : j < p.size
      · have d1 : decide (j < (p.size : Int)) = true := decide_eq_true e1
        by_cases e2 : bt p j = 124
        · have hc : seqB p j = false := by unfold seqB; rw [e2]; simp
          have d2 : (bt p j != 124) = false := bne_eq_false_iff_eq.mpr e2
          have HC := Aside0.mk hc
          clear hc e2
          go_quiet (fail)
          go_wp2
          go_meet
          case rel => exact ⟨by rw [HC.out], _, rfl⟩
        · have d2 : (bt p j != 124) = true := bne_iff_ne.mpr e2
          have hc : seqB p j = (bt p j != 41) := by unfold seqB; rw [d1, d2]; rfl
          have HC := Aside0.mk hc
          clear hc e2
          go_quiet (fail)
          go_wp2
          go_meet
          case rel => exact ⟨by rw [HC.out], _, rfl⟩
      · have d1 : decide (j < (p.size : Int)) = false := decide_eq_false e1
        have hc : seqB p j = false := by unfold seqB; rw [d1]; rfl
        have HC := Aside0.mk hc
        clear hc
        go_quiet (fail)
        go_wp2
        go_meet
        case rel => exact ⟨by rw [HC.out], _, rfl⟩
    case rest =>
      obtain ⟨rfl, m, rfl⟩ := hcut
      have hA := HA.out
      simp only [seqL, ← seqB_iff] at hA
      have hacc : Acc (wr.drewN m) w.heap.size 65 acc v vs := acc_move HACC.out (fun _ _ _ => rfl)
      have HACC2 := Aside0.mk hacc
      have HST2 := Aside0.mk (st_drewN (n := m) HST.out)
      have HB2 := Aside0.mk (show Bx w.heap.size g w (wr.drewN m) from kk)
      clear hacc HACC HST HB kw c0 c1 f1 hx
      generalize hsb : seqB p j = sb at hA ⊢
      have HSB := Aside0.mk hsb
      clear hsb HA
      generalize wr.drewN m = wx at *
      have HGL := HGL
      cases sb
      · obtain rfl := Option.some.inj hA
        have hcl := HACC2.out.cell
        clear hA
        go_wp2
        go_ret
        refine ⟨_, rfl, ?_, HST2.out, HB2.out⟩
        unfold RepX
        exact ⟨v, vs, rfl, own_lower HACC2.out.2.1 (Nat.zero_le _), fun k hk => (HACC2.out.2.1.lt k hk).1, RepXs_move (fun k hk hl => ⟨Nat.le_of_lt hk.1, rfl⟩) _ _ HACC2.out.2.2.2⟩
      · rw [if_pos rfl] at hA
        have HA3 := Aside0.mk hA
        have j2 : j < p.size := by have := (seqB_iff p j).mp HSB.out; exact this.1
        clear hA
        go_wp2_with fail
        go_at_call 48
        cases hq : atomF k1 p j o with
        | none => exfalso; have := HA3.out; rw [hq] at this; cases this
        | some q =>
        have hk1 : k1 < k := by have := HK.out; omega
        refine (HIH.out k1 hk1 g p j o q hq j0 j2 hp o0 o1 _ HST2.out).mono ?_
        rintro e w1 hch
        rcases q with ⟨c, a⟩ | ⟨y0, j3⟩
        · obtain ⟨rfl, hb1⟩ := hch
          have hA := HA3.out
          rw [hq] at hA
          obtain rfl := Option.some.inj hA
          exact ⟨rfl, rfl, HB2.out.trans (hb1.lower HB2.out.size)⟩
        · obtain ⟨v0, rfl, hrep, hst, hb1⟩ := hch
          have hA := HA3.out
          rw [hq] at hA
          simp only [obind] at hA
          obtain ⟨yf, hof, hA⟩ := Option.bind_eq_some_iff.mp hA
          have hjb := (par_ok k1).2.2 _ _ _ _ hq j0 j2
          have HOF := Aside0.mk hof
          have HA4 := Aside0.mk hA
          have HJ := Aside0.mk hjb
          have hfb := opsF_ok _ _ _ _ _ hof hjb.2
          have HF := Aside0.mk hfb
          have HACC := Aside0.mk (acc_bx HACC2.out hb1 HGL.out)
          have hxB : w.heap.size < wx.heap.size := lt_of_some HACC2.out.1
          have HXB := Aside0.mk hxB
          have hvB := fun k hk => (HACC2.out.2.1.lt k hk).2
          have HVB := Aside0.mk hvB
          have HST := Aside0.mk hst
          have HREP := Aside0.mk hrep
          have HB := Aside0.mk (HB2.out.trans (hb1.lower HB2.out.size))
          clear hof hA hjb hfb hxB hvB hst hrep hb1 hq HA3 HACC2 HST2 HB2
          obtain ⟨T0, u0, rfl⟩ := RepX_iface HREP.out
          have kw : K0 (Bx w.heap.size g w w1) := ⟨HB.out⟩
          go_upto_region 4 with (fail)
          go_loopg [4] k1 (fun kq v4 W => ∃ (j2 : Int) (y : Rx) (T4 : TypeId) (u4 : Value), v4 = .iface T4 u4 ∧ Aside0 (opsF kq p j2 y = some yf) ∧ Aside0 (0 ≤ j2 ∧ j2 ≤ p.size) ∧ Aside0 (St W g p j2 o) ∧ Aside0 (RepX W (fun k => wx.heap.size ≤ k) y (.iface T4 u4)) ∧ Aside0 (Acc W w.heap.size 65 acc v vs) ∧ Aside0 (Bx w.heap.size g w W))
          case atStart => exact ⟨j3, y0, T0, u0, rfl, HOF, ⟨by have := HJ.out.1; omega, HJ.out.2⟩, HST, HREP, HACC, HB⟩
          case round =>
            clear HST HREP HACC HB HOF kw
            obtain ⟨j2, y, T4, u4, rfl, HO, HN2, HST, HREP, HACC, HB⟩ := hrel
            cases gk with
            | zero => exact absurd HO.out (by simp [opsF])
            | succ k2 =>
            have c0 := HST.out.c0
            have c1 := HST.out.c1
            have f1 := HST.out.fr 1
            have m0 := HN2.out.1
            have m1 := HN2.out.2
            have kw : K0 (Bx w.heap.size g w wr) := ⟨HB.out⟩
            have hx := bt_at p j2
            go_upto_region 4 with (fail)
            go_cut [63] (fun v63 wc => v63 = .bool (opB p j2) ∧ ∃ m, wc = wr.drewN m)
            case first =>
              by_cases e1 : j2 < p.size
              · have d1 : decide (j2 < (p.size : Int)) = true := decide_eq_true e1
                have br := bt_range p j2
                have hib := ibx_op (bt p j2) br.1 br.2
                have hc : opB p j2 = isOp (bt p j2) := by unfold opB; rw [d1]; rfl
                have HC := Aside0.mk (hc.trans hib.symm)
                clear hc br hib
                go_quiet ((go_at_call 49; exact Calls.quiet_of_same (ib_calls _ _)))
                go_wp2
                go_meet
                case rel => exact ⟨by rw [HC.out], _, rfl⟩
              · have d1 : decide (j2 < (p.size : Int)) = false := decide_eq_false e1
                have hc : opB p j2 = false := by unfold opB; rw [d1]; rfl
                have HC := Aside0.mk hc
                clear hc
                go_quiet (fail)
                go_wp2
                go_meet
                case rel => exact ⟨by rw [HC.out], _, rfl⟩
            case rest =>
              obtain ⟨rfl, m, rfl⟩ := hcut
              have hO := HO.out
              simp only [opsF, ← opB_iff] at hO
              have HACC2 := Aside0.mk (show Acc (wr.drewN m) w.heap.size 65 acc v vs from acc_move HACC.out (fun _ _ _ => rfl))
              have HREP2 := Aside0.mk (show RepX (wr.drewN m) (fun k => wx.heap.size ≤ k) y (.iface T4 u4) from RepX_move (w := wr) (w1 := wr.drewN m) (fun k hk hl => ⟨hk, rfl⟩) _ _ HREP.out)
              have HST2 := Aside0.mk (st_drewN (n := m) HST.out)
              have HB2 := Aside0.mk (show Bx w.heap.size g w (wr.drewN m) from kk)
              clear HACC HREP HST HB kw c0 c1 f1 hx
              generalize hsb : opB p j2 = sb at hO ⊢
              have HSB2 := Aside0.mk hsb
              clear hsb HO
              generalize wr.drewN m = wy at *
              have kw : K0 (Bx w.heap.size g w wy) := ⟨HB2.out⟩
              have c0 := HST2.out.c0
              have c1 := HST2.out.c1
              have f1 := HST2.out.fr 1
              have hx := bt_at p j2
              cases sb
              · obtain rfl := Option.some.inj hO
                have hcl := HACC2.out.cell
                clear hO
                have hvl := RepXs_len _ _ HACC2.out.2.2.2
                have hln := HN.out.2.2
                have hc1 : ∀ j u, [Value.iface T4 u4][j]? = some u → (wy.alloc (.cells #[.iface T4 u4] 37)).cell? ((⟨wy.heap.size, 0, none⟩ : Addr).add j) = some u := by
                  intro j' u' hu
                  rcases j' with _ | j'
                  · cases hu; exact cell_of_row _ wy.heap.size 0 _ 37 _ (heap_alloc_new _ _)
                  · cases hu
                have hc2 : ∀ u ∈ [Value.iface T4 u4], u.oneCell' = true := by
                  intro u' hu
                  obtain rfl := List.mem_singleton.mp hu
                  rfl
                have hc3 : vs.length + 1 ≤ maxLen := by simp only [maxLen]; omega
                have hc4 : (vs.length + 1) * 16 ≤ 140737488355328 := by omega
                have hc5 : w.heap.size ≤ (wy.alloc (.cells #[.iface T4 u4] 37)).heap.size := by rw [sz_al]; have := lt_of_some HACC2.out.1; omega
                have HC1 := Aside0.mk hc1
                have HC2 := Aside0.mk hc2
                have HC3 := Aside0.mk hc3
                have HC4 := Aside0.mk hc4
                have HC5 := Aside0.mk hc5
                have HVL := Aside0.mk hvl
                clear hc1 hc2 hc3 hc4 hc5 hvl hln c0 c1 f1 hx
                go_upto_region 7 with (fail)
                go_wp2_with (at_builtin; refine wpList_append_at rfl (.tmp 84) (.tmp 86) 62 rfl w.heap.size 37 i0 .nilIface 1 16 Try.underlying62 HI.out HZ.out.1 HZ.out.2.1 HZ.out.2.2 rfl (by decide) v vs.length vs rfl (HACC2.out.2.1.alloc _) ⟨wy.heap.size, 0, none⟩ 1 1 [.iface T4 u4] rfl rfl HC1.out HC2.out HC3.out HC4.out HC5.out ?_; intro v2 w2 hown hgr hloc; obtain ⟨A2, n2, c2', rfl⟩ := own_sl hown; have hx2 := acc_grown HACC2.out hgr; have hcl2 := bk_cell hx2; have hfr2 := bk_fr hx2 0; have HG := Aside0.mk (And.intro hown (And.intro hgr hloc)); clear hown hgr hloc hx2)
                go_roundg k1
                case measure => omega
                case rel =>
                  have hpush := acc_push HACC2.out HREP2.out (fun k hk => hk) HXB.out HVB.out HG.out.2.1 HG.out.1 HG.out.2.2
                  have hst : St w2 g p j2 o := st_grown HST2.out HG.out.2.1 (fun e => by have := (HACC2.out.2.1.lt g e.symm).1; have := HGL.out; omega)
                  have hbx : Bx w.heap.size g w w2 := bx_grown HB2.out HG.out.2.1 (fun k hk => (HACC2.out.2.1.lt k hk).1)
                  have kz : K0 (Bx w.heap.size g w w2) := ⟨hbx⟩
                  have kx : K0 (w.heap.size ≤ w.heap.size) := ⟨Nat.le_refl _⟩
                  have hf := HF.out
                  have hj := HJ.out
                  have hn := HN.out
                  exact ⟨j2, acc ++ [y], _, _, HA4, ⟨by have := HK.out; omega⟩, ⟨m0, m1, by rw [List.length_append]; simp only [List.length_cons, List.length_nil]; omega⟩, ⟨st_far hst (by have := HGL.out; omega)⟩, ⟨hpush⟩, ⟨kk⟩⟩
              · rw [if_pos rfl] at hO
                have HO2 := Aside0.mk hO
                have m2 : j2 < p.size := by have := (opB_iff p j2).mp HSB2.out; exact this.1
                clear hO
                go_wp2
                go_quiet (fail)
                go_wp2
                go_roundg k2
                case measure => omega
                case rel =>
                  refine ⟨j2 + 1, .rep y (bt p j2), _, _, rfl, HO2, ⟨by omega, by omega⟩, ⟨stt HST2⟩, ⟨?_⟩, ⟨?_⟩, ⟨kk⟩⟩
                  · unfold RepX
                    refine ⟨_, RepX_move (fun k hk hl => ⟨hk, ?_⟩) _ _ HREP2.out, rfl⟩
                    have hne : k ≠ g := by have := HGL.out; have := HXB.out; omega
                    exact Below.heap_setCell _ _ _ _ hne
                  · exact acc_move HACC2.out (fun k hk hl => Below.heap_setCell _ _ _ _ (by have := HGL.out; show k ≠ g; omega))
end Go.Proofs.Ytcdpmmpdfdillaa.Q

namespace Go.Proofs.Ytcdpmmpdfdillaa.Q
open Go.RowKit Go.Proofs.YtcdpmmpdfdillaaW.PrintWords Go.Proofs.YtcdpmmpdfdillaaW.PrintLast
set_option linter.unusedVariables false
set_option linter.unusedSimpArgs false
def altB (p : ByteArray) (j : Int) : Bool := decide (j = p.size) || (bt p j != 124)
theorem altB_iff (p : ByteArray) (j : Int) : (altB p j = true) ↔ (j = p.size ∨ bt p j ≠ 124) := by unfold altB; simp
set_option maxHeartbeats 4000000 in
set_option maxRecDepth 100000 in
theorem alt_calls (k : Nat) (IH : ∀ m, m < k → SeqC m) : AltC k := by
  intro g p i o r h h0 h1 hp o0 o1 w hs
  have HIH := Aside0.mk IH
  have H := Aside0.mk h
  have HS := Aside0.mk hs
  have hgl : g < w.heap.size := lt_of_some hs
  have HGL := Aside0.mk hgl
  have kr : K0 (Bx w.heap.size g w w) := ⟨Bx.refl _ _ _⟩
  obtain ⟨i0, hi, hz0, hz1, hz2⟩ := info_parts info40
  have HI := Aside0.mk hi
  have HZ := Aside0.mk (And.intro hz0 (And.intro hz1 hz2))
  clear IH h hs hi hz0 hz1 hz2 hgl
  go_enter Try.func35, Try.ntmps35
  go_upto_region 2 with (fail)
  have HS2 := Aside0.mk (show St (w.alloc (.cells #[.slice none 0 0] 64)) g p i o from stt HS)
  have HA2 := Aside0.mk (acc_nil w 64)
  have HX2 := Aside0.mk (show Bx w.heap.size g w (w.alloc (.cells #[.slice none 0 0] 64)) from kk)
  clear kr HS
  go_loopg [4] k (fun kq v4 W => ∃ (j : Int) (acc : List Rx) (v : Value) (vs : List Value), Aside0 (altL kq p j o acc = some r) ∧ Aside0 (kq ≤ k) ∧ Aside0 (0 ≤ j ∧ j ≤ p.size ∧ acc.length ≤ j) ∧ Aside0 (St W g p j o) ∧ Aside0 (Acc W w.heap.size 64 acc v vs) ∧ Aside0 (Bx w.heap.size g w W))
  case atStart => exact ⟨i, [], _, [], H, ⟨Nat.le_refl _⟩, ⟨h0, h1, h0⟩, HS2, HA2, HX2⟩
  case round =>
    clear HS2 HA2 HX2 H
    obtain ⟨j, acc, v, vs, HA, HK, HN, HST, HACC, HB⟩ := hrel
    cases gk with
    | zero => exact absurd HA.out (by simp [altL])
    | succ k1 =>
    have j0 := HN.out.1
    have j1 := HN.out.2.1
    have kw : K0 (Bx w.heap.size g w wr) := ⟨HB.out⟩
    have hA := HA.out
    simp only [altL] at hA
    have HA2 := Aside0.mk hA
    clear hA HA
    cases hq : seqL k1 p j o [] with
    | none => exfalso; have := HA2.out; rw [hq] at this; cases this
    | some q =>
    have HQ := Aside0.mk hq
    have hcl := HACC.out.cell
    have HXB := Aside0.mk (lt_of_some HACC.out.1)
    have HVB := Aside0.mk (fun k hk => (HACC.out.2.1.lt k hk).2)
    have HVL := Aside0.mk (RepXs_len _ _ HACC.out.2.2.2)
    have hst := st_drew HST.out
    have hacc : Acc wr.drew w.heap.size 64 acc v vs := acc_move HACC.out (fun _ _ _ => rfl)
    have hbx : Bx w.heap.size g w wr.drew := kk
    have HACC2 := Aside0.mk hacc
    have HST2 := Aside0.mk hst
    have HB2 := Aside0.mk hbx
    have hk1 : k1 < k := by have := HK.out; omega
    have HK1 := Aside0.mk hk1
    clear hacc hst hbx hk1 hq HACC HST HB kw
    go_upto_region 2 with (fail)
    go_cut [] (fun wc => ∃ (y : Rx) (j2 : Int) (v2 : Value) (vs2 : List Value), q = .ok (y, j2) ∧ Aside0 (St wc g p j2 o) ∧ Aside0 (Acc wc w.heap.size 64 (acc ++ [y]) v2 vs2) ∧ Aside0 (Bx w.heap.size g w wc))
    case first =>
      refine sz_region (S := fun W => W.cell? ⟨w.heap.size, 0, none⟩ = some v) 7 [(0, false), (1, false), (2, false), (3, true), (4, true), (5, true), (6, false), (7, true)] (by intro d v c a w h; cases d <;> exact h) (by kernel_rfl) (by kernel_rfl) HACC2.out.cell ?_
      repeat (first | (refine sz_n ?_ ?_ rfl ?_ ?_ ?_; rotate_left 2; (intro W hW; go_simp; first | done | with_reducible rfl); (simp only [List.setIfInBounds_toArray, List.set_cons_zero, List.set_cons_succ]; try rfl)) | (refine sz_g ?_ ?_ rfl rfl rfl ?_ ?_ ?_; rotate_left 2; (intro W hW; go_simp; first | done | with_reducible rfl); (simp only [List.setIfInBounds_toArray, List.set_cons_zero, List.set_cons_succ]; try rfl)) | (refine sz_f ?_ rfl rfl rfl ?_ ?_; rotate_left; (simp only [List.setIfInBounds_toArray, List.set_cons_zero, List.set_cons_succ]; try rfl)) | (refine sz_u ?_ rfl rfl rfl ?_ ?_; rotate_left; (simp only [List.setIfInBounds_toArray, List.set_cons_zero, List.set_cons_succ]; try rfl)))
      refine sz_1n rfl (fun K hK => ?_)
      go_simp
      go_at_call 45
      refine (HIH.out k1 HK1.out g p j o q HQ.out j0 j1 hp o0 o1 _ HST2.out).mono ?_
      rintro e w1 hch
      rcases q with ⟨c, a⟩ | ⟨y, j2⟩
      · obtain ⟨rfl, hb1⟩ := hch
        have hA := HA2.out
        rw [HQ.out] at hA
        obtain rfl := Option.some.inj hA
        exact ⟨rfl, rfl, HB2.out.trans (hb1.lower HB2.out.size)⟩
      · obtain ⟨v1, rfl, hrep, hst, hb1⟩ := hch
        obtain ⟨T1, u1, rfl⟩ := RepX_iface hrep
        have hacc := acc_bx HACC2.out hb1 HGL.out
        have HREP := Aside0.mk hrep
        have HST := Aside0.mk hst
        have HACC := Aside0.mk hacc
        have HB := Aside0.mk (HB2.out.trans (hb1.lower HB2.out.size))
        have hcl1 := hacc.cell
        clear hrep hst hacc hb1 HST2 HACC2 HB2 hcl
        go_wp2_with fail
        refine hK.out _ _ (.inr hcl1) ?_
        refine sz_1n rfl (fun K hK => ?_)
        go_simp
        have hvl := HVL.out
        have hln := HN.out.2.2
        have hc1 : ∀ j u, [Value.iface T1 u1][j]? = some u → (w1.alloc (.cells #[.iface T1 u1] 37)).cell? ((⟨w1.heap.size, 0, none⟩ : Addr).add j) = some u := by
          intro j' u' hu
          rcases j' with _ | j'
          · cases hu; exact cell_of_row _ w1.heap.size 0 _ 37 _ (heap_alloc_new _ _)
          · cases hu
        have hc2 : ∀ u ∈ [Value.iface T1 u1], u.oneCell' = true := by
          intro u' hu
          obtain rfl := List.mem_singleton.mp hu
          rfl
        have hc3 : vs.length + 1 ≤ maxLen := by simp only [maxLen]; omega
        have hc4 : (vs.length + 1) * 16 ≤ 140737488355328 := by omega
        have hc5 : w.heap.size ≤ (w1.alloc (.cells #[.iface T1 u1] 37)).heap.size := by rw [sz_al]; have := lt_of_some HACC.out.1; omega
        refine hK.out _ _ (.inr ((cell_of_row _ w.heap.size 0 _ 64 _ ((heap_alloc_old w1 _ (lt_of_some HACC.out.1)).trans HACC.out.1)))) ?_
        refine sz_1n rfl (fun K hK => ?_)
        refine wp_append_at (.tmp 5) (.tmp 8) 62 rfl w.heap.size 37 i0 .nilIface 1 16 Try.underlying62 HI.out HZ.out.1 HZ.out.2.1 HZ.out.2.2 rfl (by decide) v vs.length vs rfl (HACC.out.2.1.alloc _) ⟨w1.heap.size, 0, none⟩ 1 1 [.iface T1 u1] rfl rfl hc1 hc2 hc3 hc4 hc5 ?_
        intro v2 w2 hown hgr hloc
        obtain ⟨A2, n2, c2', rfl⟩ := own_sl hown
        have hx2 := acc_grown HACC.out hgr
        have hcl2 := bk_cell hx2
        have hfr2 := bk_fr hx2 0
        have HG := Aside0.mk (And.intro hown (And.intro hgr hloc))
        clear hown hgr hloc hx2 hc1 hc2 hc3 hc4 hc5 hvl hln hcl1
        refine hK.out _ _ (.inr hcl2) ?_
        simp only [Act.put, List.setIfInBounds_toArray, List.set_cons_zero, List.set_cons_succ]
        repeat (first | (refine sz_n ?_ ?_ rfl ?_ ?_ ?_; rotate_left 2; (intro W hW; go_simp; first | done | with_reducible rfl); (simp only [List.setIfInBounds_toArray, List.set_cons_zero, List.set_cons_succ]; try rfl)) | (refine sz_g ?_ ?_ rfl rfl rfl ?_ ?_ ?_; rotate_left 2; (intro W hW; go_simp; first | done | with_reducible rfl); (simp only [List.setIfInBounds_toArray, List.set_cons_zero, List.set_cons_succ]; try rfl)) | (refine sz_f ?_ rfl rfl rfl ?_ ?_; rotate_left; (simp only [List.setIfInBounds_toArray, List.set_cons_zero, List.set_cons_succ]; try rfl)) | (refine sz_u ?_ rfl rfl rfl ?_ ?_; rotate_left; (simp only [List.setIfInBounds_toArray, List.set_cons_zero, List.set_cons_succ]; try rfl)))
        refine sz_1n rfl (fun K hK => ?_)
        go_simp
        refine hK.out _ _ (.inl rfl) ?_
        refine sz_done ?_
        go_wp2_with fail
        have hpush := acc_push HACC.out HREP.out (fun k hk => hk) HXB.out HVB.out HG.out.2.1 HG.out.1 HG.out.2.2
        have hst : St w2 g p j2 o := st_grown HST.out HG.out.2.1 (fun e => by have := (HACC.out.2.1.lt g e.symm).1; have := HGL.out; omega)
        have hbx : Bx w.heap.size g w w2 := bx_grown HB.out HG.out.2.1 (fun k hk => (HACC.out.2.1.lt k hk).1)
        have kz : K0 (Bx w.heap.size g w w2) := ⟨hbx⟩
        have kx : K0 (w.heap.size ≤ w.heap.size) := ⟨Nat.le_refl _⟩
        have HP := Aside0.mk hpush
        have HS3 := Aside0.mk hst
        clear hpush hst hbx
        go_meet
        case rel => exact ⟨y, j2, _, _, rfl, ⟨st_far HS3.out (by have := HGL.out; omega)⟩, HP, ⟨kk⟩⟩
    case rest =>
      clear HB2 HST2 HACC2 hcl
      obtain ⟨y, j2, v2, vs2, rfl, HST, HACC, HB⟩ := hcut
      have hA := HA2.out
      rw [HQ.out] at hA
      simp only [obind, ← altB_iff] at hA
      have hjb := (par_ok k1).2.1 _ _ _ _ _ HQ.out j0 j1
      have m0 : 0 ≤ j2 := by have := hjb.1; omega
      have m1 : j2 ≤ p.size := hjb.2
      have HJ := Aside0.mk hjb
      have c0 := HST.out.c0
      have c1 := HST.out.c1
      have f1 := HST.out.fr 1
      have hx := bt_at p j2
      have kw : K0 (Bx w.heap.size g w wc) := ⟨HB.out⟩
      generalize hab : altB p j2 = ab at hA
      have HAB := Aside0.mk hab
      have HA3 := Aside0.mk hA
      clear hA HA2 hab hjb
      go_upto_region 3 with (fail)
      go_cut [32] (fun v32 wd => v32 = .bool ab ∧ ∃ m, wd = wc.drewN m)
      case first =>
        by_cases e1 : j2 = p.size
        · have d1 : (j2 == (p.size : Int)) = true := beq_iff_eq.mpr e1
          have hc : altB p j2 = true := by unfold altB; rw [decide_eq_true e1]; rfl
          have HC := Aside0.mk (HAB.out.symm.trans hc)
          clear hc e1
          go_quiet (fail)
          go_wp2
          go_meet
          case rel => exact ⟨by rw [HC.out], _, rfl⟩
        · have d1 : (j2 == (p.size : Int)) = false := beq_eq_false_iff_ne.mpr e1
          have hc : altB p j2 = (bt p j2 != 124) := by unfold altB; rw [decide_eq_false e1]; rfl
          have HC := Aside0.mk (HAB.out.symm.trans hc)
          have m2 : j2 < p.size := by omega
          clear hc e1
          go_quiet (fail)
          go_wp2
          go_meet
          case rel => exact ⟨by rw [HC.out], _, rfl⟩
      case rest =>
        obtain ⟨rfl, m, rfl⟩ := hcut
        have hacc : Acc (wc.drewN m) w.heap.size 64 (acc ++ [y]) v2 vs2 := acc_move HACC.out (fun _ _ _ => rfl)
        have hst := st_drewN (n := m) HST.out
        have hbx : Bx w.heap.size g w (wc.drewN m) := kk
        have HACC2 := Aside0.mk hacc
        have HST2 := Aside0.mk hst
        have HB2 := Aside0.mk hbx
        have hA := HA3.out
        clear hacc hst hbx HACC HST HB kw HA3 c0 c1 f1
        generalize wc.drewN m = wy at *
        have c0 := HST2.out.c0
        have c1 := HST2.out.c1
        have f1 := HST2.out.fr 1
        have kw : K0 (Bx w.heap.size g w wy) := ⟨HB2.out⟩
        cases ab
        · rw [if_neg (by simp)] at hA
          have HA4 := Aside0.mk hA
          have hne : j2 ≠ (p.size : Int) ∧ bt p j2 = 124 := by have := HAB.out; unfold altB at this; simpa using this
          have m2 : j2 < p.size := by have := hne.1; omega
          clear hA hne
          go_wp2
          go_roundg k1
          case measure => omega
          case rel => 
            have hj := HJ.out
            have hn := HN.out
            exact ⟨j2 + 1, acc ++ [y], v2, vs2, HA4, ⟨by have := HK.out; omega⟩, ⟨by omega, by omega, by rw [List.length_append]; simp only [List.length_cons, List.length_nil]; omega⟩, ⟨stt HST2⟩, ⟨acc_move HACC2.out (fun k hk hl => Below.heap_setCell _ _ _ _ (by have := HGL.out; show k ≠ g; omega))⟩, ⟨kk⟩⟩
        · rw [if_pos rfl] at hA
          obtain rfl := Option.some.inj hA
          have hcl := HACC2.out.cell
          clear hA
          go_wp2
          go_ret
          refine ⟨_, rfl, ?_, HST2.out, HB2.out⟩
          unfold RepX
          exact ⟨v2, vs2, rfl, own_lower HACC2.out.2.1 (Nat.zero_le _), fun k hk => (HACC2.out.2.1.lt k hk).1, RepXs_move (fun k hk hl => ⟨Nat.le_of_lt hk.1, rfl⟩) _ _ HACC2.out.2.2.2⟩
theorem all_calls : ∀ k, (∀ m, m ≤ k → SeqC m) ∧ (∀ m, m ≤ k → AltC m) ∧ (∀ m, m ≤ k → AtomC m)
  | 0 => by
    have hm : ∀ m, m ≤ 0 → AtomC m := by
      intro m hm
      obtain rfl : m = 0 := by omega
      intro g p i o r h
      cases h
    have hs : ∀ m, m ≤ 0 → SeqC m := fun m hm' => seq_calls m fun q hq => (by omega)
    exact ⟨hs, fun m hm' => alt_calls m fun q hq => (by omega), hm⟩
  | k + 1 => by
    obtain ⟨is, ia, im⟩ := all_calls k
    refine ⟨fun m hm => seq_calls m fun q hq => im q (by omega), fun m hm => alt_calls m fun q hq => is q (by omega), fun m hm => ?_⟩
    rcases Nat.lt_or_ge k m with h | h
    · obtain rfl : m = k + 1 := by omega
      exact atom_calls k (ia k (Nat.le_refl _))
    · exact im m h
theorem alt_any (k : Nat) : AltC k := (all_calls k).2.1 k (Nat.le_refl _)
end Go.Proofs.Ytcdpmmpdfdillaa.Q

namespace Go.Proofs.Ytcdpmmpdfdillaa.Q
open Go.RowKit Go.Proofs.YtcdpmmpdfdillaaW.PrintWords Go.Proofs.YtcdpmmpdfdillaaW.PrintLast
set_option linter.unusedVariables false
set_option linter.unusedSimpArgs false
def patF (k : Nat) (p : ByteArray) : Option (Except (Int × Int) Rx) := obind (altL k p 0 0 []) fun x => if x.2 < p.size then some (.error (2, x.2)) else some (.ok x.1)
def VarX (w : World) (bx : Nat) (v : Value) : Prop := w.heap[bx]? = some (.cells #[v] 37 (0, 0))
def IsI (v : Value) : Prop := v = .nilIface ∨ ∃ T u, v = .iface T u
set_option maxHeartbeats 4000000 in
set_option maxRecDepth 100000 in
theorem pat1_calls (k : Nat) (p : ByteArray) (r : Except (Int × Int) Rx) (h : patF k p = some r) (hp : p.size ≤ 200) (bp bx : Nat) (u : Value) (w : World) (hb : w.cell? ⟨bp, 0, none⟩ = some (.string p)) (hx : VarX w bx u) (hne : bp ≠ bx) (hu : IsI u) :
    Calls Try.prog 34 #[.pointer (some ⟨bp, 0, none⟩), .pointer (some ⟨bx, 0, none⟩)] w fun e w' => RP r (fun x => ∃ v, e = .returned (.tuple #[]) ∧ VarX w' bx v ∧ RepX w' (fun k => w.heap.size ≤ k) x v ∧ Bx w.heap.size bx w w') (fun c a => e = .panicked (flt c a) ∧ (∃ v, VarX w' bx v ∧ IsI v) ∧ Bx w.heap.size bx w w') := by
  have HX := Aside0.mk hx
  have HXL := Aside0.mk (lt_of_some hx)
  have HBL := Aside0.mk (World.block_lt_of_cell? w _ hb)
  have HNE := Aside0.mk hne
  have HU := Aside0.mk hu
  have hs : St (w.alloc (.cells #[.string p, .int .i64 0, .int .i64 0] 77)) w.heap.size p 0 0 := heap_alloc_new _ _
  have HS := Aside0.mk hs
  have h' := h
  unfold patF at h'
  cases hq : altL k p 0 0 [] with
  | none => rw [hq] at h'; cases h'
  | some q =>
  rw [hq] at h'
  have HQ := Aside0.mk hq
  have HR := Aside0.mk h'
  have HBP := Aside0.mk hb
  clear hx hne hs h h' hq hu
  go_enter Try.func34, Try.ntmps34
  go_wp2_with fail
  go_at_call 35
  refine (alt_any k w.heap.size p 0 0 q HQ.out (Int.le_refl _) (by omega) hp (by omega) (by omega) _ HS.out).mono ?_
  rintro e w1 hch
  have hal : Below w.heap.size w (w.alloc (.cells #[.string p, .int .i64 0, .int .i64 0] 77)) := (Below.refl _ _).alloc (Nat.le_refl _) _
  have hsz := sz_al w (.cells #[.string p, .int .i64 0, .int .i64 0] 77)
  rcases q with ⟨c, a⟩ | ⟨x, j⟩
  · obtain ⟨rfl, hb1⟩ := hch
    obtain rfl := Option.some.inj HR.out
    have hbl := hb1.below (C := w.heap.size) (by rw [hsz]; omega) (Nat.le_refl _)
    exact ⟨rfl, rfl, ⟨u, (hbl.block bx HXL.out).trans ((hal.block bx HXL.out).trans HX.out), HU.out⟩, Bx.of (hal.trans hbl)⟩
  · obtain ⟨v, rfl, hrep, hst, hb1⟩ := hch
    have hbl := hb1.below (C := w.heap.size) (by rw [hsz]; omega) (Nat.le_refl _)
    have hB := hal.trans hbl
    have hvx : VarX w1 bx u := (hB.block bx HXL.out).trans HX.out
    have hcb : w1.cell? ⟨bp, 0, none⟩ = some (.string p) := (hB.cell (p := ⟨bp, 0, none⟩) HBL.out).trans HBP.out
    obtain ⟨T0, u0, rfl⟩ := RepX_iface hrep
    have hjb := (par_ok k).1 _ _ _ _ _ HQ.out (Int.le_refl _) (by omega)
    have j0 : 0 ≤ j := hjb.1
    have j1 : j ≤ p.size := hjb.2
    have hcx := bk_cell hvx
    have hfx := bk_fr hvx 0
    have hgx : w.heap.size ≠ bx := by have := HXL.out; omega
    have hpx : ¬ bp = bx := HNE.out
    have c1 := hst.c1
    have hr := HR.out
    simp only [obind] at hr
    have hst2 : St (w1.setCell ⟨bx, 0, none⟩ (.iface T0 u0)) w.heap.size p j 0 := st_far hst hgx
    have hvx2 : VarX (w1.setCell ⟨bx, 0, none⟩ (.iface T0 u0)) bx (.iface T0 u0) := bk_put hvx _
    have hbx2 : Bx w.heap.size bx w (w1.setCell ⟨bx, 0, none⟩ (.iface T0 u0)) := (Bx.of hB).trans ⟨rfl, rfl, rfl, by simp [World.setCell], fun k _ hk => Below.heap_setCell _ _ _ _ hk⟩
    have hcb2 : (w1.setCell ⟨bx, 0, none⟩ (.iface T0 u0)).cell? ⟨bp, 0, none⟩ = some (.string p) := by
      unfold World.cell?; rw [Below.heap_setCell _ _ _ _ hpx]; exact hcb
    have hrep2 : RepX (w1.setCell ⟨bx, 0, none⟩ (.iface T0 u0)) (fun k => w.heap.size ≤ k) x (.iface T0 u0) := RepX_move (fun k hk hl => ⟨by rw [hsz] at hk; omega, Below.heap_setCell _ _ _ _ (by have := HXL.out; show k ≠ bx; omega)⟩) _ _ hrep
    have c12 := hst2.c1
    have HF := Aside0.mk (And.intro hvx2 (And.intro hbx2 hrep2))
    clear hst2 hvx2 hbx2 hrep2 hst hrep hvx hB hbl hb1 hal hjb HR HX HS c1 hcb
    by_cases e1 : j < p.size
    · rw [if_pos e1] at hr
      obtain rfl := Option.some.inj hr
      have d1 : decide (j < (p.size : Int)) = true := decide_eq_true e1
      clear hr e1
      go_upto_region 2 with (fail)
      generalize w1.setCell ⟨bx, 0, none⟩ (.iface T0 u0) = w2 at *
      go_wp2_with fail
      go_at_call 36
      refine (fail_calls _ _ _ _).mono ?_
      rintro e w' ⟨rfl, rfl⟩
      exact ⟨rfl, rfl, ⟨_, HF.out.1, .inr ⟨_, _, rfl⟩⟩, HF.out.2.1⟩
    · rw [if_neg e1] at hr
      obtain rfl := Option.some.inj hr
      have d1 : decide (j < (p.size : Int)) = false := decide_eq_false e1
      clear hr e1
      go_upto_region 2 with (fail)
      generalize w1.setCell ⟨bx, 0, none⟩ (.iface T0 u0) = w2 at *
      go_wp2
      go_end0
      exact ⟨_, rfl, HF.out.1, HF.out.2.2, HF.out.2.1⟩
end Go.Proofs.Ytcdpmmpdfdillaa.Q

namespace Go.Proofs.Ytcdpmmpdfdillaa.Q
open Go.RowKit Go.Proofs.YtcdpmmpdfdillaaW.PrintWords Go.Proofs.YtcdpmmpdfdillaaW.PrintLast
set_option linter.unusedVariables false
set_option linter.unusedSimpArgs false
def Fv (w : World) (b : Nat) (c a : Int) : Prop := w.heap[b]? = some (.cells #[.int .i64 c, .int .i64 a] 39 (0, 0))
theorem catch_idle (b : Nat) (w : World) :
    CallsD Try.prog 44 #[.pointer (some ⟨b, 0, none⟩)] .returning w fun e u' w' => e = .returned (.tuple #[]) ∧ u' = .returning ∧ w' = w := by
  refine callsD_of_wpS Try.func44 rfl fun c₀ cs hu => ?_
  apply wpS_seq
  apply wpS_region
  simp [wpOpsS, go_sem, recoverD, hu, Try.ntmps44, Exit.thenS]
  apply wpS_seq
  apply wpS_region
  simp [wpOpsS, go_sem, Exit.thenS]
  refine wpS_cond (t := false) (by simp [Act.eval, Array.replicate]) ?_
  simp only [Bool.false_eq_true, if_false]
  refine wpS_of_wp (wp_skip ?_)
  cases c₀
  simp_all [bodyPostS, results, Try.results44]
theorem run_ta (v : Value) (w : World) : (Instr.typeAssert (.iface 39 v) 20 39 true).run Try.prog w = .ok (.tuple #[v, .bool true]) w := by kernel_rfl
set_option maxHeartbeats 1000000 in
set_option maxRecDepth 100000 in
theorem catch_some (b : Nat) (c a c0 a0 : Int) (w : World) (hb : Fv w b c0 a0) :
    CallsD Try.prog 44 #[.pointer (some ⟨b, 0, none⟩)] (.panicking (flt c a)) w fun e u' w' => e = .returned (.tuple #[]) ∧ u' = .panicking [{ v := .iface 39 (.agg #[.int .i64 c, .int .i64 a]), recovered := true }] ∧ Fv w' b c a ∧ Bx w.heap.size b w w' := by
  refine callsD_of_wpS Try.func44 rfl fun c₀ cs hu => ?_
  apply wpS_seq
  apply wpS_region
  simp [wpOpsS, go_sem, recoverD, hu, flt, Try.ntmps44, Exit.thenS]
  apply wpS_seq
  apply wpS_region
  simp [wpOpsS, go_sem, Exit.thenS]
  refine wpS_cond (t := true) (by simp [Act.eval, Array.replicate]) ?_
  simp only [if_true]
  refine wpS_of_wp (wp_mono (Q := fun e a' w' => e = .normal ∧ a'.defers = [] ∧ Fv w' b c a ∧ Bx w.heap.size b w w') ?_ ?_)
  · have hbl := lt_of_some hb
    have kr : K0 (Bx w.heap.size b w w) := ⟨Bx.refl _ _ _⟩
    have HB := Aside0.mk hb
    have hc0 : w.cell? ⟨b, 0, none⟩ = some (.int .i64 c0) := cell_of_row _ b 0 _ 39 _ hb
    have hc1 : w.cell? ⟨b, 1, none⟩ = some (.int .i64 a0) := cell_of_row _ b 1 _ 39 _ hb
    have hf0 := bk_fr hb 0
    have hf1 := bk_fr hb 1
    clear hb
    have hta := run_ta
    simp only [Array.replicate_succ, Array.replicate_zero, List.push_toArray, List.append_toArray, List.nil_append, List.cons_append, List.setIfInBounds_toArray, List.set_cons_zero, List.set_cons_succ]
    go_wp2
    refine ⟨?_, kk⟩
    have h1 := bk_put (j := 0) HB.out (.int .i64 c)
    have h2 := bk_put (j := 1) h1 (.int .i64 a)
    have h3 := blk_alloc h2 (.cells #[.int .i64 c, .int .i64 a] 39)
    simpa [Fv] using h3
  · rintro e a' w' ⟨rfl, hd, hf, hx⟩
    cases c₀
    simp [bodyPostS, results, Try.results44, hd, hf, hx]
def CaughtP (w : World) (bx : Nat) (r : Except (Int × Int) Rx) (e : Ending) (w' : World) : Prop :=
  RP r (fun x => ∃ v, e = .returned (.agg #[.int .i64 0, .int .i64 0]) ∧ VarX w' bx v ∧ RepX w' (fun k => w.heap.size ≤ k) x v ∧ Bx w.heap.size bx w w') (fun c a => ∃ v, e = .returned (.agg #[.int .i64 c, .int .i64 a]) ∧ VarX w' bx v ∧ Bx w.heap.size bx w w' ∧ IsI v)
set_option maxHeartbeats 4000000 in
set_option maxRecDepth 100000 in
theorem caught_calls (k : Nat) (p : ByteArray) (r : Except (Int × Int) Rx) (h : patF k p = some r) (hp : p.size ≤ 200) (bp bx : Nat) (u : Value) (w : World) (hb : w.cell? ⟨bp, 0, none⟩ = some (.string p)) (hx : VarX w bx u) (hne : bp ≠ bx) (hu : IsI u) :
    Calls Try.prog 33 #[.func (.func 34) #[] #[.pointer (some ⟨bp, 0, none⟩), .pointer (some ⟨bx, 0, none⟩)]] w (CaughtP w bx r) := by
  have hmf : ∀ (fn : Fn) (first cap : Array Value) (w : World), (Instr.makeFunc fn first cap).run Try.prog w = .ok (.func fn first cap) w := fun _ _ _ _ => rfl
  have hbl := World.block_lt_of_cell? w _ hb
  have hxl := lt_of_some hx
  have hb2 : (w.alloc (.cells #[.int .i64 0, .int .i64 0] 39)).cell? ⟨bp, 0, none⟩ = some (.string p) := by
    unfold World.cell?; rw [heap_alloc_old w _ hbl]; exact hb
  have hx2 : VarX (w.alloc (.cells #[.int .i64 0, .int .i64 0] 39)) bx u := (heap_alloc_old w _ hxl).trans hx
  have hfv : Fv (w.alloc (.cells #[.int .i64 0, .int .i64 0] 39)) w.heap.size 0 0 := heap_alloc_new _ _
  have HB := Aside0.mk hb2
  have HX := Aside0.mk hx2
  have HF := Aside0.mk hfv
  have HXL := Aside0.mk hxl
  clear hb hx hb2 hx2 hfv hbl hxl
  go_enter_defers Try.func33, Try.ntmps33
  go_wp2_with fail
  go_at_call 34
  refine (pat1_calls k p r h hp bp bx u _ HB.out HX.out hne hu).mono ?_
  rintro e w1 hch
  have hsz := sz_al w (.cells #[.int .i64 0, .int .i64 0] 39)
  have hal : Bx w.heap.size bx w (w.alloc (.cells #[.int .i64 0, .int .i64 0] 39)) := Bx.of ((Below.refl _ _).alloc (Nat.le_refl _) _)
  rcases r with ⟨c, a⟩ | x
  · obtain ⟨rfl, ⟨v, hv, hvi⟩, hb1⟩ := hch
    have hfv2 : Fv w1 w.heap.size 0 0 := (hb1.block _ (by rw [hsz]; omega) (by have := HXL.out; omega)).trans HF.out
    have e1 : ∀ w2 : World, VarX w2 bx v → Bx w.heap.size bx w w2 → CaughtP w bx (.error (c, a)) (.returned (.agg #[.int .i64 c, .int .i64 a])) w2 := fun w2 h1 h2 => ⟨v, rfl, h1, h2, hvi⟩
    have E1 := Aside0.mk e1
    clear e1
    generalize CaughtP w bx (.error (c, a)) = CP at *
    refine leaves_cons (f := 44) (args := #[.pointer (some ⟨w.heap.size, 0, none⟩)]) (by simp) (by simp [go_sem]) ?_
    refine (catch_some w.heap.size c a 0 0 w1 hfv2).mono ?_
    rintro e u' w2 ⟨rfl, rfl, hf2, hb2⟩
    have hc0 : w2.cell? ⟨w.heap.size, 0, none⟩ = some (.int .i64 c) := cell_of_row _ w.heap.size 0 _ 39 _ hf2
    have hc1 : w2.cell? ⟨w.heap.size, 1, none⟩ = some (.int .i64 a) := cell_of_row _ w.heap.size 1 _ 39 _ hf2
    have hv2 : VarX w2 bx v := (hb2.block bx (lt_of_some hv) (by have := HXL.out; omega)).trans hv
    have hbb : Bx w.heap.size bx w w2 := (hal.trans (hb1.lower (by rw [hsz]; omega))).trans ⟨hb2.os, hb2.tape, hb2.output, hb2.size, fun k hk hn => hb2.block k (by have := hal.size; have := hb1.size; omega) (by omega)⟩
    have hfin := E1.out w2 hv2 hbb
    simp [Leaves, settle, flt, results, Try.results33, go_sem, hc0, hc1]
    exact hfin
  · obtain ⟨v, rfl, hv, hrep, hb1⟩ := hch
    have hfv2 : Fv w1 w.heap.size 0 0 := (hb1.block _ (by rw [hsz]; omega) (by have := HXL.out; omega)).trans HF.out
    have hc0 : w1.cell? ⟨w.heap.size, 0, none⟩ = some (.int .i64 0) := cell_of_row _ w.heap.size 0 _ 39 _ hfv2
    have hc1 : w1.cell? ⟨w.heap.size, 1, none⟩ = some (.int .i64 0) := cell_of_row _ w.heap.size 1 _ 39 _ hfv2
    have hf0 := bk_fr hfv2 0
    have hf1 := bk_fr hfv2 1
    have h2 := bk_put (j := 1) (bk_put (j := 0) hfv2 (.int .i64 0)) (.int .i64 0)
    have hfv3 : Fv ((w1.setCell ⟨w.heap.size, 0, none⟩ (.int .i64 0)).setCell ⟨w.heap.size, 1, none⟩ (.int .i64 0)) w.heap.size 0 0 := h2
    have hm : ∀ q, q ≠ w.heap.size → ((w1.setCell ⟨w.heap.size, 0, none⟩ (.int .i64 0)).setCell ⟨w.heap.size, 1, none⟩ (.int .i64 0)).heap[q]? = w1.heap[q]? := fun q hq => (Below.heap_setCell _ _ _ _ hq).trans (Below.heap_setCell _ _ _ _ hq)
    have hv2 : VarX ((w1.setCell ⟨w.heap.size, 0, none⟩ (.int .i64 0)).setCell ⟨w.heap.size, 1, none⟩ (.int .i64 0)) bx v := (hm bx (by have := HXL.out; omega)).trans hv
    have hrep2 : RepX ((w1.setCell ⟨w.heap.size, 0, none⟩ (.int .i64 0)).setCell ⟨w.heap.size, 1, none⟩ (.int .i64 0)) (fun k => w.heap.size ≤ k) x v := RepX_move (fun k hk hl => ⟨by rw [hsz] at hk; omega, hm k (by rw [hsz] at hk; omega)⟩) _ _ hrep
    have hbb : Bx w.heap.size bx w ((w1.setCell ⟨w.heap.size, 0, none⟩ (.int .i64 0)).setCell ⟨w.heap.size, 1, none⟩ (.int .i64 0)) := (hal.trans (hb1.lower (by rw [hsz]; omega))).trans ⟨rfl, rfl, rfl, by simp [World.setCell], fun k hk hn => hm k (by omega)⟩
    have e1 : CaughtP w bx (.ok x) (.returned (.agg #[.int .i64 0, .int .i64 0])) ((w1.setCell ⟨w.heap.size, 0, none⟩ (.int .i64 0)).setCell ⟨w.heap.size, 1, none⟩ (.int .i64 0)) := ⟨v, rfl, hv2, hrep2, hbb⟩
    have E1 := Aside0.mk e1
    have HF3 := Aside0.mk hfv3
    clear e1 hv2 hrep2 hbb hm h2 hfv3 hb1 hrep hv hal
    generalize CaughtP w bx (.ok x) = CP at *
    go_wp2
    generalize (w1.setCell ⟨w.heap.size, 0, none⟩ (.int .i64 0)).setCell ⟨w.heap.size, 1, none⟩ (.int .i64 0) = w2 at *
    refine leaves_cons (f := 44) (args := #[.pointer (some ⟨w.heap.size, 0, none⟩)]) (by simp) (by simp [go_sem]) ?_
    refine (catch_idle w.heap.size w2).mono ?_
    rintro e u' w3 ⟨rfl, rfl, rfl⟩
    have hc0 : w3.cell? ⟨w.heap.size, 0, none⟩ = some (.int .i64 0) := cell_of_row _ w.heap.size 0 _ 39 _ HF3.out
    have hc1 : w3.cell? ⟨w.heap.size, 1, none⟩ = some (.int .i64 0) := cell_of_row _ w.heap.size 1 _ 39 _ HF3.out
    simp [Leaves, settle, results, Try.results33, go_sem, hc0, hc1]
    exact E1.out
end Go.Proofs.Ytcdpmmpdfdillaa.Q
