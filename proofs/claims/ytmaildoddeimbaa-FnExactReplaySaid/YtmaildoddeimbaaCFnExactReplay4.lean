/- FnExactReplay: the row of the law: its arguments opened, its walk, its statement over lists (PrFnExactReplay). No condition. -/
import Derived.Test.YtmaildoddeimbaaCFnExactReplay3
import Derived.DeepKeys4
import Derived.Deep.DeepCutAuto
import Derived.Deep.QuietTactic
import Derived.BigQuiet
import Derived.ArgAppend
import Derived.Shelf.SlGeneric
import Derived.Ground.SlsfProg
import Derived.Shelf.SlSortCmp.WholeK
import Derived.Test.YtmaildoddeimbaaProg
import Derived.Shelf.SlSortCmp.NoneTotal

namespace Go.Proofs.Ytmaildoddeimbaa.Q
open Go.RowKit Go.Proofs.YtmaildoddeimbaaW.PrintWords Go.Proofs.YtmaildoddeimbaaW.PrintLast
open Go.Maps (Keyed)
set_option linter.unusedVariables false
set_option linter.unusedSimpArgs false
theorem laid_out : laidOutB Try.prog = true := by kernel_rfl
theorem kCol : Keyed Try.prog 51 := Keyed.of_law (deep_law_laid laid_out (m := 2) (by omega) (of_decide_eq_true (by kernel_rfl)) (by kernel_rfl) (by kernel_rfl))
theorem kU64 : Keyed Try.prog 39 := Maps.int_keyed Try.underlying39
def mkP : Option Nat → Value
  | none => .pointer none
  | some g => .pointer (some ⟨g, 0, none⟩)
theorem mkP_inj : ∀ a b, mkP a = mkP b → a = b
  | none, none, _ => rfl
  | none, some _, h => by cases h
  | some _, none, h => by cases h
  | some a, some b, h => by cases h; rfl
def mkE (x : IE) : Value := .agg (encE x).toArray
theorem mkE_inj : ∀ a b, mkE a = mkE b → a = b := by
  rintro ⟨a0, a1, a2, a3, a4, a5⟩ ⟨b0, b1, b2, b3, b4, b5⟩ h
  simp [mkE, encE] at h
  obtain ⟨rfl, rfl, rfl, rfl, rfl, rfl⟩ := h
  rfl
def colV (c : Col) : Value := .agg #[.string c.1, .string c.2.1, .string c.2.2]
def smallC (c : Col) : Prop := c.1.size ≤ maxLen ∧ c.2.1.size ≤ maxLen ∧ c.2.2.size ≤ maxLen
noncomputable def ck (c : Col) : Lit := (keyOf Try.prog 51 (colV c)).getD (.bool false)
theorem kl_str (d : Nat) (s : ByteArray) (h : s.size ≤ maxLen) : Program.keyLits Try.prog (d + 1) 9 [.string s] = some [.string s.data.toList] := by
  simp [Program.keyLits, Try.underlying9, h]
theorem col_cells : Program.cellsOf Try.prog 51 = 3 := by kernel_rfl
theorem str_cells : Program.cellsOf Try.prog 9 = 1 := by kernel_rfl
set_option maxRecDepth 100000 in
theorem kl_col (d : Nat) (a b e : ByteArray) (h1 : a.size ≤ maxLen) (h2 : b.size ≤ maxLen) (h3 : e.size ≤ maxLen) : ∃ l, Program.keyLits Try.prog (d + 2) 51 [.string a, .string b, .string e] = some l := by
  unfold Program.keyLits
  rw [Try.underlying51]
  simp only []
  rw [if_pos ⟨by rw [col_cells]; rfl, by kernel_rfl⟩]
  simp [str_cells, kl_str, h1, h2, h3]
set_option maxRecDepth 100000 in
theorem ck_some (c : Col) (h : smallC c) : keyOf Try.prog 51 (colV c) = some (ck c) := by
  obtain ⟨a, b, d⟩ := c
  obtain ⟨h1, h2, h3⟩ := h
  have : ∃ l, keyOf Try.prog 51 (colV (a, b, d)) = some l := by
    obtain ⟨n, hn⟩ : ∃ n, Try.prog.types.size + 1 = n + 2 := ⟨Try.prog.types.size - 1, by have : 1 ≤ Try.prog.types.size := of_decide_eq_true (by kernel_rfl); omega⟩
    obtain ⟨l, hl⟩ := kl_col n a b d h1 h2 h3
    refine ⟨.string (keyBytes l), ?_⟩
    unfold keyOf
    rw [Try.underlying51]
    simp only []
    have hk : (Program.keyType Try.prog 51 && Value.formed Try.prog 51 (colV (a, b, d))) = true := by
      rw [Bool.and_eq_true]
      refine ⟨by kernel_rfl, ?_⟩
      unfold Value.formed colV
      rw [Try.underlying51, col_cells]
      rfl
    rw [if_pos hk, hn]
    show (Program.keyLits Try.prog (n + 2) 51 [.string a, .string b, .string d]).map _ = _
    rw [hl]
    rfl
  obtain ⟨l, hl⟩ := this
  unfold ck
  rw [hl]
  rfl
theorem ck_inj {c c' : Col} (h : smallC c) (h' : smallC c') (e : ck c = ck c') : c = c' := by
  have h1 := ck_some c h
  have h2 := ck_some c' h'
  rw [← e] at h2
  have := kCol.inj h1 h2
  obtain ⟨a, b, d⟩ := c
  obtain ⟨a', b', d'⟩ := c'
  simp [colV] at this
  obtain ⟨rfl, rfl, rfl⟩ := this
  rfl
/-- The cells of what is known of a column. -/
def verA (b : Nat) : Option IE → Array Value
  | some e => #[.map (some b), .string e.f0, .string e.f1, .string e.f2, .int .u64 e.f3, .int .i64 e.f4, .string e.f5, .bool true]
  | none => #[.map (some b), .string ⟨#[]⟩, .string ⟨#[]⟩, .string ⟨#[]⟩, .int .u64 0, .int .i64 0, .string ⟨#[]⟩, .bool false]
def wfT (t : Int) : Prop := (Lit.int .u64 t).wf = true
/-- What is known of a column lies at p. -/
structure Vr (B M N : Nat) (W : World) (r : List IE) (c : Col) (p : Nat × Nat) : Prop where
  b1 : B ≤ p.1
  b2 : B ≤ p.2
  n12 : p.1 ≠ p.2
  m1 : p.1 ≠ M
  m2 : p.2 ≠ M
  cells : W.heap[p.1]? = some (.cells (verA p.2 (mkR r c)) 55 (0, 0))
  at_ : ∃ m, Mp Try.prog 39 mkE W p.2 N m ∧ ∀ t, wfT t → m (.int .u64 t) = atR r c t
/-- What is gathered lies in memory. -/
structure Ga (B M N : Nat) (r : List IE) (gof : Col → Option (Nat × Nat)) (W : World) : Prop where
  mB : B ≤ M
  mp : ∃ m, Mp Try.prog 51 mkP W M N m ∧ (∀ c, smallC c → m (ck c) = (gof c).map fun p => some p.1) ∧ ∀ kl v, m kl = some v → ∃ c p, smallC c ∧ gof c = some p ∧ v = some p.1 ∧ kl = ck c
  seen : ∀ c, seenR r c = true → (gof c).isSome = true
  ver : ∀ c p, gof c = some p → Vr B M N W r c p
  inj : ∀ c c' p p', c ≠ c' → gof c = some p → gof c' = some p' → p.1 ≠ p'.1 ∧ p.1 ≠ p'.2 ∧ p.2 ≠ p'.1 ∧ p.2 ≠ p'.2
theorem Vr.move {B M N N' : Nat} {W W' : World} {r r' : List IE} {c : Col} {p : Nat × Nat} (h : Vr B M N W r c p) (h1 : W'.heap[p.1]? = W.heap[p.1]?) (h2 : W'.heap[p.2]? = W.heap[p.2]?) (hN : N ≤ N') (e1 : mkR r' c = mkR r c) (e2 : ∀ t, atR r' c t = atR r c t) : Vr B M N' W' r' c p := by
  obtain ⟨m, hm, ht⟩ := h.at_
  exact ⟨h.b1, h.b2, h.n12, h.m1, h.m2, by rw [h1, e1]; exact h.cells, m, (hm.same h2).weak hN, fun t hw => by rw [e2]; exact ht t hw⟩
theorem Vr.lt1 {B M N : Nat} {W : World} {r : List IE} {c : Col} {p : Nat × Nat} (h : Vr B M N W r c p) : p.1 < W.heap.size := (Array.getElem?_eq_some_iff.mp h.cells).1
theorem Vr.lt2 {B M N : Nat} {W : World} {r : List IE} {c : Col} {p : Nat × Nat} (h : Vr B M N W r c p) : p.2 < W.heap.size := by obtain ⟨m, hm, -⟩ := h.at_; exact hm.lt
theorem Ga.same {B M N : Nat} {r : List IE} {gof : Col → Option (Nat × Nat)} {W W' : World} (h : Ga B M N r gof W) (hs : ∀ k, k < W.heap.size → W'.heap[k]? = W.heap[k]?) : Ga B M N r gof W' := by
  obtain ⟨m, hm, h1, h2⟩ := h.mp
  exact ⟨h.mB, ⟨m, hm.same (hs M hm.lt), h1, h2⟩, h.seen, fun c p e => (h.ver c p e).move (hs _ (h.ver c p e).lt1) (hs _ (h.ver c p e).lt2) (Nat.le_refl _) rfl fun _ => rfl, h.inj⟩
theorem Ga.weak {B M N N' : Nat} {r : List IE} {gof : Col → Option (Nat × Nat)} {W : World} (h : Ga B M N r gof W) (hN : N ≤ N') : Ga B M N' r gof W := by
  obtain ⟨m, hm, h1, h2⟩ := h.mp
  exact ⟨h.mB, ⟨m, hm.weak hN, h1, h2⟩, h.seen, fun c p e => (h.ver c p e).move rfl rfl hN rfl fun _ => rfl, h.inj⟩
theorem mkR_other {w : IE} {r : List IE} {c : Col} (h : ¬ colE w = c) : mkR (w :: r) c = mkR r c := by
  rw [mkR, if_neg (fun e => h e.1)]
theorem atR_other {w : IE} {r : List IE} {c : Col} {t : Int} (h : ¬ colE w = c) : atR (w :: r) c t = atR r c t := by
  rw [atR, if_neg h]
theorem mkR_put {w : IE} {r : List IE} {c : Col} (h : w.f4 ≠ 2) : mkR (w :: r) c = mkR r c := by
  rw [mkR, if_neg (fun e => h e.2)]
theorem atR_put {w : IE} {r : List IE} {t : Int} (h : w.f4 ≠ 2) : atR (w :: r) (colE w) t = if w.f3 = t then some w else atR r (colE w) t := by
  rw [atR, if_pos rfl, if_neg h]
theorem atR_del {w : IE} {r : List IE} {t : Int} (h : w.f4 = 2) : atR (w :: r) (colE w) t = if t ≤ w.f3 then none else atR r (colE w) t := by
  rw [atR, if_pos rfl, if_pos h]
theorem mkR_del {w : IE} {r : List IE} (h : w.f4 = 2) : mkR (w :: r) (colE w) = match mkR r (colE w) with | none => some w | some m => if m.f3 < w.f3 then some w else some m := by
  rw [mkR, if_pos ⟨rfl, h⟩]
  cases mkR r (colE w) <;> rfl
theorem mkR_unseen : ∀ (r : List IE) (c : Col), seenR r c = false → mkR r c = none ∧ ∀ t, atR r c t = none
  | [], c, _ => ⟨rfl, fun _ => rfl⟩
  | w :: r, c, h => by
    unfold seenR at h
    rw [List.any_cons, Bool.or_eq_false_iff] at h
    obtain ⟨i1, i2⟩ := mkR_unseen r c h.2
    have hne : ¬ colE w = c := by simpa using h.1
    refine ⟨?_, fun t => ?_⟩
    · rw [mkR_other hne]; exact i1
    · rw [atR_other hne]; exact i2 t
set_option maxRecDepth 100000 in
/-- A new column. -/
theorem Ga.new {B M N : Nat} {r : List IE} {gof : Col → Option (Nat × Nat)} {W W' : World} (h : Ga B M N r gof W) {c : Col} (hc : smallC c) (hn : gof c = none) {g b : Nat} (hg : W.heap.size ≤ g) (hb : W.heap.size ≤ b) (hgb : g ≠ b) (hB : B ≤ W.heap.size)
    (hcells : W'.heap[g]? = some (.cells (verA b none) 55 (0, 0))) (hat : Mp Try.prog 39 mkE W' b 0 (fun _ => none))
    {m : Lit → Option (Option Nat)} (hmm : Mp Try.prog 51 mkP W M N m) (h1 : ∀ c, smallC c → m (ck c) = (gof c).map fun p => some p.1) (h2 : ∀ kl v, m kl = some v → ∃ c p, smallC c ∧ gof c = some p ∧ v = some p.1 ∧ kl = ck c)
    {m' : Lit → Option (Option Nat)} (hm' : Mp Try.prog 51 mkP W' M (N + 1) m') (e1 : m' (ck c) = some (some g)) (e2 : ∀ z, z ≠ ck c → m' z = m z) (hold : ∀ k, k < W.heap.size → k ≠ M → W'.heap[k]? = W.heap[k]?) :
    Ga B M (N + 1) r (fun c' => if c' = c then some (g, b) else gof c') W' := by
  have hM := hmm.lt
  have hun : seenR r c = false := by
    cases e : seenR r c with
    | false => rfl
    | true => have := h.seen c e; rw [hn] at this; cases this
  obtain ⟨u1, u2⟩ := mkR_unseen r c hun
  refine ⟨h.mB, ⟨m', hm', fun c' hc' => ?_, fun kl v hv => ?_⟩, fun c' hs => ?_, fun c' p e => ?_, fun c1 c2 p1 p2 hne k1 k2 => ?_⟩
  · by_cases e : c' = c
    · subst e; rw [e1, if_pos rfl]; rfl
    · rw [e2 _ (fun h => e (ck_inj hc' hc h)), if_neg e]; exact h1 c' hc'
  · by_cases e : kl = ck c
    · subst e
      rw [e1] at hv
      cases hv
      exact ⟨c, (g, b), hc, if_pos rfl, rfl, rfl⟩
    · rw [e2 _ e] at hv
      obtain ⟨c', p, i1, i2, i3, i4⟩ := h2 kl v hv
      refine ⟨c', p, i1, ?_, i3, i4⟩
      have : c' ≠ c := fun e => by rw [e, hn] at i2; cases i2
      rw [if_neg this]; exact i2
  · by_cases e : c' = c
    · rw [if_pos e]; rfl
    · rw [if_neg e]; exact h.seen c' hs
  · by_cases e' : c' = c
    · rw [if_pos e'] at e
      cases e
      subst e'
      exact ⟨by omega, by omega, hgb, by show g ≠ M; omega, by show b ≠ M; omega, by rw [u1]; exact hcells, _, hat.weak (Nat.zero_le _), fun t _ => by rw [u2]⟩
    · rw [if_neg e'] at e
      have hv := h.ver c' p e
      exact hv.move (hold _ hv.lt1 hv.m1) (hold _ hv.lt2 hv.m2) (Nat.le_succ _) rfl fun _ => rfl
  · by_cases d1 : c1 = c
    · have d2 : ¬ c2 = c := fun h => hne (d1.trans h.symm)
      rw [if_pos d1] at k1
      rw [if_neg d2] at k2
      cases k1
      have hv := h.ver c2 p2 k2
      have := hv.lt1
      have := hv.lt2
      exact ⟨by show g ≠ p2.1; omega, by show g ≠ p2.2; omega, by show b ≠ p2.1; omega, by show b ≠ p2.2; omega⟩
    · rw [if_neg d1] at k1
      by_cases d2 : c2 = c
      · rw [if_pos d2] at k2
        cases k2
        have hv := h.ver c1 p1 k1
        have := hv.lt1
        have := hv.lt2
        exact ⟨by show p1.1 ≠ g; omega, by show p1.1 ≠ b; omega, by show p1.2 ≠ g; omega, by show p1.2 ≠ b; omega⟩
      · rw [if_neg d2] at k2
        exact h.inj c1 c2 p1 p2 hne k1 k2
open Classical in
/-- A put or del, laid into its column's map. -/
theorem Vr.put {B M N : Nat} {W W' : World} {r : List IE} {w : IE} {p : Nat × Nat} (h : Vr B M N W r (colE w) p) (hk : w.f4 ≠ 2) (hw : wfT w.f3) {m : Lit → Option IE} (hm : ∀ t, wfT t → m (.int .u64 t) = atR r (colE w) t)
    (h' : Mp Try.prog 39 mkE W' p.2 (N + 1) (fun z => if z = .int .u64 w.f3 then some w else m z)) (h1 : W'.heap[p.1]? = W.heap[p.1]?) : Vr B M (N + 1) W' (w :: r) (colE w) p := by
  refine ⟨h.b1, h.b2, h.n12, h.m1, h.m2, by rw [h1, mkR_put hk]; exact h.cells, _, h', fun t ht => ?_⟩
  rw [atR_put hk]
  by_cases e : w.f3 = t
  · rw [if_pos e, if_pos (by rw [e])]
  · rw [if_neg e, if_neg (fun h => by cases h; exact e rfl)]
    exact hm t ht
/-- Whether a new marker takes the old one's place. -/
def newMk (o : Option IE) (x : IE) : Bool := match o with | none => true | some e => decide (e.f3 < x.f3)
theorem mkR_new {w : IE} {r : List IE} (h : w.f4 = 2) : mkR (w :: r) (colE w) = if newMk (mkR r (colE w)) w = true then some w else mkR r (colE w) := by
  rw [mkR_del h]
  cases mkR r (colE w) with
  | none => rfl
  | some e =>
    show (if e.f3 < w.f3 then some w else some e) = if decide (e.f3 < w.f3) = true then some w else some e
    by_cases h : e.f3 < w.f3 <;> simp [h]
/-- A marker, and what it takes away. -/
theorem Vr.del {B M N : Nat} {W W' : World} {r : List IE} {w : IE} {p : Nat × Nat} (h : Vr B M N W r (colE w) p) (hk : w.f4 = 2) {m m' : Lit → Option IE} (hm : ∀ t, wfT t → m (.int .u64 t) = atR r (colE w) t) (hm' : ∀ t, wfT t → m' (.int .u64 t) = if t ≤ w.f3 then none else m (.int .u64 t))
    (h' : Mp Try.prog 39 mkE W' p.2 (N + 1) m') (h1 : W'.heap[p.1]? = some (.cells (verA p.2 (if newMk (mkR r (colE w)) w = true then some w else mkR r (colE w))) 55 (0, 0))) : Vr B M (N + 1) W' (w :: r) (colE w) p := by
  refine ⟨h.b1, h.b2, h.n12, h.m1, h.m2, by rw [h1, mkR_new hk], m', h', fun t ht => ?_⟩
  rw [atR_del hk, hm' t ht, hm t ht]
theorem ver_ts (W : World) (g b : Nat) (e : IE) (h : W.heap[g]? = some (.cells (verA b (some e)) 55 (0, 0))) : W.cell? ⟨g, 4, none⟩ = some (.int .u64 e.f3) := (blk_cell h 4).trans rfl
theorem ver_mk (W : World) (g b : Nat) (e : Option IE) (h : W.heap[g]? = some (.cells (verA b e) 55 (0, 0))) : W.cell? ⟨g, 7, none⟩ = some (.bool e.isSome) := by
  refine (blk_cell h 7).trans ?_
  cases e <;> rfl
/-- One more write of a column that is there. -/
theorem Ga.step {B M N : Nat} {r : List IE} {gof : Col → Option (Nat × Nat)} {W W' : World} (h : Ga B M N r gof W) {w : IE} {p : Nat × Nat} (hp : gof (colE w) = some p) (hv : Vr B M (N + 1) W' (w :: r) (colE w) p)
    (hold : ∀ k, k < W.heap.size → k ≠ p.1 → k ≠ p.2 → W'.heap[k]? = W.heap[k]?) : Ga B M (N + 1) (w :: r) gof W' := by
  obtain ⟨m, hm, h1, h2⟩ := h.mp
  have hvo := h.ver _ _ hp
  refine ⟨h.mB, ⟨m, (hm.same (hold M hm.lt hvo.m1.symm hvo.m2.symm)).weak (Nat.le_succ _), h1, h2⟩, fun c hs => ?_, fun c q e => ?_, h.inj⟩
  · unfold seenR at hs
    rw [List.any_cons, Bool.or_eq_true] at hs
    rcases hs with hs | hs
    · have : colE w = c := by simpa using hs
      rw [← this, hp]; rfl
    · exact h.seen c hs
  · by_cases hc : colE w = c
    · rw [hc] at hp hv
      rw [hp] at e
      cases e
      exact hv
    · have hq := h.ver c q e
      obtain ⟨n1, n2, n3, n4⟩ := h.inj _ _ _ _ hc hp e
      exact hq.move (hold _ hq.lt1 n1.symm n3.symm) (hold _ hq.lt2 n2.symm n4.symm) (Nat.le_succ _) (mkR_other hc) (fun t => atR_other hc)
end Go.Proofs.Ytmaildoddeimbaa.Q

namespace Go.Proofs.Ytmaildoddeimbaa.Q
open Go.RowKit Go.Proofs.YtmaildoddeimbaaW.PrintWords Go.Proofs.YtmaildoddeimbaaW.PrintLast
/-- Below block number B, and but for block g, the world w' is as w was. -/
structure Bx (B g : Nat) (w w' : World) : Prop where
  os : w'.os = w.os
  tape : w'.tape = w.tape
  output : w'.output = w.output
  size : w.heap.size ≤ w'.heap.size
  block : ∀ k, k < B → k ≠ g → w'.heap[k]? = w.heap[k]?
theorem Bx.of {B g : Nat} {w w' : World} (h : Below B w w') : Bx B g w w' := ⟨h.os, h.tape, h.output, h.size, fun k hk _ => h.block k hk⟩
theorem Bx.refl (B g : Nat) (w : World) : Bx B g w w := .of (Below.refl _ _)
theorem Bx.trans {B g : Nat} {a b c : World} (h : Bx B g a b) (k : Bx B g b c) : Bx B g a c :=
  ⟨k.os.trans h.os, k.tape.trans h.tape, k.output.trans h.output, Nat.le_trans h.size k.size, fun i hi hg => (k.block i hi hg).trans (h.block i hi hg)⟩
theorem Bx.lower {B B' g : Nat} {w w' : World} (h : Bx B g w w') (hB : B' ≤ B) : Bx B' g w w' := ⟨h.os, h.tape, h.output, h.size, fun k hk => h.block k (by omega)⟩
/-- Two calls behind each other. -/
theorem Bx.step {g : Nat} {w a b : World} (h : Bx w.heap.size g w a) (k : Bx a.heap.size g a b) : Bx w.heap.size g w b := h.trans (k.lower h.size)
/-- The state's block is one of the call's own. -/
theorem Bx.below {B g : Nat} {w w' : World} (h : Bx B g w w') {C : Nat} (hC : C ≤ B) (hg : C ≤ g) : Below C w w' := ⟨h.os, h.tape, h.output, h.size, fun k hk => h.block k (by omega) (by omega)⟩
theorem Bx.cell {B g : Nat} {w w' : World} (h : Bx B g w w') {p : Addr} (hp : p.block < B) (hg : p.block ≠ g) : w'.cell? p = w.cell? p := by
  unfold World.cell?; rw [h.block _ hp hg]
section
variable {w W : World} {g x : Nat} {o : Obj} {v : Value}
instance [h : K0 (Bx w.heap.size g w W)] {o : Obj} : K0 (Bx w.heap.size g w (W.alloc o)) := ⟨h.out.trans (.of (Below.alloc (Below.refl _ _) h.out.size o))⟩
instance [h : K0 (Bx w.heap.size g w W)] {m : Nat} : K0 (Bx w.heap.size g w (W.drewN m)) := ⟨h.out.trans (.of (pw_below_drewN (Below.refl _ _) m))⟩
instance [h : K0 (Bx w.heap.size g w W)] : K0 (Bx w.heap.size g w W.drew) := ⟨h.out.trans (.of (Below.drew (Below.refl _ _)))⟩
instance [h : K0 (Bx w.heap.size g w W)] {j : Nat} : K0 (Bx w.heap.size g w (W.setCell ⟨g, j, none⟩ v)) :=
  ⟨h.out.trans ⟨rfl, rfl, rfl, by simp [World.setCell], fun k _ hk => Below.heap_setCell _ _ _ _ hk⟩⟩
instance (priority := low) [h : K0 (Bx w.heap.size g w W)] {j : Nat} [hx : K0 (w.heap.size ≤ x)] : K0 (Bx w.heap.size g w (W.setCell ⟨x, j, none⟩ v)) :=
  ⟨h.out.trans ⟨rfl, rfl, rfl, by simp [World.setCell], fun k hk _ => Below.heap_setCell _ _ _ _ (by have := hx.out; show k ≠ x; omega)⟩⟩
end
/-- The block behind a store into it. -/
theorem bk_put {W : World} {g j : Nat} {cs : Array Value} {t : TypeId} (h : W.heap[g]? = some (.cells cs t (0, 0))) (v : Value) : (W.setCell ⟨g, j, none⟩ v).heap[g]? = some (.cells (cs.setIfInBounds j v) t (0, 0)) := by
  simp [World.setCell, Array.getElem?_modify, h]
end Go.Proofs.Ytmaildoddeimbaa.Q

namespace Go.Proofs.Ytmaildoddeimbaa.Q
open Go.RowKit Go.Proofs.YtmaildoddeimbaaW.PrintWords Go.Proofs.YtmaildoddeimbaaW.PrintLast
open Go.Maps (Keyed)
set_option linter.unusedVariables false
set_option linter.unusedSimpArgs false
/-- The cells of an entry that lies in block g from off on. -/
theorem six_at {W : World} {g : Nat} {x : IE} (h : W.heap[g]? = some (.cells (encE x).toArray 43 (0, 0))) : W.cell? ⟨g, 0, none⟩ = some (.string x.f0) ∧ W.cell? ⟨g, 1, none⟩ = some (.string x.f1) ∧ W.cell? ⟨g, 2, none⟩ = some (.string x.f2) ∧ W.cell? ⟨g, 3, none⟩ = some (.int .u64 x.f3) ∧ W.cell? ⟨g, 4, none⟩ = some (.int .i64 x.f4) ∧ W.cell? ⟨g, 5, none⟩ = some (.string x.f5) :=
  ⟨(blk_cell h 0).trans rfl, (blk_cell h 1).trans rfl, (blk_cell h 2).trans rfl, (blk_cell h 3).trans rfl, (blk_cell h 4).trans rfl, (blk_cell h 5).trans rfl⟩
structure Ld (g wx bm : Nat) (x : IE) (W : World) : Prop where
  m : W.cell? ⟨g, 0, none⟩ = some (.map (some bm))
  x0 : W.cell? ⟨wx, 0, none⟩ = some (.string x.f0)
  x1 : W.cell? ⟨wx, 1, none⟩ = some (.string x.f1)
  x2 : W.cell? ⟨wx, 2, none⟩ = some (.string x.f2)
  x3 : W.cell? ⟨wx, 3, none⟩ = some (.int .u64 x.f3)
  x4 : W.cell? ⟨wx, 4, none⟩ = some (.int .i64 x.f4)
  x5 : W.cell? ⟨wx, 5, none⟩ = some (.string x.f5)
theorem ver_map (W : World) (g b : Nat) (e : Option IE) (h : W.heap[g]? = some (.cells (verA b e) 55 (0, 0))) : W.cell? ⟨g, 0, none⟩ = some (.map (some b)) := by
  refine (blk_cell h 0).trans ?_
  cases e <;> rfl
theorem bk_frz {w : World} {x T : Nat} {cs : Array Value} (h : w.heap[x]? = some (.cells cs T (0, 0))) (j : Nat) : w.frozen? ⟨x, j, none⟩ = false := by unfold World.frozen?; rw [h]; simp
theorem ver_cell {W : World} {g b : Nat} {e : Option IE} (h : W.heap[g]? = some (.cells (verA b e) 55 (0, 0))) (j : Nat) (hj : j < 8) : ∃ v, W.cell? ⟨g, j, none⟩ = some v :=
  ⟨(verA b e)[j]'(by cases e <;> exact hj), (blk_cell h j).trans (by rw [Array.getElem?_eq_getElem])⟩
theorem set_far {W : World} {g j k : Nat} {v : Value} (h : k ≠ g) : (W.setCell ⟨g, j, none⟩ v).heap[k]? = W.heap[k]? := Below.heap_setCell _ _ _ _ h
theorem set_size {W : World} {g j : Nat} {v : Value} : (W.setCell ⟨g, j, none⟩ v).heap.size = W.heap.size := by simp [World.setCell]
theorem set_os {W : World} {g j : Nat} {v : Value} : (W.setCell ⟨g, j, none⟩ v).os = W.os := rfl
theorem set_tape {W : World} {g j : Nat} {v : Value} : (W.setCell ⟨g, j, none⟩ v).tape = W.tape := rfl
theorem set_out {W : World} {g j : Nat} {v : Value} : (W.setCell ⟨g, j, none⟩ v).output = W.output := rfl
/-- A marker stored whole. -/
theorem ver_put (W : World) (g b : Nat) (o : Option IE) (x : IE) (hk : x.f4 = 2) (h : W.heap[g]? = some (.cells (verA b o) 55 (0, 0))) :
    (((((((W.setCell ⟨g, 1, none⟩ (.string x.f0)).setCell ⟨g, 2, none⟩ (.string x.f1)).setCell ⟨g, 3, none⟩ (.string x.f2)).setCell ⟨g, 4, none⟩ (.int .u64 x.f3)).setCell ⟨g, 5, none⟩ (.int .i64 2)).setCell ⟨g, 6, none⟩ (.string x.f5)).setCell ⟨g, 7, none⟩ (.bool true)).heap[g]? = some (.cells (verA b (some x)) 55 (0, 0)) ∧ (∀ k, k ≠ g → (((((((W.setCell ⟨g, 1, none⟩ (.string x.f0)).setCell ⟨g, 2, none⟩ (.string x.f1)).setCell ⟨g, 3, none⟩ (.string x.f2)).setCell ⟨g, 4, none⟩ (.int .u64 x.f3)).setCell ⟨g, 5, none⟩ (.int .i64 2)).setCell ⟨g, 6, none⟩ (.string x.f5)).setCell ⟨g, 7, none⟩ (.bool true)).heap[k]? = W.heap[k]?) ∧ (((((((W.setCell ⟨g, 1, none⟩ (.string x.f0)).setCell ⟨g, 2, none⟩ (.string x.f1)).setCell ⟨g, 3, none⟩ (.string x.f2)).setCell ⟨g, 4, none⟩ (.int .u64 x.f3)).setCell ⟨g, 5, none⟩ (.int .i64 2)).setCell ⟨g, 6, none⟩ (.string x.f5)).setCell ⟨g, 7, none⟩ (.bool true)).heap.size = W.heap.size ∧ (((((((W.setCell ⟨g, 1, none⟩ (.string x.f0)).setCell ⟨g, 2, none⟩ (.string x.f1)).setCell ⟨g, 3, none⟩ (.string x.f2)).setCell ⟨g, 4, none⟩ (.int .u64 x.f3)).setCell ⟨g, 5, none⟩ (.int .i64 2)).setCell ⟨g, 6, none⟩ (.string x.f5)).setCell ⟨g, 7, none⟩ (.bool true)).os = W.os ∧ (((((((W.setCell ⟨g, 1, none⟩ (.string x.f0)).setCell ⟨g, 2, none⟩ (.string x.f1)).setCell ⟨g, 3, none⟩ (.string x.f2)).setCell ⟨g, 4, none⟩ (.int .u64 x.f3)).setCell ⟨g, 5, none⟩ (.int .i64 2)).setCell ⟨g, 6, none⟩ (.string x.f5)).setCell ⟨g, 7, none⟩ (.bool true)).tape = W.tape ∧ (((((((W.setCell ⟨g, 1, none⟩ (.string x.f0)).setCell ⟨g, 2, none⟩ (.string x.f1)).setCell ⟨g, 3, none⟩ (.string x.f2)).setCell ⟨g, 4, none⟩ (.int .u64 x.f3)).setCell ⟨g, 5, none⟩ (.int .i64 2)).setCell ⟨g, 6, none⟩ (.string x.f5)).setCell ⟨g, 7, none⟩ (.bool true)).output = W.output := by
  refine ⟨?_, fun k hne => ?_, ?_, ?_, ?_, ?_⟩
  · have e : ((((((((verA b o).setIfInBounds 1 (.string x.f0)).setIfInBounds 2 (.string x.f1)).setIfInBounds 3 (.string x.f2)).setIfInBounds 4 (.int .u64 x.f3)).setIfInBounds 5 (.int .i64 2)).setIfInBounds 6 (.string x.f5)).setIfInBounds 7 (.bool true)) = verA b (some x) := by
      cases o <;> simp [verA, hk]
    have h1 := bk_put (j := 1) h (.string x.f0)
    have h2 := bk_put (j := 2) h1 (.string x.f1)
    have h3 := bk_put (j := 3) h2 (.string x.f2)
    have h4 := bk_put (j := 4) h3 (.int .u64 x.f3)
    have h5 := bk_put (j := 5) h4 (.int .i64 2)
    have h6 := bk_put (j := 6) h5 (.string x.f5)
    have h7 := bk_put (j := 7) h6 (.bool true)
    rw [h7, e]
  · rw [set_far hne, set_far hne, set_far hne, set_far hne, set_far hne, set_far hne, set_far hne]
  · rw [set_size, set_size, set_size, set_size, set_size, set_size, set_size]
  · rw [set_os, set_os, set_os, set_os, set_os, set_os, set_os]
  · rw [set_tape, set_tape, set_tape, set_tape, set_tape, set_tape, set_tape]
  · rw [set_out, set_out, set_out, set_out, set_out, set_out, set_out]
theorem zeroPtr (w : World) : (zeroValue 52).run Try.prog w = .ok (mkP none) w := by kernel_rfl
set_option maxHeartbeats 8000000 in
set_option maxRecDepth 100000 in
theorem gather_call (A : Option Addr) (c : Nat) (ws : List IE) (w : World) (hr : Kd.C k43 w A ws.length ws) (hc : ws.length ≤ c) (hn : ws.length ≤ 10000) (hsm : ∀ e ∈ ws, smallC (colE e) ∧ wfT e.f3) :
    Calls Try.prog 26 #[.slice A ws.length c] w fun e w' => ∃ M gof, e = .returned (.map (some M)) ∧ Ga w.heap.size M (2 * ws.length) ws.reverse gof w' ∧ Below w.heap.size w w' := by
  have hmm := @run_makeMap Try.prog
  have HR := Aside0.mk hr
  have HS := Aside0.mk hsm
  have HN := Aside0.mk hn
  clear hr hc hsm
  go_enter Try.func26, Try.ntmps26
  go_wp2_with fail
  go_loopg [11] ws.length (fun kq v11 W => ∃ (i : Nat) (gof : Col → Option (Nat × Nat)), v11 = .int .i64 i ∧ i + kq = ws.length ∧ Aside0 (Ga w.heap.size w.heap.size (2 * i) (ws.take i).reverse gof W) ∧ Aside0 (Below w.heap.size w W))
  case atStart =>
    refine ⟨0, fun _ => none, rfl, by omega, ⟨⟨Nat.le_refl _, ⟨fun _ => none, mp_made w, fun c _ => rfl, fun kl v h => (by cases h)⟩, fun c h => ?_, fun c p h => (by cases h), fun c c' p p' _ h => (by cases h)⟩⟩, ⟨below_alloc (Below.refl _ _) _⟩⟩
    simp [seenR] at h
  case round =>
    obtain ⟨i, gof, rfl, hi, HG, HB⟩ := hrel
    cases gk with
    | zero =>
      obtain rfl : i = ws.length := by omega
      have d1 : decide ((ws.length : Int) < (ws.length : Int)) = false := decide_eq_false (by omega)
      go_wp2
      go_ret
      refine ⟨w.heap.size, gof, rfl, ?_, HB.out⟩
      have := HG.out
      rwa [List.take_length] at this
    | succ kq =>
    have hlt : i < ws.length := by omega
    have d1 : decide ((i : Int) < (ws.length : Int)) = true := decide_eq_true (by omega)
    obtain ⟨ad, e0, hx⟩ := at_T43 (Kd.C_below HR.out (HB.out)) (i : Int) (by omega) (by omega)
    subst e0
    rw [Int.toNat_natCast] at hx
    obtain ⟨x, hX⟩ : ∃ x, rd_T43 ws (i : Int) = x := ⟨_, rfl⟩
    have hxi : ws[i] = x := by rw [← hX]; unfold rd_T43; rw [Int.toNat_natCast]; simp [hlt]
    rw [hX] at hx
    obtain ⟨x0, x1, x2, x3, x4, x5⟩ := hx
    have HT := Aside0.mk (show (ws.take (i + 1)).reverse = x :: (ws.take i).reverse by rw [List.take_succ_eq_append_getElem hlt, hxi]; simp)
    have HSX := Aside0.mk (HS.out x (hxi ▸ List.getElem_mem hlt))
    have hii : (i : Int) < (ws.length : Int) := by omega
    clear hX hxi
    obtain ⟨wa, hwa⟩ : ∃ wa, wa = wr.alloc (.cells (encE x).toArray 43) := ⟨_, rfl⟩
    have hga : Ga w.heap.size w.heap.size (2 * i) (ws.take i).reverse gof wa := HG.out.same fun k hk => hwa ▸ (below_alloc (Below.refl wr.heap.size wr) (.cells (encE x).toArray 43)).block k hk
    have hxa : wa.heap[wr.heap.size]? = some (.cells (encE x).toArray 43 (0, 0)) := hwa ▸ heap_alloc_new _ _
    have hba : Below w.heap.size w wa := hwa ▸ below_alloc HB.out _
    have hwB : w.heap.size ≤ wr.heap.size := HB.out.size
    obtain ⟨s0, s1, s2, s3, s4, s5⟩ := six_at hxa
    go_upto_region 5 with (fail)
    rw [← hwa]
    clear hwa x0 x1 x2 x3 x4 x5 HB HG
    generalize wr.heap.size = wx at *
    go_wp2_with fail
    refine (impl_Entry_column.calls x.f0 x.f1 x.f2 x.f3 x.f4 x.f5 _ _ _ wa rfl).mono ?_
    rintro ex W1 ⟨rfl, hb⟩
    have hg1 := hga.same fun k hk => hb.block k hk
    have hx1 : W1.heap[wx]? = some (.cells (encE x).toArray 43 (0, 0)) := (hb.block _ (Array.getElem?_eq_some_iff.mp hxa).1).trans hxa
    have hb1 : Below w.heap.size w W1 := hba.trans (hb.mono (hba.size))
    obtain ⟨m, hmp, hm1, hm2⟩ := hg1.mp
    have hck := ck_some (colE x) HSX.out.1
    clear hga hxa hba hb s0 s1 s2 s3 s4 s5
    obtain ⟨p0, hp0⟩ : ∃ p0, gof (colE x) = p0 := ⟨_, rfl⟩
    have hmc := hm1 (colE x) HSX.out.1
    rw [hp0] at hmc
    obtain ⟨v6, hv6⟩ : ∃ v6, mkP ((m (ck (colE x))).getD none) = v6 := ⟨_, rfl⟩
    go_upto_region 6 with (at_lookup; go_loud (refine wpList_mp_lookup mkP_inj rfl _ _ 48 rfl kCol Try.underlying48 none (zeroPtr _) rfl hmp (colV (colE x)) (ck (colE x)) rfl hck v6 hv6 ?_))
    rw [hmc] at hv6
    go_cut [20] (fun v20 wc => v20 = .bool p0.isNone ∧ wc = W1)
    case first =>
      rcases p0 with _ | p
      · obtain rfl : v6 = .pointer none := hv6.symm
        go_wp2
        go_meet
        case rel => exact ⟨rfl, rfl⟩
      · obtain rfl : v6 = .pointer (some ⟨p.1, 0, none⟩) := hv6.symm
        go_wp2
        go_meet
        case rel => exact ⟨rfl, rfl⟩
    case rest =>
    obtain ⟨rfl, rfl⟩ := hcut
    go_upto_if 20 with (fail)
    go_cut [6] (fun v6 wc => ∃ (p : Nat × Nat) (gof' : Col → Option (Nat × Nat)), v6 = .pointer (some ⟨p.1, 0, none⟩) ∧ Aside0 (gof' (colE x) = some p) ∧ Aside0 (Ga w.heap.size w.heap.size (2 * i + 1) (ws.take i).reverse gof' wc) ∧ Aside0 (wc.heap[wx]? = some (.cells (encE x).toArray 43 (0, 0))) ∧ Aside0 (Below w.heap.size w wc))
    case first =>
      rcases p0 with _ | p
      · obtain rfl : v6 = .pointer none := hv6.symm
        obtain ⟨W2, hW2⟩ : ∃ W2, W2 = (wc.alloc (.map #[] 0)).alloc (.cells #[.map (some wc.heap.size), .string ⟨#[]⟩, .string ⟨#[]⟩, .string ⟨#[]⟩, .int .u64 0, .int .i64 0, .string ⟨#[]⟩, .bool false] 55) := ⟨_, rfl⟩
        have hb2 : Below wc.heap.size wc W2 := hW2 ▸ below_alloc (below_alloc (Below.refl _ _) _) _
        have hs2 : W2.heap.size = wc.heap.size + 2 := by rw [hW2, sz_al, sz_al]
        have hc2 : W2.heap[wc.heap.size + 1]? = some (.cells (verA wc.heap.size none) 55 (0, 0)) := by
          have := heap_alloc_new (wc.alloc (.map #[] 0)) (.cells #[.map (some wc.heap.size), .string ⟨#[]⟩, .string ⟨#[]⟩, .string ⟨#[]⟩, .int .u64 0, .int .i64 0, .string ⟨#[]⟩, .bool false] 55)
          rw [sz_al] at this
          exact hW2 ▸ this
        have hm2' : Mp Try.prog 39 mkE W2 wc.heap.size 0 (fun _ => none) := by
          refine (mp_made wc).same ?_
          rw [hW2]
          exact (below_alloc (Below.refl (wc.alloc (.map #[] 0)).heap.size (wc.alloc (.map #[] 0))) _).block _ (by rw [sz_al]; omega)
        have hx2 : W2.heap[wx]? = some (.cells (encE x).toArray 43 (0, 0)) := (hb2.block _ (Array.getElem?_eq_some_iff.mp hx1).1).trans hx1
        have hmp2 := hmp.same (hb2.block _ hmp.lt)
        obtain ⟨s0, s1, s2, s3, s4, s5⟩ := six_at hx2
        have HH := Aside0.mk (And.intro hx1 (And.intro hg1 (And.intro hb1 hmp)))
        clear hx1 hg1 hb1 hmp
        have HH2 := Aside0.mk (And.intro hb2 (And.intro hs2 (And.intro hc2 (And.intro hm2' (And.intro hx2 hmp2)))))
        clear hb2 hs2 hc2 hm2' hx2 hmp2
        have HM := Aside0.mk (And.intro hm1 (And.intro hm2 hmc))
        clear hm1 hm2 hmc hv6
        go_upto_region 8 with (fail)
        rw [← hW2]
        clear hW2
        go_wp2_with fail
        refine (impl_Entry_column.calls x.f0 x.f1 x.f2 x.f3 x.f4 x.f5 _ _ _ W2 rfl).mono ?_
        rintro ex W3 ⟨rfl, hb⟩
        have hmp3 := HH2.out.2.2.2.2.2.same (hb.block _ HH2.out.2.2.2.2.2.lt)
        have HB3 := Aside0.mk hb
        clear hb s0 s1 s2 s3 s4 s5
        have hnl : 2 * i < maxLen := by have := HN.out; simp only [maxLen]; omega
        go_wp2_with (at_mapUpdate; go_loud (refine wpList_mp_update mkP_inj rfl _ _ _ 48 rfl kCol Try.underlying48 rfl hmp3 hnl (colV (colE x)) (some (wc.heap.size + 1)) (ck (colE x)) rfl rfl hck ?_; intro W4 hm4 hg4; have HG4 := Aside0.mk (And.intro hm4 hg4); clear hm4 hg4))
        go_meet
        case rel =>
          obtain ⟨hx1, hg1, hb1, hmp⟩ := HH.out
          obtain ⟨hb2, hs2, hc2, hm2', hx2, hmp2⟩ := HH2.out
          obtain ⟨hm4, hg4⟩ := HG4.out
          have hb3 := HB3.out
          obtain ⟨k1, k2, k3⟩ := HM.out
          have hBl := hmp.lt
          have hbs := hb1.size
          have hxM := hmp.ne_cells hx1
          have h3 : ∀ k, k < W2.heap.size → k ≠ w.heap.size → W4.heap[k]? = W2.heap[k]? := fun k hk hne => (hg4.block k (by have := hb3.size; omega) (fun e => hne (by cases e; rfl))).trans (hb3.block k hk)
          have h4 : ∀ k, k < wc.heap.size → k ≠ w.heap.size → W4.heap[k]? = wc.heap[k]? := fun k hk hne => (h3 k (by omega) hne).trans (hb2.block k hk)
          have hxl := (Array.getElem?_eq_some_iff.mp hx1).1
          refine ⟨(wc.heap.size + 1, wc.heap.size), fun c' => if c' = colE x then some (wc.heap.size + 1, wc.heap.size) else gof c', rfl, ⟨if_pos rfl⟩, ⟨hg1.new HSX.out.1 hp0 (Nat.le_succ _) (Nat.le_refl _) (by omega) hb1.size ((h3 _ (by omega) (by omega)).trans hc2) (hm2'.same (h3 _ (by omega) (by omega))) hmp k1 k2 hm4 (if_pos rfl) (fun z hz => if_neg hz) h4⟩, ⟨(h4 wx hxl (by omega)).trans hx1⟩, ⟨?_⟩⟩
          refine ⟨hg4.os.trans (hb3.os.trans (hb2.os.trans hb1.os)), hg4.tape.trans (hb3.tape.trans (hb2.tape.trans hb1.tape)), hg4.output.trans (hb3.output.trans (hb2.output.trans hb1.output)), by have := hg4.size; have := hb3.size; have := hb1.size; omega, fun k hk => (h4 k (by omega) (by omega)).trans (hb1.block k hk)⟩
      · obtain rfl : v6 = .pointer (some ⟨p.1, 0, none⟩) := hv6.symm
        go_wp2
        go_meet
        case rel => exact ⟨p, gof, rfl, ⟨hp0⟩, ⟨hg1.weak (Nat.le_succ _)⟩, ⟨hx1⟩, ⟨hb1⟩⟩
    case rest =>
    clear hg1 hx1 hb1 hmp hm1 hm2 hmc hv6
    obtain ⟨p, gof', rfl, HP, HG, HX, HB⟩ := hcut
    have hv := HG.out.ver _ _ HP.out
    obtain ⟨s0, s1, s2, s3, s4, s5⟩ := six_at HX.out
    have hgm := ver_map _ _ _ _ hv.cells
    by_cases hk : x.f4 = 2
    · have d2 : (x.f4 != 2) = false := bne_eq_false_iff_eq.mpr hk
      obtain ⟨m6, hm6, ht6⟩ := hv.at_
      have HV := Aside0.mk hv
      have HT6 := Aside0.mk ht6
      have HX2 := Aside0.mk (hm6.ne_cells HX.out)
      have HL := Aside0.mk (And.intro (Array.getElem?_eq_some_iff.mp HX.out).1 (And.intro hv.lt1 hv.n12))
      clear hv ht6
      go_wp2_with (at_range; go_loud (refine wpList_mp_range rfl _ 53 rfl kU64 Try.underlying53 rfl hm6 ?_; intro W5 cnt5 hrg5 hg5 hs5))
      go_frame
      clear s0 s1 s2 s3 s4 s5 hgm
      go_loopw [7] (fun _ W => ∃ (left : Lit → Bool) (cnt : Nat) (m' : Lit → Option IE), Aside0 (Rg Try.prog 39 mkE W p.2 wc.heap.size (2 * i + 1) m' left cnt) ∧ Aside0 (∀ t, wfT t → m' (.int .u64 t) = if t ≤ x.f3 ∧ left (.int .u64 t) = false then none else m6 (.int .u64 t)) ∧ Aside0 (Bx wc.heap.size p.2 wc W)) (fun _ W => W.rangeLeft p.2 wc.heap.size)
      case atStart =>
        refine ⟨_, _, m6, ⟨hrg5⟩, ⟨fun t ht => ?_⟩, ⟨hg5.os, hg5.tape, hg5.output, hg5.size, fun k hk _ => hg5.block k hk (by simp)⟩⟩
        split
        · rename_i h
          have h2 := h.2
          cases e : m6 (.int .u64 t) with
          | none => rfl
          | some v => rw [e] at h2; cases h2
        · rfl
      case round =>
        clear hrg5 hg5 hs5 hm6
        obtain ⟨left, cnt, m', HRG, HM', HBX⟩ := hrel
        go_wp2_with (at_next; go_loud (refine wpList_mp_next (Value.int .u64) (fun key kl h => by obtain ⟨y, e, -, -⟩ := Maps.keyOf_int_inv Try.underlying39 h; exact ⟨y, e⟩) rfl _ rfl kU64 rfl HRG.out ?_ ?_))
        · intro hl0
          have hme : ∀ t, wfT t → m' (.int .u64 t) = if t ≤ x.f3 then none else m6 (.int .u64 t) := fun t ht => by
            rw [HM'.out t ht]
            simp only [hl0, and_true]
          have hcp : wr.heap[p.1]? = some (.cells (verA p.2 (mkR (List.take i ws).reverse (colE x))) 55 (0, 0)) := (HBX.out.block _ HL.out.2.1 HL.out.2.2).trans HV.out.cells
          have hxr : wr.heap[wx]? = some (.cells (encE x).toArray 43 (0, 0)) := (HBX.out.block _ HL.out.1 HX2.out).trans HX.out
          obtain ⟨s0, s1, s2, s3, s4, s5⟩ := six_at hxr
          have HME := Aside0.mk (And.intro hme (HRG.out.mp.weak (Nat.le_succ _)))
          have HXR := Aside0.mk hxr
          obtain ⟨o, ho⟩ : ∃ o, mkR (List.take i ws).reverse (colE x) = o := ⟨_, rfl⟩
          rw [ho] at hcp
          have HO := Aside0.mk ho
          have HCP := Aside0.mk hcp
          have c7 := ver_mk _ _ _ _ hcp
          clear hme hxr ho HRG HM' hl0
          go_upto_region 16 with (fail)
          go_cut [70] (fun v70 W => v70 = .bool (newMk o x) ∧ ∃ q, W = wr.drewN q)
          case first =>
            cases o with
            | none =>
              clear hcp
              go_quiet (fail)
              go_wp2
              go_meet
              case rel => exact ⟨rfl, _, rfl⟩
            | some e =>
              have c4 := ver_ts _ _ _ _ hcp
              clear hcp
              go_quiet (fail)
              go_wp2
              go_meet
              case rel => exact ⟨rfl, _, rfl⟩
          case rest =>
          obtain ⟨rfl, q, rfl⟩ := hcut
          have HNB := Aside0.mk (show (if newMk o x = true then some x else o) = (if newMk (mkR (List.take i ws).reverse (colE x)) x = true then some x else mkR (List.take i ws).reverse (colE x)) by rw [HO.out])
          cases hnw : newMk o x with
          | false =>
            rw [hnw] at HNB
            go_wp2_with fail
            go_roundg kq
            case measure => omega
            case rel =>
              have hv := HV.out.del hk HT6.out HME.out.1 (W' := wr.drewN q) (HME.out.2.same rfl) (by rw [← HNB.out]; exact HCP.out)
              refine ⟨i + 1, gof', by go_num, by omega, ⟨by rw [HT.out]; exact HG.out.step HP.out hv (fun k hk n1 n2 => HBX.out.block k hk n2)⟩, ⟨?_⟩⟩
              have hBX := HBX.out
              have hB := HB.out
              exact ⟨hBX.os.trans hB.os, hBX.tape.trans hB.tape, hBX.output.trans hB.output, Nat.le_trans hB.size hBX.size, fun k hk => (hBX.block k (by have := hB.size; omega) (by have := HV.out.b2; omega)).trans (hB.block k hk)⟩
          | true =>
            rw [hnw] at HNB
            have hcp := HCP.out
            have f1 := bk_frz hcp 1
            have f2 := bk_frz hcp 2
            have f3 := bk_frz hcp 3
            have f4 := bk_frz hcp 4
            have f5 := bk_frz hcp 5
            have f6 := bk_frz hcp 6
            have f7 := bk_frz hcp 7
            obtain ⟨v1, g1⟩ := ver_cell hcp 1 (by omega)
            obtain ⟨v2, g2⟩ := ver_cell hcp 2 (by omega)
            obtain ⟨v3, g3⟩ := ver_cell hcp 3 (by omega)
            obtain ⟨v4, g4⟩ := ver_cell hcp 4 (by omega)
            obtain ⟨v5, g5⟩ := ver_cell hcp 5 (by omega)
            obtain ⟨v6, g6⟩ := ver_cell hcp 6 (by omega)
            clear hcp
            go_wp2_with fail
            have HFIN := Aside0.mk (ver_put (wr.drewN q) p.1 p.2 o x hk (blk_drewN HCP.out q))
            clear f1 f2 f3 f4 f5 f6 f7 g1 g2 g3 g4 g5 g6
            generalize ((((((((wr.drewN q).setCell ⟨p.1, 1, none⟩ (.string x.f0)).setCell ⟨p.1, 2, none⟩ (.string x.f1)).setCell ⟨p.1, 3, none⟩ (.string x.f2)).setCell ⟨p.1, 4, none⟩ (.int .u64 x.f3)).setCell ⟨p.1, 5, none⟩ (.int .i64 2)).setCell ⟨p.1, 6, none⟩ (.string x.f5)).setCell ⟨p.1, 7, none⟩ (.bool true)) = W9 at *
            go_roundg kq
            case measure => omega
            case rel =>
              obtain ⟨h1, h2, h3, h4, h5, h6⟩ := HFIN.out
              have hv := HV.out.del hk HT6.out HME.out.1 (HME.out.2.same (h2 _ HV.out.n12.symm)) (by rw [← HNB.out]; exact h1)
              refine ⟨i + 1, gof', by go_num, by omega, ⟨by rw [HT.out]; exact HG.out.step HP.out hv (fun k hk n1 n2 => (h2 k n1).trans (HBX.out.block k hk n2))⟩, ⟨?_⟩⟩
              have hBX := HBX.out
              have hB := HB.out
              exact ⟨h4.trans (hBX.os.trans hB.os), h5.trans (hBX.tape.trans hB.tape), h6.trans (hBX.output.trans hB.output), by rw [h3]; exact Nat.le_trans hB.size hBX.size, fun k hk => (h2 k (by have := HV.out.b1; omega)).trans ((hBX.block k (by have := hB.size; omega) (by have := HV.out.b2; omega)).trans (hB.block k hk))⟩
        · intro y c1 kl W6 cnt1 hkey hlk hmk hrg1 hlt1 hg6 hs6 hen
          obtain ⟨y', e1, rfl, hwf⟩ := Maps.keyOf_int_inv Try.underlying39 hkey
          cases e1
          have hB6 : Bx wc.heap.size p.2 wc W6 := ⟨hg6.os.trans HBX.out.os, hg6.tape.trans HBX.out.tape, hg6.output.trans HBX.out.output, Nat.le_trans HBX.out.size hg6.size, fun k hk hne => (hg6.block k (Nat.lt_of_lt_of_le hk HBX.out.size) (fun e => by cases e; omega)).trans (HBX.out.block k hk hne)⟩
          obtain ⟨s0, s1, s2, s3, s4, s5⟩ := six_at ((hB6.block _ HL.out.1 HX2.out).trans HX.out)
          have hgm := ver_map _ _ _ _ ((hB6.block _ HL.out.2.1 HL.out.2.2).trans HV.out.cells)
          have HLT := Aside0.mk hlt1
          have HG6 := Aside0.mk (And.intro hB6 hs6)
          have HML := Aside0.mk (HRG.out.left_eq)
          clear hg6 hs6 hB6 hlt1 hlk hmk
          by_cases hy : y ≤ x.f3
          · have d3 : decide (y ≤ x.f3) = true := decide_eq_true hy
            go_wp2_with (at_delete; go_loud (refine wpList_mp_delete rfl _ _ 53 rfl kU64 Try.underlying53 rfl hrg1 (.int .u64 y) (.int .u64 y) rfl hkey ?_; intro W7 cnt2 hrg2 hle hturn; go_frame))
            go_roundw
            case rel =>
              have hB6 := HG6.out.1
              have hg7 := hturn.grown
              refine ⟨_, cnt2, _, ⟨hrg2⟩, ⟨fun t ht => ?_⟩, ⟨⟨hg7.os.trans hB6.os, hg7.tape.trans hB6.tape, hg7.output.trans hB6.output, Nat.le_trans hB6.size hg7.size, fun k hk hne => (hg7.block k (Nat.lt_of_lt_of_le hk hB6.size) (fun e => hne (by cases e; rfl))).trans (hB6.block k hk hne)⟩⟩⟩
              try dsimp only
              by_cases e : t = y
              · subst e
                rw [if_pos rfl, if_pos ⟨hy, by rw [WideAt.sameKey_self (kU64.key hkey)]; simp⟩]
              · have hne : (Lit.int .u64 t) ≠ .int .u64 y := fun h => e (by cases h; rfl)
                rw [if_neg hne, Maps.sameKey_ne hne]
                simp only [Bool.not_false, Bool.and_true]
                exact HM'.out t ht
            case measure => have := HLT.out; have := HML.out; rw [hrg2.left_eq, HML.out]; omega
          · have d3 : decide (y ≤ x.f3) = false := decide_eq_false hy
            go_wp2_with fail
            go_roundw
            case rel =>
              refine ⟨_, cnt1, _, ⟨hrg1⟩, ⟨fun t ht => ?_⟩, ⟨HG6.out.1⟩⟩
              try dsimp only
              by_cases e : t = y
              · subst e
                rw [HM'.out t ht, if_neg (fun h => hy h.1), if_neg (fun h => hy h.1)]
              · have hne : (Lit.int .u64 t) ≠ .int .u64 y := fun h => e (by cases h; rfl)
                rw [Maps.sameKey_ne hne]
                simp only [Bool.not_false, Bool.and_true]
                exact HM'.out t ht
            case measure => have := HLT.out; rw [hrg1.left_eq, HML.out]; omega
    · have d2 : (x.f4 != 2) = true := bne_iff_ne.mpr hk
      have l0 : ∀ W [k : K0 (Ld p.1 wx p.2 x W)], W.cell? ⟨p.1, 0, none⟩ = some (.map (some p.2)) := fun W k => k.out.m
      have l1 : ∀ W [k : K0 (Ld p.1 wx p.2 x W)], W.cell? ⟨wx, 0, none⟩ = some (.string x.f0) := fun W k => k.out.x0
      have l2 : ∀ W [k : K0 (Ld p.1 wx p.2 x W)], W.cell? ⟨wx, 1, none⟩ = some (.string x.f1) := fun W k => k.out.x1
      have l3 : ∀ W [k : K0 (Ld p.1 wx p.2 x W)], W.cell? ⟨wx, 2, none⟩ = some (.string x.f2) := fun W k => k.out.x2
      have l4 : ∀ W [k : K0 (Ld p.1 wx p.2 x W)], W.cell? ⟨wx, 3, none⟩ = some (.int .u64 x.f3) := fun W k => k.out.x3
      have l5 : ∀ W [k : K0 (Ld p.1 wx p.2 x W)], W.cell? ⟨wx, 4, none⟩ = some (.int .i64 x.f4) := fun W k => k.out.x4
      have l6 : ∀ W [k : K0 (Ld p.1 wx p.2 x W)], W.cell? ⟨wx, 5, none⟩ = some (.string x.f5) := fun W k => k.out.x5
      go_upto_region 10 with (fail)
      have kd : K0 (Ld p.1 wx p.2 x wc.drew) := ⟨⟨hgm, s0, s1, s2, s3, s4, s5⟩⟩
      have HV := Aside0.mk hv
      clear hgm s0 s1 s2 s3 s4 s5 hv
      refine sp_region (S := fun W' => K0 (Ld p.1 wx p.2 x W')) (.n 0 (.n 1 (.n 2 (.n 3 (.n 4 (.n 5 (.n 6 (.y 7 .done)))))))) (by kernel_rfl) (by kernel_rfl) kd (fun hS => ?_)
      (repeat (refine sp_n ?_ ?_ rfl ?_ ?_ ?_; rotate_left 2; (intro W hW; go_simp; first | done | with_reducible rfl); (simp only [List.setIfInBounds_toArray, List.set_cons_zero, List.set_cons_succ]; try rfl)))
      refine sp_1n rfl (fun hS K hK => ?_)
      obtain ⟨m6, hm6, ht6⟩ := HV.out.at_
      have hm6d : Mp Try.prog 39 mkE wc.drew p.2 (2 * i + 1) m6 := hm6.same rfl
      have hnl : 2 * i + 1 < maxLen := by have := HN.out; simp only [maxLen]; omega
      refine wp_mp_update mkE_inj _ _ _ 53 rfl kU64 Try.underlying53 rfl hm6d hnl (.int .u64 x.f3) x (.int .u64 x.f3) rfl rfl (Maps.keyOf_int_mk Try.underlying39 HSX.out.2) ?_
      intro W5 hm5 hg5
      have hv := HV.out
      have h5 : ∀ k, k < wc.heap.size → k ≠ p.2 → W5.heap[k]? = wc.heap[k]? := fun k hk hne => hg5.block k hk (fun e => hne (by cases e; rfl))
      have hxl := (Array.getElem?_eq_some_iff.mp HX.out).1
      have hx2 : wx ≠ p.2 := hm6.ne_cells HX.out
      have hg1' : W5.heap[p.1]? = wc.heap[p.1]? := h5 _ hv.lt1 hv.n12
      have hx5 : W5.heap[wx]? = some (.cells (encE x).toArray 43 (0, 0)) := (h5 wx hxl hx2).trans HX.out
      obtain ⟨s0, s1, s2, s3, s4, s5⟩ := six_at hx5
      have hvn := hv.put hk HSX.out.2 ht6 hm5 hg1'
      refine hK.out _ _ ⟨⟨ver_map _ _ _ _ hvn.cells, s0, s1, s2, s3, s4, s5⟩⟩ (fun _ => sp_done (fun _ => ?_))
      have HF := Aside0.mk (And.intro (HG.out.step HP.out hvn (fun k hk n1 n2 => h5 k hk n2)) (And.intro hg5 h5))
      clear hm5 hg5 hv h5 hxl hx2 hg1' hx5 s0 s1 s2 s3 s4 s5 hvn hm6 ht6 hm6d l0 l1 l2 l3 l4 l5 l6
      go_wp2_with fail
      go_roundg kq
      case measure => omega
      case rel =>
        obtain ⟨g1, hg5, h5⟩ := HF.out
        have hv := HV.out
        refine ⟨i + 1, gof', by go_num, by omega, ⟨by rw [HT.out]; exact g1⟩, ⟨?_⟩⟩
        exact ⟨hg5.os.trans HB.out.os, hg5.tape.trans HB.out.tape, hg5.output.trans HB.out.output, Nat.le_trans HB.out.size hg5.size, fun k hk => (h5 k (by have := HB.out.size; omega) (by have := hv.b2; omega)).trans (HB.out.block k hk)⟩
end Go.Proofs.Ytmaildoddeimbaa.Q

namespace Go.Proofs.Ytmaildoddeimbaa.Q
open Go.RowKit Go.Proofs.YtmaildoddeimbaaW.PrintWords Go.Proofs.YtmaildoddeimbaaW.PrintLast
theorem own_lower {w : World} {b b' : Nat} {e : TypeId} {size n : Nat} {v : Value} {xs : List Value} (h : w.ownsRow b e size v n xs) (hb : b' ≤ b) : w.ownsRow b' e size v n xs := by
  refine ⟨h.1, ?_⟩
  rcases h.2 with hn | ⟨g, cap, cur, rfl, hg, r⟩
  · exact .inl hn
  · exact .inr ⟨g, cap, cur, rfl, by omega, r⟩
section
variable {P : Program} {w : World}
theorem append_at (base : Nat) (t ty e : TypeId) (i : TypeInfo) (z : Value) (size bytes : Nat) (ht : P.underlying t = some (.slice e)) (hi : P.info? e = some i) (hz : i.zero = some z)
    (hsize : i.size = size) (hby : i.bytes = bytes) (hzs : z.cells.size = size) (hsz : 0 < size)
    (v : Value) (n : Nat) (xs : List Value) (hown : w.ownsRow base e size v n xs)
    (a : Addr) (m c : Nat) (news : List Value) (hl : news.length = m * size) (hnews : ∀ j u, news[j]? = some u → w.cell? (a.add j) = some u) (h1 : ∀ u ∈ news, u.oneCell' = true)
    (h63 : n + m ≤ maxLen) (hbytes : (n + m) * bytes ≤ 140737488355328) (hbase : base ≤ w.heap.size) :
    ∃ v' w', (Builtin.append_ #[t, t] ty #[v, .slice (some a) m c]).run P w = .ok v' w' ∧ w'.ownsRow base e size v' (n + m) (xs ++ news) ∧ w.grownBy w' v.ownBlock ∧ (∀ k, v'.ownBlock = some k → v.ownBlock = some k ∨ w.heap.size ≤ k) := by
  obtain ⟨v', w', hr, h2, h3, -⟩ := run_append_own (P := P) w base t ty e i z size bytes ht hi hz hsize hby hzs hsz v n xs hown a m c news hl hnews h1 h63 hbytes hbase
  refine ⟨v', w', hr, h2, h3, ?_⟩
  rcases hown.2 with ⟨rfl, rfl⟩ | ⟨g, cap, cur, rfl, hbg, hg, hnc, hcm, hcs, htake⟩
  · obtain rfl : xs = [] := List.eq_nil_of_length_eq_zero (by simpa using hown.1)
    obtain ⟨v2, w2, hr2, h4, -, -⟩ := run_append_own (P := P) w w.heap.size t ty e i z size bytes ht hi hz hsize hby hzs hsz (.slice none 0 0) 0 [] (World.ownsRow_nil w _ e size) a m c news hl hnews h1 h63 hbytes (Nat.le_refl _)
    rw [hr] at hr2
    cases hr2
    exact fun k hk => .inr (h4.lt k hk).1
  · by_cases hroom : n + m ≤ cap
    · subst hsize
      have hr2 := run_append_room (P := P) w t ty e i ht hi g n cap cur hg a m c news hl hnews h1 hroom (by rw [hcs, hl, ← Nat.add_mul]; exact Nat.mul_le_mul_right _ hroom)
      rw [hr] at hr2
      cases hr2
      exact fun k hk => .inl hk
    · have holds : ∀ j u, xs[j]? = some u → w.cell? ((⟨g, 0, none⟩ : Addr).add j) = some u := hown.cells (g := g) rfl
      obtain ⟨v2, w2, hr2, h4, -⟩ := run_append_arg_grows (P := P) w t ty e i z size bytes ht hi hz hsize hby hzs hsz ⟨g, 0, none⟩ n cap xs hown.1 holds a m c news hl hnews (by omega) h63 hbytes
      rw [hr] at hr2
      cases hr2
      exact fun k hk => .inr (h4.lt k hk).1
variable {ops : Array Oper} {rest : List Oper} {o : Oper} {a : Act} {Q : Exit → Act → World → Prop}
theorem wp_append_at {K : Act → World → Prop} (s x : Operand) (t : TypeId)
    (ho : o.op = .call { callee := .builtin .append, args := #[s, x], argTypes := #[t, t] })
    (base : Nat) (e : TypeId) (i : TypeInfo) (z : Value) (size bytes : Nat) (ht : P.underlying t = some (.slice e)) (hi : P.info? e = some i) (hz : i.zero = some z)
    (hsize : i.size = size) (hby : i.bytes = bytes) (hzs : z.cells.size = size) (hsz : 0 < size)
    (v : Value) (n : Nat) (xs : List Value) (hs : a.eval s = v) (hown : w.ownsRow base e size v n xs)
    (ad : Addr) (m c : Nat) (news : List Value) (hx : a.eval x = .slice (some ad) m c) (hl : news.length = m * size) (hnews : ∀ j u, news[j]? = some u → w.cell? (ad.add j) = some u) (h1 : ∀ u ∈ news, u.oneCell' = true)
    (h63 : n + m ≤ maxLen) (hbytes : (n + m) * bytes ≤ 140737488355328) (hbase : base ≤ w.heap.size)
    (h : ∀ v' w', w'.ownsRow base e size v' (n + m) (xs ++ news) → w.grownBy w' v.ownBlock → (∀ k, v'.ownBlock = some k → v.ownBlock = some k ∨ w.heap.size ≤ k) → K (a.put o.dst v') w') : o.wp P a w K Q := by
  obtain ⟨v', w', hr, h2, h3, h4⟩ := append_at (P := P) (w := w) base t o.type e i z size bytes ht hi hz hsize hby hzs hsz v n xs hown ad m c news hl hnews h1 h63 hbytes hbase
  unfold Oper.wp
  simp [execOp, ho, resolve, invoke, builtin, hs, hx, hr, Result.andThen]
  exact h v' w' h2 h3 h4
end
end Go.Proofs.Ytmaildoddeimbaa.Q

namespace Go.Proofs.Ytmaildoddeimbaa.Q
open Go.RowKit Go.Proofs.YtmaildoddeimbaaW.PrintWords Go.Proofs.YtmaildoddeimbaaW.PrintLast
set_option linter.unusedVariables false
set_option linter.unusedSimpArgs false
def RowE (W : World) (base : Nat) (v : Value) (L : List IE) : Prop := W.ownsRow base 43 6 v L.length (L.flatMap encE)
theorem flat_len : ∀ (L : List IE), (L.flatMap encE).length = L.length * 6
  | [] => rfl
  | x :: L => by rw [List.flatMap_cons, List.length_append, flat_len L]; simp only [encE, List.length_cons, List.length_nil]; omega
theorem RowE.nil (W : World) (base : Nat) : RowE W base (.slice none 0 0) [] := World.ownsRow_nil _ _ _ _
theorem RowE.same {W W' : World} {base : Nat} {v : Value} {L : List IE} (h : RowE W base v L) (hs : ∀ k, base ≤ k → k < W.heap.size → v.ownBlock = some k → W'.heap[k]? = W.heap[k]?) : RowE W' base v L :=
  own_move h fun k hk => hs k (h.lt k hk).1 (h.lt k hk).2 hk
theorem RowE.ne_iter {W : World} {base : Nat} {v : Value} {L : List IE} (h : RowE W base v L) {r : Nat} (hr : ∀ cs T q, W.heap[r]? ≠ some (.cells cs T q)) : v.ownBlock ≠ some r := fun e => by
  obtain ⟨cells, hc⟩ := own_typed h r e
  exact hr _ _ _ hc
theorem Rg.not_cells {P : Program} {V : Type} {k : TypeId} {mk : V → Value} {W : World} {b r n : Nat} {m : Lit → Option V} {left : Lit → Bool} {cnt : Nat} (h : Rg P k mk W b r n m left cnt) : ∀ cs T q, W.heap[r]? ≠ some (.cells cs T q) := fun cs T q e => by
  obtain ⟨D, ⟨es, clock, since, seen, c0, h1, F, h3, h4, h5, h6⟩, t⟩ := h
  rw [h5] at e
  cases e
theorem RowE.slice {W : World} {base : Nat} {v : Value} {L : List IE} (h : RowE W base v L) : ∃ A c, v = .slice A L.length c := own_slice h
theorem eI_parts : ∃ i : TypeInfo, Try.prog.info? 43 = some i ∧ i.zero = some (.agg (encE z43).toArray) ∧ i.size = 6 ∧ i.bytes = 80 := by
  obtain ⟨i, hi, hz⟩ := Option.map_eq_some_iff.1 info43
  simp only [Prod.mk.injEq] at hz
  exact ⟨i, hi, hz.1, hz.2.1, hz.2.2⟩
theorem encE_one (x : IE) : ∀ u ∈ encE x, u.oneCell' = true := by
  intro u hu
  simp only [encE, List.mem_cons, List.not_mem_nil, or_false] at hu
  rcases hu with rfl | rfl | rfl | rfl | rfl | rfl <;> rfl
theorem encE_new (W : World) (x : IE) : ∀ j u, (encE x)[j]? = some u → (W.alloc (.cells (encE x).toArray 43)).cell? ((⟨W.heap.size, 0, none⟩ : Addr).add j) = some u := by
  intro j u hu
  have h := blk_cell (heap_alloc_new W (.cells (encE x).toArray 43)) j
  have e : (⟨W.heap.size, 0, none⟩ : Addr).add j = ⟨W.heap.size, j, none⟩ := by unfold Addr.add; split <;> simp_all
  rw [e, h]
  simpa using hu
section
variable {ops : Array Oper} {rest : List Oper} {o : Oper} {a : Act} {Q : Exit → Act → World → Prop}
/-- append(v, x), x in a row of its own just laid. -/
theorem wp_rowE {w : World} {K : Act → World → Prop} (s x : Operand) (ho : o.op = .call { callee := .builtin .append, args := #[s, x], argTypes := #[24, 24] }) (base : Nat) (v : Value) (L : List IE) (e : IE) (hs : a.eval s = v) (hO : RowE w base v L)
    (hx : a.eval x = .slice (some ⟨w.heap.size, 0, none⟩) 1 1) (hl : L.length ≤ 100000) (hb : base ≤ w.heap.size)
    (h : ∀ v' w', RowE w' base v' (L ++ [e]) → (w.alloc (.cells (encE e).toArray 43)).grownBy w' v.ownBlock → (∀ k, v'.ownBlock = some k → v.ownBlock = some k ∨ w.heap.size < k) → K (a.put o.dst v') w') :
    o.wp Try.prog a (w.alloc (.cells (encE e).toArray 43)) K Q := by
  obtain ⟨i, hi, hz, hsz, hby⟩ := eI_parts
  have hO2 : RowE (w.alloc (.cells (encE e).toArray 43)) base v L := hO.same fun k _ hk _ => Below.heap_alloc w _ k hk
  refine wp_append_at s x 24 ho base 43 i _ 6 80 Try.underlying24 hi hz hsz hby rfl (by omega) v L.length _ hs hO2 ⟨w.heap.size, 0, none⟩ 1 1 (encE e) hx rfl (encE_new w e) (encE_one e) (by simp only [maxLen]; omega) (by omega) (by rw [sz_al]; omega) ?_
  intro v' w' h1 h2 h3
  refine h v' w' ?_ h2 (fun k hk => ?_)
  · unfold RowE
    rw [List.length_append, List.flatMap_append]
    simpa using h1
  · rcases h3 k hk with h4 | h4
    · exact .inl h4
    · rw [sz_al] at h4; exact .inr (by omega)
theorem wpList_rowE {w : World} (hgd : o.guard = none) (s x : Operand) (ho : o.op = .call { callee := .builtin .append, args := #[s, x], argTypes := #[24, 24] }) (base : Nat) (v : Value) (L : List IE) (e : IE) (hs : a.eval s = v) (hO : RowE w base v L)
    (hx : a.eval x = .slice (some ⟨w.heap.size, 0, none⟩) 1 1) (hl : L.length ≤ 100000) (hb : base ≤ w.heap.size)
    (h : ∀ v' w', RowE w' base v' (L ++ [e]) → (w.alloc (.cells (encE e).toArray 43)).grownBy w' v.ownBlock → (∀ k, v'.ownBlock = some k → v.ownBlock = some k ∨ w.heap.size < k) → wpList Try.prog ops Q rest (a.put o.dst v') w') :
    wpList Try.prog ops Q (o :: rest) a (w.alloc (.cells (encE e).toArray 43)) :=
  wpList_plain hgd fun _ hK => wp_rowE s x ho base v L e hs hO hx hl hb fun v' w' h1 h2 h3 => hK _ _ (h v' w' h1 h2 h3)
end
theorem reps_flat (W : World) (base : Nat) (ok : Nat → Prop) (L : List IE) : Reps (k43.M W base ok) 6 L (L.flatMap encE) := by
  have key : ∀ (R : List IE) (L : List IE), Reps (k43.M W base ok) 6 L (L.flatMap encE) → Reps (k43.M W base ok) 6 (L ++ R) ((L ++ R).flatMap encE) := by
    intro R
    induction R with
    | nil => intro L h; simpa using h
    | cons x R ih =>
      intro L h
      have := ih (L ++ [x]) (by
        rw [List.flatMap_append]
        have := h.snoc (p := x) (c := encE x) (k43_mkM W base ok x) rfl
        simpa using this)
      simpa using this
  simpa using key L [] (Reps.none _ _)
/-- As the print says it. -/
theorem RowE.kd {W : World} {base : Nat} {v : Value} {L : List IE} (h : RowE W base v L) : Kd.R k43 43 W base (fun _ => True) v L :=
  ⟨fun _ _ => trivial, L.flatMap encE, h, reps_flat W base _ L⟩
abbrev SortC : Prop := ∀ (L : List IE) (v : Value) (W : World) (base : Nat), RowE W base v L → L.length ≤ 100000 → Calls Try.prog 27 #[v, .func (.func 28) #[] #[]] W fun e w' => e = .returned (.tuple #[]) ∧ ∃ L', L'.Perm L ∧ L'.Pairwise (fun x y => cmpE x y ≤ 0) ∧ RowE w' base v L' ∧ W.grownBy w' v.ownBlock
end Go.Proofs.Ytmaildoddeimbaa.Q

namespace Go.Proofs.Ytmaildoddeimbaa.Q
open Go.RowKit Go.Proofs.YtmaildoddeimbaaW.PrintWords Go.Proofs.YtmaildoddeimbaaW.PrintLast
open Go.Maps (Keyed)
set_option linter.unusedVariables false
set_option linter.unusedSimpArgs false
theorem nodup_len {α : Type} : ∀ (L M : List α), L.Nodup → (∀ e ∈ L, e ∈ M) → L.length ≤ M.length
  | [], _, _, _ => Nat.zero_le _
  | x :: L, M, hn, hs => by
    obtain ⟨n1, n2⟩ := List.nodup_cons.1 hn
    obtain ⟨a, b, e⟩ := List.append_of_mem (hs x (by simp))
    have := nodup_len L (a ++ b) n2 (fun y hy => by
      have h := hs y (by simp [hy])
      rw [e] at h
      rcases List.mem_append.1 h with h | h
      · exact List.mem_append.2 (.inl h)
      · rcases List.mem_cons.1 h with rfl | h
        · exact absurd hy n1
        · exact List.mem_append.2 (.inr h))
    rw [e]
    simp only [List.length_append, List.length_cons] at this ⊢
    omega
/-- What is gathered of a column. -/
def InC (r : List IE) (e : IE) : Prop := mkR r (colE e) = some e ∨ atR r (colE e) e.f3 = some e
theorem InC.mem {r : List IE} {e : IE} (h : InC r e) : e ∈ r := by
  rcases h with h | h
  · exact (mkR_some _ _ _ h).1
  · obtain ⟨a, b, e1, -⟩ := (atR_iff _ _ _ _).1 h
    rw [e1]; simp
theorem InC.seen {r : List IE} {e : IE} (h : InC r e) : seenR r (colE e) = true := by
  unfold seenR
  rw [List.any_eq_true]
  exact ⟨e, h.mem, by simp⟩
/-- What was laid before the call of gather stays, but for the run's own block. -/
structure Brs (W2 : World) (ob S2 : Nat) (W : World) (v : Value) (L : List IE) : Prop where
  bx : Bx S2 ob W2 W
  ob : W.heap[ob]? = some (.cells #[v] 26 (0, 0))
  row : RowE W S2 v L
/-- One more entry behind the others: the block of the entry laid, the append, the store. -/
theorem Brs.push {W2 : World} {ob S2 : Nat} {W W' : World} {v v' : Value} {L : List IE} {e : IE} (h : Brs W2 ob S2 W v L) (hob : ob < S2) (hS : S2 ≤ W.heap.size) (h1 : RowE W' S2 v' (L ++ [e])) (h2 : (W.alloc (.cells (encE e).toArray 43)).grownBy W' v.ownBlock) :
    Brs W2 ob S2 (W'.setCell ⟨ob, 0, none⟩ v') v' (L ++ [e]) ∧ (∀ k, k < W.heap.size → k ≠ ob → v.ownBlock ≠ some k → (W'.setCell ⟨ob, 0, none⟩ v').heap[k]? = W.heap[k]?) ∧ W.heap.size ≤ (W'.setCell ⟨ob, 0, none⟩ v').heap.size := by
  have hsz := h2.size
  rw [sz_al] at hsz
  have hold : ∀ k, k < W.heap.size → v.ownBlock ≠ some k → W'.heap[k]? = W.heap[k]? := fun k hk hne => (h2.block k (by rw [sz_al]; omega) (fun e => hne e.symm)).trans (Below.heap_alloc W _ k hk)
  have hobl := (Array.getElem?_eq_some_iff.mp h.ob).1
  have hno : v.ownBlock ≠ some ob := fun e => by have := (h.row.lt ob e).1; omega
  have hob' : W'.heap[ob]? = some (.cells #[v] 26 (0, 0)) := (hold ob hobl hno).trans h.ob
  refine ⟨⟨⟨?_, ?_, ?_, ?_, fun k hk hne => ?_⟩, ?_, ?_⟩, fun k hk hne hv => ?_, ?_⟩
  · exact h2.os.trans h.bx.os
  · exact h2.tape.trans h.bx.tape
  · exact h2.output.trans h.bx.output
  · rw [set_size]; have := h.bx.size; omega
  · rw [set_far hne]
    have hk2 : k < W.heap.size := Nat.lt_of_lt_of_le hk hS
    exact (hold k hk2 (fun e => by have := (h.row.lt k e).1; omega)).trans (h.bx.block k hk hne)
  · have := bk_put (j := 0) hob' v'
    simpa using this
  · exact h1.same fun k hk hk2 _ => set_far (by omega)
  · rw [set_far hne]; exact hold k hk hv
  · rw [set_size]; omega
theorem Brs.ob_after {W2 : World} {ob S2 : Nat} {W W' : World} {v : Value} {L : List IE} {e : IE} (h : Brs W2 ob S2 W v L) (hob : ob < S2) (h2 : (W.alloc (.cells (encE e).toArray 43)).grownBy W' v.ownBlock) : W'.heap[ob]? = some (.cells #[v] 26 (0, 0)) := by
  have hobl := (Array.getElem?_eq_some_iff.mp h.ob).1
  exact (h2.block ob (by rw [sz_al]; omega) (fun e => by have := (h.row.lt ob e.symm).1; omega)).trans ((Below.heap_alloc W _ ob hobl).trans h.ob)
structure Lk (ob g : Nat) (e : IE) (W : World) : Prop where
  x0 : W.cell? ⟨g, 1, none⟩ = some (.string e.f0)
  x1 : W.cell? ⟨g, 2, none⟩ = some (.string e.f1)
  x2 : W.cell? ⟨g, 3, none⟩ = some (.string e.f2)
  x3 : W.cell? ⟨g, 4, none⟩ = some (.int .u64 e.f3)
  x4 : W.cell? ⟨g, 5, none⟩ = some (.int .i64 e.f4)
  x5 : W.cell? ⟨g, 6, none⟩ = some (.string e.f5)
theorem Lk.of {W : World} {ob g b : Nat} {e : IE} (h : W.heap[g]? = some (.cells (verA b (some e)) 55 (0, 0))) : Lk ob g e W :=
  ⟨(blk_cell h 1).trans rfl, (blk_cell h 2).trans rfl, (blk_cell h 3).trans rfl, (blk_cell h 4).trans rfl, (blk_cell h 5).trans rfl, (blk_cell h 6).trans rfl⟩
theorem vent_small {e : IE} (h : vent e = true) : smallC (colE e) := by
  unfold vent at h
  simp only [Bool.and_eq_true, decide_eq_true_eq] at h
  obtain ⟨h1, h2, h3, h4, h5, -⟩ := h
  refine ⟨?_, ?_, ?_⟩ <;> (simp only [colE, maxLen]; omega)
set_option maxHeartbeats 8000000 in
set_option maxRecDepth 100000 in
theorem build_call (hsort : SortC) (A : Option Addr) (c : Nat) (ws : List IE) (w : World) (hr : Kd.C k43 w A ws.length ws) (hc : ws.length ≤ c) (hts : ∀ e ∈ ws, wfT e.f3) :
    Calls Try.prog 8 #[.slice A ws.length c] w fun e w' => ∃ v, e = .returned (.agg #[v]) ∧ Kd.R k43 43 w' w.heap.size (fun _ => True) v (buildE ws) ∧ Below w.heap.size w w' := by
  obtain ⟨R, hR⟩ : ∃ R, buildE ws = R := ⟨_, rfl⟩
  rw [hR]
  have HRR := Aside0.mk hR
  have HR := Aside0.mk hr
  have HC := Aside0.mk hc
  have HT := Aside0.mk hts
  have HSO := Aside0.mk hsort
  clear hr hc hts hsort hR
  obtain ⟨wa, hwa⟩ : ∃ wa, wa = (w.alloc (.cells #[.slice none 0 0] 26)).alloc (.cells #[.slice none 0 0] 26) := ⟨_, rfl⟩
  have hba : Below w.heap.size w wa := hwa ▸ below_alloc (below_alloc (Below.refl _ _) _) _
  have hsa : wa.heap.size = w.heap.size + 2 := by rw [hwa, sz_al, sz_al]
  have ht2 : wa.heap[w.heap.size]? = some (.cells #[.slice none 0 0] 26 (0, 0)) := hwa ▸ blk_alloc (heap_alloc_new w _) _
  have ht3 : wa.heap[w.heap.size + 1]? = some (.cells #[.slice none 0 0] 26 (0, 0)) := by
    have := heap_alloc_new (w.alloc (.cells #[.slice none 0 0] 26)) (.cells #[.slice none 0 0] 26)
    rw [sz_al] at this
    exact hwa ▸ this
  have HA := Aside0.mk (And.intro hba (And.intro hsa (And.intro ht2 ht3)))
  clear hba hsa ht2 ht3
  go_enter Try.func8, Try.ntmps8
  go_upto_region 2 with (fail)
  rw [← hwa]
  clear hwa
  go_wp2_with fail
  refine (goodWrites_call A c ws wa (Kd.C_below HR.out HA.out.1) HC.out).mono ?_
  obtain ⟨gd, hgd⟩ : ∃ gd, goodW ws = gd := ⟨_, rfl⟩
  rw [hgd]
  rintro ex W1 ⟨rfl, hb1⟩
  have HB1 := Aside0.mk hb1
  have h2 : W1.heap[w.heap.size]? = some (.cells #[.slice none 0 0] 26 (0, 0)) := (hb1.block _ (by have := HA.out.2.1; omega)).trans HA.out.2.2.1
  have h3 : W1.heap[w.heap.size + 1]? = some (.cells #[.slice none 0 0] 26 (0, 0)) := (hb1.block _ (by have := HA.out.2.1; omega)).trans HA.out.2.2.2
  have H23 := Aside0.mk (And.intro h2 h3)
  cases gd with
  | false =>
    have he : R = [] := by rw [← HRR.out]; unfold buildE; rw [hgd]; rfl
    subst he
    have c3 : W1.cell? ⟨w.heap.size + 1, 0, none⟩ = some (.slice none 0 0) := (blk_cell h3 0).trans rfl
    have c2 : W1.cell? ⟨w.heap.size, 0, none⟩ = some (.slice none 0 0) := (blk_cell h2 0).trans rfl
    have f2 := bk_frz h2 0
    clear hb1 h2 h3
    go_wp2_with fail
    have hfin : (W1.setCell ⟨w.heap.size, 0, none⟩ (.slice none 0 0)).heap[w.heap.size]? = some (.cells #[.slice none 0 0] 26 (0, 0)) := by
      have := bk_put (j := 0) H23.out.1 (.slice none 0 0)
      simpa using this
    refine bodyPost_ret (results_cell_row rfl _ _ w.heap.size 26 _ (0, 0) _ rfl hfin Try.underlying26 rfl (by kernel_rfl)) rfl ⟨_, rfl, Kd.R_nil _ _ _ _ _, ?_⟩
    exact below_set (HA.out.1.trans (HB1.out.mono HA.out.1.size)) (Nat.le_refl _)
  | true =>
  have hg : ws.length ≤ 10000 ∧ ∀ e ∈ ws, vent e = true := by
    unfold goodW at hgd
    simp only [Bool.and_eq_true, decide_eq_true_eq, List.all_eq_true] at hgd
    exact hgd
  have HG := Aside0.mk hg
  have he : buildS ws = R := by rw [← HRR.out]; unfold buildE; rw [hgd]; rfl
  have HRS := Aside0.mk he
  clear hb1 h2 h3 hg hgd he
  go_wp2_with fail
  refine (gather_call A c ws W1 (Kd.C_below (Kd.C_below HR.out HA.out.1) (HB1.out)) HC.out HG.out.1 (fun e he => ⟨vent_small (HG.out.2 e he), HT.out e he⟩)).mono ?_
  rintro ex W2 ⟨M, gof, rfl, hga, hb2⟩
  obtain ⟨m, hmp, hm1, hm2⟩ := hga.mp
  have h2 : W2.heap[w.heap.size]? = some (.cells #[.slice none 0 0] 26 (0, 0)) := (hb2.block _ (Array.getElem?_eq_some_iff.mp H23.out.1).1).trans H23.out.1
  have h3 : W2.heap[w.heap.size + 1]? = some (.cells #[.slice none 0 0] 26 (0, 0)) := (hb2.block _ (Array.getElem?_eq_some_iff.mp H23.out.2).1).trans H23.out.2
  have hs1 : w.heap.size + 2 ≤ W1.heap.size := by have := HB1.out.size; have := HA.out.2.1; omega
  have hMl := hmp.lt
  have hMb := hga.mB
  have HGA := Aside0.mk hga
  have HM := Aside0.mk (And.intro hm1 hm2)
  have H2 := Aside0.mk (And.intro hb2 (And.intro h2 h3))
  have hs2 := hb2.size
  clear hga hb2 h2 h3 hm1 hm2
  have hsmall : ∀ e, InC ws.reverse e → smallC (colE e) := fun e h => vent_small (HG.out.2 e (by have := h.mem; simpa using this))
  have HSM := Aside0.mk hsmall
  have hwft : ∀ e, InC ws.reverse e → wfT e.f3 := fun e h => HT.out e (by have := h.mem; simpa using this)
  have HWF := Aside0.mk hwft
  clear hsmall hwft
  obtain ⟨r, hr⟩ : ∃ r, ws.reverse = r := ⟨_, rfl⟩
  rw [hr] at HGA HSM HWF
  have HRV := Aside0.mk hr
  clear hr
  go_wp2_with (at_range; go_loud (refine wpList_mp_range rfl _ 48 rfl kCol Try.underlying48 rfl hmp ?_; intro W3 cnt3 hrg3 hg3 hs3))
  go_frame
  go_loopw [5] (fun _ W => ∃ (left : Lit → Bool) (cnt : Nat) (L : List IE) (v : Value), Aside0 (Rg Try.prog 51 mkP W M W2.heap.size (2 * ws.length) m left cnt) ∧ Aside0 (Brs W2 (w.heap.size + 1) W2.heap.size W v L) ∧ Aside0 (L.Nodup ∧ ∀ e, e ∈ L ↔ InC r e ∧ left (ck (colE e)) = false)) (fun _ W => W.rangeLeft M W2.heap.size)
  case atStart =>
    refine ⟨_, _, [], .slice none 0 0, ⟨hrg3⟩, ⟨⟨⟨hg3.os, hg3.tape, hg3.output, hg3.size, fun k hk _ => hg3.block k hk (by simp)⟩, (hg3.block _ (Array.getElem?_eq_some_iff.mp H2.out.2.2).1 (by simp)).trans H2.out.2.2, RowE.nil _ _⟩⟩, ⟨List.nodup_nil, fun e => ⟨fun h => by simp at h, fun h => ?_⟩⟩⟩
    obtain ⟨h1, h2⟩ := h
    rw [HM.out.1 _ (HSM.out e h1)] at h2
    have := HGA.out.seen _ h1.seen
    cases hq : gof (colE e) with
    | none => rw [hq] at this; cases this
    | some p => rw [hq] at h2; cases h2
  case round =>
    clear hrg3 hg3 hs3
    obtain ⟨left, cnt, L, v, HRG, HBR, HL⟩ := hrel
    go_wp2_with (at_next; go_loud (refine wpList_mp_next (fun (v : Value) => v) (fun key kl h => ⟨key, rfl⟩) rfl _ rfl kCol rfl HRG.out ?_ ?_))
    · intro hl0
      have hL : ∀ e, e ∈ L ↔ InC r e := fun e => by rw [HL.out.2]; simp only [hl0, and_true]
      have hlen : L.length ≤ ws.length := nodup_len L ws HL.out.1 (fun e he => by
        have := ((hL e).1 he).mem
        rw [← HRV.out] at this
        simpa using this)
      have hlen2 : L.length ≤ 100000 := by have := HG.out.1; omega
      have c3 : wr.cell? ⟨w.heap.size + 1, 0, none⟩ = some v := (blk_cell HBR.out.ob 0).trans rfl
      have HLL := Aside0.mk hL
      clear hL hlen hl0
      go_wp2_with fail
      refine (HSO.out L v wr W2.heap.size HBR.out.row hlen2).mono ?_
      rintro ex W7 ⟨rfl, L', hp, hs, hrow, hgr⟩
      have hob : W7.heap[w.heap.size + 1]? = some (.cells #[v] 26 (0, 0)) := (hgr.block _ (Array.getElem?_eq_some_iff.mp HBR.out.ob).1 (fun e => by have := (HBR.out.row.lt _ e.symm).1; omega)).trans HBR.out.ob
      have htl : w.heap.size < wr.heap.size := by have := HBR.out.bx.size; omega
      have htb : W7.heap[w.heap.size]? = some (.cells #[.slice none 0 0] 26 (0, 0)) := (hgr.block _ htl (fun e => by have := (HBR.out.row.lt _ e.symm).1; omega)).trans ((HBR.out.bx.block _ (by omega) (by omega)).trans H2.out.2.1)
      have c3' : W7.cell? ⟨w.heap.size + 1, 0, none⟩ = some v := (blk_cell hob 0).trans rfl
      have c2 : W7.cell? ⟨w.heap.size, 0, none⟩ = some (.slice none 0 0) := (blk_cell htb 0).trans rfl
      have f2 := bk_frz htb 0
      obtain ⟨A7, c7, rfl⟩ := hrow.slice
      have HW7 := Aside0.mk (And.intro hp (And.intro hs (And.intro hrow (And.intro hgr (And.intro htb htl)))))
      clear hp hs hrow hgr hob htb htl c3
      go_wp2_with fail
      obtain ⟨hp, hs, hrow, hgr, htb, htl⟩ := HW7.out
      have hfin : (W7.setCell ⟨w.heap.size, 0, none⟩ (.slice A7 L'.length c7)).heap[w.heap.size]? = some (.cells #[.slice A7 L'.length c7] 26 (0, 0)) := by
        have := bk_put (j := 0) htb (.slice A7 L'.length c7)
        simpa using this
      have hRL : L' = R := by
        rw [← HRS.out]
        refine sorted_is HG.out.2 (fun e => ?_) (hp.nodup_iff.2 HL.out.1) hs
        rw [hp.mem_iff, HLL.out, HRV.out]
        rfl
      refine bodyPost_ret (results_cell_row rfl _ _ w.heap.size 26 _ (0, 0) _ rfl hfin Try.underlying26 rfl (by kernel_rfl)) rfl ⟨_, rfl, ?_, ?_⟩
      · rw [← hRL]
        exact RowE.kd (own_lower (hrow.same (W' := W7.setCell ⟨w.heap.size, 0, none⟩ (.slice A7 L'.length c7)) fun k hk _ _ => set_far (by omega)) (by omega))
      · have hBX := HBR.out.bx
        have hB1 := HB1.out
        have hB2 := H2.out.1
        have hA := HA.out.1
        refine ⟨hgr.os.trans (hBX.os.trans (hB2.os.trans (hB1.os.trans hA.os))), hgr.tape.trans (hBX.tape.trans (hB2.tape.trans (hB1.tape.trans hA.tape))), hgr.output.trans (hBX.output.trans (hB2.output.trans (hB1.output.trans hA.output))), by rw [set_size]; have := hgr.size; omega, fun k hk => ?_⟩
        rw [set_far (by omega)]
        exact (hgr.block k (by omega) (fun e => by have := (HBR.out.row.lt _ e.symm).1; omega)).trans ((hBX.block k (by omega) (by omega)).trans ((hB2.block k (by omega)).trans ((hB1.block k (by have := HA.out.2.1; omega)).trans (hA.block k hk))))
    · intro y c1 kl W6 cnt1 hkey hlk hmk hrg1 hlt1 hg6 hs6 hen
      obtain ⟨cc, p, hcs, hgf, rfl, rfl⟩ := HM.out.2 kl c1 hmk
      have hen2 : (Instr.entry (.pointer (some ⟨W2.heap.size, 0, none⟩))).run Try.prog W6 = .ok (.tuple #[y, .pointer (some ⟨p.1, 0, none⟩)]) W6 := hen
      have hv := HGA.out.ver cc p hgf
      have hrl := HRG.out.lt
      have hk6 : ∀ k, k < wr.heap.size → k ≠ W2.heap.size → W6.heap[k]? = wr.heap[k]? := fun k hk hne => hg6.block k hk (fun e => hne (by cases e; rfl))
      have hbr6 : Brs W2 (w.heap.size + 1) W2.heap.size W6 v L := by
        have hBX := HBR.out.bx
        refine ⟨⟨hg6.os.trans hBX.os, hg6.tape.trans hBX.tape, hg6.output.trans hBX.output, Nat.le_trans hBX.size hg6.size, fun k hk hne => (hk6 k (by omega) (by omega)).trans (hBX.block k hk hne)⟩, (hk6 _ (by omega) (by omega)).trans HBR.out.ob, HBR.out.row.same fun k h1 h2 h3 => hk6 k h2 (fun e => ?_)⟩
        subst e
        exact HBR.out.row.ne_iter HRG.out.not_cells h3
      have hcp : W6.heap[p.1]? = some (.cells (verA p.2 (mkR r cc)) 55 (0, 0)) := (hbr6.bx.block _ hv.lt1 (by have := hv.b1; omega)).trans hv.cells
      have hp2 : W6.heap[p.2]? = W2.heap[p.2]? := hbr6.bx.block _ hv.lt2 (by have := hv.b2; omega)
      have c7 := ver_mk _ _ _ _ hcp
      have HV := Aside0.mk hv
      have H6 := Aside0.mk (And.intro hbr6 (And.intro hcp (And.intro hrg1 (And.intro hlt1 hs6))))
      have HLE := Aside0.mk (HRG.out.left_eq)
      have HCC := Aside0.mk (And.intro hcs (And.intro hgf hlk))
      clear hv hbr6 hcp hrg1 hlt1 hs6 hk6 hg6 hp2 hmk hkey hcs hgf hlk hen
      obtain ⟨o, ho⟩ : ∃ o, mkR r cc = o := ⟨_, rfl⟩
      rw [ho] at c7
      have HO := Aside0.mk ho
      have hlen : L.length ≤ 10000 := Nat.le_trans (nodup_len L ws HL.out.1 (fun e he => by
        have := ((HL.out.2 e).1 he).1.mem
        rw [← HRV.out] at this
        simpa using this)) HG.out.1
      have HLN := Aside0.mk hlen
      clear ho hlen
      go_upto_if 22 with (fail)
      go_cut [] (fun wc => ∃ v1, Aside0 (Brs W2 (w.heap.size + 1) W2.heap.size wc v1 (L ++ o.toList)) ∧ Aside0 (Rg Try.prog 51 mkP wc M W2.heap.size (2 * ws.length) m (fun z => left z && !z.sameKey (ck cc)) cnt1) ∧ Aside0 (W6.heap.size ≤ wc.heap.size))
      case first =>
        cases o with
        | none =>
          go_wp2_with fail
          go_meet
          case rel => exact ⟨v, ⟨by simpa using H6.out.1⟩, ⟨H6.out.2.2.1⟩, ⟨Nat.le_refl _⟩⟩
        | some e =>
          obtain ⟨hbr6, hcp, hrg1, -, hs6⟩ := H6.out
          obtain ⟨A1, c1, rfl⟩ := hbr6.row.slice
          rw [HO.out] at hcp
          have l0 : ∀ W [k : K0 (Lk (w.heap.size + 1) p.1 e W)], W.cell? ⟨p.1, 1, none⟩ = some (.string e.f0) := fun W k => k.out.x0
          have l1 : ∀ W [k : K0 (Lk (w.heap.size + 1) p.1 e W)], W.cell? ⟨p.1, 2, none⟩ = some (.string e.f1) := fun W k => k.out.x1
          have l2 : ∀ W [k : K0 (Lk (w.heap.size + 1) p.1 e W)], W.cell? ⟨p.1, 3, none⟩ = some (.string e.f2) := fun W k => k.out.x2
          have l3 : ∀ W [k : K0 (Lk (w.heap.size + 1) p.1 e W)], W.cell? ⟨p.1, 4, none⟩ = some (.int .u64 e.f3) := fun W k => k.out.x3
          have l4 : ∀ W [k : K0 (Lk (w.heap.size + 1) p.1 e W)], W.cell? ⟨p.1, 5, none⟩ = some (.int .i64 e.f4) := fun W k => k.out.x4
          have l5 : ∀ W [k : K0 (Lk (w.heap.size + 1) p.1 e W)], W.cell? ⟨p.1, 6, none⟩ = some (.string e.f5) := fun W k => k.out.x5
          have hpl := (Array.getElem?_eq_some_iff.mp hcp).1
          have kd : K0 (Lk (w.heap.size + 1) p.1 e W6.drew) := ⟨Lk.of (b := p.2) hcp⟩
          have ke : K0 (Lk (w.heap.size + 1) p.1 e (W6.drew.alloc (.cells (encE e).toArray 43))) := ⟨Lk.of (b := p.2) (blk_alloc (blk_drew hcp) _)⟩
          have c0 : W6.drew.cell? ⟨w.heap.size + 1, 0, none⟩ = some (.slice A1 L.length c1) := (blk_cell (blk_drew hbr6.ob) 0).trans rfl
          have c0a : (W6.alloc (.cells #[.string e.f0, .string e.f1, .string e.f2, .int .u64 e.f3, .int .i64 e.f4, .string e.f5] 43)).cell? ⟨w.heap.size + 1, 0, none⟩ = some (.slice A1 L.length c1) := (blk_cell (blk_alloc hbr6.ob _) 0).trans rfl
          have HB6 := Aside0.mk (And.intro hbr6 (And.intro hcp (And.intro hrg1 (And.intro hs6 hpl))))
          clear hbr6 hcp hrg1 hs6 hpl c7
          go_upto_region 8 with (fail)
          refine sp_region (S := fun W' => K0 (Lk (w.heap.size + 1) p.1 e W')) (.n 0 (.n 2 (.n 3 (.n 4 (.n 5 (.two 1 6 (.y 6 (.y 7 (.n 8 (.y 9 .done)))) (.y 1 (.y 7 (.n 8 (.y 9 .done))))))))))  (by kernel_rfl) (by kernel_rfl) kd (fun hS => ?_)
          (repeat (refine sp_n ?_ ?_ rfl ?_ ?_ ?_; rotate_left 2; (intro W hW; go_simp; first | done | with_reducible rfl); (simp only [List.setIfInBounds_toArray, List.set_cons_zero, List.set_cons_succ]; try rfl)))
          refine sp_2n rfl rfl ?p1 ?q1
          case' p1 =>
            intro hS K hK
            go_wp2_with fail
            refine hK.out _ _ kd (fun hS => ?_)
            refine sp_1n rfl ?_
            intro hS K hK
            go_wp2_with fail
            refine hK.out _ _ ke (fun hS => ?_)
          case' q1 =>
            intro hS K hK
            go_wp2_with fail
            refine hK.out _ _ ke (fun hS => ?_)
            refine sp_1n rfl ?_
            intro hS K hK
            go_wp2_with fail
            refine hK.out _ _ ke (fun hS => ?_)
          all_goals
            refine sp_1n rfl ?_
            intro hS K hK
            have hrow6 : RowE W6.drew W2.heap.size (.slice A1 L.length c1) L := HB6.out.1.row
            refine wp_rowE (.tmp 24) (.tmp 29) rfl W2.heap.size (.slice A1 L.length c1) L e rfl hrow6 rfl (by have := HLN.out; omega) HB6.out.1.bx.size ?_
            intro v' w' h1 h2 h3
            obtain ⟨A2, c2, hv2⟩ := h1.slice
            rw [List.length_append] at hv2
            obtain rfl : v' = .slice A2 (L.length + 1) c2 := hv2
            have hbrd : Brs W2 (w.heap.size + 1) W2.heap.size W6.drew (.slice A1 L.length c1) L := ⟨⟨HB6.out.1.bx.os, HB6.out.1.bx.tape, HB6.out.1.bx.output, HB6.out.1.bx.size, HB6.out.1.bx.block⟩, HB6.out.1.ob, HB6.out.1.row⟩
            obtain ⟨q1, q2, q3⟩ := hbrd.push (by omega) HB6.out.1.bx.size h1 h2
            have hsz := h2.size
            rw [sz_al] at hsz
            have hno : ∀ k, k < W2.heap.size → (Value.slice A1 L.length c1).ownBlock ≠ some k := fun k hk e => by have := (hrow6.lt k e).1; omega
            have hold : ∀ k, k < W2.heap.size → w'.heap[k]? = W6.heap[k]? := fun k hk => (h2.block k (by rw [sz_al]; have := HB6.out.1.bx.size; show k < W6.heap.size + 1; omega) (fun e => hno k hk e.symm)).trans (Below.heap_alloc W6.drew _ k (by have := HB6.out.1.bx.size; show k < W6.heap.size; omega))
            have hp2l : p.1 < W2.heap.size := HV.out.lt1
            have kf : K0 (Lk (w.heap.size + 1) p.1 e w') := ⟨Lk.of (b := p.2) ((hold _ hp2l).trans HB6.out.2.1)⟩
            have hob' := (hold (w.heap.size + 1) (by omega)).trans HB6.out.1.ob
            have kg : K0 (Lk (w.heap.size + 1) p.1 e (w'.setCell ⟨w.heap.size + 1, 0, none⟩ (.slice A2 (L.length + 1) c2))) := ⟨Lk.of (b := p.2) ((set_far (by have := HV.out.b1; omega)).trans ((hold _ hp2l).trans HB6.out.2.1))⟩
            have c0' : w'.cell? ⟨w.heap.size + 1, 0, none⟩ = some (.slice A1 L.length c1) := (blk_cell hob' 0).trans rfl
            have f0' := bk_frz hob' 0
            have HQ := Aside0.mk (And.intro q1 (And.intro q2 q3))
            clear q1 q2 q3 hsz hno hold hp2l hob' hbrd hrow6 h1 h2 h3 c0 c0a
            refine hK.out _ _ kf (fun hS => ?_)
            (repeat (refine sp_n ?_ ?_ rfl ?_ ?_ ?_; rotate_left 2; (intro W hW; go_simp; first | done | with_reducible rfl); (simp only [List.setIfInBounds_toArray, List.set_cons_zero, List.set_cons_succ]; try rfl)))
            refine sp_1n rfl ?_
            intro hS K hK
            go_wp2_with fail
            refine hK.out _ _ kg (fun hS => ?_)
            refine sp_done (fun hS => ?_)
            go_wp2_with fail
            go_meet
            case rel =>
              obtain ⟨q1, q2, q3⟩ := HQ.out
              have hMl2 : M < W6.heap.size := by have := HB6.out.1.bx.size; omega
              have hMn : ∀ k, (Value.slice A1 L.length c1).ownBlock = some k → W2.heap.size ≤ k := fun k hk => (HB6.out.1.row.lt k hk).1
              refine ⟨_, ⟨q1⟩, ⟨HB6.out.2.2.1.same (q2 M hMl2 (by omega) (fun e => by have := hMn _ e; omega)) (q2 _ HB6.out.2.2.1.lt (by omega) (HB6.out.1.row.ne_iter HB6.out.2.2.1.not_cells))⟩, ⟨q3⟩⟩
      case rest =>
      obtain ⟨v1, HB8, HR8, HS8⟩ := hcut
      have hcp8 : wc.heap[p.1]? = some (.cells (verA p.2 o) 55 (0, 0)) := (HB8.out.bx.block _ HV.out.lt1 (by have := HV.out.b1; omega)).trans (HO.out ▸ HV.out.cells)
      have hgm := ver_map _ _ _ _ hcp8
      obtain ⟨m6, hm6, ht6⟩ := HV.out.at_
      have hm8 : Mp Try.prog 39 mkE wc p.2 (2 * ws.length) m6 := hm6.same (HB8.out.bx.block _ HV.out.lt2 (by have := HV.out.b2; omega))
      have HT6 := Aside0.mk ht6
      clear c7 hcp8 hm6 ht6
      go_wp2_with (at_range; go_loud (refine wpList_mp_range rfl _ 53 rfl kU64 Try.underlying53 rfl hm8 ?_; intro W9 cnt9 hrg9 hg9 hs9))
      go_frame
      clear hgm
      go_loopw [7] (fun _ W => ∃ (left2 : Lit → Bool) (cnt2 : Nat) (L2 : List IE) (v2 : Value), Aside0 (Rg Try.prog 39 mkE W p.2 wc.heap.size (2 * ws.length) m6 left2 cnt2) ∧ Aside0 (Rg Try.prog 51 mkP W M W2.heap.size (2 * ws.length) m (fun z => left z && !z.sameKey (ck cc)) cnt1) ∧ Aside0 (Brs W2 (w.heap.size + 1) W2.heap.size W v2 L2) ∧ Aside0 (L2.Nodup ∧ ∀ e, e ∈ L2 ↔ e ∈ L ++ o.toList ∨ (colE e = cc ∧ wfT e.f3 ∧ atR r cc e.f3 = some e ∧ left2 (.int .u64 e.f3) = false))) (fun _ W => W.rangeLeft p.2 wc.heap.size)
      case atStart =>
        have hk9 : ∀ k, k < wc.heap.size → W9.heap[k]? = wc.heap[k]? := fun k hk => hg9.block k hk (by simp)
        have hbx := HB8.out.bx
        have hw2 := hbx.size
        refine ⟨_, _, L ++ o.toList, v1, ⟨hrg9⟩, ⟨HR8.out.same (hk9 _ (by omega)) (hk9 _ HR8.out.lt)⟩, ⟨⟨⟨hg9.os.trans hbx.os, hg9.tape.trans hbx.tape, hg9.output.trans hbx.output, Nat.le_trans hbx.size hg9.size, fun k hk hne => (hk9 k (by omega)).trans (hbx.block k hk hne)⟩, (hk9 _ (by omega)).trans HB8.out.ob, HB8.out.row.same fun k _ hk _ => hk9 k hk⟩⟩, ⟨?_, fun e => ⟨fun h => .inl h, fun h => ?_⟩⟩⟩
        · cases o with
          | none => simpa using HL.out.1
          | some e =>
            simp only [Option.toList_some]
            refine List.nodup_append.2 ⟨HL.out.1, by simp, fun a ha b hb => ?_⟩
            obtain rfl := List.mem_singleton.1 hb
            rintro rfl
            have h1 := ((HL.out.2 a).1 ha).2
            rw [(mkR_some _ _ _ HO.out).2.2.1, HCC.out.2.2] at h1
            cases h1
        · rcases h with h | ⟨h1, h0, h2, h3⟩
          · exact h
          · rw [HT6.out _ h0, h2] at h3
            cases h3
      case round =>
        clear hrg9 hg9 hs9 hm8
        obtain ⟨left2, cnt2, L2, v2, HRG2, HRGo, HB9, HL2⟩ := hrel
        go_wp2_with (at_next; go_loud (refine wpList_mp_next (Value.int .u64) (fun key kl h => by obtain ⟨y, e, -, -⟩ := Maps.keyOf_int_inv Try.underlying39 h; exact ⟨y, e⟩) rfl _ rfl kU64 rfl HRG2.out ?_ ?_))
        · intro hl0
          go_wp2_with fail
          refine ⟨⟨_, cnt1, L2, v2, HRGo, HB9, ⟨HL2.out.1, fun e => ?_⟩⟩, ?_⟩
          · have hself : (ck cc).sameKey (ck cc) = true := WideAt.sameKey_self (kCol.key (ck_some cc HCC.out.1))
            rw [HL2.out.2]
            constructor
            · rintro (h | ⟨h1, h0, h2, -⟩)
              · rcases List.mem_append.1 h with h | h
                · obtain ⟨h1, h2⟩ := (HL.out.2 e).1 h
                  exact ⟨h1, by rw [h2]; rfl⟩
                · have ho : o = some e := by simpa using h
                  have hm := HO.out.trans ho
                  have hc := (mkR_some _ _ _ hm).2.2.1
                  refine ⟨.inl (by rw [hc]; exact hm), ?_⟩
                  rw [hc, hself]; simp
              · refine ⟨.inr (by rw [h1]; exact h2), ?_⟩
                rw [h1, hself]; simp
            · rintro ⟨h1, h2⟩
              by_cases hc : colE e = cc
              · rcases h1 with h1 | h1
                · rw [hc, HO.out] at h1
                  exact .inl (List.mem_append.2 (.inr (by rw [h1]; simp)))
                · exact .inr ⟨hc, HWF.out e (.inr h1), by rw [← hc]; exact h1, hl0 _⟩
              · have hne : ck (colE e) ≠ ck cc := fun h => hc (ck_inj (HSM.out e h1) HCC.out.1 h)
                rw [Maps.sameKey_ne hne] at h2
                exact .inl (List.mem_append.2 (.inl ((HL.out.2 e).2 ⟨h1, by simpa using h2⟩)))
          · rw [HRGo.out.left_eq, HLE.out]; exact H6.out.2.2.2.1
        · intro t0 x kl W10 cnt10 hkey hlk hmk hrg10 hlt10 hg10 hs10 hen
          obtain ⟨t0', e1, rfl, hwf⟩ := Maps.keyOf_int_inv Try.underlying39 hkey
          cases e1
          have hax : atR r cc t0 = some x := (HT6.out t0 hwf).symm.trans hmk
          obtain ⟨ax, bx, ex1, ex2, ex3, ex4, -⟩ := (atR_iff _ _ _ _).1 hax
          have hen2 : (Instr.entry (.pointer (some ⟨wc.heap.size, 0, none⟩))).run Try.prog W10 = .ok (.tuple #[.int .u64 t0, .agg #[.string x.f0, .string x.f1, .string x.f2, .int .u64 x.f3, .int .i64 x.f4, .string x.f5]]) W10 := hen
          have hw2 := HB8.out.bx.size
          have hrl := HRG2.out.lt
          have hk10 : ∀ k, k < wr.heap.size → k ≠ wc.heap.size → W10.heap[k]? = wr.heap[k]? := fun k hk hne => hg10.block k hk (fun e => hne (by cases e; rfl))
          have hb10 : Brs W2 (w.heap.size + 1) W2.heap.size W10 v2 L2 := by
            have hBX := HB9.out.bx
            refine ⟨⟨hg10.os.trans hBX.os, hg10.tape.trans hBX.tape, hg10.output.trans hBX.output, Nat.le_trans hBX.size hg10.size, fun k hk hne => (hk10 k (by omega) (by omega)).trans (hBX.block k hk hne)⟩, (hk10 _ (by omega) (by omega)).trans HB9.out.ob, HB9.out.row.same fun k h1 h2 h3 => hk10 k h2 (fun e => ?_)⟩
            subst e
            exact HB9.out.row.ne_iter HRG2.out.not_cells h3
          have hgo10 := HRGo.out.same (hk10 M (by omega) (by omega)) (hk10 W2.heap.size HRGo.out.lt (by have := HR8.out.lt; omega))
          obtain ⟨W11, hW11⟩ : ∃ W11, W11 = W10.alloc (.cells #[.string x.f0, .string x.f1, .string x.f2, .int .u64 x.f3, .int .i64 x.f4, .string x.f5] 43) := ⟨_, rfl⟩
          have hb11 : Below W10.heap.size W10 W11 := hW11 ▸ below_alloc (Below.refl _ _) _
          have hx11 : W11.heap[W10.heap.size]? = some (.cells (encE x).toArray 43 (0, 0)) := hW11 ▸ heap_alloc_new W10 _
          have hs11 : W11.heap.size = W10.heap.size + 1 := by rw [hW11, sz_al]
          have hbr11 : Brs W2 (w.heap.size + 1) W2.heap.size W11 v2 L2 := ⟨hb10.bx.trans (.of (hb11.mono (by have := hb10.bx.size; exact this))), (hb11.block _ (Array.getElem?_eq_some_iff.mp hb10.ob).1).trans hb10.ob, hb10.row.same fun k _ hk _ => hb11.block k hk⟩
          obtain ⟨s0, s1, s2, s3, s4, s5⟩ := six_at hx11
          obtain ⟨A2, c2, rfl⟩ := hbr11.row.slice
          have c0 : W11.cell? ⟨w.heap.size + 1, 0, none⟩ = some (.slice A2 L2.length c2) := (blk_cell hbr11.ob 0).trans rfl
          have H11 := Aside0.mk (And.intro hbr11 (And.intro (hrg10.same (hb11.block _ hrg10.mp.lt) (hb11.block _ hrg10.lt)) (And.intro (hgo10.same (hb11.block _ hgo10.mp.lt) (hb11.block _ hgo10.lt)) hs11)))
          have HX := Aside0.mk (And.intro hax (And.intro ex2 (And.intro ex3 (And.intro ex4 (And.intro hwf hlk)))))
          have HLT := Aside0.mk (And.intro hlt10 (HRG2.out.left_eq))
          have hlen2 : L2.length ≤ 10000 := Nat.le_trans (nodup_len L2 ws HL2.out.1 (fun e he => by
            have hr : e ∈ r := by
              rcases (HL2.out.2 e).1 he with h | ⟨h1, -, h2, -⟩
              · rcases List.mem_append.1 h with h | h
                · exact ((HL.out.2 e).1 h).1.mem
                · have ho : o = some e := by simpa using h
                  exact (mkR_some _ _ _ (HO.out.trans ho)).1
              · exact InC.mem (.inr (by rw [h1]; exact h2))
            rw [← HRV.out] at hr
            simpa using hr)) HG.out.1
          have HLN2 := Aside0.mk hlen2
          clear hax ex1 ex2 ex3 ex4 hk10 hb10 hgo10 hb11 hx11 hs11 hbr11 hrg10 hlt10 hg10 hs10 hen hmk hkey hlk hwf hlen2 hrl
          go_upto_region 12 with (fail)
          rw [← hW11]
          clear hW11
          go_wp2_with (at_builtin; go_loud (refine wpList_rowE rfl (.tmp 42) (.tmp 44) rfl W2.heap.size (.slice A2 L2.length c2) L2 x rfl H11.out.1.row rfl (by have := HLN2.out; omega) H11.out.1.bx.size ?_; intro v' w' h1 h2 h3; obtain ⟨A3, c3, hv3⟩ := h1.slice; rw [List.length_append] at hv3; obtain rfl : v' = .slice A3 (L2.length + 1) c3 := hv3; have HPU := Aside0.mk (H11.out.1.push (by omega) H11.out.1.bx.size h1 h2); have hob' := H11.out.1.ob_after (by omega) h2; have c0' : w'.cell? ⟨w.heap.size + 1, 0, none⟩ = some (.slice A2 L2.length c2) := (blk_cell hob' 0).trans rfl; have f0' := bk_frz hob' 0; clear h1 h2 h3 hob' c0))
          go_roundw
          case rel =>
            obtain ⟨hbr11, hri11, hro11, hs11⟩ := H11.out
            obtain ⟨q1, q2, q3⟩ := HPU.out
            obtain ⟨hax, ex2, ex3, ex4, hwf, hlk⟩ := HX.out
            have hown : ∀ k, (Value.slice A2 L2.length c2).ownBlock = some k → W2.heap.size ≤ k := fun k hk => (hbr11.row.lt k hk).1
            have hw2 := HB8.out.bx.size
            have hp2 := HV.out.lt2
            refine ⟨_, cnt10, L2 ++ [x], _, ⟨hri11.same (q2 p.2 hri11.mp.lt (by have := HV.out.b2; omega) (fun e => by have := hown _ e; omega)) (q2 _ hri11.lt (by omega) (hbr11.row.ne_iter hri11.not_cells))⟩, ⟨hro11.same (q2 M hro11.mp.lt (by omega) (fun e => by have := hown _ e; omega)) (q2 _ hro11.lt (by omega) (hbr11.row.ne_iter hro11.not_cells))⟩, ⟨q1⟩, ⟨?_, fun e => ?_⟩⟩
            · refine List.nodup_append.2 ⟨HL2.out.1, by simp, fun a ha b hb => ?_⟩
              obtain rfl := List.mem_singleton.1 hb
              rintro rfl
              rcases (HL2.out.2 a).1 ha with h | ⟨-, -, -, h⟩
              · rcases List.mem_append.1 h with h | h
                · have h1 := ((HL.out.2 a).1 h).2
                  rw [ex2, HCC.out.2.2] at h1
                  cases h1
                · have ho : o = some a := by simpa using h
                  exact ex4 (mkR_some _ _ _ (HO.out.trans ho)).2.1
              · rw [ex3, hlk] at h
                cases h
            · try dsimp only
              have hself : (Lit.int .u64 t0).sameKey (.int .u64 t0) = true := WideAt.sameKey_self (kU64.key (Maps.keyOf_int_mk Try.underlying39 hwf))
              rw [List.mem_append, HL2.out.2]
              constructor
              · rintro ((h | ⟨h1, h0, h2, h3⟩) | h)
                · exact .inl h
                · exact .inr ⟨h1, h0, h2, by rw [h3]; rfl⟩
                · obtain rfl := List.mem_singleton.1 h
                  exact .inr ⟨ex2, by rw [ex3]; exact hwf, by rw [ex3]; exact hax, by rw [ex3, hself]; simp⟩
              · rintro (h | ⟨h1, h0, h2, h3⟩)
                · exact .inl (.inl h)
                · by_cases ht : e.f3 = t0
                  · rw [ht, hax] at h2
                    cases h2
                    exact .inr (by simp)
                  · have hne : (Lit.int .u64 e.f3) ≠ .int .u64 t0 := fun h => ht (by cases h; rfl)
                    rw [Maps.sameKey_ne hne] at h3
                    exact .inl (.inr ⟨h1, h0, h2, by simpa using h3⟩)
          case measure =>
            obtain ⟨hbr11, hri11, hro11, hs11⟩ := H11.out
            obtain ⟨q1, q2, q3⟩ := HPU.out
            have hown : ∀ k, (Value.slice A2 L2.length c2).ownBlock = some k → W2.heap.size ≤ k := fun k hk => (hbr11.row.lt k hk).1
            have hw2 := HB8.out.bx.size
            have hp2 := HV.out.lt2
            have hri := hri11.same (q2 p.2 hri11.mp.lt (by have := HV.out.b2; omega) (fun e => by have := hown _ e; omega)) (q2 _ hri11.lt (by omega) (hbr11.row.ne_iter hri11.not_cells))
            rw [hri.left_eq, HLT.out.2]; exact HLT.out.1
end Go.Proofs.Ytmaildoddeimbaa.Q

namespace Go.Proofs
open Go.Shelf
def Try.sortE_ren : Go.Shelf.Ren := ⟨fun | 6 => 27 | 15 => 42 | 14 => 41 | 28 => 59 | 29 => 60 | 20 => 51 | 21 => 52 | 22 => 53 | 23 => 54 | 24 => 55 | 25 => 56 | 26 => 57 | 27 => 58 | 46 => 64 | 47 => 65 | 48 => 66 | 49 => 67 | 50 => 68 | 57 => 70 | n => n, fun | 22 => 24 | 24 => 43 | 25 => 57 | 3 => 3 | 39 => 71 | 0 => 0 | 53 => 90 | 55 => 39 | 4 => 4 | 46 => 83 | 45 => 82 | 50 => 87 | 5 => 5 | 9 => 9 | 66 => 95 | 70 => 99 | 76 => 101 | 77 => 102 | n => n, fun | n => n⟩
theorem Try.sortE : Go.Proofs.SlLaysF0.n6 Try.prog Try.sortE_ren := {
  mixed := by kernel_rfl
  f6 := ⟨Try.f27.name, by decide, Try.func27.trans (congrArg some (by kernel_rfl))⟩
  f14 := ⟨Try.f41.name, by decide, Try.func41.trans (congrArg some (by kernel_rfl))⟩
  f15 := Try.func42.trans (congrArg some (by kernel_rfl))
  f20 := ⟨Try.f51.name, by decide, Try.func51.trans (congrArg some (by kernel_rfl))⟩
  f21 := ⟨Try.f52.name, by decide, Try.func52.trans (congrArg some (by kernel_rfl))⟩
  f22 := ⟨Try.f53.name, by decide, Try.func53.trans (congrArg some (by kernel_rfl))⟩
  f23 := ⟨Try.f54.name, by decide, Try.func54.trans (congrArg some (by kernel_rfl))⟩
  f24 := ⟨Try.f55.name, by decide, Try.func55.trans (congrArg some (by kernel_rfl))⟩
  f25 := ⟨Try.f56.name, by decide, Try.func56.trans (congrArg some (by kernel_rfl))⟩
  f26 := ⟨Try.f57.name, by decide, Try.func57.trans (congrArg some (by kernel_rfl))⟩
  f27 := ⟨Try.f58.name, by decide, Try.func58.trans (congrArg some (by kernel_rfl))⟩
  f28 := Try.func59.trans (congrArg some (by kernel_rfl))
  f29 := Try.func60.trans (congrArg some (by kernel_rfl))
  f46 := ⟨Try.f64.name, by decide, Try.func64.trans (congrArg some (by kernel_rfl))⟩
  f47 := Try.func65.trans (congrArg some (by kernel_rfl))
  f48 := Try.func66.trans (congrArg some (by kernel_rfl))
  f49 := ⟨Try.f67.name, by decide, Try.func67.trans (congrArg some (by kernel_rfl))⟩
  f50 := ⟨Try.f68.name, by decide, Try.func68.trans (congrArg some (by kernel_rfl))⟩
  f57 := ⟨Try.f70.name, by decide, Try.func70.trans (congrArg some (by kernel_rfl))⟩
  t0 := Try.underlying0
  a0 := Try.isAgg0
  z0 := Try.sizeOf0
  v0 := Try.zeroValue0
  t3 := Try.underlying3
  a3 := Try.isAgg3
  z3 := Try.sizeOf3
  v3 := Try.zeroValue3
  t4 := Try.underlying4
  a4 := Try.isAgg4
  z4 := Try.sizeOf4
  v4 := Try.zeroValue4
  t5 := Try.underlying5
  a5 := Try.isAgg5
  z5 := Try.sizeOf5
  v5 := Try.zeroValue5
  t9 := Try.underlying9
  a9 := Try.isAgg9
  z9 := Try.sizeOf9
  v9 := Try.zeroValue9
  t22 := Try.underlying24
  a22 := Try.isAgg24
  z22 := Try.sizeOf24
  v22 := Try.zeroValue24
  t25 := Try.underlying57
  a25 := Try.isAgg57
  z25 := Try.sizeOf57
  v25 := Try.zeroValue57
  t39 := Try.underlying71
  a39 := Try.isAgg71
  z39 := Try.sizeOf71
  v39 := Try.zeroValue71
  t45 := Try.underlying82
  a45 := Try.isAgg82
  z45 := Try.sizeOf82
  v45 := Try.zeroValue82
  t46 := Try.underlying83
  a46 := Try.isAgg83
  z46 := Try.sizeOf83
  v46 := Try.zeroValue83
  t50 := Try.underlying87
  a50 := Try.isAgg87
  z50 := Try.sizeOf87
  v50 := Try.zeroValue87
  t53 := Try.underlying90
  a53 := Try.isAgg90
  z53 := Try.sizeOf90
  v53 := Try.zeroValue90
  t55 := Try.underlying39
  a55 := Try.isAgg39
  z55 := Try.sizeOf39
  v55 := Try.zeroValue39
  t66 := Try.underlying95
  a66 := Try.isAgg95
  z66 := Try.sizeOf95
  v66 := Try.zeroValue95
  t70 := Try.underlying99
  a70 := Try.isAgg99
  z70 := Try.sizeOf99
  v70 := Try.zeroValue99
  t76 := Try.underlying101
  a76 := Try.isAgg101
  z76 := Try.sizeOf101
  v76 := Try.zeroValue101
  t77 := Try.underlying102
  a77 := Try.isAgg102
  z77 := Try.sizeOf102
  v77 := Try.zeroValue102 }
end Go.Proofs

namespace Go.Proofs.Ytmaildoddeimbaa.Q
open Go.RowKit Go.Proofs.YtmaildoddeimbaaW.PrintWords Go.Proofs.YtmaildoddeimbaaW.PrintLast
open Go.Sort (SWO PermIn SortedIn HoldsK putRowK flatK grow)
set_option linter.unusedVariables false
set_option linter.unusedSimpArgs false
instance : Inhabited IE := ⟨z43⟩
theorem swo_cmpE : SWO (ltOf cmpE) where
  irrefl x := by unfold ltOf; rw [tri_cmpE.self]; rfl
  trans x y z h1 h2 := by
    unfold ltOf at *
    simp only [decide_eq_true_eq] at *
    exact tri_cmpE.lt_le h1 (by omega)
  ntrans x y z h1 h2 := by
    unfold ltOf at *
    simp only [decide_eq_false_iff_not] at *
    have e1 := tri_cmpE.anti x y
    have e2 := tri_cmpE.anti y z
    have e3 := tri_cmpE.anti x z
    have := tri_cmpE.tr z y x (by omega) (by omega)
    omega
theorem cmpLays (blk off size : Nat) (w : World) : Go.Proofs.CmpLays Try.prog 28 #[] encE 6 cmpE blk off size w := by
  intro m os dk _ x y
  refine (compare_g x y _).mono ?_
  rintro e w' ⟨rfl, hg⟩
  exact ⟨rfl, gw_grow hg⟩
theorem flat_get (L : List IE) (t : Nat) (h : t < L.length * 6) : (flatK encE 6 L.toArray)[t]! = ((L.flatMap encE)[t]'(by rw [flat_len]; exact h)) := by
  rw [Go.Sort.get_flatK _ _ _ _ (by simpa using h)]
  have key : ∀ (L : List IE) (t : Nat) (h : t < L.length * 6), (L.flatMap encE)[t]? = (encE (L.getD (t / 6) z43))[t % 6]? := by
    intro L
    induction L with
    | nil => intro t h; simp at h
    | cons x L ih =>
      intro t h
      rw [List.flatMap_cons]
      by_cases h6 : t < 6
      · rw [List.getElem?_append_left (by simpa [encE] using h6), Nat.div_eq_of_lt h6, Nat.mod_eq_of_lt h6]
        rfl
      · rw [List.getElem?_append_right (by simp [encE]; omega)]
        have hl : (encE x).length = 6 := rfl
        rw [hl, ih (t - 6) (by simp only [List.length_cons] at h; omega)]
        have e1 : t / 6 = (t - 6) / 6 + 1 := by omega
        have e2 : t % 6 = (t - 6) % 6 := by omega
        rw [e1, e2]
        rfl
  have h1 := key L t h
  have hlt : t / 6 < L.length := by omega
  have hm : t % 6 < (encE (L.getD (t / 6) z43)).length := by show t % 6 < 6; omega
  rw [List.getElem?_eq_getElem (by rw [flat_len]; exact h), List.getElem?_eq_getElem hm] at h1
  injection h1 with h1
  rw [h1]
  have e : (L.toArray[t / 6]!) = L.getD (t / 6) z43 := by simp [hlt]
  rw [e]
  exact getElem!_pos (encE (L.getD (t / 6) z43)) (t % 6) hm
theorem flat_list (L : List IE) : (flatK encE 6 L.toArray).toList = L.flatMap encE := by
  apply List.ext_getElem
  · rw [flat_len]; simp
  · intro t h1 h2
    have h : t < L.length * 6 := by rw [flat_len] at h2; exact h2
    rw [← flat_get L t h]
    rw [getElem!_pos _ _ (by simpa using h1)]
    simp
theorem holds_row {W : World} {base g c : Nat} {L : List IE} (h : RowE W base (.slice (some ⟨g, 0, none⟩) L.length c) L) (hne : L ≠ []) : HoldsK encE 6 W g 0 L.toArray := by
  intro j hj
  have hj6 : j < L.length * 6 := by simpa using hj
  obtain ⟨cells, hc⟩ := own_typed h g rfl
  have h1 := h.cells (g := g) rfl j ((L.flatMap encE)[j]'(by rw [flat_len]; exact hj6)) (List.getElem?_eq_getElem _)
  rw [Addr.add_lit, Nat.zero_add] at h1
  rw [Nat.zero_add]
  exact ⟨by rw [flat_get L j hj6]; exact h1, bk_frz hc j⟩
theorem sort_heap (W : World) (g n : Nat) (d : Array IE) (os : Array Obj) (cur : Array Value) (T : TypeId) (q : Nat × Nat) (h : W.heap[g]? = some (.cells cur T q)) :
    (sortWorldK encE 6 W g 0 n d os).heap[g]? = some (.cells (Go.Sort.putCells id 0 (flatK encE 6 d) cur) T q) ∧ (∀ k, k < W.heap.size → k ≠ g → (sortWorldK encE 6 W g 0 n d os).heap[k]? = W.heap[k]?) ∧ W.heap.size ≤ (sortWorldK encE 6 W g 0 n d os).heap.size := by
  have hg := (Array.getElem?_eq_some_iff.mp h).1
  have e : (sortWorldK encE 6 W g 0 n d os).heap = (W.heap.modify g (Go.Sort.onCells (Go.Sort.putCells id 0 (flatK encE 6 d)))) ++ os := rfl
  rw [e]
  refine ⟨?_, fun k hk hne => ?_, by simp⟩
  · rw [Array.getElem?_append_left (by simpa using hg), Array.getElem?_modify, if_pos rfl, h]
    rfl
  · rw [Array.getElem?_append_left (by simpa using hk), Array.getElem?_modify, if_neg (fun e => hne e.symm)]
theorem put_take (F cur : Array Value) (m : Nat) (hF : F.size = m) (hc : m ≤ cur.size) : (Go.Sort.putCells id 0 F cur).toList.take m = F.toList := by
  apply List.ext_getElem
  · simp [Go.Sort.putCells, hF]; omega
  · intro t h1 h2
    have ht : t < m := by simpa [hF] using h2
    simp only [List.getElem_take, Array.getElem_toList, Go.Sort.putCells, Array.getElem_mapIdx]
    rw [if_pos (by omega)]
    simp only [id_eq, Nat.sub_zero]
    rw [getElem!_pos _ _ (by omega)]
theorem sort_call : SortC := by
  intro L v W base hO hl
  obtain ⟨A, c, rfl⟩ := hO.slice
  by_cases h0 : L = []
  · subst h0
    refine (AnyF.slices_SortFunc_none Try.sortE A c (.func (.func 28) #[] #[]) W).mono ?_
    rintro e w' ⟨rfl, rfl⟩
    exact ⟨rfl, [], List.Perm.refl _, List.Pairwise.nil, hO, ⟨rfl, rfl, rfl, Nat.le_refl _, fun _ _ _ => rfl⟩⟩
  · have hO2 := hO
    rcases hO2.2 with ⟨-, hn⟩ | ⟨g, cap, cur, hv, hb, hh, hnc, hcm, hcs, htake⟩
    · exact absurd (List.length_eq_zero_iff.1 hn) h0
    simp only [Value.slice.injEq] at hv
    obtain ⟨rfl, -, rfl⟩ := hv
    have hgl := (Array.getElem?_eq_some_iff.mp hh).1
    have hcon := AnyQ.slices_SortFunc Try.sortE 6 (fun w => by kernel_rfl) (fun w => by kernel_rfl) encE (fun _ => rfl) encE_one cmpE swo_cmpE 28 #[] g 0 c L.toArray W (enters_of Try.func28 (by kernel_rfl) rfl) (cmpLays g 0 _ W) (holds_row hO h0) hgl (by simp; omega)
    refine hcon.mono ?_
    rintro e w' ⟨rfl, d', n, os, hp, hs, rfl⟩
    obtain ⟨hp1, -, hp3⟩ := hp
    have hsz : d'.size = L.length := by simpa using hp1
    have hperm : d'.toList.Perm L := by
      have e1 : (d'.extract 0 L.toArray.size) = d' := by rw [← hp1]; simp
      have e2 : (L.toArray.extract 0 L.toArray.size) = L.toArray := by simp
      rw [e1, e2] at hp3
      simpa using hp3
    obtain ⟨k1, k2, k3⟩ := sort_heap W g n d' os cur _ _ hh
    refine ⟨rfl, d'.toList, hperm, ?_, ?_, ⟨rfl, rfl, rfl, k3, fun k hk hne => k2 k hk (fun e => hne (by subst e; rfl))⟩⟩
    · rw [List.pairwise_iff_getElem]
      intro i j hi hj hij
      have h1 := hs i j (Nat.zero_le _) hij (by rw [← hp1]; simpa using hj)
      rw [getElem!_pos _ _ (by simpa using hj), getElem!_pos _ _ (by simpa using hi)] at h1
      unfold ltOf at h1
      simp only [decide_eq_false_iff_not] at h1
      have := tri_cmpE.anti d'.toList[i] d'.toList[j]
      simp only [Array.getElem_toList] at this ⊢
      omega
    · have hfl : (flatK encE 6 d').size = L.length * 6 := by simp [hsz]
      have hdl : d'.toList.length = L.length := by simpa using hsz
      refine ⟨by rw [flat_len], .inr ⟨g, c, _, by rw [hdl], hb, k1, by rw [hdl]; exact hnc, hcm, by simp [Go.Sort.putCells, hcs], ?_⟩⟩
      rw [hdl, put_take _ _ _ hfl (by rw [hcs]; exact Nat.mul_le_mul_right _ hnc)]
      have := flat_list d'.toList
      simpa using this
end Go.Proofs.Ytmaildoddeimbaa.Q

namespace Go.Proofs.Ytmaildoddeimbaa.Q
open Go.RowKit Go.Proofs.YtmaildoddeimbaaW.PrintWords Go.Proofs.YtmaildoddeimbaaW.PrintLast
set_option linter.unusedVariables false
def impl_BuildRun.f (k : Nat) (l0 : List (S43)) : Option (List (S43)) := if (l0.all fun x => (Lit.int .u64 x.f3).wf) = true then some (buildE l0) else none
theorem impl_BuildRun.calls (k : Nat) (A0 : Option Addr) (c0 : Nat) (l0 : List (S43)) (r : List (S43)) (w : World) (hr0 : Kd.C k43 w A0 l0.length l0) (hc0 : l0.length ≤ c0) (h : impl_BuildRun.f k l0 = some r) :
    Calls Try.prog 8 #[.slice A0 l0.length c0] w fun e w' => ∃ v0_ : Value, e = .returned (.agg #[v0_]) ∧ Kd.R k43 43 w' w.heap.size (fun _ => True) v0_ r ∧ Below w.heap.size w w' := by
  unfold impl_BuildRun.f at h
  split at h
  · rename_i hw
    cases h
    exact build_call sort_call A0 c0 l0 w hr0 hc0 (List.all_eq_true.1 hw)
  · cases h
end Go.Proofs.Ytmaildoddeimbaa.Q

namespace Go.Proofs.Ytmaildoddeimbaa.Q
open Go.RowKit Go.Proofs.YtmaildoddeimbaaW.PrintWords Go.Proofs.YtmaildoddeimbaaW.PrintLast Go.Proofs.YtmaildoddeimbaaW.PrintMore
set_option linter.unusedVariables false
set_option linter.unusedSimpArgs false

/-! ### impl_Replay: function 15 -/
def impl_Replay.l0 : Nat → List (S61) → List (S43) → Int → Int → Option ((List (S61)))
 | 0, _, _, _, _ => none
 | k + 1, x3, x8, x9, x10 => if x10 < x9 then (if 0 ≤ x10 then (if x10 < (x8.length : Int) then (if ((rd_T43 x8 x10).f4) = 0 then ((impl_Entry_cell.f ((rd_T43 x8 x10).f0) ((rd_T43 x8 x10).f1) ((rd_T43 x8 x10).f2) ((rd_T43 x8 x10).f3) ((rd_T43 x8 x10).f4) ((rd_T43 x8 x10).f5)).bind fun bt286 => (if x3.length < 1954687338268 then (impl_Replay.l0 k (x3 ++ [(⟨bt286.1, bt286.2.1, bt286.2.2.1, bt286.2.2.2.1, bt286.2.2.2.2⟩ : S61)]) x8 x9 (wrap64 (x10 + 1))) else (none))) else (impl_Replay.l0 k x3 x8 x9 (wrap64 (x10 + 1)))) else (none)) else (none)) else (some x3)
def impl_Replay.f (k : Nat) (l0 : List (S43)) : Option ((List (S61))) := (impl_BuildRun.f k l0).bind fun t281 => (impl_Replay.l0 k ([] : List (S61)) t281 (t281.length : Int) 0)
set_option maxHeartbeats 8000000 in
set_option maxRecDepth 100000 in
theorem impl_Replay.calls (k : Nat) (A0 : Option Addr) (c0 : Nat) (l0 : List (S43)) (r : List (S61)) (w : World) (hr0 : Kd.C k43 w A0 l0.length l0) (hc0 : l0.length ≤ c0) (h : impl_Replay.f k l0 = some r) :
  Calls Try.prog 15 #[.slice A0 l0.length c0] w fun e w' => ∃ v0_ : Value, e = .returned (v0_) ∧ Kd.R k61 61 w' w.heap.size (fun _ => True) v0_ r ∧ Below w.heap.size w w' := by
 have hfd_ : ∀ (v : Value) (w : World), (Instr.field 26 (.agg #[v]) 0).run Try.prog w = .ok v w := fun _ _ => by kernel_rfl
 have hu43 := Try.underlying43
 have HR0 := Aside0.mk hr0
 have HC0 := Aside0.mk hc0
 clear hr0 hc0
 have HB := Aside0.mk (Below.refl w.heap.size w)
 have H : ((impl_BuildRun.f k l0).bind fun t281 => (impl_Replay.l0 k ([] : List (S61)) t281 (t281.length : Int) 0)) = some r := h
 clear h
 replace H := Option.bind_eq_some_iff.mp H
 obtain ⟨t281, A20, H⟩ := H
 replace H : (impl_Replay.l0 k ([] : List (S61)) t281 (t281.length : Int) 0) = some r := H
 have A2 := Aside0.mk A20
 clear A20
 have H' := Aside0.mk H
 clear H
 go_enter Try.func15, Try.ntmps15
 go_wp2_with (first | ((with_reducible refine at_fn (f := 8) rfl ?_); refine goesL_ (some 7) rfl rfl Try.func8 (by kernel_rfl) rfl #[.slice A0 l0.length c0] rfl (by (try simp only [List.map_toArray, List.map_cons, List.map_nil]); first | done | rfl | (simp only [List.length_drop, List.length_take]; rfl)) ?_; (with_reducible refine (impl_BuildRun.calls k _ _ l0 t281 _ ?side1 ?side2 A2.out).mono ?_); (case side1 => repeat (first | exact HR0.out | (with_reducible refine Kd.C_alloc ?_ _) | (with_reducible refine Kd.C_drewN ?_ _) | (with_reducible refine Kd.C_drew ?_))); (case side2 => exact HC0.out); rintro e w3 ⟨v282, rfl, ho0, hb⟩; refine ⟨_, rfl, ?_⟩; have n0_ := Aside0.mk (Kd.R_lower ho0 (below_size bw)); have n1_ := Aside0.mk (below_step bw hb); clear HB; have HO283 := n0_; have HB := n1_; clear n0_ n1_; (try clear hb); (try clear hb2); (try clear hk); (try clear hi); (try clear ho0); obtain ⟨Ao4, co4, eo4⟩ := Kd.R_slice HO283.out; subst eo4))
 go_loopg [3, 10] k (fun kq v3 v10 w' => ∃ (x3_1 : List (S61)) (x10_1 : Int), v10 = .int .i64 x10_1 ∧ Aside0 (impl_Replay.l0 kq x3_1 t281 (t281.length : Int) x10_1 = some r) ∧ Aside0 (kq ≤ k) ∧ Aside0 (Kd.R k61 61 w' w.heap.size (fun _ => True) v3 x3_1) ∧ Aside0 (Kd.R k43 43 w' w.heap.size (fun _ => True) (.slice Ao4 t281.length co4) t281) ∧ Aside0 (Below w.heap.size w w'))
 case atStart => exact ⟨(([] : List (S61))), (0), (by first | rfl | (simp; done) | (simp [*]; done)), H', ⟨Nat.le_refl _⟩, ⟨by first | exact Kd.R_nil _ _ _ _ _ | exact Kd.N_nil _ _ _ _ _ | exact Kd.V_nil _ _ _ _ _ | exact Kd.Q_nil _ _ _ _ _ | exact Kd.S_nil _ _ _ _ _⟩, ⟨lf HO283⟩, ⟨bw⟩⟩
 case round =>
  clear H'
  try clear c1
  try clear p2
  obtain ⟨x3_1, x10_1, rfl, HA, HK1, HO_3, HO_8, HB⟩ := hrel
  cases gk with
  | zero => exact absurd HA.out (by simp [impl_Replay.l0])
  | succ k1 =>
   have H := HA.out
   clear HA
   simp only [impl_Replay.l0] at H
   by_cases c5 : x10_1 < (t281.length : Int)
   ·rw [if_pos c5] at H
    have c5b0 : decide (x10_1 < (t281.length : Int)) = true := decide_eq_true c5
    clear c5
    by_cases c6 : 0 ≤ x10_1
    ·rw [if_pos c6] at H
     have c6b0 : decide (0 ≤ x10_1) = true := decide_eq_true c6
     clear c6
     by_cases c7 : x10_1 < (t281.length : Int)
     ·rw [if_pos c7] at H
      have c7b0 : decide (x10_1 < (t281.length : Int)) = true := decide_eq_true c7
      clear c7
      by_cases c8 : ((rd_T43 t281 x10_1).f4) = 0
      ·rw [if_pos c8] at H
       have c8b0 : (((rd_T43 t281 x10_1).f4) == 0) = true := beq_iff_eq.mpr c8
       have c8b1 : (((rd_T43 t281 x10_1).f4) != 0) = false := bne_eq_false_iff_eq.mpr c8
       clear c8
       replace H := Option.bind_eq_some_iff.mp H
       obtain ⟨⟨t286, t287, t288, t289, t290⟩, A90, H⟩ := H
       replace H : (if x3_1.length < 1954687338268 then (impl_Replay.l0 k1 (x3_1 ++ [(⟨t286, t287, t288, t289, t290⟩ : S61)]) t281 (t281.length : Int) (wrap64 (x10_1 + 1))) else (none)) = some r := H
       have A9 := Aside0.mk A90
       clear A90
       by_cases c10 : x3_1.length < 1954687338268
       ·rw [if_pos c10] at H
        have LMc10 := Aside0.mk c10
        clear c10
        obtain ⟨y291, hy291⟩ : ∃ y_ : List (S61), y_ = (x3_1 ++ [(⟨t286, t287, t288, t289, t290⟩ : S61)]) := ⟨_, rfl⟩
        replace H : (impl_Replay.l0 k1 y291 t281 (t281.length : Int) (wrap64 (x10_1 + 1))) = some r := by first | (rw [hy291]; with_reducible exact H) | (have H2_ := (Option.bind_some _ _).symm.trans H; rw [hy291]; with_reducible exact H2_) | (have H2_ := (Option.bind_some _ _).symm.trans H; with_reducible exact H2_) | with_reducible exact H | (rw [hy291]; exact H) | exact H
        have Ny291 := Aside0.mk hy291
        clear hy291
        have H' := Aside0.mk H
        clear H
        have p284 : 0 ≤ (x10_1 : Int) := of_decide_eq_true (by first | (with_reducible assumption) | assumption)
        have q284 : x10_1 < (t281.length : Int) := of_decide_eq_true (by first | (with_reducible assumption) | assumption)
        obtain ⟨ad284, e284, hx284_0, hx284_1, hx284_2, hx284_3, hx284_4, hx284_5⟩ := at_T43 (Kd.R_reads' HO_8.out).2.2 x10_1 p284 q284
        cases e284
        replace p284 := eq_true p284
        replace q284 := eq_true q284
        go_wp2_with (first | ((with_reducible refine gate_dst (N := 5) rfl ?_); refine box_event ?hg (N := 5) ?hd (cs := #[.string (⟨#[]⟩ : ByteArray), .string (⟨#[]⟩ : ByteArray), .string (⟨#[]⟩ : ByteArray), .int .u64 0, .int .i64 0, .string (⟨#[]⟩ : ByteArray)]) (t := 43) ?hr ?_; (case hd => rfl); (case hg => rfl); (case hr => first | (go_simp; done) | (go_simp; rfl)); intro gb285 hg w11 hbox hb; have n0_ := Aside0.mk (Kd.R_below (lf HO_3) hb); have n1_ := Aside0.mk (Kd.R_below (Kd.R_elderB (lf HO_8) gb285 (Nat.le_of_eq hg.symm)) hb); have n2_ := Aside0.mk (below_step bw hb); have n3_ := Aside0.mk (hbox); have n4_ := Aside0.mk ((by rw [hg]; exact (below_size bw) : w.heap.size ≤ gb285)); have n5_ := Aside0.mk ((by rw [hg]; exact (below_size bw) : w.heap.size ≤ gb285)); clear HO_3; clear HO_8; clear HB; have HO_3 := n0_; have HO_8 := n1_; have HB := n2_; have BK285 := n3_; have GW285 := n4_; have GE285 := n5_; clear n0_ n1_ n2_ n3_ n4_ n5_; clear hb hbox hg; have hcz12_0 : w11.cell? ⟨gb285, 0, none⟩ = some (.string (⟨#[]⟩ : ByteArray)) := (blk_cell BK285.out 0).trans rfl; have hcz12_1 : w11.cell? ⟨gb285, 1, none⟩ = some (.string (⟨#[]⟩ : ByteArray)) := (blk_cell BK285.out 1).trans rfl; have hcz12_2 : w11.cell? ⟨gb285, 2, none⟩ = some (.string (⟨#[]⟩ : ByteArray)) := (blk_cell BK285.out 2).trans rfl; have hcz12_3 : w11.cell? ⟨gb285, 3, none⟩ = some (.int .u64 0) := (blk_cell BK285.out 3).trans rfl; have hcz12_4 : w11.cell? ⟨gb285, 4, none⟩ = some (.int .i64 0) := (blk_cell BK285.out 4).trans rfl; have hcz12_5 : w11.cell? ⟨gb285, 5, none⟩ = some (.string (⟨#[]⟩ : ByteArray)) := (blk_cell BK285.out 5).trans rfl; have hfz12_0 := blk_frozen BK285.out 0; have hfz12_1 := blk_frozen BK285.out 1; have hfz12_2 := blk_frozen BK285.out 2; have hfz12_3 := blk_frozen BK285.out 3; have hfz12_4 := blk_frozen BK285.out 4; have hfz12_5 := blk_frozen BK285.out 5) | ((with_reducible refine at_fn (f := 33) rfl ?_); refine goesL_ (some 19) rfl rfl Try.func33 (by kernel_rfl) rfl #[.agg #[.string ((rd_T43 t281 x10_1).f0), .string ((rd_T43 t281 x10_1).f1), .string ((rd_T43 t281 x10_1).f2), .int .u64 ((rd_T43 t281 x10_1).f3), .int .i64 ((rd_T43 t281 x10_1).f4), .string ((rd_T43 t281 x10_1).f5)]] rfl (by (try simp only [List.map_toArray, List.map_cons, List.map_nil]); first | done | rfl | (simp only [List.length_drop, List.length_take]; rfl)) ?_; (with_reducible refine (impl_Entry_cell.calls ((rd_T43 t281 x10_1).f0) ((rd_T43 t281 x10_1).f1) ((rd_T43 t281 x10_1).f2) ((rd_T43 t281 x10_1).f3) ((rd_T43 t281 x10_1).f4) ((rd_T43 t281 x10_1).f5) t286 t287 t288 t289 t290 _ A9.out).mono ?_); rintro e w13 ⟨rfl, hb⟩; refine ⟨_, rfl, ?_⟩; have n0_ := Aside0.mk (Kd.R_below (by (with_reducible repeat (first | apply Kd.R_alloc | apply Kd.R_drewN | apply Kd.R_drew)); exact (Kd.R_mono (Kd.R_far (p := ⟨gb285, 5, none⟩) (Kd.R_far (p := ⟨gb285, 4, none⟩) (Kd.R_far (p := ⟨gb285, 3, none⟩) (Kd.R_far (p := ⟨gb285, 2, none⟩) (Kd.R_far (p := ⟨gb285, 1, none⟩) (Kd.R_far (p := ⟨gb285, 0, none⟩) (Kd.R_types HO_3.out BK285.out (by decide)) (fun _ hk => hk.2) (.string ((rd_T43 t281 x10_1).f0))) (fun _ hk => hk.2) (.string ((rd_T43 t281 x10_1).f1))) (fun _ hk => hk.2) (.string ((rd_T43 t281 x10_1).f2))) (fun _ hk => hk.2) (.int .u64 ((rd_T43 t281 x10_1).f3))) (fun _ hk => hk.2) (.int .i64 ((rd_T43 t281 x10_1).f4))) (fun _ hk => hk.2) (.string ((rd_T43 t281 x10_1).f5))) (fun _ h_ => h_.1))) hb); have n1_ := Aside0.mk (Kd.R_below (by (with_reducible repeat (first | apply Kd.R_alloc | apply Kd.R_drewN | apply Kd.R_drew)); exact (Kd.R_mono (Kd.R_far (p := ⟨gb285, 5, none⟩) (Kd.R_far (p := ⟨gb285, 4, none⟩) (Kd.R_far (p := ⟨gb285, 3, none⟩) (Kd.R_far (p := ⟨gb285, 2, none⟩) (Kd.R_far (p := ⟨gb285, 1, none⟩) (Kd.R_far (p := ⟨gb285, 0, none⟩) (Kd.R_mono HO_8.out (fun k_ hk => (⟨hk, hk.2⟩ : _ ∧ k_ ≠ gb285))) (fun _ hk => hk.2) (.string ((rd_T43 t281 x10_1).f0))) (fun _ hk => hk.2) (.string ((rd_T43 t281 x10_1).f1))) (fun _ hk => hk.2) (.string ((rd_T43 t281 x10_1).f2))) (fun _ hk => hk.2) (.int .u64 ((rd_T43 t281 x10_1).f3))) (fun _ hk => hk.2) (.int .i64 ((rd_T43 t281 x10_1).f4))) (fun _ hk => hk.2) (.string ((rd_T43 t281 x10_1).f5))) (fun _ h_ => h_.1))) hb); have n2_ := Aside0.mk (blk_below (g := gb285) (o := .cells #[.string ((rd_T43 t281 x10_1).f0), .string ((rd_T43 t281 x10_1).f1), .string ((rd_T43 t281 x10_1).f2), .int .u64 ((rd_T43 t281 x10_1).f3), .int .i64 ((rd_T43 t281 x10_1).f4), .string ((rd_T43 t281 x10_1).f5)] 43 (0, 0)) (by (with_reducible repeat (first | refine blk_drewN ?_ _ | refine blk_drew ?_ | refine blk_alloc ?_ _)); refine blk_put (cs := #[.string ((rd_T43 t281 x10_1).f0), .string ((rd_T43 t281 x10_1).f1), .string ((rd_T43 t281 x10_1).f2), .int .u64 ((rd_T43 t281 x10_1).f3), .int .i64 ((rd_T43 t281 x10_1).f4), .string (⟨#[]⟩ : ByteArray)]) ?_ 5 _ rfl; (with_reducible repeat (first | refine blk_drewN ?_ _ | refine blk_drew ?_ | refine blk_alloc ?_ _)); refine blk_put (cs := #[.string ((rd_T43 t281 x10_1).f0), .string ((rd_T43 t281 x10_1).f1), .string ((rd_T43 t281 x10_1).f2), .int .u64 ((rd_T43 t281 x10_1).f3), .int .i64 0, .string (⟨#[]⟩ : ByteArray)]) ?_ 4 _ rfl; (with_reducible repeat (first | refine blk_drewN ?_ _ | refine blk_drew ?_ | refine blk_alloc ?_ _)); refine blk_put (cs := #[.string ((rd_T43 t281 x10_1).f0), .string ((rd_T43 t281 x10_1).f1), .string ((rd_T43 t281 x10_1).f2), .int .u64 0, .int .i64 0, .string (⟨#[]⟩ : ByteArray)]) ?_ 3 _ rfl; (with_reducible repeat (first | refine blk_drewN ?_ _ | refine blk_drew ?_ | refine blk_alloc ?_ _)); refine blk_put (cs := #[.string ((rd_T43 t281 x10_1).f0), .string ((rd_T43 t281 x10_1).f1), .string (⟨#[]⟩ : ByteArray), .int .u64 0, .int .i64 0, .string (⟨#[]⟩ : ByteArray)]) ?_ 2 _ rfl; (with_reducible repeat (first | refine blk_drewN ?_ _ | refine blk_drew ?_ | refine blk_alloc ?_ _)); refine blk_put (cs := #[.string ((rd_T43 t281 x10_1).f0), .string (⟨#[]⟩ : ByteArray), .string (⟨#[]⟩ : ByteArray), .int .u64 0, .int .i64 0, .string (⟨#[]⟩ : ByteArray)]) ?_ 1 _ rfl; (with_reducible repeat (first | refine blk_drewN ?_ _ | refine blk_drew ?_ | refine blk_alloc ?_ _)); refine blk_put (cs := #[.string (⟨#[]⟩ : ByteArray), .string (⟨#[]⟩ : ByteArray), .string (⟨#[]⟩ : ByteArray), .int .u64 0, .int .i64 0, .string (⟨#[]⟩ : ByteArray)]) ?_ 0 _ rfl; (with_reducible repeat (first | refine blk_drewN ?_ _ | refine blk_drew ?_ | refine blk_alloc ?_ _)); exact BK285.out) hb); have n3_ := Aside0.mk (below_step bw hb); clear HO_3; clear HO_8; clear BK285; clear HB; have HO_3 := n0_; have HO_8 := n1_; have BK285 := n2_; have HB := n3_; clear n0_ n1_ n2_ n3_; (try clear hb); (try clear hb2); (try clear hk); (try clear hi)) | ((with_reducible refine gate_builtin (b := .append) (xs := #[.tmp 17, .tmp 20]) rfl ?_); at_builtin; refine Kd.R_append k61 (w0 := w) w.heap.size rfl (.tmp 17) (.tmp 20) 34 61 (.agg #[(.string ⟨#[]⟩), (.string ⟨#[]⟩), (.string ⟨#[]⟩), (.int .u64 0), (.string ⟨#[]⟩)]) 72 rfl Try.underlying34 info61 rfl (by decide) (by omega) u3 x3_1 (⟨t286, t287, t288, t289, t290⟩ : S61) [.string t286, .string t287, .string t288, .int .u64 t289, .string t290] (fun _ => True) (fun _ => False) rfl rfl ?aP (fun _ hk => hk.elim) ?aF ?aO ?aB ?aS ?aL ?_; (case aP => exact k61_mkM _ _ _ (⟨t286, t287, t288, t289, t290⟩ : S61)); (case aB => exact bw); (case aF => exact (fun _ _ => trivial)); (case aO => exact (lf HO_3)); (case aS => exact (below_size bw)); (case aL => have := LMc10.out; omega); intro v292 w14 ho hb hg hat; rw [← Ny291.out] at ho; have n0_ := Aside0.mk (Kd.R_over' (lf HO_8) (Kd.R_typed (lf HO_3)) (by decide) hg); have n1_ := Aside0.mk (blk_grown (g := gb285) (o := .cells #[.string ((rd_T43 t281 x10_1).f0), .string ((rd_T43 t281 x10_1).f1), .string ((rd_T43 t281 x10_1).f2), .int .u64 ((rd_T43 t281 x10_1).f3), .int .i64 ((rd_T43 t281 x10_1).f4), .string ((rd_T43 t281 x10_1).f5)] 43 (0, 0)) (lb BK285) hg (Kd.R_ne HO_3.out BK285.out (by decide))); have n2_ := Aside0.mk (hb); have n3_ := Aside0.mk (ho); clear HO_8; clear BK285; clear HB; clear HO_3; have HO_8 := n0_; have BK285 := n1_; have HB := n2_; have HO293 := n3_; clear n0_ n1_ n2_ n3_; clear ho hb hg hat))
        go_roundg k1
        case measure => have := HK1.out; omega
        case rel => exact ⟨(y291), (wrap64 (x10_1 + 1)), (by first | rfl | (simp; done) | (simp [*]; done)), H', ⟨by have := HK1.out; omega⟩, ⟨lf HO293⟩, ⟨by (with_reducible repeat (first | apply Kd.R_alloc | apply Kd.R_drewN | apply Kd.R_drew)); exact Kd.R_mono HO_8.out (fun _ hk => trivial)⟩, ⟨bw⟩⟩
       ·rw [if_neg c10] at H
        exact absurd H (by simp)
      ·rw [if_neg c8] at H
       have c8b0 : (((rd_T43 t281 x10_1).f4) == 0) = false := beq_eq_false_iff_ne.mpr c8
       have c8b1 : (((rd_T43 t281 x10_1).f4) != 0) = true := bne_iff_ne.mpr c8
       have H' := Aside0.mk H
       clear H
       have p284 : 0 ≤ (x10_1 : Int) := of_decide_eq_true (by first | (with_reducible assumption) | assumption)
       have q284 : x10_1 < (t281.length : Int) := of_decide_eq_true (by first | (with_reducible assumption) | assumption)
       obtain ⟨ad284, e284, hx284_0, hx284_1, hx284_2, hx284_3, hx284_4, hx284_5⟩ := at_T43 (Kd.R_reads' HO_8.out).2.2 x10_1 p284 q284
       cases e284
       replace p284 := eq_true p284
       replace q284 := eq_true q284
       go_wp2_with (first | ((with_reducible refine gate_dst (N := 5) rfl ?_); refine box_event ?hg (N := 5) ?hd (cs := #[.string (⟨#[]⟩ : ByteArray), .string (⟨#[]⟩ : ByteArray), .string (⟨#[]⟩ : ByteArray), .int .u64 0, .int .i64 0, .string (⟨#[]⟩ : ByteArray)]) (t := 43) ?hr ?_; (case hd => rfl); (case hg => rfl); (case hr => first | (go_simp; done) | (go_simp; rfl)); intro gb285 hg w15 hbox hb; have n0_ := Aside0.mk (Kd.R_below (lf HO_3) hb); have n1_ := Aside0.mk (Kd.R_below (Kd.R_elderB (lf HO_8) gb285 (Nat.le_of_eq hg.symm)) hb); have n2_ := Aside0.mk (below_step bw hb); have n3_ := Aside0.mk (hbox); have n4_ := Aside0.mk ((by rw [hg]; exact (below_size bw) : w.heap.size ≤ gb285)); have n5_ := Aside0.mk ((by rw [hg]; exact (below_size bw) : w.heap.size ≤ gb285)); clear HO_3; clear HO_8; clear HB; have HO_3 := n0_; have HO_8 := n1_; have HB := n2_; have BK285 := n3_; have GW285 := n4_; have GE285 := n5_; clear n0_ n1_ n2_ n3_ n4_ n5_; clear hb hbox hg; have hcz16_0 : w15.cell? ⟨gb285, 0, none⟩ = some (.string (⟨#[]⟩ : ByteArray)) := (blk_cell BK285.out 0).trans rfl; have hcz16_1 : w15.cell? ⟨gb285, 1, none⟩ = some (.string (⟨#[]⟩ : ByteArray)) := (blk_cell BK285.out 1).trans rfl; have hcz16_2 : w15.cell? ⟨gb285, 2, none⟩ = some (.string (⟨#[]⟩ : ByteArray)) := (blk_cell BK285.out 2).trans rfl; have hcz16_3 : w15.cell? ⟨gb285, 3, none⟩ = some (.int .u64 0) := (blk_cell BK285.out 3).trans rfl; have hcz16_4 : w15.cell? ⟨gb285, 4, none⟩ = some (.int .i64 0) := (blk_cell BK285.out 4).trans rfl; have hcz16_5 : w15.cell? ⟨gb285, 5, none⟩ = some (.string (⟨#[]⟩ : ByteArray)) := (blk_cell BK285.out 5).trans rfl; have hfz16_0 := blk_frozen BK285.out 0; have hfz16_1 := blk_frozen BK285.out 1; have hfz16_2 := blk_frozen BK285.out 2; have hfz16_3 := blk_frozen BK285.out 3; have hfz16_4 := blk_frozen BK285.out 4; have hfz16_5 := blk_frozen BK285.out 5))
       go_roundg k1
       case measure => have := HK1.out; omega
       case rel => exact ⟨(x3_1), (wrap64 (x10_1 + 1)), (by first | rfl | (simp; done) | (simp [*]; done)), H', ⟨by have := HK1.out; omega⟩, ⟨by (with_reducible repeat (first | apply Kd.R_alloc | apply Kd.R_drewN | apply Kd.R_drew)); exact Kd.R_mono (Kd.R_far (p := ⟨gb285, 5, none⟩) (Kd.R_far (p := ⟨gb285, 4, none⟩) (Kd.R_far (p := ⟨gb285, 3, none⟩) (Kd.R_far (p := ⟨gb285, 2, none⟩) (Kd.R_far (p := ⟨gb285, 1, none⟩) (Kd.R_far (p := ⟨gb285, 0, none⟩) (Kd.R_types HO_3.out BK285.out (by decide)) (fun _ hk => hk.2) (.string ((rd_T43 t281 x10_1).f0))) (fun _ hk => hk.2) (.string ((rd_T43 t281 x10_1).f1))) (fun _ hk => hk.2) (.string ((rd_T43 t281 x10_1).f2))) (fun _ hk => hk.2) (.int .u64 ((rd_T43 t281 x10_1).f3))) (fun _ hk => hk.2) (.int .i64 ((rd_T43 t281 x10_1).f4))) (fun _ hk => hk.2) (.string ((rd_T43 t281 x10_1).f5))) (fun _ hk => trivial)⟩, ⟨by (with_reducible repeat (first | apply Kd.R_alloc | apply Kd.R_drewN | apply Kd.R_drew)); exact Kd.R_mono (Kd.R_far (p := ⟨gb285, 5, none⟩) (Kd.R_far (p := ⟨gb285, 4, none⟩) (Kd.R_far (p := ⟨gb285, 3, none⟩) (Kd.R_far (p := ⟨gb285, 2, none⟩) (Kd.R_far (p := ⟨gb285, 1, none⟩) (Kd.R_far (p := ⟨gb285, 0, none⟩) (Kd.R_mono HO_8.out (fun k_ hk => (⟨hk, hk.2⟩ : _ ∧ k_ ≠ gb285))) (fun _ hk => hk.2) (.string ((rd_T43 t281 x10_1).f0))) (fun _ hk => hk.2) (.string ((rd_T43 t281 x10_1).f1))) (fun _ hk => hk.2) (.string ((rd_T43 t281 x10_1).f2))) (fun _ hk => hk.2) (.int .u64 ((rd_T43 t281 x10_1).f3))) (fun _ hk => hk.2) (.int .i64 ((rd_T43 t281 x10_1).f4))) (fun _ hk => hk.2) (.string ((rd_T43 t281 x10_1).f5))) (fun _ hk => trivial)⟩, ⟨bw⟩⟩
     ·rw [if_neg c7] at H
      exact absurd H (by simp)
    ·rw [if_neg c6] at H
     exact absurd H (by simp)
   ·rw [if_neg c5] at H
    have c5b0 : decide (x10_1 < (t281.length : Int)) = false := decide_eq_false c5
    clear c5
    obtain rfl := Option.some.inj H
    go_wp2
    go_ret
    exact ⟨_, by first | rfl | (simp [errW_none, errW_some] <;> rfl) | (simp [*, errW_none, errW_some] <;> rfl), lf HO_3, bw⟩

end Go.Proofs.Ytmaildoddeimbaa.Q

namespace Go.Proofs.Ytmaildoddeimbaa.Q
open Go.RowKit Go.Proofs.YtmaildoddeimbaaW.PrintWords Go.Proofs.YtmaildoddeimbaaW.PrintLast Go.Proofs.YtmaildoddeimbaaW.PrintMore
set_option linter.unusedVariables false
set_option linter.unusedSimpArgs false

/-! ### laws_eqCell: function 34 -/
def laws_eqCell.f (a0_0 : ByteArray) (a0_1 : ByteArray) (a0_2 : ByteArray) (a0_3 : Int) (a0_4 : ByteArray) (a1_0 : ByteArray) (a1_1 : ByteArray) (a1_2 : ByteArray) (a1_3 : Int) (a1_4 : ByteArray) : Option (Bool) := if a0_0.toList = a1_0.toList then (if a0_1.toList = a1_1.toList then (if a0_2.toList = a1_2.toList then (if a0_3 = a1_3 then (if a0_4.toList = a1_4.toList then (some true) else (some false)) else (some false)) else (some false)) else (some false)) else (some false)
set_option maxHeartbeats 8000000 in
set_option maxRecDepth 100000 in
theorem laws_eqCell.calls (a0_0 : ByteArray) (a0_1 : ByteArray) (a0_2 : ByteArray) (a0_3 : Int) (a0_4 : ByteArray) (a1_0 : ByteArray) (a1_1 : ByteArray) (a1_2 : ByteArray) (a1_3 : Int) (a1_4 : ByteArray) (r : Bool) (w : World) (h : laws_eqCell.f a0_0 a0_1 a0_2 a0_3 a0_4 a1_0 a1_1 a1_2 a1_3 a1_4 = some r) :
  Calls Try.prog 34 #[.agg #[.string a0_0, .string a0_1, .string a0_2, .int .u64 a0_3, .string a0_4], .agg #[.string a1_0, .string a1_1, .string a1_2, .int .u64 a1_3, .string a1_4]] w fun e w' => e = .returned (.bool r) ∧ Below w.heap.size w w' := by
 have hu61 := Try.underlying61
 have HB := Aside0.mk (Below.refl w.heap.size w)
 have H : (if a0_0.toList = a1_0.toList then (if a0_1.toList = a1_1.toList then (if a0_2.toList = a1_2.toList then (if a0_3 = a1_3 then (if a0_4.toList = a1_4.toList then (some true) else (some false)) else (some false)) else (some false)) else (some false)) else (some false)) = some r := h
 clear h
 by_cases c3 : a0_0.toList = a1_0.toList
 ·rw [if_pos c3] at H
  have c3b0 : (a0_0.toList == a1_0.toList) = true := beq_iff_eq.mpr c3
  have c3b1 : (a0_0.toList != a1_0.toList) = false := bne_eq_false_iff_eq.mpr c3
  clear c3
  by_cases c4 : a0_1.toList = a1_1.toList
  ·rw [if_pos c4] at H
   have c4b0 : (a0_1.toList == a1_1.toList) = true := beq_iff_eq.mpr c4
   have c4b1 : (a0_1.toList != a1_1.toList) = false := bne_eq_false_iff_eq.mpr c4
   clear c4
   by_cases c5 : a0_2.toList = a1_2.toList
   ·rw [if_pos c5] at H
    have c5b0 : (a0_2.toList == a1_2.toList) = true := beq_iff_eq.mpr c5
    have c5b1 : (a0_2.toList != a1_2.toList) = false := bne_eq_false_iff_eq.mpr c5
    clear c5
    by_cases c6 : a0_3 = a1_3
    ·rw [if_pos c6] at H
     have c6b0 : (a0_3 == a1_3) = true := beq_iff_eq.mpr c6
     have c6b1 : (a0_3 != a1_3) = false := bne_eq_false_iff_eq.mpr c6
     clear c6
     by_cases c7 : a0_4.toList = a1_4.toList
     ·rw [if_pos c7] at H
      have c7b0 : (a0_4.toList == a1_4.toList) = true := beq_iff_eq.mpr c7
      have c7b1 : (a0_4.toList != a1_4.toList) = false := bne_eq_false_iff_eq.mpr c7
      clear c7
      obtain rfl := Option.some.inj H
      go_enter Try.func34, Try.ntmps34
      go_wp2_with (first | ((with_reducible refine gate_dst (N := 2) rfl ?_); refine box_event ?hg (N := 2) ?hd (cs := #[.string a0_0, .string a0_1, .string a0_2, .int .u64 a0_3, .string a0_4]) (t := 61) ?hr ?_; (case hd => rfl); (case hg => rfl); (case hr => first | (go_simp; done) | (go_simp; rfl)); intro gb294 hg w8 hbox hb; have n0_ := Aside0.mk (below_step bw hb); have n1_ := Aside0.mk (hbox); have n2_ := Aside0.mk ((by rw [hg]; exact (below_size bw) : w.heap.size ≤ gb294)); have n3_ := Aside0.mk ((by rw [hg]; exact (below_size bw) : w.heap.size ≤ gb294)); clear HB; have HB := n0_; have BK294 := n1_; have GW294 := n2_; have GE294 := n3_; clear n0_ n1_ n2_ n3_; clear hb hbox hg) | ((with_reducible refine gate_dst (N := 3) rfl ?_); refine box_event ?hg (N := 3) ?hd (cs := #[.string a1_0, .string a1_1, .string a1_2, .int .u64 a1_3, .string a1_4]) (t := 61) ?hr ?_; (case hd => rfl); (case hg => rfl); (case hr => first | (go_simp; done) | (go_simp; rfl)); intro gb295 hg w9 hbox hb; have n0_ := Aside0.mk (blk_below (g := gb294) (o := .cells #[.string a0_0, .string a0_1, .string a0_2, .int .u64 a0_3, .string a0_4] 61 (0, 0)) (lb BK294) hb); have n1_ := Aside0.mk (below_step bw hb); have n2_ := Aside0.mk (hbox); have n3_ := Aside0.mk ((by rw [hg]; exact (below_size bw) : w.heap.size ≤ gb295)); have n4_ := Aside0.mk ((by rw [hg]; exact (below_size bw) : w.heap.size ≤ gb295)); have n5_ := Aside0.mk ((by rw [hg]; exact Nat.ne_of_lt (blk_lt (g := gb294) (o := .cells #[.string a0_0, .string a0_1, .string a0_2, .int .u64 a0_3, .string a0_4] 61 (0, 0)) (lb BK294)) : gb294 ≠ gb295)); have n6_ := Aside0.mk ((by rw [hg]; exact Nat.ne_of_gt (blk_lt (g := gb294) (o := .cells #[.string a0_0, .string a0_1, .string a0_2, .int .u64 a0_3, .string a0_4] 61 (0, 0)) (lb BK294)) : gb295 ≠ gb294)); clear BK294; clear HB; have BK294 := n0_; have HB := n1_; have BK295 := n2_; have GW295 := n3_; have GE295 := n4_; have NB294_295 := n5_; have NB295_294 := n6_; clear n0_ n1_ n2_ n3_ n4_ n5_ n6_; clear hb hbox hg; have hnb10 := NB294_295.out; have hnc10 := NB295_294.out; have hcz11_0 : w9.cell? ⟨gb294, 0, none⟩ = some (.string a0_0) := (blk_cell BK294.out 0).trans rfl; have hcz11_1 : w9.cell? ⟨gb294, 1, none⟩ = some (.string a0_1) := (blk_cell BK294.out 1).trans rfl; have hcz11_2 : w9.cell? ⟨gb294, 2, none⟩ = some (.string a0_2) := (blk_cell BK294.out 2).trans rfl; have hcz11_3 : w9.cell? ⟨gb294, 3, none⟩ = some (.int .u64 a0_3) := (blk_cell BK294.out 3).trans rfl; have hcz11_4 : w9.cell? ⟨gb294, 4, none⟩ = some (.string a0_4) := (blk_cell BK294.out 4).trans rfl; have hfz11_0 := blk_frozen BK294.out 0; have hfz11_1 := blk_frozen BK294.out 1; have hfz11_2 := blk_frozen BK294.out 2; have hfz11_3 := blk_frozen BK294.out 3; have hfz11_4 := blk_frozen BK294.out 4; have hcz12_0 : w9.cell? ⟨gb295, 0, none⟩ = some (.string a1_0) := (blk_cell BK295.out 0).trans rfl; have hcz12_1 : w9.cell? ⟨gb295, 1, none⟩ = some (.string a1_1) := (blk_cell BK295.out 1).trans rfl; have hcz12_2 : w9.cell? ⟨gb295, 2, none⟩ = some (.string a1_2) := (blk_cell BK295.out 2).trans rfl; have hcz12_3 : w9.cell? ⟨gb295, 3, none⟩ = some (.int .u64 a1_3) := (blk_cell BK295.out 3).trans rfl; have hcz12_4 : w9.cell? ⟨gb295, 4, none⟩ = some (.string a1_4) := (blk_cell BK295.out 4).trans rfl; have hfz12_0 := blk_frozen BK295.out 0; have hfz12_1 := blk_frozen BK295.out 1; have hfz12_2 := blk_frozen BK295.out 2; have hfz12_3 := blk_frozen BK295.out 3; have hfz12_4 := blk_frozen BK295.out 4))
      go_ret
      exact ⟨by first | rfl | (simp [errW_none, errW_some] <;> rfl) | (simp [*, errW_none, errW_some] <;> rfl), bw⟩
     ·rw [if_neg c7] at H
      have c7b0 : (a0_4.toList == a1_4.toList) = false := beq_eq_false_iff_ne.mpr c7
      have c7b1 : (a0_4.toList != a1_4.toList) = true := bne_iff_ne.mpr c7
      obtain rfl := Option.some.inj H
      go_enter Try.func34, Try.ntmps34
      go_wp2_with (first | ((with_reducible refine gate_dst (N := 2) rfl ?_); refine box_event ?hg (N := 2) ?hd (cs := #[.string a0_0, .string a0_1, .string a0_2, .int .u64 a0_3, .string a0_4]) (t := 61) ?hr ?_; (case hd => rfl); (case hg => rfl); (case hr => first | (go_simp; done) | (go_simp; rfl)); intro gb294 hg w13 hbox hb; have n0_ := Aside0.mk (below_step bw hb); have n1_ := Aside0.mk (hbox); have n2_ := Aside0.mk ((by rw [hg]; exact (below_size bw) : w.heap.size ≤ gb294)); have n3_ := Aside0.mk ((by rw [hg]; exact (below_size bw) : w.heap.size ≤ gb294)); clear HB; have HB := n0_; have BK294 := n1_; have GW294 := n2_; have GE294 := n3_; clear n0_ n1_ n2_ n3_; clear hb hbox hg) | ((with_reducible refine gate_dst (N := 3) rfl ?_); refine box_event ?hg (N := 3) ?hd (cs := #[.string a1_0, .string a1_1, .string a1_2, .int .u64 a1_3, .string a1_4]) (t := 61) ?hr ?_; (case hd => rfl); (case hg => rfl); (case hr => first | (go_simp; done) | (go_simp; rfl)); intro gb295 hg w14 hbox hb; have n0_ := Aside0.mk (blk_below (g := gb294) (o := .cells #[.string a0_0, .string a0_1, .string a0_2, .int .u64 a0_3, .string a0_4] 61 (0, 0)) (lb BK294) hb); have n1_ := Aside0.mk (below_step bw hb); have n2_ := Aside0.mk (hbox); have n3_ := Aside0.mk ((by rw [hg]; exact (below_size bw) : w.heap.size ≤ gb295)); have n4_ := Aside0.mk ((by rw [hg]; exact (below_size bw) : w.heap.size ≤ gb295)); have n5_ := Aside0.mk ((by rw [hg]; exact Nat.ne_of_lt (blk_lt (g := gb294) (o := .cells #[.string a0_0, .string a0_1, .string a0_2, .int .u64 a0_3, .string a0_4] 61 (0, 0)) (lb BK294)) : gb294 ≠ gb295)); have n6_ := Aside0.mk ((by rw [hg]; exact Nat.ne_of_gt (blk_lt (g := gb294) (o := .cells #[.string a0_0, .string a0_1, .string a0_2, .int .u64 a0_3, .string a0_4] 61 (0, 0)) (lb BK294)) : gb295 ≠ gb294)); clear BK294; clear HB; have BK294 := n0_; have HB := n1_; have BK295 := n2_; have GW295 := n3_; have GE295 := n4_; have NB294_295 := n5_; have NB295_294 := n6_; clear n0_ n1_ n2_ n3_ n4_ n5_ n6_; clear hb hbox hg; have hnb15 := NB294_295.out; have hnc15 := NB295_294.out; have hcz16_0 : w14.cell? ⟨gb294, 0, none⟩ = some (.string a0_0) := (blk_cell BK294.out 0).trans rfl; have hcz16_1 : w14.cell? ⟨gb294, 1, none⟩ = some (.string a0_1) := (blk_cell BK294.out 1).trans rfl; have hcz16_2 : w14.cell? ⟨gb294, 2, none⟩ = some (.string a0_2) := (blk_cell BK294.out 2).trans rfl; have hcz16_3 : w14.cell? ⟨gb294, 3, none⟩ = some (.int .u64 a0_3) := (blk_cell BK294.out 3).trans rfl; have hcz16_4 : w14.cell? ⟨gb294, 4, none⟩ = some (.string a0_4) := (blk_cell BK294.out 4).trans rfl; have hfz16_0 := blk_frozen BK294.out 0; have hfz16_1 := blk_frozen BK294.out 1; have hfz16_2 := blk_frozen BK294.out 2; have hfz16_3 := blk_frozen BK294.out 3; have hfz16_4 := blk_frozen BK294.out 4; have hcz17_0 : w14.cell? ⟨gb295, 0, none⟩ = some (.string a1_0) := (blk_cell BK295.out 0).trans rfl; have hcz17_1 : w14.cell? ⟨gb295, 1, none⟩ = some (.string a1_1) := (blk_cell BK295.out 1).trans rfl; have hcz17_2 : w14.cell? ⟨gb295, 2, none⟩ = some (.string a1_2) := (blk_cell BK295.out 2).trans rfl; have hcz17_3 : w14.cell? ⟨gb295, 3, none⟩ = some (.int .u64 a1_3) := (blk_cell BK295.out 3).trans rfl; have hcz17_4 : w14.cell? ⟨gb295, 4, none⟩ = some (.string a1_4) := (blk_cell BK295.out 4).trans rfl; have hfz17_0 := blk_frozen BK295.out 0; have hfz17_1 := blk_frozen BK295.out 1; have hfz17_2 := blk_frozen BK295.out 2; have hfz17_3 := blk_frozen BK295.out 3; have hfz17_4 := blk_frozen BK295.out 4))
      go_ret
      exact ⟨by first | rfl | (simp [errW_none, errW_some] <;> rfl) | (simp [*, errW_none, errW_some] <;> rfl), bw⟩
    ·rw [if_neg c6] at H
     have c6b0 : (a0_3 == a1_3) = false := beq_eq_false_iff_ne.mpr c6
     have c6b1 : (a0_3 != a1_3) = true := bne_iff_ne.mpr c6
     obtain rfl := Option.some.inj H
     go_enter Try.func34, Try.ntmps34
     go_wp2_with (first | ((with_reducible refine gate_dst (N := 2) rfl ?_); refine box_event ?hg (N := 2) ?hd (cs := #[.string a0_0, .string a0_1, .string a0_2, .int .u64 a0_3, .string a0_4]) (t := 61) ?hr ?_; (case hd => rfl); (case hg => rfl); (case hr => first | (go_simp; done) | (go_simp; rfl)); intro gb294 hg w18 hbox hb; have n0_ := Aside0.mk (below_step bw hb); have n1_ := Aside0.mk (hbox); have n2_ := Aside0.mk ((by rw [hg]; exact (below_size bw) : w.heap.size ≤ gb294)); have n3_ := Aside0.mk ((by rw [hg]; exact (below_size bw) : w.heap.size ≤ gb294)); clear HB; have HB := n0_; have BK294 := n1_; have GW294 := n2_; have GE294 := n3_; clear n0_ n1_ n2_ n3_; clear hb hbox hg) | ((with_reducible refine gate_dst (N := 3) rfl ?_); refine box_event ?hg (N := 3) ?hd (cs := #[.string a1_0, .string a1_1, .string a1_2, .int .u64 a1_3, .string a1_4]) (t := 61) ?hr ?_; (case hd => rfl); (case hg => rfl); (case hr => first | (go_simp; done) | (go_simp; rfl)); intro gb295 hg w19 hbox hb; have n0_ := Aside0.mk (blk_below (g := gb294) (o := .cells #[.string a0_0, .string a0_1, .string a0_2, .int .u64 a0_3, .string a0_4] 61 (0, 0)) (lb BK294) hb); have n1_ := Aside0.mk (below_step bw hb); have n2_ := Aside0.mk (hbox); have n3_ := Aside0.mk ((by rw [hg]; exact (below_size bw) : w.heap.size ≤ gb295)); have n4_ := Aside0.mk ((by rw [hg]; exact (below_size bw) : w.heap.size ≤ gb295)); have n5_ := Aside0.mk ((by rw [hg]; exact Nat.ne_of_lt (blk_lt (g := gb294) (o := .cells #[.string a0_0, .string a0_1, .string a0_2, .int .u64 a0_3, .string a0_4] 61 (0, 0)) (lb BK294)) : gb294 ≠ gb295)); have n6_ := Aside0.mk ((by rw [hg]; exact Nat.ne_of_gt (blk_lt (g := gb294) (o := .cells #[.string a0_0, .string a0_1, .string a0_2, .int .u64 a0_3, .string a0_4] 61 (0, 0)) (lb BK294)) : gb295 ≠ gb294)); clear BK294; clear HB; have BK294 := n0_; have HB := n1_; have BK295 := n2_; have GW295 := n3_; have GE295 := n4_; have NB294_295 := n5_; have NB295_294 := n6_; clear n0_ n1_ n2_ n3_ n4_ n5_ n6_; clear hb hbox hg; have hnb20 := NB294_295.out; have hnc20 := NB295_294.out; have hcz21_0 : w19.cell? ⟨gb294, 0, none⟩ = some (.string a0_0) := (blk_cell BK294.out 0).trans rfl; have hcz21_1 : w19.cell? ⟨gb294, 1, none⟩ = some (.string a0_1) := (blk_cell BK294.out 1).trans rfl; have hcz21_2 : w19.cell? ⟨gb294, 2, none⟩ = some (.string a0_2) := (blk_cell BK294.out 2).trans rfl; have hcz21_3 : w19.cell? ⟨gb294, 3, none⟩ = some (.int .u64 a0_3) := (blk_cell BK294.out 3).trans rfl; have hcz21_4 : w19.cell? ⟨gb294, 4, none⟩ = some (.string a0_4) := (blk_cell BK294.out 4).trans rfl; have hfz21_0 := blk_frozen BK294.out 0; have hfz21_1 := blk_frozen BK294.out 1; have hfz21_2 := blk_frozen BK294.out 2; have hfz21_3 := blk_frozen BK294.out 3; have hfz21_4 := blk_frozen BK294.out 4; have hcz22_0 : w19.cell? ⟨gb295, 0, none⟩ = some (.string a1_0) := (blk_cell BK295.out 0).trans rfl; have hcz22_1 : w19.cell? ⟨gb295, 1, none⟩ = some (.string a1_1) := (blk_cell BK295.out 1).trans rfl; have hcz22_2 : w19.cell? ⟨gb295, 2, none⟩ = some (.string a1_2) := (blk_cell BK295.out 2).trans rfl; have hcz22_3 : w19.cell? ⟨gb295, 3, none⟩ = some (.int .u64 a1_3) := (blk_cell BK295.out 3).trans rfl; have hcz22_4 : w19.cell? ⟨gb295, 4, none⟩ = some (.string a1_4) := (blk_cell BK295.out 4).trans rfl; have hfz22_0 := blk_frozen BK295.out 0; have hfz22_1 := blk_frozen BK295.out 1; have hfz22_2 := blk_frozen BK295.out 2; have hfz22_3 := blk_frozen BK295.out 3; have hfz22_4 := blk_frozen BK295.out 4))
     go_ret
     exact ⟨by first | rfl | (simp [errW_none, errW_some] <;> rfl) | (simp [*, errW_none, errW_some] <;> rfl), bw⟩
   ·rw [if_neg c5] at H
    have c5b0 : (a0_2.toList == a1_2.toList) = false := beq_eq_false_iff_ne.mpr c5
    have c5b1 : (a0_2.toList != a1_2.toList) = true := bne_iff_ne.mpr c5
    obtain rfl := Option.some.inj H
    go_enter Try.func34, Try.ntmps34
    go_wp2_with (first | ((with_reducible refine gate_dst (N := 2) rfl ?_); refine box_event ?hg (N := 2) ?hd (cs := #[.string a0_0, .string a0_1, .string a0_2, .int .u64 a0_3, .string a0_4]) (t := 61) ?hr ?_; (case hd => rfl); (case hg => rfl); (case hr => first | (go_simp; done) | (go_simp; rfl)); intro gb294 hg w23 hbox hb; have n0_ := Aside0.mk (below_step bw hb); have n1_ := Aside0.mk (hbox); have n2_ := Aside0.mk ((by rw [hg]; exact (below_size bw) : w.heap.size ≤ gb294)); have n3_ := Aside0.mk ((by rw [hg]; exact (below_size bw) : w.heap.size ≤ gb294)); clear HB; have HB := n0_; have BK294 := n1_; have GW294 := n2_; have GE294 := n3_; clear n0_ n1_ n2_ n3_; clear hb hbox hg) | ((with_reducible refine gate_dst (N := 3) rfl ?_); refine box_event ?hg (N := 3) ?hd (cs := #[.string a1_0, .string a1_1, .string a1_2, .int .u64 a1_3, .string a1_4]) (t := 61) ?hr ?_; (case hd => rfl); (case hg => rfl); (case hr => first | (go_simp; done) | (go_simp; rfl)); intro gb295 hg w24 hbox hb; have n0_ := Aside0.mk (blk_below (g := gb294) (o := .cells #[.string a0_0, .string a0_1, .string a0_2, .int .u64 a0_3, .string a0_4] 61 (0, 0)) (lb BK294) hb); have n1_ := Aside0.mk (below_step bw hb); have n2_ := Aside0.mk (hbox); have n3_ := Aside0.mk ((by rw [hg]; exact (below_size bw) : w.heap.size ≤ gb295)); have n4_ := Aside0.mk ((by rw [hg]; exact (below_size bw) : w.heap.size ≤ gb295)); have n5_ := Aside0.mk ((by rw [hg]; exact Nat.ne_of_lt (blk_lt (g := gb294) (o := .cells #[.string a0_0, .string a0_1, .string a0_2, .int .u64 a0_3, .string a0_4] 61 (0, 0)) (lb BK294)) : gb294 ≠ gb295)); have n6_ := Aside0.mk ((by rw [hg]; exact Nat.ne_of_gt (blk_lt (g := gb294) (o := .cells #[.string a0_0, .string a0_1, .string a0_2, .int .u64 a0_3, .string a0_4] 61 (0, 0)) (lb BK294)) : gb295 ≠ gb294)); clear BK294; clear HB; have BK294 := n0_; have HB := n1_; have BK295 := n2_; have GW295 := n3_; have GE295 := n4_; have NB294_295 := n5_; have NB295_294 := n6_; clear n0_ n1_ n2_ n3_ n4_ n5_ n6_; clear hb hbox hg; have hnb25 := NB294_295.out; have hnc25 := NB295_294.out; have hcz26_0 : w24.cell? ⟨gb294, 0, none⟩ = some (.string a0_0) := (blk_cell BK294.out 0).trans rfl; have hcz26_1 : w24.cell? ⟨gb294, 1, none⟩ = some (.string a0_1) := (blk_cell BK294.out 1).trans rfl; have hcz26_2 : w24.cell? ⟨gb294, 2, none⟩ = some (.string a0_2) := (blk_cell BK294.out 2).trans rfl; have hcz26_3 : w24.cell? ⟨gb294, 3, none⟩ = some (.int .u64 a0_3) := (blk_cell BK294.out 3).trans rfl; have hcz26_4 : w24.cell? ⟨gb294, 4, none⟩ = some (.string a0_4) := (blk_cell BK294.out 4).trans rfl; have hfz26_0 := blk_frozen BK294.out 0; have hfz26_1 := blk_frozen BK294.out 1; have hfz26_2 := blk_frozen BK294.out 2; have hfz26_3 := blk_frozen BK294.out 3; have hfz26_4 := blk_frozen BK294.out 4; have hcz27_0 : w24.cell? ⟨gb295, 0, none⟩ = some (.string a1_0) := (blk_cell BK295.out 0).trans rfl; have hcz27_1 : w24.cell? ⟨gb295, 1, none⟩ = some (.string a1_1) := (blk_cell BK295.out 1).trans rfl; have hcz27_2 : w24.cell? ⟨gb295, 2, none⟩ = some (.string a1_2) := (blk_cell BK295.out 2).trans rfl; have hcz27_3 : w24.cell? ⟨gb295, 3, none⟩ = some (.int .u64 a1_3) := (blk_cell BK295.out 3).trans rfl; have hcz27_4 : w24.cell? ⟨gb295, 4, none⟩ = some (.string a1_4) := (blk_cell BK295.out 4).trans rfl; have hfz27_0 := blk_frozen BK295.out 0; have hfz27_1 := blk_frozen BK295.out 1; have hfz27_2 := blk_frozen BK295.out 2; have hfz27_3 := blk_frozen BK295.out 3; have hfz27_4 := blk_frozen BK295.out 4))
    go_ret
    exact ⟨by first | rfl | (simp [errW_none, errW_some] <;> rfl) | (simp [*, errW_none, errW_some] <;> rfl), bw⟩
  ·rw [if_neg c4] at H
   have c4b0 : (a0_1.toList == a1_1.toList) = false := beq_eq_false_iff_ne.mpr c4
   have c4b1 : (a0_1.toList != a1_1.toList) = true := bne_iff_ne.mpr c4
   obtain rfl := Option.some.inj H
   go_enter Try.func34, Try.ntmps34
   go_wp2_with (first | ((with_reducible refine gate_dst (N := 2) rfl ?_); refine box_event ?hg (N := 2) ?hd (cs := #[.string a0_0, .string a0_1, .string a0_2, .int .u64 a0_3, .string a0_4]) (t := 61) ?hr ?_; (case hd => rfl); (case hg => rfl); (case hr => first | (go_simp; done) | (go_simp; rfl)); intro gb294 hg w28 hbox hb; have n0_ := Aside0.mk (below_step bw hb); have n1_ := Aside0.mk (hbox); have n2_ := Aside0.mk ((by rw [hg]; exact (below_size bw) : w.heap.size ≤ gb294)); have n3_ := Aside0.mk ((by rw [hg]; exact (below_size bw) : w.heap.size ≤ gb294)); clear HB; have HB := n0_; have BK294 := n1_; have GW294 := n2_; have GE294 := n3_; clear n0_ n1_ n2_ n3_; clear hb hbox hg) | ((with_reducible refine gate_dst (N := 3) rfl ?_); refine box_event ?hg (N := 3) ?hd (cs := #[.string a1_0, .string a1_1, .string a1_2, .int .u64 a1_3, .string a1_4]) (t := 61) ?hr ?_; (case hd => rfl); (case hg => rfl); (case hr => first | (go_simp; done) | (go_simp; rfl)); intro gb295 hg w29 hbox hb; have n0_ := Aside0.mk (blk_below (g := gb294) (o := .cells #[.string a0_0, .string a0_1, .string a0_2, .int .u64 a0_3, .string a0_4] 61 (0, 0)) (lb BK294) hb); have n1_ := Aside0.mk (below_step bw hb); have n2_ := Aside0.mk (hbox); have n3_ := Aside0.mk ((by rw [hg]; exact (below_size bw) : w.heap.size ≤ gb295)); have n4_ := Aside0.mk ((by rw [hg]; exact (below_size bw) : w.heap.size ≤ gb295)); have n5_ := Aside0.mk ((by rw [hg]; exact Nat.ne_of_lt (blk_lt (g := gb294) (o := .cells #[.string a0_0, .string a0_1, .string a0_2, .int .u64 a0_3, .string a0_4] 61 (0, 0)) (lb BK294)) : gb294 ≠ gb295)); have n6_ := Aside0.mk ((by rw [hg]; exact Nat.ne_of_gt (blk_lt (g := gb294) (o := .cells #[.string a0_0, .string a0_1, .string a0_2, .int .u64 a0_3, .string a0_4] 61 (0, 0)) (lb BK294)) : gb295 ≠ gb294)); clear BK294; clear HB; have BK294 := n0_; have HB := n1_; have BK295 := n2_; have GW295 := n3_; have GE295 := n4_; have NB294_295 := n5_; have NB295_294 := n6_; clear n0_ n1_ n2_ n3_ n4_ n5_ n6_; clear hb hbox hg; have hnb30 := NB294_295.out; have hnc30 := NB295_294.out; have hcz31_0 : w29.cell? ⟨gb294, 0, none⟩ = some (.string a0_0) := (blk_cell BK294.out 0).trans rfl; have hcz31_1 : w29.cell? ⟨gb294, 1, none⟩ = some (.string a0_1) := (blk_cell BK294.out 1).trans rfl; have hcz31_2 : w29.cell? ⟨gb294, 2, none⟩ = some (.string a0_2) := (blk_cell BK294.out 2).trans rfl; have hcz31_3 : w29.cell? ⟨gb294, 3, none⟩ = some (.int .u64 a0_3) := (blk_cell BK294.out 3).trans rfl; have hcz31_4 : w29.cell? ⟨gb294, 4, none⟩ = some (.string a0_4) := (blk_cell BK294.out 4).trans rfl; have hfz31_0 := blk_frozen BK294.out 0; have hfz31_1 := blk_frozen BK294.out 1; have hfz31_2 := blk_frozen BK294.out 2; have hfz31_3 := blk_frozen BK294.out 3; have hfz31_4 := blk_frozen BK294.out 4; have hcz32_0 : w29.cell? ⟨gb295, 0, none⟩ = some (.string a1_0) := (blk_cell BK295.out 0).trans rfl; have hcz32_1 : w29.cell? ⟨gb295, 1, none⟩ = some (.string a1_1) := (blk_cell BK295.out 1).trans rfl; have hcz32_2 : w29.cell? ⟨gb295, 2, none⟩ = some (.string a1_2) := (blk_cell BK295.out 2).trans rfl; have hcz32_3 : w29.cell? ⟨gb295, 3, none⟩ = some (.int .u64 a1_3) := (blk_cell BK295.out 3).trans rfl; have hcz32_4 : w29.cell? ⟨gb295, 4, none⟩ = some (.string a1_4) := (blk_cell BK295.out 4).trans rfl; have hfz32_0 := blk_frozen BK295.out 0; have hfz32_1 := blk_frozen BK295.out 1; have hfz32_2 := blk_frozen BK295.out 2; have hfz32_3 := blk_frozen BK295.out 3; have hfz32_4 := blk_frozen BK295.out 4))
   go_ret
   exact ⟨by first | rfl | (simp [errW_none, errW_some] <;> rfl) | (simp [*, errW_none, errW_some] <;> rfl), bw⟩
 ·rw [if_neg c3] at H
  have c3b0 : (a0_0.toList == a1_0.toList) = false := beq_eq_false_iff_ne.mpr c3
  have c3b1 : (a0_0.toList != a1_0.toList) = true := bne_iff_ne.mpr c3
  obtain rfl := Option.some.inj H
  go_enter Try.func34, Try.ntmps34
  go_wp2_with (first | ((with_reducible refine gate_dst (N := 2) rfl ?_); refine box_event ?hg (N := 2) ?hd (cs := #[.string a0_0, .string a0_1, .string a0_2, .int .u64 a0_3, .string a0_4]) (t := 61) ?hr ?_; (case hd => rfl); (case hg => rfl); (case hr => first | (go_simp; done) | (go_simp; rfl)); intro gb294 hg w33 hbox hb; have n0_ := Aside0.mk (below_step bw hb); have n1_ := Aside0.mk (hbox); have n2_ := Aside0.mk ((by rw [hg]; exact (below_size bw) : w.heap.size ≤ gb294)); have n3_ := Aside0.mk ((by rw [hg]; exact (below_size bw) : w.heap.size ≤ gb294)); clear HB; have HB := n0_; have BK294 := n1_; have GW294 := n2_; have GE294 := n3_; clear n0_ n1_ n2_ n3_; clear hb hbox hg) | ((with_reducible refine gate_dst (N := 3) rfl ?_); refine box_event ?hg (N := 3) ?hd (cs := #[.string a1_0, .string a1_1, .string a1_2, .int .u64 a1_3, .string a1_4]) (t := 61) ?hr ?_; (case hd => rfl); (case hg => rfl); (case hr => first | (go_simp; done) | (go_simp; rfl)); intro gb295 hg w34 hbox hb; have n0_ := Aside0.mk (blk_below (g := gb294) (o := .cells #[.string a0_0, .string a0_1, .string a0_2, .int .u64 a0_3, .string a0_4] 61 (0, 0)) (lb BK294) hb); have n1_ := Aside0.mk (below_step bw hb); have n2_ := Aside0.mk (hbox); have n3_ := Aside0.mk ((by rw [hg]; exact (below_size bw) : w.heap.size ≤ gb295)); have n4_ := Aside0.mk ((by rw [hg]; exact (below_size bw) : w.heap.size ≤ gb295)); have n5_ := Aside0.mk ((by rw [hg]; exact Nat.ne_of_lt (blk_lt (g := gb294) (o := .cells #[.string a0_0, .string a0_1, .string a0_2, .int .u64 a0_3, .string a0_4] 61 (0, 0)) (lb BK294)) : gb294 ≠ gb295)); have n6_ := Aside0.mk ((by rw [hg]; exact Nat.ne_of_gt (blk_lt (g := gb294) (o := .cells #[.string a0_0, .string a0_1, .string a0_2, .int .u64 a0_3, .string a0_4] 61 (0, 0)) (lb BK294)) : gb295 ≠ gb294)); clear BK294; clear HB; have BK294 := n0_; have HB := n1_; have BK295 := n2_; have GW295 := n3_; have GE295 := n4_; have NB294_295 := n5_; have NB295_294 := n6_; clear n0_ n1_ n2_ n3_ n4_ n5_ n6_; clear hb hbox hg; have hnb35 := NB294_295.out; have hnc35 := NB295_294.out; have hcz36_0 : w34.cell? ⟨gb294, 0, none⟩ = some (.string a0_0) := (blk_cell BK294.out 0).trans rfl; have hcz36_1 : w34.cell? ⟨gb294, 1, none⟩ = some (.string a0_1) := (blk_cell BK294.out 1).trans rfl; have hcz36_2 : w34.cell? ⟨gb294, 2, none⟩ = some (.string a0_2) := (blk_cell BK294.out 2).trans rfl; have hcz36_3 : w34.cell? ⟨gb294, 3, none⟩ = some (.int .u64 a0_3) := (blk_cell BK294.out 3).trans rfl; have hcz36_4 : w34.cell? ⟨gb294, 4, none⟩ = some (.string a0_4) := (blk_cell BK294.out 4).trans rfl; have hfz36_0 := blk_frozen BK294.out 0; have hfz36_1 := blk_frozen BK294.out 1; have hfz36_2 := blk_frozen BK294.out 2; have hfz36_3 := blk_frozen BK294.out 3; have hfz36_4 := blk_frozen BK294.out 4; have hcz37_0 : w34.cell? ⟨gb295, 0, none⟩ = some (.string a1_0) := (blk_cell BK295.out 0).trans rfl; have hcz37_1 : w34.cell? ⟨gb295, 1, none⟩ = some (.string a1_1) := (blk_cell BK295.out 1).trans rfl; have hcz37_2 : w34.cell? ⟨gb295, 2, none⟩ = some (.string a1_2) := (blk_cell BK295.out 2).trans rfl; have hcz37_3 : w34.cell? ⟨gb295, 3, none⟩ = some (.int .u64 a1_3) := (blk_cell BK295.out 3).trans rfl; have hcz37_4 : w34.cell? ⟨gb295, 4, none⟩ = some (.string a1_4) := (blk_cell BK295.out 4).trans rfl; have hfz37_0 := blk_frozen BK295.out 0; have hfz37_1 := blk_frozen BK295.out 1; have hfz37_2 := blk_frozen BK295.out 2; have hfz37_3 := blk_frozen BK295.out 3; have hfz37_4 := blk_frozen BK295.out 4))
  go_ret
  exact ⟨by first | rfl | (simp [errW_none, errW_some] <;> rfl) | (simp [*, errW_none, errW_some] <;> rfl), bw⟩

end Go.Proofs.Ytmaildoddeimbaa.Q

namespace Go.Proofs.Ytmaildoddeimbaa.Q
open Go.RowKit Go.Proofs.YtmaildoddeimbaaW.PrintWords Go.Proofs.YtmaildoddeimbaaW.PrintLast Go.Proofs.YtmaildoddeimbaaW.PrintMore
set_option linter.unusedVariables false
set_option linter.unusedSimpArgs false

/-! ### laws_eqCellS: function 16 -/
def laws_eqCellS.l0 : Nat → List (S61) → List (S61) → Int → Option (Bool)
 | 0, _, _, _ => none
 | k + 1, x0, x1, x5 => if x5 < (x0.length : Int) then (if 0 ≤ x5 then (if x5 < (x1.length : Int) then ((laws_eqCell.f ((rd_T61 x0 x5).f0) ((rd_T61 x0 x5).f1) ((rd_T61 x0 x5).f2) ((rd_T61 x0 x5).f3) ((rd_T61 x0 x5).f4) ((rd_T61 x1 x5).f0) ((rd_T61 x1 x5).f1) ((rd_T61 x1 x5).f2) ((rd_T61 x1 x5).f3) ((rd_T61 x1 x5).f4)).bind fun t298 => (if t298 = true then (laws_eqCellS.l0 k x0 x1 (wrap64 (x5 + 1))) else (some false))) else (none)) else (none)) else (some true)
def laws_eqCellS.f (k : Nat) (l0 : List (S61)) (l1 : List (S61)) : Option (Bool) := if (l0.length : Int) = (l1.length : Int) then (laws_eqCellS.l0 k l0 l1 0) else (some false)
def laws_eqCellS.T6 : Bool × List (List Nat × List Nat) := (true, [([], []), ([], []), ([0, 1], [0, 1]), ([2], [2]), ([], []), ([], []), ([4, 5], [4, 5]), ([6], [6]), ([3, 7], [3, 7]), ([8], [8])])
def laws_eqCellS.B6 : List Nat := [0, 0, 3, 7, 0, 0, 48, 112, 255, 511]
theorem laws_eqCellS.tab6 : rtab .any (opsOf Try.f16 6) = laws_eqCellS.T6 := by kernel_rfl
theorem laws_eqCellS.bits6 : waitsOk laws_eqCellS.T6.2 laws_eqCellS.B6 = true := by kernel_rfl
set_option maxHeartbeats 8000000 in
set_option maxRecDepth 100000 in
theorem laws_eqCellS.calls (k : Nat) (A0 : Option Addr) (c0 : Nat) (l0 : List (S61)) (A1 : Option Addr) (c1 : Nat) (l1 : List (S61)) (r : Bool) (w : World) (hr0 : Kd.C k61 w A0 l0.length l0) (hc0 : l0.length ≤ c0) (hr1 : Kd.C k61 w A1 l1.length l1) (hc1 : l1.length ≤ c1) (h : laws_eqCellS.f k l0 l1 = some r) :
  Calls Try.prog 16 #[.slice A0 l0.length c0, .slice A1 l1.length c1] w fun e w' => e = .returned (.bool r) ∧ Below w.heap.size w w' := by
 have hu61 := Try.underlying61
 have HR0 := Aside0.mk hr0
 have HC0 := Aside0.mk hc0
 clear hr0 hc0
 have HR1 := Aside0.mk hr1
 have HC1 := Aside0.mk hc1
 clear hr1 hc1
 have HB := Aside0.mk (Below.refl w.heap.size w)
 have H : (if (l0.length : Int) = (l1.length : Int) then (laws_eqCellS.l0 k l0 l1 0) else (some false)) = some r := h
 clear h
 by_cases c3 : (l0.length : Int) = (l1.length : Int)
 ·rw [if_pos c3] at H
  have c3b0 : ((l0.length : Int) == (l1.length : Int)) = true := beq_iff_eq.mpr c3
  have c3b1 : ((l0.length : Int) != (l1.length : Int)) = false := bne_eq_false_iff_eq.mpr c3
  have c3b2 : (l0.length == l1.length) = true := by first | simpa using c3 | (simp at c3 ⊢; omega)
  clear c3
  have H' := Aside0.mk H
  clear H
  go_enter Try.func16, Try.ntmps16
  go_wp2
  go_loopg [5] k (fun kq v5 w' => ∃ (x5_1 : Int), v5 = .int .i64 x5_1 ∧ Aside0 (laws_eqCellS.l0 kq l0 l1 x5_1 = some r) ∧ Aside0 (kq ≤ k) ∧ Aside0 (Below w.heap.size w w'))
  case atStart => exact ⟨(0), (by first | rfl | (simp; done) | (simp [*]; done)), H', ⟨Nat.le_refl _⟩, ⟨bw⟩⟩
  case round =>
   clear H'
   try clear c1
   try clear p2
   try clear c3
   try clear c3b0
   try clear c3b1
   try clear c3b2
   obtain ⟨x5_1, rfl, HA, HK1, HB⟩ := hrel
   cases gk with
   | zero => exact absurd HA.out (by simp [laws_eqCellS.l0])
   | succ k1 =>
    have H := HA.out
    clear HA
    simp only [laws_eqCellS.l0] at H
    by_cases c4 : x5_1 < (l0.length : Int)
    ·rw [if_pos c4] at H
     have c4b0 : decide (x5_1 < (l0.length : Int)) = true := decide_eq_true c4
     clear c4
     by_cases c5 : 0 ≤ x5_1
     ·rw [if_pos c5] at H
      have c5b0 : decide (0 ≤ x5_1) = true := decide_eq_true c5
      clear c5
      by_cases c6 : x5_1 < (l1.length : Int)
      ·rw [if_pos c6] at H
       have c6b0 : decide (x5_1 < (l1.length : Int)) = true := decide_eq_true c6
       clear c6
       replace H := Option.bind_eq_some_iff.mp H
       obtain ⟨t298, A70, H⟩ := H
       replace H : (if t298 = true then (laws_eqCellS.l0 k1 l0 l1 (wrap64 (x5_1 + 1))) else (some false)) = some r := H
       have A7 := Aside0.mk A70
       clear A70
       by_cases c8 : t298 = true
       ·subst c8
        have H1 : (laws_eqCellS.l0 k1 l0 l1 (wrap64 (x5_1 + 1))) = some r := by rw [if_pos rfl] at H; exact H
        clear H
        have H := H1
        clear H1
        have H' := Aside0.mk H
        clear H
        try go_wp2
        have n0_ := Aside0.mk (below_drew1 HB.out)
        clear HB
        have HB := n0_
        clear n0_
        have p296 : 0 ≤ (x5_1 : Int) := of_decide_eq_true (by first | (with_reducible assumption) | assumption)
        have q296 : x5_1 < (l0.length : Int) := of_decide_eq_true (by first | (with_reducible assumption) | assumption)
        obtain ⟨ad296, e296, hx296_0, hx296_1, hx296_2, hx296_3, hx296_4⟩ := at_T61 HR0.out x5_1 p296 q296
        have hw296_4 := hx296_4
        have hw296_3 := hx296_3
        have hw296_2 := hx296_2
        have hw296_1 := hx296_1
        have hw296_0 := hx296_0
        cases e296
        replace hx296_0 := (HB.out.cell (World.block_lt_of_cell? w _ hx296_0)).trans hx296_0
        replace hx296_1 := (HB.out.cell (World.block_lt_of_cell? w _ hx296_1)).trans hx296_1
        replace hx296_2 := (HB.out.cell (World.block_lt_of_cell? w _ hx296_2)).trans hx296_2
        replace hx296_3 := (HB.out.cell (World.block_lt_of_cell? w _ hx296_3)).trans hx296_3
        replace hx296_4 := (HB.out.cell (World.block_lt_of_cell? w _ hx296_4)).trans hx296_4
        replace p296 := eq_true p296
        replace q296 := eq_true q296
        have p297 : 0 ≤ (x5_1 : Int) := of_decide_eq_true (by first | (with_reducible assumption) | assumption)
        have q297 : x5_1 < (l1.length : Int) := of_decide_eq_true (by first | (with_reducible assumption) | assumption)
        obtain ⟨ad297, e297, hx297_0, hx297_1, hx297_2, hx297_3, hx297_4⟩ := at_T61 HR1.out x5_1 p297 q297
        have hw297_4 := hx297_4
        have hw297_3 := hx297_3
        have hw297_2 := hx297_2
        have hw297_1 := hx297_1
        have hw297_0 := hx297_0
        cases e297
        replace hx297_0 := (HB.out.cell (World.block_lt_of_cell? w _ hx297_0)).trans hx297_0
        replace hx297_1 := (HB.out.cell (World.block_lt_of_cell? w _ hx297_1)).trans hx297_1
        replace hx297_2 := (HB.out.cell (World.block_lt_of_cell? w _ hx297_2)).trans hx297_2
        replace hx297_3 := (HB.out.cell (World.block_lt_of_cell? w _ hx297_3)).trans hx297_3
        replace hx297_4 := (HB.out.cell (World.block_lt_of_cell? w _ hx297_4)).trans hx297_4
        replace p297 := eq_true p297
        replace q297 := eq_true q297
        refine start_ (n := 10) (S := fun w' => w'.cell? (ad296.add ((x5_1).toNat * 5)) = some (.string ((rd_T61 l0 x5_1).f0)) ∧ w'.cell? ⟨(ad296.add ((x5_1).toNat * 5)).block, (ad296.add ((x5_1).toNat * 5)).off + 1, none⟩ = some (.string ((rd_T61 l0 x5_1).f1)) ∧ w'.cell? ⟨(ad296.add ((x5_1).toNat * 5)).block, (ad296.add ((x5_1).toNat * 5)).off + 2, none⟩ = some (.string ((rd_T61 l0 x5_1).f2)) ∧ w'.cell? ⟨(ad296.add ((x5_1).toNat * 5)).block, (ad296.add ((x5_1).toNat * 5)).off + 3, none⟩ = some (.int .u64 ((rd_T61 l0 x5_1).f3)) ∧ w'.cell? ⟨(ad296.add ((x5_1).toNat * 5)).block, (ad296.add ((x5_1).toNat * 5)).off + 4, none⟩ = some (.string ((rd_T61 l0 x5_1).f4)) ∧ w'.cell? (ad297.add ((x5_1).toNat * 5)) = some (.string ((rd_T61 l1 x5_1).f0)) ∧ w'.cell? ⟨(ad297.add ((x5_1).toNat * 5)).block, (ad297.add ((x5_1).toNat * 5)).off + 1, none⟩ = some (.string ((rd_T61 l1 x5_1).f1)) ∧ w'.cell? ⟨(ad297.add ((x5_1).toNat * 5)).block, (ad297.add ((x5_1).toNat * 5)).off + 2, none⟩ = some (.string ((rd_T61 l1 x5_1).f2)) ∧ w'.cell? ⟨(ad297.add ((x5_1).toNat * 5)).block, (ad297.add ((x5_1).toNat * 5)).off + 3, none⟩ = some (.int .u64 ((rd_T61 l1 x5_1).f3)) ∧ w'.cell? ⟨(ad297.add ((x5_1).toNat * 5)).block, (ad297.add ((x5_1).toNat * 5)).off + 4, none⟩ = some (.string ((rd_T61 l1 x5_1).f4))) (ds := []) #[false, false, false, false, false, false, false, false, false, false] (by kernel_rfl) rfl rfl ⟨((HB.out.cell (World.block_lt_of_cell? w _ hw296_0)).trans hw296_0), ((HB.out.cell (World.block_lt_of_cell? w _ hw296_1)).trans hw296_1), ((HB.out.cell (World.block_lt_of_cell? w _ hw296_2)).trans hw296_2), ((HB.out.cell (World.block_lt_of_cell? w _ hw296_3)).trans hw296_3), ((HB.out.cell (World.block_lt_of_cell? w _ hw296_4)).trans hw296_4), ((HB.out.cell (World.block_lt_of_cell? w _ hw297_0)).trans hw297_0), ((HB.out.cell (World.block_lt_of_cell? w _ hw297_1)).trans hw297_1), ((HB.out.cell (World.block_lt_of_cell? w _ hw297_2)).trans hw297_2), ((HB.out.cell (World.block_lt_of_cell? w _ hw297_3)).trans hw297_3), ((HB.out.cell (World.block_lt_of_cell? w _ hw297_4)).trans hw297_4)⟩ (fun hHeld => ?_); refine with_tabW laws_eqCellS.tab6 laws_eqCellS.bits6 (fun HT_ HW_ => ?_)
        generalize wr.drew = w9 at HB hx296_0 hx296_1 hx296_2 hx296_3 hx296_4 hx297_0 hx297_1 hx297_2 hx297_3 hx297_4 hHeld ⊢
        refine pure_ (i := 0) (N := some 17) (v := ?_) (a' := ?_) #[true, false, false, false, false, false, false, false, false, false] rfl rfl (any_of HT_.out (by kernel_rfl)) (fun _ _ _ h => h) (Or.inl ⟨by rfl, ?_⟩) ?_ ?_
        rotate_left
        ·intro w'
         go_simp
         with_reducible rfl
        rotate_left
        ·simp only [Act.put, List.setIfInBounds_toArray, List.set_cons_zero, List.set_cons_succ, i64_w, i32_w]
         rfl
        refine pure_ (i := 1) (N := some 18) (v := ?_) (a' := ?_) #[true, true, false, false, false, false, false, false, false, false] rfl rfl (any_of HT_.out (by kernel_rfl)) (fun _ _ _ h => h) (Or.inl ⟨by rfl, ?_⟩) ?_ ?_
        rotate_left
        ·intro w'
         go_simp
         with_reducible rfl
        rotate_left
        ·simp only [Act.put, List.setIfInBounds_toArray, List.set_cons_zero, List.set_cons_succ, i64_w, i32_w]
         rfl
        refine pure_ (i := 2) (N := some 19) (v := ?_) (a' := ?_) #[true, true, true, false, false, false, false, false, false, false] rfl rfl (any_of HT_.out (by kernel_rfl)) (fun _ _ _ h => h) (Or.inl ⟨by rfl, ?_⟩) ?_ ?_
        rotate_left
        ·intro w'
         go_simp
         with_reducible rfl
        rotate_left
        ·simp only [Act.put, List.setIfInBounds_toArray, List.set_cons_zero, List.set_cons_succ, i64_w, i32_w]
         rfl
        refine pure_ (i := 4) (N := some 21) (v := ?_) (a' := ?_) #[true, true, true, false, true, false, false, false, false, false] rfl rfl (any_of HT_.out (by kernel_rfl)) (fun _ _ _ h => h) (Or.inl ⟨by rfl, ?_⟩) ?_ ?_
        rotate_left
        ·intro w'
         go_simp
         with_reducible rfl
        rotate_left
        ·simp only [Act.put, List.setIfInBounds_toArray, List.set_cons_zero, List.set_cons_succ, i64_w, i32_w]
         rfl
        refine pure_ (i := 5) (N := some 22) (v := ?_) (a' := ?_) #[true, true, true, false, true, true, false, false, false, false] rfl rfl (any_of HT_.out (by kernel_rfl)) (fun _ _ _ h => h) (Or.inl ⟨by rfl, ?_⟩) ?_ ?_
        rotate_left
        ·intro w'
         go_simp
         with_reducible rfl
        rotate_left
        ·simp only [Act.put, List.setIfInBounds_toArray, List.set_cons_zero, List.set_cons_succ, i64_w, i32_w]
         rfl
        refine pure_ (i := 6) (N := some 23) (v := ?_) (a' := ?_) #[true, true, true, false, true, true, true, false, false, false] rfl rfl (any_of HT_.out (by kernel_rfl)) (fun _ _ _ h => h) (Or.inl ⟨by rfl, ?_⟩) ?_ ?_
        rotate_left
        ·intro w'
         go_simp
         with_reducible rfl
        rotate_left
        ·simp only [Act.put, List.setIfInBounds_toArray, List.set_cons_zero, List.set_cons_succ, i64_w, i32_w]
         rfl
        refine take_ (i := 3) (N := some 20) (v := ?_) (a' := ?_) #[true, true, true, true, true, true, true, false, false, false] rfl rfl (take_ofW HT_.out HW_.out (by kernel_rfl)) (fun _ _ _ h => h) (Or.inl ⟨by rfl, ?_⟩) hHeld ?_ ?_
        rotate_left
        ·rintro w' ⟨s0, s1, s2, s3, s4, s5, s6, s7, s8, s9⟩
         go_simp
         with_reducible rfl
        rotate_left
        ·simp only [Act.put, List.setIfInBounds_toArray, List.set_cons_zero, List.set_cons_succ, i64_w, i32_w]
         rfl
        refine take_ (i := 7) (N := some 24) (v := ?_) (a' := ?_) #[true, true, true, true, true, true, true, true, false, false] rfl rfl (take_ofW HT_.out HW_.out (by kernel_rfl)) (fun _ _ _ h => h) (Or.inl ⟨by rfl, ?_⟩) hHeld ?_ ?_
        rotate_left
        ·rintro w' ⟨s0, s1, s2, s3, s4, s5, s6, s7, s8, s9⟩
         go_simp
         with_reducible rfl
        rotate_left
        ·simp only [Act.put, List.setIfInBounds_toArray, List.set_cons_zero, List.set_cons_succ, i64_w, i32_w]
         rfl
        refine one_ (i := 8) (N := some 25) #[true, true, true, true, true, true, true, true, true, false] rfl rfl (one_of HT_.out (by kernel_rfl)) (by decide) (fun K hK => ?_)
        refine goes_ Try.func34 (by kernel_rfl) rfl #[.agg #[.string ((rd_T61 l0 x5_1).f0), .string ((rd_T61 l0 x5_1).f1), .string ((rd_T61 l0 x5_1).f2), .int .u64 ((rd_T61 l0 x5_1).f3), .string ((rd_T61 l0 x5_1).f4)], .agg #[.string ((rd_T61 l1 x5_1).f0), .string ((rd_T61 l1 x5_1).f1), .string ((rd_T61 l1 x5_1).f2), .int .u64 ((rd_T61 l1 x5_1).f3), .string ((rd_T61 l1 x5_1).f4)]] (by rfl) rfl rfl (by (try simp only [List.map_toArray, List.map_cons, List.map_nil]); first | done | rfl | (simp only [List.length_drop, List.length_take]; rfl)) ?_
        with_reducible refine (laws_eqCell.calls ((rd_T61 l0 x5_1).f0) ((rd_T61 l0 x5_1).f1) ((rd_T61 l0 x5_1).f2) ((rd_T61 l0 x5_1).f3) ((rd_T61 l0 x5_1).f4) ((rd_T61 l1 x5_1).f0) ((rd_T61 l1 x5_1).f1) ((rd_T61 l1 x5_1).f2) ((rd_T61 l1 x5_1).f3) ((rd_T61 l1 x5_1).f4) true _ A7.out).mono ?_
        rintro e w10 ⟨rfl, hb⟩
        refine ⟨_, rfl, ?_⟩
        have n0_ := Aside0.mk (below_step bw hb)
        clear HB
        have HB := n0_
        clear n0_
        (try clear hb)
        (try clear hb2)
        (try clear hk)
        (try clear hi)
        refine hK.out _ _ ⟨((HB.out.cell (World.block_lt_of_cell? w _ hw296_0)).trans hw296_0), ((HB.out.cell (World.block_lt_of_cell? w _ hw296_1)).trans hw296_1), ((HB.out.cell (World.block_lt_of_cell? w _ hw296_2)).trans hw296_2), ((HB.out.cell (World.block_lt_of_cell? w _ hw296_3)).trans hw296_3), ((HB.out.cell (World.block_lt_of_cell? w _ hw296_4)).trans hw296_4), ((HB.out.cell (World.block_lt_of_cell? w _ hw297_0)).trans hw297_0), ((HB.out.cell (World.block_lt_of_cell? w _ hw297_1)).trans hw297_1), ((HB.out.cell (World.block_lt_of_cell? w _ hw297_2)).trans hw297_2), ((HB.out.cell (World.block_lt_of_cell? w _ hw297_3)).trans hw297_3), ((HB.out.cell (World.block_lt_of_cell? w _ hw297_4)).trans hw297_4)⟩ (fun hHeld => ?_)
        clear hK K
        refine norm_ (a' := ?_) ?_ ?_
        rotate_left
        ·show Act.put _ (some 25) _ = _
         simp only [Act.put, List.setIfInBounds_toArray, List.set_cons_zero, List.set_cons_succ, i64_w, i32_w]
         rfl
        refine pure_ (i := 9) (N := some 26) (v := ?_) (a' := ?_) #[true, true, true, true, true, true, true, true, true, true] rfl rfl (any_of HT_.out (by kernel_rfl)) (fun _ _ _ h => h) (Or.inl ⟨by rfl, ?_⟩) ?_ ?_
        rotate_left
        ·intro w'
         go_simp
         with_reducible rfl
        rotate_left
        ·simp only [Act.put, List.setIfInBounds_toArray, List.set_cons_zero, List.set_cons_succ, i64_w, i32_w]
         rfl
        refine done_ (done_of HT_.out (by kernel_rfl)) ?_
        try go_wp2
        go_roundg k1
        case measure => have := HK1.out; omega
        case rel => exact ⟨(wrap64 (x5_1 + 1)), (by first | rfl | (simp; done) | (simp [*]; done)), H', ⟨by have := HK1.out; omega⟩, ⟨bw⟩⟩
       ·replace c8 := Bool.eq_false_iff.mpr c8
        subst c8
        have H1 : (some false) = some r := by rw [if_neg (show ¬ (false = true) by decide)] at H; exact H
        clear H
        have H := H1
        clear H1
        obtain rfl := Option.some.inj H
        try go_wp2
        have n0_ := Aside0.mk (below_drew1 HB.out)
        clear HB
        have HB := n0_
        clear n0_
        have p296 : 0 ≤ (x5_1 : Int) := of_decide_eq_true (by first | (with_reducible assumption) | assumption)
        have q296 : x5_1 < (l0.length : Int) := of_decide_eq_true (by first | (with_reducible assumption) | assumption)
        obtain ⟨ad296, e296, hx296_0, hx296_1, hx296_2, hx296_3, hx296_4⟩ := at_T61 HR0.out x5_1 p296 q296
        have hw296_4 := hx296_4
        have hw296_3 := hx296_3
        have hw296_2 := hx296_2
        have hw296_1 := hx296_1
        have hw296_0 := hx296_0
        cases e296
        replace hx296_0 := (HB.out.cell (World.block_lt_of_cell? w _ hx296_0)).trans hx296_0
        replace hx296_1 := (HB.out.cell (World.block_lt_of_cell? w _ hx296_1)).trans hx296_1
        replace hx296_2 := (HB.out.cell (World.block_lt_of_cell? w _ hx296_2)).trans hx296_2
        replace hx296_3 := (HB.out.cell (World.block_lt_of_cell? w _ hx296_3)).trans hx296_3
        replace hx296_4 := (HB.out.cell (World.block_lt_of_cell? w _ hx296_4)).trans hx296_4
        replace p296 := eq_true p296
        replace q296 := eq_true q296
        have p297 : 0 ≤ (x5_1 : Int) := of_decide_eq_true (by first | (with_reducible assumption) | assumption)
        have q297 : x5_1 < (l1.length : Int) := of_decide_eq_true (by first | (with_reducible assumption) | assumption)
        obtain ⟨ad297, e297, hx297_0, hx297_1, hx297_2, hx297_3, hx297_4⟩ := at_T61 HR1.out x5_1 p297 q297
        have hw297_4 := hx297_4
        have hw297_3 := hx297_3
        have hw297_2 := hx297_2
        have hw297_1 := hx297_1
        have hw297_0 := hx297_0
        cases e297
        replace hx297_0 := (HB.out.cell (World.block_lt_of_cell? w _ hx297_0)).trans hx297_0
        replace hx297_1 := (HB.out.cell (World.block_lt_of_cell? w _ hx297_1)).trans hx297_1
        replace hx297_2 := (HB.out.cell (World.block_lt_of_cell? w _ hx297_2)).trans hx297_2
        replace hx297_3 := (HB.out.cell (World.block_lt_of_cell? w _ hx297_3)).trans hx297_3
        replace hx297_4 := (HB.out.cell (World.block_lt_of_cell? w _ hx297_4)).trans hx297_4
        replace p297 := eq_true p297
        replace q297 := eq_true q297
        refine start_ (n := 10) (S := fun w' => w'.cell? (ad296.add ((x5_1).toNat * 5)) = some (.string ((rd_T61 l0 x5_1).f0)) ∧ w'.cell? ⟨(ad296.add ((x5_1).toNat * 5)).block, (ad296.add ((x5_1).toNat * 5)).off + 1, none⟩ = some (.string ((rd_T61 l0 x5_1).f1)) ∧ w'.cell? ⟨(ad296.add ((x5_1).toNat * 5)).block, (ad296.add ((x5_1).toNat * 5)).off + 2, none⟩ = some (.string ((rd_T61 l0 x5_1).f2)) ∧ w'.cell? ⟨(ad296.add ((x5_1).toNat * 5)).block, (ad296.add ((x5_1).toNat * 5)).off + 3, none⟩ = some (.int .u64 ((rd_T61 l0 x5_1).f3)) ∧ w'.cell? ⟨(ad296.add ((x5_1).toNat * 5)).block, (ad296.add ((x5_1).toNat * 5)).off + 4, none⟩ = some (.string ((rd_T61 l0 x5_1).f4)) ∧ w'.cell? (ad297.add ((x5_1).toNat * 5)) = some (.string ((rd_T61 l1 x5_1).f0)) ∧ w'.cell? ⟨(ad297.add ((x5_1).toNat * 5)).block, (ad297.add ((x5_1).toNat * 5)).off + 1, none⟩ = some (.string ((rd_T61 l1 x5_1).f1)) ∧ w'.cell? ⟨(ad297.add ((x5_1).toNat * 5)).block, (ad297.add ((x5_1).toNat * 5)).off + 2, none⟩ = some (.string ((rd_T61 l1 x5_1).f2)) ∧ w'.cell? ⟨(ad297.add ((x5_1).toNat * 5)).block, (ad297.add ((x5_1).toNat * 5)).off + 3, none⟩ = some (.int .u64 ((rd_T61 l1 x5_1).f3)) ∧ w'.cell? ⟨(ad297.add ((x5_1).toNat * 5)).block, (ad297.add ((x5_1).toNat * 5)).off + 4, none⟩ = some (.string ((rd_T61 l1 x5_1).f4))) (ds := []) #[false, false, false, false, false, false, false, false, false, false] (by kernel_rfl) rfl rfl ⟨((HB.out.cell (World.block_lt_of_cell? w _ hw296_0)).trans hw296_0), ((HB.out.cell (World.block_lt_of_cell? w _ hw296_1)).trans hw296_1), ((HB.out.cell (World.block_lt_of_cell? w _ hw296_2)).trans hw296_2), ((HB.out.cell (World.block_lt_of_cell? w _ hw296_3)).trans hw296_3), ((HB.out.cell (World.block_lt_of_cell? w _ hw296_4)).trans hw296_4), ((HB.out.cell (World.block_lt_of_cell? w _ hw297_0)).trans hw297_0), ((HB.out.cell (World.block_lt_of_cell? w _ hw297_1)).trans hw297_1), ((HB.out.cell (World.block_lt_of_cell? w _ hw297_2)).trans hw297_2), ((HB.out.cell (World.block_lt_of_cell? w _ hw297_3)).trans hw297_3), ((HB.out.cell (World.block_lt_of_cell? w _ hw297_4)).trans hw297_4)⟩ (fun hHeld => ?_); refine with_tabW laws_eqCellS.tab6 laws_eqCellS.bits6 (fun HT_ HW_ => ?_)
        generalize wr.drew = w11 at HB hx296_0 hx296_1 hx296_2 hx296_3 hx296_4 hx297_0 hx297_1 hx297_2 hx297_3 hx297_4 hHeld ⊢
        refine pure_ (i := 0) (N := some 17) (v := ?_) (a' := ?_) #[true, false, false, false, false, false, false, false, false, false] rfl rfl (any_of HT_.out (by kernel_rfl)) (fun _ _ _ h => h) (Or.inl ⟨by rfl, ?_⟩) ?_ ?_
        rotate_left
        ·intro w'
         go_simp
         with_reducible rfl
        rotate_left
        ·simp only [Act.put, List.setIfInBounds_toArray, List.set_cons_zero, List.set_cons_succ, i64_w, i32_w]
         rfl
        refine pure_ (i := 1) (N := some 18) (v := ?_) (a' := ?_) #[true, true, false, false, false, false, false, false, false, false] rfl rfl (any_of HT_.out (by kernel_rfl)) (fun _ _ _ h => h) (Or.inl ⟨by rfl, ?_⟩) ?_ ?_
        rotate_left
        ·intro w'
         go_simp
         with_reducible rfl
        rotate_left
        ·simp only [Act.put, List.setIfInBounds_toArray, List.set_cons_zero, List.set_cons_succ, i64_w, i32_w]
         rfl
        refine pure_ (i := 2) (N := some 19) (v := ?_) (a' := ?_) #[true, true, true, false, false, false, false, false, false, false] rfl rfl (any_of HT_.out (by kernel_rfl)) (fun _ _ _ h => h) (Or.inl ⟨by rfl, ?_⟩) ?_ ?_
        rotate_left
        ·intro w'
         go_simp
         with_reducible rfl
        rotate_left
        ·simp only [Act.put, List.setIfInBounds_toArray, List.set_cons_zero, List.set_cons_succ, i64_w, i32_w]
         rfl
        refine pure_ (i := 4) (N := some 21) (v := ?_) (a' := ?_) #[true, true, true, false, true, false, false, false, false, false] rfl rfl (any_of HT_.out (by kernel_rfl)) (fun _ _ _ h => h) (Or.inl ⟨by rfl, ?_⟩) ?_ ?_
        rotate_left
        ·intro w'
         go_simp
         with_reducible rfl
        rotate_left
        ·simp only [Act.put, List.setIfInBounds_toArray, List.set_cons_zero, List.set_cons_succ, i64_w, i32_w]
         rfl
        refine pure_ (i := 5) (N := some 22) (v := ?_) (a' := ?_) #[true, true, true, false, true, true, false, false, false, false] rfl rfl (any_of HT_.out (by kernel_rfl)) (fun _ _ _ h => h) (Or.inl ⟨by rfl, ?_⟩) ?_ ?_
        rotate_left
        ·intro w'
         go_simp
         with_reducible rfl
        rotate_left
        ·simp only [Act.put, List.setIfInBounds_toArray, List.set_cons_zero, List.set_cons_succ, i64_w, i32_w]
         rfl
        refine pure_ (i := 6) (N := some 23) (v := ?_) (a' := ?_) #[true, true, true, false, true, true, true, false, false, false] rfl rfl (any_of HT_.out (by kernel_rfl)) (fun _ _ _ h => h) (Or.inl ⟨by rfl, ?_⟩) ?_ ?_
        rotate_left
        ·intro w'
         go_simp
         with_reducible rfl
        rotate_left
        ·simp only [Act.put, List.setIfInBounds_toArray, List.set_cons_zero, List.set_cons_succ, i64_w, i32_w]
         rfl
        refine take_ (i := 3) (N := some 20) (v := ?_) (a' := ?_) #[true, true, true, true, true, true, true, false, false, false] rfl rfl (take_ofW HT_.out HW_.out (by kernel_rfl)) (fun _ _ _ h => h) (Or.inl ⟨by rfl, ?_⟩) hHeld ?_ ?_
        rotate_left
        ·rintro w' ⟨s0, s1, s2, s3, s4, s5, s6, s7, s8, s9⟩
         go_simp
         with_reducible rfl
        rotate_left
        ·simp only [Act.put, List.setIfInBounds_toArray, List.set_cons_zero, List.set_cons_succ, i64_w, i32_w]
         rfl
        refine take_ (i := 7) (N := some 24) (v := ?_) (a' := ?_) #[true, true, true, true, true, true, true, true, false, false] rfl rfl (take_ofW HT_.out HW_.out (by kernel_rfl)) (fun _ _ _ h => h) (Or.inl ⟨by rfl, ?_⟩) hHeld ?_ ?_
        rotate_left
        ·rintro w' ⟨s0, s1, s2, s3, s4, s5, s6, s7, s8, s9⟩
         go_simp
         with_reducible rfl
        rotate_left
        ·simp only [Act.put, List.setIfInBounds_toArray, List.set_cons_zero, List.set_cons_succ, i64_w, i32_w]
         rfl
        refine one_ (i := 8) (N := some 25) #[true, true, true, true, true, true, true, true, true, false] rfl rfl (one_of HT_.out (by kernel_rfl)) (by decide) (fun K hK => ?_)
        refine goes_ Try.func34 (by kernel_rfl) rfl #[.agg #[.string ((rd_T61 l0 x5_1).f0), .string ((rd_T61 l0 x5_1).f1), .string ((rd_T61 l0 x5_1).f2), .int .u64 ((rd_T61 l0 x5_1).f3), .string ((rd_T61 l0 x5_1).f4)], .agg #[.string ((rd_T61 l1 x5_1).f0), .string ((rd_T61 l1 x5_1).f1), .string ((rd_T61 l1 x5_1).f2), .int .u64 ((rd_T61 l1 x5_1).f3), .string ((rd_T61 l1 x5_1).f4)]] (by rfl) rfl rfl (by (try simp only [List.map_toArray, List.map_cons, List.map_nil]); first | done | rfl | (simp only [List.length_drop, List.length_take]; rfl)) ?_
        with_reducible refine (laws_eqCell.calls ((rd_T61 l0 x5_1).f0) ((rd_T61 l0 x5_1).f1) ((rd_T61 l0 x5_1).f2) ((rd_T61 l0 x5_1).f3) ((rd_T61 l0 x5_1).f4) ((rd_T61 l1 x5_1).f0) ((rd_T61 l1 x5_1).f1) ((rd_T61 l1 x5_1).f2) ((rd_T61 l1 x5_1).f3) ((rd_T61 l1 x5_1).f4) false _ A7.out).mono ?_
        rintro e w12 ⟨rfl, hb⟩
        refine ⟨_, rfl, ?_⟩
        have n0_ := Aside0.mk (below_step bw hb)
        clear HB
        have HB := n0_
        clear n0_
        (try clear hb)
        (try clear hb2)
        (try clear hk)
        (try clear hi)
        refine hK.out _ _ ⟨((HB.out.cell (World.block_lt_of_cell? w _ hw296_0)).trans hw296_0), ((HB.out.cell (World.block_lt_of_cell? w _ hw296_1)).trans hw296_1), ((HB.out.cell (World.block_lt_of_cell? w _ hw296_2)).trans hw296_2), ((HB.out.cell (World.block_lt_of_cell? w _ hw296_3)).trans hw296_3), ((HB.out.cell (World.block_lt_of_cell? w _ hw296_4)).trans hw296_4), ((HB.out.cell (World.block_lt_of_cell? w _ hw297_0)).trans hw297_0), ((HB.out.cell (World.block_lt_of_cell? w _ hw297_1)).trans hw297_1), ((HB.out.cell (World.block_lt_of_cell? w _ hw297_2)).trans hw297_2), ((HB.out.cell (World.block_lt_of_cell? w _ hw297_3)).trans hw297_3), ((HB.out.cell (World.block_lt_of_cell? w _ hw297_4)).trans hw297_4)⟩ (fun hHeld => ?_)
        clear hK K
        refine norm_ (a' := ?_) ?_ ?_
        rotate_left
        ·show Act.put _ (some 25) _ = _
         simp only [Act.put, List.setIfInBounds_toArray, List.set_cons_zero, List.set_cons_succ, i64_w, i32_w]
         rfl
        refine pure_ (i := 9) (N := some 26) (v := ?_) (a' := ?_) #[true, true, true, true, true, true, true, true, true, true] rfl rfl (any_of HT_.out (by kernel_rfl)) (fun _ _ _ h => h) (Or.inl ⟨by rfl, ?_⟩) ?_ ?_
        rotate_left
        ·intro w'
         go_simp
         with_reducible rfl
        rotate_left
        ·simp only [Act.put, List.setIfInBounds_toArray, List.set_cons_zero, List.set_cons_succ, i64_w, i32_w]
         rfl
        refine done_ (done_of HT_.out (by kernel_rfl)) ?_
        try go_wp2
        go_ret
        exact ⟨by first | rfl | (simp [errW_none, errW_some] <;> rfl) | (simp [*, errW_none, errW_some] <;> rfl), bw⟩
      ·rw [if_neg c6] at H
       exact absurd H (by simp)
     ·rw [if_neg c5] at H
      exact absurd H (by simp)
    ·rw [if_neg c4] at H
     have c4b0 : decide (x5_1 < (l0.length : Int)) = false := decide_eq_false c4
     clear c4
     obtain rfl := Option.some.inj H
     go_wp2
     go_ret
     exact ⟨by first | rfl | (simp [errW_none, errW_some] <;> rfl) | (simp [*, errW_none, errW_some] <;> rfl), bw⟩
 ·rw [if_neg c3] at H
  have c3b0 : ((l0.length : Int) == (l1.length : Int)) = false := beq_eq_false_iff_ne.mpr c3
  have c3b1 : ((l0.length : Int) != (l1.length : Int)) = true := bne_iff_ne.mpr c3
  have c3b2 : (l0.length == l1.length) = false := by first | simpa using c3 | (simp at c3 ⊢; omega)
  obtain rfl := Option.some.inj H
  go_enter Try.func16, Try.ntmps16
  go_wp2
  go_ret
  exact ⟨by first | rfl | (simp [errW_none, errW_some] <;> rfl) | (simp [*, errW_none, errW_some] <;> rfl), bw⟩

end Go.Proofs.Ytmaildoddeimbaa.Q

namespace Go.Proofs.Ytmaildoddeimbaa.Q
open Go.RowKit Go.Proofs.YtmaildoddeimbaaW.PrintWords Go.Proofs.YtmaildoddeimbaaW.PrintLast Go.Proofs.YtmaildoddeimbaaW.PrintMore
set_option linter.unusedVariables false
set_option linter.unusedSimpArgs false

/-! ### laws_markCellS: function 17 -/
def laws_markCellS.l0 : Nat → List (S61) → Int → Int → Option (Int × (List (S61)))
 | 0, _, _, _ => none
 | k + 1, x0, x1, x5 => if x5 < (x0.length : Int) then ((laws_markText.f k x1).bind fun t299 => (if 0 ≤ x5 then ((some (x0.set (x5 : Int).toNat (⟨t299, (rd_T61 x0 x5).f1, (rd_T61 x0 x5).f2, (rd_T61 x0 x5).f3, (rd_T61 x0 x5).f4⟩ : S61) : List (S61))).bind fun y300 => ((laws_markText.f k (wrap64 (x1 + 1))).bind fun t301 => ((some (y300.set (x5 : Int).toNat (⟨(rd_T61 y300 x5).f0, t301, (rd_T61 y300 x5).f2, (rd_T61 y300 x5).f3, (rd_T61 y300 x5).f4⟩ : S61) : List (S61))).bind fun y302 => ((laws_markText.f k (wrap64 ((wrap64 (x1 + 1)) + 1))).bind fun t303 => ((some (y302.set (x5 : Int).toNat (⟨(rd_T61 y302 x5).f0, (rd_T61 y302 x5).f1, t303, (rd_T61 y302 x5).f3, (rd_T61 y302 x5).f4⟩ : S61) : List (S61))).bind fun y304 => ((some (y304.set (x5 : Int).toNat (⟨(rd_T61 y304 x5).f0, (rd_T61 y304 x5).f1, (rd_T61 y304 x5).f2, IntKind.u64.wrap (wrap64 ((wrap64 ((wrap64 (x1 + 1)) + 1)) + 1)), (rd_T61 y304 x5).f4⟩ : S61) : List (S61))).bind fun y305 => ((laws_markText.f k (wrap64 ((wrap64 ((wrap64 ((wrap64 (x1 + 1)) + 1)) + 1)) + 1))).bind fun t306 => (laws_markCellS.l0 k (y305.set (x5 : Int).toNat (⟨(rd_T61 y305 x5).f0, (rd_T61 y305 x5).f1, (rd_T61 y305 x5).f2, (rd_T61 y305 x5).f3, t306⟩ : S61)) (wrap64 ((wrap64 ((wrap64 ((wrap64 ((wrap64 (x1 + 1)) + 1)) + 1)) + 1)) + 1)) (wrap64 (x5 + 1)))))))))) else (none))) else (some (x1, x0))
def laws_markCellS.f (k : Nat) (l0 : List (S61)) (a1 : Int) : Option (Int × (List (S61))) := laws_markCellS.l0 k l0 a1 0
set_option maxHeartbeats 8000000 in
set_option maxRecDepth 100000 in
theorem laws_markCellS.calls (k : Nat) (P0_ : Nat → Prop) (u9000_ : Value) (l0 : List (S61)) (a1 : Int) (r1 : Int) (r2 : List (S61)) (w0 w : World) (hB : Below w0.heap.size w0 w) (ho0 : Kd.R k61 61 w w0.heap.size P0_ u9000_ l0) (h : laws_markCellS.f k l0 a1 = some (r1, r2)) :
  Calls Try.prog 17 #[u9000_, .int .i64 a1] w fun e w' => e = .returned (.int .i64 r1) ∧ Kd.R k61 61 w' w0.heap.size (fun k_ => (P0_ k_ ∨ w.heap.size ≤ k_)) u9000_ r2 ∧ Below w0.heap.size w0 w' ∧ Kept w w' (fun k_ => P0_ k_) := by
 have HO0 := Aside0.mk (show Kd.R k61 61 w w0.heap.size (fun k_ => (P0_ k_ ∨ w.heap.size ≤ k_)) u9000_ l0 from Kd.R_mono ho0 (fun k_ hk => (.inl hk)))
 have HK := Aside0.mk (Kept.refl w (fun k_ => P0_ k_))
 have HW0 := Aside0.mk hB.size
 have HB := Aside0.mk hB
 clear hB
 have H : (laws_markCellS.l0 k l0 a1 0) = some (r1, r2) := h
 clear h
 have H' := Aside0.mk H
 clear H
 go_enter Try.func17, Try.ntmps17
 go_wp2
 go_loopg [1, 5] k (fun kq v1 v5 w' => ∃ (x0_1 : List (S61)) (x1_1 : Int) (x5_1 : Int), v1 = .int .i64 x1_1 ∧ v5 = .int .i64 x5_1 ∧ Aside0 (laws_markCellS.l0 kq x0_1 x1_1 x5_1 = some (r1, r2)) ∧ Aside0 (kq ≤ k) ∧ Aside0 (Kd.R k61 61 w' w0.heap.size (fun k_ => (P0_ k_ ∨ w.heap.size ≤ k_)) u9000_ x0_1) ∧ Aside0 (Kept w w' (fun k_ => P0_ k_)) ∧ Aside0 (Below w0.heap.size w0 w'))
 case atStart => exact ⟨(l0), (a1), (0), (by first | rfl | (simp; done) | (simp [*]; done)), (by first | rfl | (simp; done) | (simp [*]; done)), H', ⟨Nat.le_refl _⟩, ⟨lf HO0⟩, ⟨by repeat (first | (with_reducible first | exact HK.out | apply Kept.alloc | apply Kept.drewN | apply Kept.drew) | exact HK.out)⟩, ⟨bw⟩⟩
 case round =>
  clear H'
  try clear c1
  try clear p2
  obtain ⟨x0_1, x1_1, x5_1, rfl, rfl, HA, HK1, HO_0, HK, HB⟩ := hrel
  cases gk with
  | zero => exact absurd HA.out (by simp [laws_markCellS.l0])
  | succ k1 =>
   have H := HA.out
   clear HA
   simp only [laws_markCellS.l0] at H
   by_cases c3 : x5_1 < (x0_1.length : Int)
   ·rw [if_pos c3] at H
    have c3b0 : decide (x5_1 < (x0_1.length : Int)) = true := decide_eq_true c3
    clear c3
    replace H := Option.bind_eq_some_iff.mp H
    obtain ⟨t299, A40, H⟩ := H
    replace H : (if 0 ≤ x5_1 then ((some (x0_1.set (x5_1 : Int).toNat (⟨t299, (rd_T61 x0_1 x5_1).f1, (rd_T61 x0_1 x5_1).f2, (rd_T61 x0_1 x5_1).f3, (rd_T61 x0_1 x5_1).f4⟩ : S61) : List (S61))).bind fun y300 => ((laws_markText.f k1 (wrap64 (x1_1 + 1))).bind fun t301 => ((some (y300.set (x5_1 : Int).toNat (⟨(rd_T61 y300 x5_1).f0, t301, (rd_T61 y300 x5_1).f2, (rd_T61 y300 x5_1).f3, (rd_T61 y300 x5_1).f4⟩ : S61) : List (S61))).bind fun y302 => ((laws_markText.f k1 (wrap64 ((wrap64 (x1_1 + 1)) + 1))).bind fun t303 => ((some (y302.set (x5_1 : Int).toNat (⟨(rd_T61 y302 x5_1).f0, (rd_T61 y302 x5_1).f1, t303, (rd_T61 y302 x5_1).f3, (rd_T61 y302 x5_1).f4⟩ : S61) : List (S61))).bind fun y304 => ((some (y304.set (x5_1 : Int).toNat (⟨(rd_T61 y304 x5_1).f0, (rd_T61 y304 x5_1).f1, (rd_T61 y304 x5_1).f2, IntKind.u64.wrap (wrap64 ((wrap64 ((wrap64 (x1_1 + 1)) + 1)) + 1)), (rd_T61 y304 x5_1).f4⟩ : S61) : List (S61))).bind fun y305 => ((laws_markText.f k1 (wrap64 ((wrap64 ((wrap64 ((wrap64 (x1_1 + 1)) + 1)) + 1)) + 1))).bind fun t306 => (laws_markCellS.l0 k1 (y305.set (x5_1 : Int).toNat (⟨(rd_T61 y305 x5_1).f0, (rd_T61 y305 x5_1).f1, (rd_T61 y305 x5_1).f2, (rd_T61 y305 x5_1).f3, t306⟩ : S61)) (wrap64 ((wrap64 ((wrap64 ((wrap64 ((wrap64 (x1_1 + 1)) + 1)) + 1)) + 1)) + 1)) (wrap64 (x5_1 + 1)))))))))) else (none)) = some (r1, r2) := H
    have A4 := Aside0.mk A40
    clear A40
    by_cases c5 : 0 ≤ x5_1
    ·rw [if_pos c5] at H
     have c5b0 : decide (0 ≤ x5_1) = true := decide_eq_true c5
     clear c5
     obtain ⟨y300, hy300⟩ : ∃ y_ : List (S61), y_ = (x0_1.set (x5_1 : Int).toNat (⟨t299, (rd_T61 x0_1 x5_1).f1, (rd_T61 x0_1 x5_1).f2, (rd_T61 x0_1 x5_1).f3, (rd_T61 x0_1 x5_1).f4⟩ : S61)) := ⟨_, rfl⟩
     replace H : ((laws_markText.f k1 (wrap64 (x1_1 + 1))).bind fun t301 => ((some (y300.set (x5_1 : Int).toNat (⟨(rd_T61 y300 x5_1).f0, t301, (rd_T61 y300 x5_1).f2, (rd_T61 y300 x5_1).f3, (rd_T61 y300 x5_1).f4⟩ : S61) : List (S61))).bind fun y302 => ((laws_markText.f k1 (wrap64 ((wrap64 (x1_1 + 1)) + 1))).bind fun t303 => ((some (y302.set (x5_1 : Int).toNat (⟨(rd_T61 y302 x5_1).f0, (rd_T61 y302 x5_1).f1, t303, (rd_T61 y302 x5_1).f3, (rd_T61 y302 x5_1).f4⟩ : S61) : List (S61))).bind fun y304 => ((some (y304.set (x5_1 : Int).toNat (⟨(rd_T61 y304 x5_1).f0, (rd_T61 y304 x5_1).f1, (rd_T61 y304 x5_1).f2, IntKind.u64.wrap (wrap64 ((wrap64 ((wrap64 (x1_1 + 1)) + 1)) + 1)), (rd_T61 y304 x5_1).f4⟩ : S61) : List (S61))).bind fun y305 => ((laws_markText.f k1 (wrap64 ((wrap64 ((wrap64 ((wrap64 (x1_1 + 1)) + 1)) + 1)) + 1))).bind fun t306 => (laws_markCellS.l0 k1 (y305.set (x5_1 : Int).toNat (⟨(rd_T61 y305 x5_1).f0, (rd_T61 y305 x5_1).f1, (rd_T61 y305 x5_1).f2, (rd_T61 y305 x5_1).f3, t306⟩ : S61)) (wrap64 ((wrap64 ((wrap64 ((wrap64 ((wrap64 (x1_1 + 1)) + 1)) + 1)) + 1)) + 1)) (wrap64 (x5_1 + 1))))))))) = some (r1, r2) := by first | (rw [hy300]; with_reducible exact H) | (have H2_ := (Option.bind_some _ _).symm.trans H; rw [hy300]; with_reducible exact H2_) | (have H2_ := (Option.bind_some _ _).symm.trans H; with_reducible exact H2_) | with_reducible exact H | (rw [hy300]; exact H) | exact H
     have Ny300 := Aside0.mk hy300
     clear hy300
     replace H := Option.bind_eq_some_iff.mp H
     obtain ⟨t301, A70, H⟩ := H
     replace H : ((some (y300.set (x5_1 : Int).toNat (⟨(rd_T61 y300 x5_1).f0, t301, (rd_T61 y300 x5_1).f2, (rd_T61 y300 x5_1).f3, (rd_T61 y300 x5_1).f4⟩ : S61) : List (S61))).bind fun y302 => ((laws_markText.f k1 (wrap64 ((wrap64 (x1_1 + 1)) + 1))).bind fun t303 => ((some (y302.set (x5_1 : Int).toNat (⟨(rd_T61 y302 x5_1).f0, (rd_T61 y302 x5_1).f1, t303, (rd_T61 y302 x5_1).f3, (rd_T61 y302 x5_1).f4⟩ : S61) : List (S61))).bind fun y304 => ((some (y304.set (x5_1 : Int).toNat (⟨(rd_T61 y304 x5_1).f0, (rd_T61 y304 x5_1).f1, (rd_T61 y304 x5_1).f2, IntKind.u64.wrap (wrap64 ((wrap64 ((wrap64 (x1_1 + 1)) + 1)) + 1)), (rd_T61 y304 x5_1).f4⟩ : S61) : List (S61))).bind fun y305 => ((laws_markText.f k1 (wrap64 ((wrap64 ((wrap64 ((wrap64 (x1_1 + 1)) + 1)) + 1)) + 1))).bind fun t306 => (laws_markCellS.l0 k1 (y305.set (x5_1 : Int).toNat (⟨(rd_T61 y305 x5_1).f0, (rd_T61 y305 x5_1).f1, (rd_T61 y305 x5_1).f2, (rd_T61 y305 x5_1).f3, t306⟩ : S61)) (wrap64 ((wrap64 ((wrap64 ((wrap64 ((wrap64 (x1_1 + 1)) + 1)) + 1)) + 1)) + 1)) (wrap64 (x5_1 + 1)))))))) = some (r1, r2) := H
     have A7 := Aside0.mk A70
     clear A70
     obtain ⟨y302, hy302⟩ : ∃ y_ : List (S61), y_ = (y300.set (x5_1 : Int).toNat (⟨(rd_T61 y300 x5_1).f0, t301, (rd_T61 y300 x5_1).f2, (rd_T61 y300 x5_1).f3, (rd_T61 y300 x5_1).f4⟩ : S61)) := ⟨_, rfl⟩
     replace H : ((laws_markText.f k1 (wrap64 ((wrap64 (x1_1 + 1)) + 1))).bind fun t303 => ((some (y302.set (x5_1 : Int).toNat (⟨(rd_T61 y302 x5_1).f0, (rd_T61 y302 x5_1).f1, t303, (rd_T61 y302 x5_1).f3, (rd_T61 y302 x5_1).f4⟩ : S61) : List (S61))).bind fun y304 => ((some (y304.set (x5_1 : Int).toNat (⟨(rd_T61 y304 x5_1).f0, (rd_T61 y304 x5_1).f1, (rd_T61 y304 x5_1).f2, IntKind.u64.wrap (wrap64 ((wrap64 ((wrap64 (x1_1 + 1)) + 1)) + 1)), (rd_T61 y304 x5_1).f4⟩ : S61) : List (S61))).bind fun y305 => ((laws_markText.f k1 (wrap64 ((wrap64 ((wrap64 ((wrap64 (x1_1 + 1)) + 1)) + 1)) + 1))).bind fun t306 => (laws_markCellS.l0 k1 (y305.set (x5_1 : Int).toNat (⟨(rd_T61 y305 x5_1).f0, (rd_T61 y305 x5_1).f1, (rd_T61 y305 x5_1).f2, (rd_T61 y305 x5_1).f3, t306⟩ : S61)) (wrap64 ((wrap64 ((wrap64 ((wrap64 ((wrap64 (x1_1 + 1)) + 1)) + 1)) + 1)) + 1)) (wrap64 (x5_1 + 1))))))) = some (r1, r2) := by first | (rw [hy302]; with_reducible exact H) | (have H2_ := (Option.bind_some _ _).symm.trans H; rw [hy302]; with_reducible exact H2_) | (have H2_ := (Option.bind_some _ _).symm.trans H; with_reducible exact H2_) | with_reducible exact H | (rw [hy302]; exact H) | exact H
     have Ny302 := Aside0.mk hy302
     clear hy302
     replace H := Option.bind_eq_some_iff.mp H
     obtain ⟨t303, A90, H⟩ := H
     replace H : ((some (y302.set (x5_1 : Int).toNat (⟨(rd_T61 y302 x5_1).f0, (rd_T61 y302 x5_1).f1, t303, (rd_T61 y302 x5_1).f3, (rd_T61 y302 x5_1).f4⟩ : S61) : List (S61))).bind fun y304 => ((some (y304.set (x5_1 : Int).toNat (⟨(rd_T61 y304 x5_1).f0, (rd_T61 y304 x5_1).f1, (rd_T61 y304 x5_1).f2, IntKind.u64.wrap (wrap64 ((wrap64 ((wrap64 (x1_1 + 1)) + 1)) + 1)), (rd_T61 y304 x5_1).f4⟩ : S61) : List (S61))).bind fun y305 => ((laws_markText.f k1 (wrap64 ((wrap64 ((wrap64 ((wrap64 (x1_1 + 1)) + 1)) + 1)) + 1))).bind fun t306 => (laws_markCellS.l0 k1 (y305.set (x5_1 : Int).toNat (⟨(rd_T61 y305 x5_1).f0, (rd_T61 y305 x5_1).f1, (rd_T61 y305 x5_1).f2, (rd_T61 y305 x5_1).f3, t306⟩ : S61)) (wrap64 ((wrap64 ((wrap64 ((wrap64 ((wrap64 (x1_1 + 1)) + 1)) + 1)) + 1)) + 1)) (wrap64 (x5_1 + 1)))))) = some (r1, r2) := H
     have A9 := Aside0.mk A90
     clear A90
     obtain ⟨y304, hy304⟩ : ∃ y_ : List (S61), y_ = (y302.set (x5_1 : Int).toNat (⟨(rd_T61 y302 x5_1).f0, (rd_T61 y302 x5_1).f1, t303, (rd_T61 y302 x5_1).f3, (rd_T61 y302 x5_1).f4⟩ : S61)) := ⟨_, rfl⟩
     replace H : ((some (y304.set (x5_1 : Int).toNat (⟨(rd_T61 y304 x5_1).f0, (rd_T61 y304 x5_1).f1, (rd_T61 y304 x5_1).f2, IntKind.u64.wrap (wrap64 ((wrap64 ((wrap64 (x1_1 + 1)) + 1)) + 1)), (rd_T61 y304 x5_1).f4⟩ : S61) : List (S61))).bind fun y305 => ((laws_markText.f k1 (wrap64 ((wrap64 ((wrap64 ((wrap64 (x1_1 + 1)) + 1)) + 1)) + 1))).bind fun t306 => (laws_markCellS.l0 k1 (y305.set (x5_1 : Int).toNat (⟨(rd_T61 y305 x5_1).f0, (rd_T61 y305 x5_1).f1, (rd_T61 y305 x5_1).f2, (rd_T61 y305 x5_1).f3, t306⟩ : S61)) (wrap64 ((wrap64 ((wrap64 ((wrap64 ((wrap64 (x1_1 + 1)) + 1)) + 1)) + 1)) + 1)) (wrap64 (x5_1 + 1))))) = some (r1, r2) := by first | (rw [hy304]; with_reducible exact H) | (have H2_ := (Option.bind_some _ _).symm.trans H; rw [hy304]; with_reducible exact H2_) | (have H2_ := (Option.bind_some _ _).symm.trans H; with_reducible exact H2_) | with_reducible exact H | (rw [hy304]; exact H) | exact H
     have Ny304 := Aside0.mk hy304
     clear hy304
     obtain ⟨y305, hy305⟩ : ∃ y_ : List (S61), y_ = (y304.set (x5_1 : Int).toNat (⟨(rd_T61 y304 x5_1).f0, (rd_T61 y304 x5_1).f1, (rd_T61 y304 x5_1).f2, IntKind.u64.wrap (wrap64 ((wrap64 ((wrap64 (x1_1 + 1)) + 1)) + 1)), (rd_T61 y304 x5_1).f4⟩ : S61)) := ⟨_, rfl⟩
     replace H : ((laws_markText.f k1 (wrap64 ((wrap64 ((wrap64 ((wrap64 (x1_1 + 1)) + 1)) + 1)) + 1))).bind fun t306 => (laws_markCellS.l0 k1 (y305.set (x5_1 : Int).toNat (⟨(rd_T61 y305 x5_1).f0, (rd_T61 y305 x5_1).f1, (rd_T61 y305 x5_1).f2, (rd_T61 y305 x5_1).f3, t306⟩ : S61)) (wrap64 ((wrap64 ((wrap64 ((wrap64 ((wrap64 (x1_1 + 1)) + 1)) + 1)) + 1)) + 1)) (wrap64 (x5_1 + 1)))) = some (r1, r2) := by first | (rw [hy305]; with_reducible exact H) | (have H2_ := (Option.bind_some _ _).symm.trans H; rw [hy305]; with_reducible exact H2_) | (have H2_ := (Option.bind_some _ _).symm.trans H; with_reducible exact H2_) | with_reducible exact H | (rw [hy305]; exact H) | exact H
     have Ny305 := Aside0.mk hy305
     clear hy305
     replace H := Option.bind_eq_some_iff.mp H
     obtain ⟨t306, A120, H⟩ := H
     replace H : (laws_markCellS.l0 k1 (y305.set (x5_1 : Int).toNat (⟨(rd_T61 y305 x5_1).f0, (rd_T61 y305 x5_1).f1, (rd_T61 y305 x5_1).f2, (rd_T61 y305 x5_1).f3, t306⟩ : S61)) (wrap64 ((wrap64 ((wrap64 ((wrap64 ((wrap64 (x1_1 + 1)) + 1)) + 1)) + 1)) + 1)) (wrap64 (x5_1 + 1))) = some (r1, r2) := H
     have A12 := Aside0.mk A120
     clear A120
     obtain ⟨y307, hy307⟩ : ∃ y_ : List (S61), y_ = (y305.set (x5_1 : Int).toNat (⟨(rd_T61 y305 x5_1).f0, (rd_T61 y305 x5_1).f1, (rd_T61 y305 x5_1).f2, (rd_T61 y305 x5_1).f3, t306⟩ : S61)) := ⟨_, rfl⟩
     replace H : (laws_markCellS.l0 k1 y307 (wrap64 ((wrap64 ((wrap64 ((wrap64 ((wrap64 (x1_1 + 1)) + 1)) + 1)) + 1)) + 1)) (wrap64 (x5_1 + 1))) = some (r1, r2) := by first | (rw [hy307]; with_reducible exact H) | (have H2_ := (Option.bind_some _ _).symm.trans H; rw [hy307]; with_reducible exact H2_) | (have H2_ := (Option.bind_some _ _).symm.trans H; with_reducible exact H2_) | with_reducible exact H | (rw [hy307]; exact H) | exact H
     have Ny307 := Aside0.mk hy307
     clear hy307
     have H' := Aside0.mk H
     clear H
     obtain ⟨Ao14, co14, eo14⟩ := Kd.R_slice HO_0.out
     subst eo14
     go_wp2_with (first | ((with_reducible refine at_fn (f := 30) rfl ?_); refine goesL_ (some 15) rfl rfl Try.func30 (by kernel_rfl) rfl #[.int .i64 x1_1] rfl (by (try simp only [List.map_toArray, List.map_cons, List.map_nil]); first | done | rfl | (simp only [List.length_drop, List.length_take]; rfl)) ?_; (with_reducible refine (laws_markText.calls k1 x1_1 t299 _ A4.out).mono ?_); rintro e w15 ⟨rfl, hb⟩; refine ⟨_, rfl, ?_⟩; have n0_ := Aside0.mk (Kd.R_below (lf HO_0) hb); have n1_ := Aside0.mk (Kept.below (S := (fun k_ => P0_ k_)) (by repeat (first | (with_reducible first | exact HK.out | apply Kept.alloc | apply Kept.drewN | apply Kept.drew) | exact HK.out)) hb); have n2_ := Aside0.mk (below_step bw hb); clear HO_0; clear HK; clear HB; have HO_0 := n0_; have HK := n1_; have HB := n2_; clear n0_ n1_ n2_; (try clear hb); (try clear hb2); (try clear hk); (try clear hi); have p6 : 0 ≤ (x5_1 : Int) := of_decide_eq_true (by first | (with_reducible assumption) | assumption); have q6 : (x5_1 : Int) < ((x0_1.length : Int) : Int) := of_decide_eq_true (by first | (with_reducible assumption) | assumption); obtain ⟨go6, co6, eo6, gb6, gl6, cl6, HG6⟩ := Kd.R_form HO_0.out (by omega); (first | cases eo6 | (injection eo6 with ea_ en_ ec_; (first | subst ea_ | (injection ea_ with ea_; subst ea_)); subst ec_; clear en_)); have GB6 := Aside0.mk gb6; have GG6 := Aside0.mk HG6; clear gb6 gl6 HG6; have HMgo6 := Aside0.mk (show (P0_ go6 ∨ w.heap.size ≤ go6) from (HO_0.out.1 _ rfl)); obtain ⟨ce6, hcl6, hM6, hcc6, hfr6⟩ := Kd.R_elem HO_0.out z61 (x5_1 : Int) p6 q6; obtain rfl := k61_openM hM6; have hx6_0 : w15.cell? ⟨go6, (x5_1 : Int).toNat * 5, none⟩ = some (.string ((rd_T61 x0_1 x5_1).f0)) := hcc6 0 _ rfl; have hx6_1 : w15.cell? ⟨go6, (x5_1 : Int).toNat * 5 + 1, none⟩ = some (.string ((rd_T61 x0_1 x5_1).f1)) := hcc6 1 _ rfl; have hx6_2 : w15.cell? ⟨go6, (x5_1 : Int).toNat * 5 + 2, none⟩ = some (.string ((rd_T61 x0_1 x5_1).f2)) := hcc6 2 _ rfl; have hx6_3 : w15.cell? ⟨go6, (x5_1 : Int).toNat * 5 + 3, none⟩ = some (.int .u64 ((rd_T61 x0_1 x5_1).f3)) := hcc6 3 _ rfl; have hx6_4 : w15.cell? ⟨go6, (x5_1 : Int).toNat * 5 + 4, none⟩ = some (.string ((rd_T61 x0_1 x5_1).f4)) := hcc6 4 _ rfl; have hf6_0 : w15.frozen? ⟨go6, (x5_1 : Int).toNat * 5, none⟩ = false := hfr6 0; have hf6_1 : w15.frozen? ⟨go6, (x5_1 : Int).toNat * 5 + 1, none⟩ = false := hfr6 1; have hf6_2 : w15.frozen? ⟨go6, (x5_1 : Int).toNat * 5 + 2, none⟩ = false := hfr6 2; have hf6_3 : w15.frozen? ⟨go6, (x5_1 : Int).toNat * 5 + 3, none⟩ = false := hfr6 3; have hf6_4 : w15.frozen? ⟨go6, (x5_1 : Int).toNat * 5 + 4, none⟩ = false := hfr6 4; clear hcl6 hcc6 hfr6 hM6; replace p6 := eq_true p6; replace q6 := eq_true q6; have HX16 := Aside0.mk (show Kd.R k61 61 w15 w0.heap.size (fun k_ => (P0_ k_ ∨ w.heap.size ≤ k_)) (.slice (some ⟨go6, 0, none⟩) x0_1.length co14) x0_1 from (lf HO_0)); obtain ⟨ce16, hcl16, hM16, hcc16, hfr16⟩ := Kd.R_elem HX16.out z61 (x5_1 : Int) (of_decide_eq_true (by first | (with_reducible assumption) | assumption)) (by have h_ : (x5_1 : Int) < ((x0_1.length : Int) : Int) := of_decide_eq_true (by first | (with_reducible assumption) | assumption); first | exact h_ | (have e_ := (Kd.R_reads' HO_0.out).1; omega) | simpa using h_); obtain rfl := k61_openM hM16; have HP16 := Kd.R_seg HX16.out (x5_1 : Int) (of_decide_eq_true (by first | (with_reducible assumption) | assumption)) (by have h_ : (x5_1 : Int) < ((x0_1.length : Int) : Int) := of_decide_eq_true (by first | (with_reducible assumption) | assumption); first | exact h_ | (have e_ := (Kd.R_reads' HO_0.out).1; omega) | simpa using h_) (seg := [.string t299]) (j := 0) hcl16 hcc16 (show 1 ≤ 5 from by decide) (x' := (⟨t299, (rd_T61 x0_1 x5_1).f1, (rd_T61 x0_1 x5_1).f2, (rd_T61 x0_1 x5_1).f3, (rd_T61 x0_1 x5_1).f4⟩ : S61)) (k61_mkM _ _ _ (⟨t299, (rd_T61 x0_1 x5_1).f1, (rd_T61 x0_1 x5_1).f2, (rd_T61 x0_1 x5_1).f3, (rd_T61 x0_1 x5_1).f4⟩ : S61) ) (fun _ hk => hk); have hx16_0 := hcc16 0 _ rfl; (try simp only [show (k61).sz = 5 from rfl, Nat.mul_one, Nat.add_zero] at hx16_0); have hf16_0 := hfr16 0; (try simp only [show (k61).sz = 5 from rfl, Nat.mul_one, Nat.add_zero] at hf16_0); clear hcl16 hcc16 hfr16 hM16) | ((with_reducible refine gate_store (t := 9) (p := 17) rfl ?_); refine store_event (t := 9) (p := 17) (v := ?vo_w17) (w1 := (w15.setCell ⟨go6, (x5_1 : Int).toNat * 5, none⟩ (.string t299))) ?hg ?ho ?hn ?hr ?_; (case ho => rfl); (case hg => rfl); (case hn => rfl); (case hr => first | (go_simp; done) | (go_simp; rfl)); intro w17 hw; have hg : w15.grownBy w17 (some go6) := (by rw [hw]; exact HP16.2); have hp_ : Kd.R k61 61 w17 w0.heap.size (fun k_ => (P0_ k_ ∨ w.heap.size ≤ k_)) (.slice (some ⟨go6, 0, none⟩) x0_1.length co14) y300 := (by rw [hw, Ny300.out]; exact HP16.1); clear HP16; have n0_ := Aside0.mk (hp_); have n1_ := Aside0.mk ((by rw [hw]; exact below_set (HB.out) GB6.out : Below w0.heap.size w0 w17)); have n2_ := Aside0.mk (Kept.of_grown (S := (fun k_ => P0_ k_)) hg (by repeat (first | (with_reducible first | exact HK.out | apply Kept.alloc | apply Kept.drewN | apply Kept.drew) | exact HK.out)) (fun k_ e_ => (HO_0.out.1 k_ e_))); clear HO_0; clear HB; clear HK; have HO_0 := n0_; have HB := n1_; have HK := n2_; clear n0_ n1_ n2_; clear hg hw hp_) | ((with_reducible refine at_fn (f := 30) rfl ?_); refine goesL_ (some 23) rfl rfl Try.func30 (by kernel_rfl) rfl #[.int .i64 (wrap64 (x1_1 + 1))] rfl (by (try simp only [List.map_toArray, List.map_cons, List.map_nil]); first | done | rfl | (simp only [List.length_drop, List.length_take]; rfl)) ?_; (with_reducible refine (laws_markText.calls k1 (wrap64 (x1_1 + 1)) t301 _ A7.out).mono ?_); rintro e w18 ⟨rfl, hb⟩; refine ⟨_, rfl, ?_⟩; have n0_ := Aside0.mk (Kd.R_below (lf HO_0) hb); have n1_ := Aside0.mk (Kept.below (S := (fun k_ => P0_ k_)) (by repeat (first | (with_reducible first | exact HK.out | apply Kept.alloc | apply Kept.drewN | apply Kept.drew) | exact HK.out)) hb); have n2_ := Aside0.mk (below_step bw hb); clear HO_0; clear HK; clear HB; have HO_0 := n0_; have HK := n1_; have HB := n2_; clear n0_ n1_ n2_; (try clear hb); (try clear hb2); (try clear hk); (try clear hi); have p8 : 0 ≤ (x5_1 : Int) := of_decide_eq_true (by first | (with_reducible assumption) | assumption); have q8 : (x5_1 : Int) < ((x0_1.length : Int) : Int) := of_decide_eq_true (by first | (with_reducible assumption) | assumption); obtain ⟨ce8, hcl8, hM8, hcc8, hfr8⟩ := Kd.R_elem HO_0.out z61 (x5_1 : Int) p8 q8; obtain rfl := k61_openM hM8; have hx8_0 : w18.cell? ⟨go6, (x5_1 : Int).toNat * 5, none⟩ = some (.string ((rd_T61 y300 x5_1).f0)) := hcc8 0 _ rfl; have hx8_1 : w18.cell? ⟨go6, (x5_1 : Int).toNat * 5 + 1, none⟩ = some (.string ((rd_T61 y300 x5_1).f1)) := hcc8 1 _ rfl; have hx8_2 : w18.cell? ⟨go6, (x5_1 : Int).toNat * 5 + 2, none⟩ = some (.string ((rd_T61 y300 x5_1).f2)) := hcc8 2 _ rfl; have hx8_3 : w18.cell? ⟨go6, (x5_1 : Int).toNat * 5 + 3, none⟩ = some (.int .u64 ((rd_T61 y300 x5_1).f3)) := hcc8 3 _ rfl; have hx8_4 : w18.cell? ⟨go6, (x5_1 : Int).toNat * 5 + 4, none⟩ = some (.string ((rd_T61 y300 x5_1).f4)) := hcc8 4 _ rfl; have hf8_0 : w18.frozen? ⟨go6, (x5_1 : Int).toNat * 5, none⟩ = false := hfr8 0; have hf8_1 : w18.frozen? ⟨go6, (x5_1 : Int).toNat * 5 + 1, none⟩ = false := hfr8 1; have hf8_2 : w18.frozen? ⟨go6, (x5_1 : Int).toNat * 5 + 2, none⟩ = false := hfr8 2; have hf8_3 : w18.frozen? ⟨go6, (x5_1 : Int).toNat * 5 + 3, none⟩ = false := hfr8 3; have hf8_4 : w18.frozen? ⟨go6, (x5_1 : Int).toNat * 5 + 4, none⟩ = false := hfr8 4; clear hcl8 hcc8 hfr8 hM8; replace p8 := eq_true p8; replace q8 := eq_true q8; have HX19 := Aside0.mk (show Kd.R k61 61 w18 w0.heap.size (fun k_ => (P0_ k_ ∨ w.heap.size ≤ k_)) (.slice (some ⟨go6, 0, none⟩) x0_1.length co14) y300 from (lf HO_0)); obtain ⟨ce19, hcl19, hM19, hcc19, hfr19⟩ := Kd.R_elem HX19.out z61 (x5_1 : Int) (of_decide_eq_true (by first | (with_reducible assumption) | assumption)) (by have h_ : (x5_1 : Int) < ((x0_1.length : Int) : Int) := of_decide_eq_true (by first | (with_reducible assumption) | assumption); first | exact h_ | (have e_ := (Kd.R_reads' HO_0.out).1; omega) | simpa using h_); obtain rfl := k61_openM hM19; have HP19 := Kd.R_seg HX19.out (x5_1 : Int) (of_decide_eq_true (by first | (with_reducible assumption) | assumption)) (by have h_ : (x5_1 : Int) < ((x0_1.length : Int) : Int) := of_decide_eq_true (by first | (with_reducible assumption) | assumption); first | exact h_ | (have e_ := (Kd.R_reads' HO_0.out).1; omega) | simpa using h_) (seg := [.string t301]) (j := 1) hcl19 hcc19 (show 2 ≤ 5 from by decide) (x' := (⟨(rd_T61 y300 x5_1).f0, t301, (rd_T61 y300 x5_1).f2, (rd_T61 y300 x5_1).f3, (rd_T61 y300 x5_1).f4⟩ : S61)) (k61_mkM _ _ _ (⟨(rd_T61 y300 x5_1).f0, t301, (rd_T61 y300 x5_1).f2, (rd_T61 y300 x5_1).f3, (rd_T61 y300 x5_1).f4⟩ : S61) ) (fun _ hk => hk); have hx19_1 := hcc19 1 _ rfl; (try simp only [show (k61).sz = 5 from rfl, Nat.mul_one, Nat.add_zero] at hx19_1); have hf19_1 := hfr19 1; (try simp only [show (k61).sz = 5 from rfl, Nat.mul_one, Nat.add_zero] at hf19_1); clear hcl19 hcc19 hfr19 hM19) | ((with_reducible refine gate_store (t := 9) (p := 25) rfl ?_); refine store_event (t := 9) (p := 25) (v := ?vo_w20) (w1 := (w18.setCell ⟨go6, (x5_1 : Int).toNat * 5 + 1, none⟩ (.string t301))) ?hg ?ho ?hn ?hr ?_; (case ho => rfl); (case hg => rfl); (case hn => rfl); (case hr => first | (go_simp; done) | (go_simp; rfl)); intro w20 hw; have hg : w18.grownBy w20 (some go6) := (by rw [hw]; exact HP19.2); have hp_ : Kd.R k61 61 w20 w0.heap.size (fun k_ => (P0_ k_ ∨ w.heap.size ≤ k_)) (.slice (some ⟨go6, 0, none⟩) x0_1.length co14) y302 := (by rw [hw, Ny302.out]; exact HP19.1); clear HP19; have n0_ := Aside0.mk (hp_); have n1_ := Aside0.mk ((by rw [hw]; exact below_set (HB.out) GB6.out : Below w0.heap.size w0 w20)); have n2_ := Aside0.mk (Kept.of_grown (S := (fun k_ => P0_ k_)) hg (by repeat (first | (with_reducible first | exact HK.out | apply Kept.alloc | apply Kept.drewN | apply Kept.drew) | exact HK.out)) (fun k_ e_ => (HO_0.out.1 k_ e_))); clear HO_0; clear HB; clear HK; have HO_0 := n0_; have HB := n1_; have HK := n2_; clear n0_ n1_ n2_; clear hg hw hp_) | ((with_reducible refine at_fn (f := 30) rfl ?_); refine goesL_ (some 31) rfl rfl Try.func30 (by kernel_rfl) rfl #[.int .i64 (wrap64 ((wrap64 (x1_1 + 1)) + 1))] rfl (by (try simp only [List.map_toArray, List.map_cons, List.map_nil]); first | done | rfl | (simp only [List.length_drop, List.length_take]; rfl)) ?_; (with_reducible refine (laws_markText.calls k1 (wrap64 ((wrap64 (x1_1 + 1)) + 1)) t303 _ A9.out).mono ?_); rintro e w21 ⟨rfl, hb⟩; refine ⟨_, rfl, ?_⟩; have n0_ := Aside0.mk (Kd.R_below (lf HO_0) hb); have n1_ := Aside0.mk (Kept.below (S := (fun k_ => P0_ k_)) (by repeat (first | (with_reducible first | exact HK.out | apply Kept.alloc | apply Kept.drewN | apply Kept.drew) | exact HK.out)) hb); have n2_ := Aside0.mk (below_step bw hb); clear HO_0; clear HK; clear HB; have HO_0 := n0_; have HK := n1_; have HB := n2_; clear n0_ n1_ n2_; (try clear hb); (try clear hb2); (try clear hk); (try clear hi); have p10 : 0 ≤ (x5_1 : Int) := of_decide_eq_true (by first | (with_reducible assumption) | assumption); have q10 : (x5_1 : Int) < ((x0_1.length : Int) : Int) := of_decide_eq_true (by first | (with_reducible assumption) | assumption); obtain ⟨ce10, hcl10, hM10, hcc10, hfr10⟩ := Kd.R_elem HO_0.out z61 (x5_1 : Int) p10 q10; obtain rfl := k61_openM hM10; have hx10_0 : w21.cell? ⟨go6, (x5_1 : Int).toNat * 5, none⟩ = some (.string ((rd_T61 y302 x5_1).f0)) := hcc10 0 _ rfl; have hx10_1 : w21.cell? ⟨go6, (x5_1 : Int).toNat * 5 + 1, none⟩ = some (.string ((rd_T61 y302 x5_1).f1)) := hcc10 1 _ rfl; have hx10_2 : w21.cell? ⟨go6, (x5_1 : Int).toNat * 5 + 2, none⟩ = some (.string ((rd_T61 y302 x5_1).f2)) := hcc10 2 _ rfl; have hx10_3 : w21.cell? ⟨go6, (x5_1 : Int).toNat * 5 + 3, none⟩ = some (.int .u64 ((rd_T61 y302 x5_1).f3)) := hcc10 3 _ rfl; have hx10_4 : w21.cell? ⟨go6, (x5_1 : Int).toNat * 5 + 4, none⟩ = some (.string ((rd_T61 y302 x5_1).f4)) := hcc10 4 _ rfl; have hf10_0 : w21.frozen? ⟨go6, (x5_1 : Int).toNat * 5, none⟩ = false := hfr10 0; have hf10_1 : w21.frozen? ⟨go6, (x5_1 : Int).toNat * 5 + 1, none⟩ = false := hfr10 1; have hf10_2 : w21.frozen? ⟨go6, (x5_1 : Int).toNat * 5 + 2, none⟩ = false := hfr10 2; have hf10_3 : w21.frozen? ⟨go6, (x5_1 : Int).toNat * 5 + 3, none⟩ = false := hfr10 3; have hf10_4 : w21.frozen? ⟨go6, (x5_1 : Int).toNat * 5 + 4, none⟩ = false := hfr10 4; clear hcl10 hcc10 hfr10 hM10; replace p10 := eq_true p10; replace q10 := eq_true q10; have HX22 := Aside0.mk (show Kd.R k61 61 w21 w0.heap.size (fun k_ => (P0_ k_ ∨ w.heap.size ≤ k_)) (.slice (some ⟨go6, 0, none⟩) x0_1.length co14) y302 from (lf HO_0)); obtain ⟨ce22, hcl22, hM22, hcc22, hfr22⟩ := Kd.R_elem HX22.out z61 (x5_1 : Int) (of_decide_eq_true (by first | (with_reducible assumption) | assumption)) (by have h_ : (x5_1 : Int) < ((x0_1.length : Int) : Int) := of_decide_eq_true (by first | (with_reducible assumption) | assumption); first | exact h_ | (have e_ := (Kd.R_reads' HO_0.out).1; omega) | simpa using h_); obtain rfl := k61_openM hM22; have HP22 := Kd.R_seg HX22.out (x5_1 : Int) (of_decide_eq_true (by first | (with_reducible assumption) | assumption)) (by have h_ : (x5_1 : Int) < ((x0_1.length : Int) : Int) := of_decide_eq_true (by first | (with_reducible assumption) | assumption); first | exact h_ | (have e_ := (Kd.R_reads' HO_0.out).1; omega) | simpa using h_) (seg := [.string t303]) (j := 2) hcl22 hcc22 (show 3 ≤ 5 from by decide) (x' := (⟨(rd_T61 y302 x5_1).f0, (rd_T61 y302 x5_1).f1, t303, (rd_T61 y302 x5_1).f3, (rd_T61 y302 x5_1).f4⟩ : S61)) (k61_mkM _ _ _ (⟨(rd_T61 y302 x5_1).f0, (rd_T61 y302 x5_1).f1, t303, (rd_T61 y302 x5_1).f3, (rd_T61 y302 x5_1).f4⟩ : S61) ) (fun _ hk => hk); have hx22_2 := hcc22 2 _ rfl; (try simp only [show (k61).sz = 5 from rfl, Nat.mul_one, Nat.add_zero] at hx22_2); have hf22_2 := hfr22 2; (try simp only [show (k61).sz = 5 from rfl, Nat.mul_one, Nat.add_zero] at hf22_2); clear hcl22 hcc22 hfr22 hM22) | ((with_reducible refine gate_store (t := 9) (p := 33) rfl ?_); refine store_event (t := 9) (p := 33) (v := ?vo_w23) (w1 := (w21.setCell ⟨go6, (x5_1 : Int).toNat * 5 + 2, none⟩ (.string t303))) ?hg ?ho ?hn ?hr ?_; (case ho => rfl); (case hg => rfl); (case hn => rfl); (case hr => first | (go_simp; done) | (go_simp; rfl)); intro w23 hw; have hg : w21.grownBy w23 (some go6) := (by rw [hw]; exact HP22.2); have hp_ : Kd.R k61 61 w23 w0.heap.size (fun k_ => (P0_ k_ ∨ w.heap.size ≤ k_)) (.slice (some ⟨go6, 0, none⟩) x0_1.length co14) y304 := (by rw [hw, Ny304.out]; exact HP22.1); clear HP22; have n0_ := Aside0.mk (hp_); have n1_ := Aside0.mk ((by rw [hw]; exact below_set (HB.out) GB6.out : Below w0.heap.size w0 w23)); have n2_ := Aside0.mk (Kept.of_grown (S := (fun k_ => P0_ k_)) hg (by repeat (first | (with_reducible first | exact HK.out | apply Kept.alloc | apply Kept.drewN | apply Kept.drew) | exact HK.out)) (fun k_ e_ => (HO_0.out.1 k_ e_))); clear HO_0; clear HB; clear HK; have HO_0 := n0_; have HB := n1_; have HK := n2_; clear n0_ n1_ n2_; clear hg hw hp_; have p11 : 0 ≤ (x5_1 : Int) := of_decide_eq_true (by first | (with_reducible assumption) | assumption); have q11 : (x5_1 : Int) < ((x0_1.length : Int) : Int) := of_decide_eq_true (by first | (with_reducible assumption) | assumption); obtain ⟨ce11, hcl11, hM11, hcc11, hfr11⟩ := Kd.R_elem HO_0.out z61 (x5_1 : Int) p11 q11; obtain rfl := k61_openM hM11; have hx11_0 : w23.cell? ⟨go6, (x5_1 : Int).toNat * 5, none⟩ = some (.string ((rd_T61 y304 x5_1).f0)) := hcc11 0 _ rfl; have hx11_1 : w23.cell? ⟨go6, (x5_1 : Int).toNat * 5 + 1, none⟩ = some (.string ((rd_T61 y304 x5_1).f1)) := hcc11 1 _ rfl; have hx11_2 : w23.cell? ⟨go6, (x5_1 : Int).toNat * 5 + 2, none⟩ = some (.string ((rd_T61 y304 x5_1).f2)) := hcc11 2 _ rfl; have hx11_3 : w23.cell? ⟨go6, (x5_1 : Int).toNat * 5 + 3, none⟩ = some (.int .u64 ((rd_T61 y304 x5_1).f3)) := hcc11 3 _ rfl; have hx11_4 : w23.cell? ⟨go6, (x5_1 : Int).toNat * 5 + 4, none⟩ = some (.string ((rd_T61 y304 x5_1).f4)) := hcc11 4 _ rfl; have hf11_0 : w23.frozen? ⟨go6, (x5_1 : Int).toNat * 5, none⟩ = false := hfr11 0; have hf11_1 : w23.frozen? ⟨go6, (x5_1 : Int).toNat * 5 + 1, none⟩ = false := hfr11 1; have hf11_2 : w23.frozen? ⟨go6, (x5_1 : Int).toNat * 5 + 2, none⟩ = false := hfr11 2; have hf11_3 : w23.frozen? ⟨go6, (x5_1 : Int).toNat * 5 + 3, none⟩ = false := hfr11 3; have hf11_4 : w23.frozen? ⟨go6, (x5_1 : Int).toNat * 5 + 4, none⟩ = false := hfr11 4; clear hcl11 hcc11 hfr11 hM11; replace p11 := eq_true p11; replace q11 := eq_true q11; have HX24 := Aside0.mk (show Kd.R k61 61 w23 w0.heap.size (fun k_ => (P0_ k_ ∨ w.heap.size ≤ k_)) (.slice (some ⟨go6, 0, none⟩) x0_1.length co14) y304 from (lf HO_0)); obtain ⟨ce24, hcl24, hM24, hcc24, hfr24⟩ := Kd.R_elem HX24.out z61 (x5_1 : Int) (of_decide_eq_true (by first | (with_reducible assumption) | assumption)) (by have h_ : (x5_1 : Int) < ((x0_1.length : Int) : Int) := of_decide_eq_true (by first | (with_reducible assumption) | assumption); first | exact h_ | (have e_ := (Kd.R_reads' HO_0.out).1; omega) | simpa using h_); obtain rfl := k61_openM hM24; have HP24 := Kd.R_seg HX24.out (x5_1 : Int) (of_decide_eq_true (by first | (with_reducible assumption) | assumption)) (by have h_ : (x5_1 : Int) < ((x0_1.length : Int) : Int) := of_decide_eq_true (by first | (with_reducible assumption) | assumption); first | exact h_ | (have e_ := (Kd.R_reads' HO_0.out).1; omega) | simpa using h_) (seg := [.int .u64 (IntKind.u64.wrap (wrap64 ((wrap64 ((wrap64 (x1_1 + 1)) + 1)) + 1)))]) (j := 3) hcl24 hcc24 (show 4 ≤ 5 from by decide) (x' := (⟨(rd_T61 y304 x5_1).f0, (rd_T61 y304 x5_1).f1, (rd_T61 y304 x5_1).f2, IntKind.u64.wrap (wrap64 ((wrap64 ((wrap64 (x1_1 + 1)) + 1)) + 1)), (rd_T61 y304 x5_1).f4⟩ : S61)) (k61_mkM _ _ _ (⟨(rd_T61 y304 x5_1).f0, (rd_T61 y304 x5_1).f1, (rd_T61 y304 x5_1).f2, IntKind.u64.wrap (wrap64 ((wrap64 ((wrap64 (x1_1 + 1)) + 1)) + 1)), (rd_T61 y304 x5_1).f4⟩ : S61) ) (fun _ hk => hk); have hx24_3 := hcc24 3 _ rfl; (try simp only [show (k61).sz = 5 from rfl, Nat.mul_one, Nat.add_zero] at hx24_3); have hf24_3 := hfr24 3; (try simp only [show (k61).sz = 5 from rfl, Nat.mul_one, Nat.add_zero] at hf24_3); clear hcl24 hcc24 hfr24 hM24) | ((with_reducible refine gate_store (t := 39) (p := 41) rfl ?_); refine store_event (t := 39) (p := 41) (v := ?vo_w25) (w1 := (w23.setCell ⟨go6, (x5_1 : Int).toNat * 5 + 3, none⟩ (.int .u64 (IntKind.u64.wrap (wrap64 ((wrap64 ((wrap64 (x1_1 + 1)) + 1)) + 1)))))) ?hg ?ho ?hn ?hr ?_; (case ho => rfl); (case hg => rfl); (case hn => rfl); (case hr => first | (go_simp; done) | (go_simp; rfl)); intro w25 hw; have hg : w23.grownBy w25 (some go6) := (by rw [hw]; exact HP24.2); have hp_ : Kd.R k61 61 w25 w0.heap.size (fun k_ => (P0_ k_ ∨ w.heap.size ≤ k_)) (.slice (some ⟨go6, 0, none⟩) x0_1.length co14) y305 := (by rw [hw, Ny305.out]; exact HP24.1); clear HP24; have n0_ := Aside0.mk (hp_); have n1_ := Aside0.mk ((by rw [hw]; exact below_set (HB.out) GB6.out : Below w0.heap.size w0 w25)); have n2_ := Aside0.mk (Kept.of_grown (S := (fun k_ => P0_ k_)) hg (by repeat (first | (with_reducible first | exact HK.out | apply Kept.alloc | apply Kept.drewN | apply Kept.drew) | exact HK.out)) (fun k_ e_ => (HO_0.out.1 k_ e_))); clear HO_0; clear HB; clear HK; have HO_0 := n0_; have HB := n1_; have HK := n2_; clear n0_ n1_ n2_; clear hg hw hp_) | ((with_reducible refine at_fn (f := 30) rfl ?_); refine goesL_ (some 47) rfl rfl Try.func30 (by kernel_rfl) rfl #[.int .i64 (wrap64 ((wrap64 ((wrap64 ((wrap64 (x1_1 + 1)) + 1)) + 1)) + 1))] rfl (by (try simp only [List.map_toArray, List.map_cons, List.map_nil]); first | done | rfl | (simp only [List.length_drop, List.length_take]; rfl)) ?_; (with_reducible refine (laws_markText.calls k1 (wrap64 ((wrap64 ((wrap64 ((wrap64 (x1_1 + 1)) + 1)) + 1)) + 1)) t306 _ A12.out).mono ?_); rintro e w26 ⟨rfl, hb⟩; refine ⟨_, rfl, ?_⟩; have n0_ := Aside0.mk (Kd.R_below (lf HO_0) hb); have n1_ := Aside0.mk (Kept.below (S := (fun k_ => P0_ k_)) (by repeat (first | (with_reducible first | exact HK.out | apply Kept.alloc | apply Kept.drewN | apply Kept.drew) | exact HK.out)) hb); have n2_ := Aside0.mk (below_step bw hb); clear HO_0; clear HK; clear HB; have HO_0 := n0_; have HK := n1_; have HB := n2_; clear n0_ n1_ n2_; (try clear hb); (try clear hb2); (try clear hk); (try clear hi); have p13 : 0 ≤ (x5_1 : Int) := of_decide_eq_true (by first | (with_reducible assumption) | assumption); have q13 : (x5_1 : Int) < ((x0_1.length : Int) : Int) := of_decide_eq_true (by first | (with_reducible assumption) | assumption); obtain ⟨ce13, hcl13, hM13, hcc13, hfr13⟩ := Kd.R_elem HO_0.out z61 (x5_1 : Int) p13 q13; obtain rfl := k61_openM hM13; have hx13_0 : w26.cell? ⟨go6, (x5_1 : Int).toNat * 5, none⟩ = some (.string ((rd_T61 y305 x5_1).f0)) := hcc13 0 _ rfl; have hx13_1 : w26.cell? ⟨go6, (x5_1 : Int).toNat * 5 + 1, none⟩ = some (.string ((rd_T61 y305 x5_1).f1)) := hcc13 1 _ rfl; have hx13_2 : w26.cell? ⟨go6, (x5_1 : Int).toNat * 5 + 2, none⟩ = some (.string ((rd_T61 y305 x5_1).f2)) := hcc13 2 _ rfl; have hx13_3 : w26.cell? ⟨go6, (x5_1 : Int).toNat * 5 + 3, none⟩ = some (.int .u64 ((rd_T61 y305 x5_1).f3)) := hcc13 3 _ rfl; have hx13_4 : w26.cell? ⟨go6, (x5_1 : Int).toNat * 5 + 4, none⟩ = some (.string ((rd_T61 y305 x5_1).f4)) := hcc13 4 _ rfl; have hf13_0 : w26.frozen? ⟨go6, (x5_1 : Int).toNat * 5, none⟩ = false := hfr13 0; have hf13_1 : w26.frozen? ⟨go6, (x5_1 : Int).toNat * 5 + 1, none⟩ = false := hfr13 1; have hf13_2 : w26.frozen? ⟨go6, (x5_1 : Int).toNat * 5 + 2, none⟩ = false := hfr13 2; have hf13_3 : w26.frozen? ⟨go6, (x5_1 : Int).toNat * 5 + 3, none⟩ = false := hfr13 3; have hf13_4 : w26.frozen? ⟨go6, (x5_1 : Int).toNat * 5 + 4, none⟩ = false := hfr13 4; clear hcl13 hcc13 hfr13 hM13; replace p13 := eq_true p13; replace q13 := eq_true q13; have HX27 := Aside0.mk (show Kd.R k61 61 w26 w0.heap.size (fun k_ => (P0_ k_ ∨ w.heap.size ≤ k_)) (.slice (some ⟨go6, 0, none⟩) x0_1.length co14) y305 from (lf HO_0)); obtain ⟨ce27, hcl27, hM27, hcc27, hfr27⟩ := Kd.R_elem HX27.out z61 (x5_1 : Int) (of_decide_eq_true (by first | (with_reducible assumption) | assumption)) (by have h_ : (x5_1 : Int) < ((x0_1.length : Int) : Int) := of_decide_eq_true (by first | (with_reducible assumption) | assumption); first | exact h_ | (have e_ := (Kd.R_reads' HO_0.out).1; omega) | simpa using h_); obtain rfl := k61_openM hM27; have HP27 := Kd.R_seg HX27.out (x5_1 : Int) (of_decide_eq_true (by first | (with_reducible assumption) | assumption)) (by have h_ : (x5_1 : Int) < ((x0_1.length : Int) : Int) := of_decide_eq_true (by first | (with_reducible assumption) | assumption); first | exact h_ | (have e_ := (Kd.R_reads' HO_0.out).1; omega) | simpa using h_) (seg := [.string t306]) (j := 4) hcl27 hcc27 (show 5 ≤ 5 from by decide) (x' := (⟨(rd_T61 y305 x5_1).f0, (rd_T61 y305 x5_1).f1, (rd_T61 y305 x5_1).f2, (rd_T61 y305 x5_1).f3, t306⟩ : S61)) (k61_mkM _ _ _ (⟨(rd_T61 y305 x5_1).f0, (rd_T61 y305 x5_1).f1, (rd_T61 y305 x5_1).f2, (rd_T61 y305 x5_1).f3, t306⟩ : S61) ) (fun _ hk => hk); have hx27_4 := hcc27 4 _ rfl; (try simp only [show (k61).sz = 5 from rfl, Nat.mul_one, Nat.add_zero] at hx27_4); have hf27_4 := hfr27 4; (try simp only [show (k61).sz = 5 from rfl, Nat.mul_one, Nat.add_zero] at hf27_4); clear hcl27 hcc27 hfr27 hM27) | ((with_reducible refine gate_store (t := 9) (p := 49) rfl ?_); refine store_event (t := 9) (p := 49) (v := ?vo_w28) (w1 := (w26.setCell ⟨go6, (x5_1 : Int).toNat * 5 + 4, none⟩ (.string t306))) ?hg ?ho ?hn ?hr ?_; (case ho => rfl); (case hg => rfl); (case hn => rfl); (case hr => first | (go_simp; done) | (go_simp; rfl)); intro w28 hw; have hg : w26.grownBy w28 (some go6) := (by rw [hw]; exact HP27.2); have hp_ : Kd.R k61 61 w28 w0.heap.size (fun k_ => (P0_ k_ ∨ w.heap.size ≤ k_)) (.slice (some ⟨go6, 0, none⟩) x0_1.length co14) y307 := (by rw [hw, Ny307.out]; exact HP27.1); clear HP27; have n0_ := Aside0.mk (hp_); have n1_ := Aside0.mk ((by rw [hw]; exact below_set (HB.out) GB6.out : Below w0.heap.size w0 w28)); have n2_ := Aside0.mk (Kept.of_grown (S := (fun k_ => P0_ k_)) hg (by repeat (first | (with_reducible first | exact HK.out | apply Kept.alloc | apply Kept.drewN | apply Kept.drew) | exact HK.out)) (fun k_ e_ => (HO_0.out.1 k_ e_))); clear HO_0; clear HB; clear HK; have HO_0 := n0_; have HB := n1_; have HK := n2_; clear n0_ n1_ n2_; clear hg hw hp_))
     go_roundg k1
     case measure => have := HK1.out; omega
     case rel => exact ⟨(y307), (wrap64 ((wrap64 ((wrap64 ((wrap64 ((wrap64 (x1_1 + 1)) + 1)) + 1)) + 1)) + 1)), (wrap64 (x5_1 + 1)), (by first | rfl | (simp; done) | (simp [*]; done)), (by first | rfl | (simp; done) | (simp [*]; done)), H', ⟨by have := HK1.out; omega⟩, ⟨lf HO_0⟩, ⟨by repeat (first | (with_reducible first | exact HK.out | apply Kept.alloc | apply Kept.drewN | apply Kept.drew) | exact HK.out)⟩, ⟨bw⟩⟩
    ·rw [if_neg c5] at H
     exact absurd H (by simp)
   ·rw [if_neg c3] at H
    have c3b0 : decide (x5_1 < (x0_1.length : Int)) = false := decide_eq_false c3
    clear c3
    simp only [Option.some.injEq, Prod.mk.injEq] at H
    obtain ⟨rfl, rfl⟩ := H
    obtain ⟨Ao29, co29, eo29⟩ := Kd.R_slice HO_0.out
    subst eo29
    go_wp2
    go_ret
    exact ⟨by first | rfl | (simp [errW_none, errW_some] <;> rfl) | (simp [*, errW_none, errW_some] <;> rfl), lf HO_0, bw, by repeat (first | (with_reducible first | exact HK.out | apply Kept.alloc | apply Kept.drewN | apply Kept.drew) | exact HK.out)⟩

end Go.Proofs.Ytmaildoddeimbaa.Q
