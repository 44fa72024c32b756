/- FnExactMatchRegex: the row of the law: its arguments opened, its walk, its statement over lists (PrFnExactMatchRegex). No condition. -/
import Derived.Test.YtcdpmmpdfdillaaCFnExactMatchRegex1
import Derived.Shelf.Small.Strs
import Derived.Shelf.Strings.Search1
import Derived.Test.YtcdpmmpdfdillaaProg
import Derived.Defers
import Derived.Recover
import Derived.RegionTactic
import Derived.ChangeAlike

namespace Go.Proofs.Ytcdpmmpdfdillaa.Q
open Go.RowKit Go.Proofs.YtcdpmmpdfdillaaW.PrintWords Go.Proofs.YtcdpmmpdfdillaaW.PrintLast
set_option linter.unusedVariables false
set_option linter.unusedSimpArgs false
theorem bldA_snoc (x : Rx) (nx : Nat) : ∀ (ys : List Rx) (m : Sts), bldA (ys ++ [x]) nx m = ((bldA ys nx m).1 ++ [(bld x nx (bldA ys nx m).2).1], (bld x nx (bldA ys nx m).2).2)
  | [], m => by simp [bldA]
  | y :: ys, m => by rw [List.cons_append, bldA, bldA_snoc x nx ys, bldA]; rfl
theorem bldA_app (nx : Nat) : ∀ (ys zs : List Rx) (m : Sts), (bldA (ys ++ zs) nx m).2 = (bldA zs nx (bldA ys nx m).2).2
  | [], zs, m => by simp [bldA]
  | y :: ys, zs, m => by rw [List.cons_append, bldA, bldA_app nx ys zs, bldA]
theorem bldA_le (xs : List Rx) (j nx : Nat) (m : Sts) : (bldA (xs.take j) nx m).2.length ≤ (bldA xs nx m).2.length := by
  have h := bldA_app nx (xs.take j) (xs.drop j) m
  rw [List.take_append_drop] at h
  rw [h]
  exact (bldA_ext _ _ _).1
theorem bldA_take {xs : List Rx} {j : Nat} {x : Rx} (h : xs[j]? = some x) (nx : Nat) (m : Sts) : bldA (xs.take (j + 1)) nx m = ((bldA (xs.take j) nx m).1 ++ [(bld x nx (bldA (xs.take j) nx m).2).1], (bld x nx (bldA (xs.take j) nx m).2).2) := by
  rw [List.take_add_one, h]
  exact bldA_snoc x nx _ m
theorem bldA_len (nx : Nat) : ∀ (xs : List Rx) (m : Sts), (bldA xs nx m).1.length = xs.length
  | [], m => by rw [bldA]; rfl
  | x :: xs, m => by rw [bldA]; simp [bldA_len nx xs]
theorem zeroAlt (w : World) : (zeroValue 64).run Try.prog w = .ok (.agg #[.slice none 0 0]) w := by kernel_rfl
theorem infoInt : (Try.prog.info? 3).map (fun i => (i.zero, i.size, i.bytes)) = some (some (.int .i64 0), 1, 8) := by kernel_rfl
attribute [local go_sem high] zeroAlt
/-- The ways under way. -/
def UW (W W' : World) (B : Nat) (P : Nat → Prop) (gm nd : Nat) (ct : Obj) (m : Sts) (ls : List Nat) (v : Value) : Prop :=
  RepM W' B (fun k => (P k ∨ W.heap.size ≤ k) ∧ some k ≠ v.ownBlock) gm m ∧ W'.ownsRow W.heap.size 3 1 v ls.length (ints ls) ∧ KeepT W W' ∧ W'.heap[nd]? = some ct
theorem uw_push {W wr W3 w5 : World} {B gm f : Nat} {P : Nat → Prop} {cs : Array Value} {o : Obj} {mj m' : Sts} {wj : List Nat} {v v5 : Value} (h0 : UW W wr B P gm W.heap.size (.cells cs 64 (0, 0)) mj wj v)
    (h1 : RepM W3 B (fun k => ((P k ∨ W.heap.size ≤ k) ∧ some k ≠ v.ownBlock) ∨ wr.heap.size ≤ k) gm m') (h3 : KeepT wr W3) (hown : w5.ownsRow W.heap.size 3 1 v5 (wj.length + 1) (ints wj ++ [.int .i64 (f : Int)]))
    (hgr : (W3.alloc o).grownBy w5 v.ownBlock) (hloc : ∀ k, v5.ownBlock = some k → v.ownBlock = some k ∨ (W3.alloc o).heap.size ≤ k) : UW W w5 B P gm W.heap.size (.cells cs 64 (0, 0)) m' (wj ++ [f]) v5 := by
  obtain ⟨_, g2, g3, g4⟩ := h0
  have hlt := blk_lt g4
  have o3 : W3.ownsRow W.heap.size 3 1 v wj.length (ints wj) := own_move g2 (fun k hk => by
    obtain ⟨c, hc⟩ := own_typed g2 k hk
    exact h3 k c _ hc (by decide) (by decide) (by decide))
  have o4 := o3.alloc o
  have n3 := (h3 _ _ _ g4 (by decide) (by decide) (by decide)).trans g4
  have h4 := (h1.alloc o).weak (P' := fun k => ((P k ∨ W.heap.size ≤ k) ∧ some k ≠ v.ownBlock) ∧ k < (W3.alloc o).heap.size) (fun k hk h => ⟨h.elim id (fun h => ⟨.inr (by omega), fun e => by have := own_lt g2 k e.symm; omega⟩), hk⟩)
  have h5 : RepM w5 B (fun k => ((P k ∨ W.heap.size ≤ k) ∧ some k ≠ v.ownBlock) ∧ k < (W3.alloc o).heap.size) gm m' := h4.move fun k hk hc => hgr.block k hk (fun e => by
    rcases hc with hc | ⟨c, t, hc, ht⟩
    · exact hc.1.2 e
    · exact own_notblk o4 hc (fun e => ht e.symm) e.symm)
  refine ⟨h5.weak fun k _ h => ⟨h.1.1, fun e => ?_⟩, ?_, ?_, ?_⟩
  · rcases hloc k e.symm with e' | e'
    · exact h.1.2 e'.symm
    · omega
  · rw [List.length_append, ints, List.map_append]; exact hown
  · have hk := g3.trans h3
    intro k c t hc a1 a2 a3
    have e1 := hk k c t hc a1 a2 a3
    have hkl := blk_lt hc
    have hkl3 := blk_lt (e1.trans hc)
    exact ((hgr.block k (by rw [sz_al]; omega) (fun e => by have := own_base o4 k e.symm; omega)).trans (heap_alloc_old W3 _ hkl3)).trans e1
  · exact (hgr.block _ (by rw [sz_al]; have := blk_lt n3; omega) (fun e => own_notblk o3 n3 (by decide) e.symm)).trans ((heap_alloc_old W3 _ (blk_lt n3)).trans n3)
set_option maxHeartbeats 4000000 in
set_option maxRecDepth 100000 in
theorem build_alt (xs : List Rx) (ih : ∀ x ∈ xs, BuildP x) : BuildP (.alt xs) := by
  intro wp W P ok gm nx m v hB hx hM hl hct
  have hcs : cntS xs ≤ 100000 := by unfold cnt at hct; omega
  have HCT := Aside0.mk (And.intro hcs (Nat.le_trans (cntS_len xs) hcs))
  clear hct hcs
  unfold RepX at hx
  obtain ⟨u, vs, rfl, ho, hok, hxs⟩ := hx
  have hvl := RepXs_len xs vs hxs
  rw [hvl] at ho
  have t1 := ta_alt1
  have t2 := ta_alt2
  have t3 := ta_alt
  obtain ⟨A, nu, c, rfl⟩ : ∃ A nu c, u = .slice A nu c := by
    rcases ho.2 with ⟨e, _⟩ | ⟨g, cap, cur, e, _⟩
    · exact ⟨_, _, _, e⟩
    · exact ⟨_, _, _, e⟩
  obtain rfl : nu = xs.length := by
    rcases ho.2 with ⟨e, h0⟩ | ⟨g, cap, cur, e, _⟩
    · injection e with _ e _; omega
    · injection e
  have hl2 : (bldA xs nx m).2.length + 1 ≤ 100000 := by unfold bld at hl; rw [List.length_append] at hl; exact hl
  obtain ⟨i0, hi, hz0, hz1, hz2⟩ := info_parts infoInt
  have HI := Aside0.mk (And.intro hi (And.intro hz0 (And.intro hz1 hz2)))
  have HM := Aside0.mk (And.intro hM (And.intro hB hl2))
  have HX := Aside0.mk (And.intro ho hxs)
  clear hM hB hl hl2 ho hxs hok hvl hi hz0 hz1 hz2
  go_enter Try.func15, Try.ntmps15
  go_wp2_with fail
  have hW1 : (W.alloc (.cells #[.slice A xs.length c] 64)).heap[W.heap.size]? = some (.cells #[.slice A xs.length c] 64 (0, 0)) := heap_alloc_new W _
  have hk1 : KeepT W (W.alloc (.cells #[.slice A xs.length c] 64)) := KeepT.alloc _ _
  have hM1 := (HM.out.1.alloc (.cells #[.slice A xs.length c] 64)).weak (P' := fun k => (P k ∨ W.heap.size ≤ k) ∧ some k ≠ (Value.slice none 0 0).ownBlock) (fun k _ h => ⟨.inl h, by simp [Value.ownBlock]⟩)
  have hB1 := below_alloc HM.out.2.1 (.cells #[.slice A xs.length c] 64)
  generalize W.alloc (.cells #[.slice A xs.length c] 64) = W1 at *
  have HU : Aside0 (UW W W1 wp.heap.size P gm W.heap.size (.cells #[.slice A xs.length c] 64 (0, 0)) (bldA (xs.take 0) nx m).2 (bldA (xs.take 0) nx m).1 (.slice none 0 0)) := ⟨by
    rw [List.take_zero, bldA]
    exact ⟨hM1, ⟨rfl, .inl ⟨rfl, rfl⟩⟩, hk1, hW1⟩⟩
  have HB1 := Aside0.mk hB1
  clear hW1 hk1 hM1 hB1 t1 t2 t3
  go_loopw [11, 52] (fun v11 v52 W' => ∃ (j : Nat), j ≤ xs.length ∧ v52 = .int .i64 j ∧ (∃ A' n' c', v11 = .slice A' n' c') ∧ Aside0 (UW W W' wp.heap.size P gm W.heap.size (.cells #[.slice A xs.length c] 64 (0, 0)) (bldA (xs.take j) nx m).2 (bldA (xs.take j) nx m).1 v11) ∧ Aside0 (Below wp.heap.size wp W')) (fun _ v52 _ => xs.length - (intOf v52).toNat)
  case atStart => exact ⟨0, by omega, rfl, ⟨_, _, _, rfl⟩, HU, HB1⟩
  case round =>
    clear HU HB1
    obtain ⟨j, hj, rfl, ⟨Aw, nw, cw, rfl⟩, HU, HB1⟩ := hrel
    by_cases hlt : j < xs.length
    · have dl : decide ((j : Int) < (xs.length : Int)) = true := decide_eq_true (by omega)
      obtain ⟨x, hx⟩ : ∃ x, xs[j]? = some x := ⟨_, List.getElem?_eq_getElem hlt⟩
      obtain ⟨v, hv, hr⟩ := RepXs_get xs vs HX.out.2 j x hx
      obtain ⟨g, c', eA, hc⟩ := own_part HX.out.1 hv
      injection eA with eA e2 e3
      subst eA; subst e3
      clear e2
      have hc2 : wr.cell? ⟨g, j, none⟩ = some v := (HB1.out.cell (World.block_lt_of_cell? wp _ hc)).trans hc
      have i1 : ((j : Int) < (xs.length : Int)) = True := eq_true (by omega)
      have i2 : ((0 : Int) ≤ (j : Int)) = True := eq_true (by omega)
      have hwj : IntKind.i64.wrap ((j : Int) + 1) = ((j + 1 : Nat) : Int) := by have := HCT.out.2; rw [IntKind.wrap_i64]; omega
      have hd := bldA_take hx nx m
      have hle : (bld x nx (bldA (xs.take j) nx m).2).2.length ≤ 100000 := by
        have h1 := bldA_le xs (j + 1) nx m
        rw [hd] at h1
        have h2 := HM.out.2.2
        simp only at h1
        omega
      have hwl : (bldA (xs.take j) nx m).1.length ≤ 100000 := by rw [bldA_len, List.length_take]; have := HCT.out.2; omega
      have HWL := Aside0.mk hwl
      have HC := Aside0.mk (ih x (List.mem_of_getElem? hx) wp wr _ ok gm nx _ v HB1.out hr HU.out.1 hle (Nat.le_trans (cntS_mem (List.mem_of_getElem? hx)) HCT.out.1))
      have HD := Aside0.mk hd
      clear hd hle hx hv hr hc hwl
      go_wp2_with fail
      refine HC.out.mono ?_
      rintro ex W3 ⟨rfl, h1, h2, h3⟩
      have o3 : W3.ownsRow W.heap.size 3 1 (.slice Aw nw cw) (bldA (xs.take j) nx m).1.length (ints (bldA (xs.take j) nx m).1) := own_move HU.out.2.1 (fun k hk => by
        obtain ⟨cc, hcc⟩ := own_typed HU.out.2.1 k hk
        exact h3 k cc _ hcc (by decide) (by decide) (by decide))
      have HF := Aside0.mk (And.intro h1 (And.intro h2 (And.intro h3 o3)))
      clear h1 h2 h3 o3 HC hc2
      obtain ⟨f, hf⟩ : ∃ f, (bld x nx (bldA (xs.take j) nx m).2).1 = f := ⟨_, rfl⟩
      rw [hf] at HD ⊢
      obtain ⟨wj, hwj2⟩ : ∃ wj, (bldA (xs.take j) nx m).1 = wj := ⟨_, rfl⟩
      rw [hwj2] at HD HF HWL HU
      clear hf hwj2
      go_wp2_with (at_builtin; refine wpList_append_at rfl (.tmp 56) (.tmp 61) 52 rfl W.heap.size 3 i0 (.int .i64 0) 1 8 und52 HI.out.1 HI.out.2.1 HI.out.2.2.1 HI.out.2.2.2 rfl (by decide) (.slice Aw nw cw) wj.length (ints wj) rfl (HF.out.2.2.2.alloc _) ⟨W3.heap.size, 0, none⟩ 1 1 [.int .i64 (f : Int)] rfl rfl (one_cells _) (fun u hu => by rw [List.mem_singleton.1 hu]; rfl) (by have := HWL.out; simp only [maxLen]; omega) (by have := HWL.out; omega) (by rw [sz_al]; have h1 := blk_lt HU.out.2.2.2; have h2 := blk_lt ((HF.out.2.2.1 _ _ _ HU.out.2.2.2 (by decide) (by decide) (by decide)).trans HU.out.2.2.2); omega) ?_
                   intro v5 w5 hown hgr hloc
                   have HG := Aside0.mk (And.intro hown (And.intro hgr hloc))
                   obtain ⟨b5, k5, rfl⟩ := own_sl1 hown
                   clear hown hgr hloc)
      have hU2 := uw_push HU.out HF.out.1 HF.out.2.2.1 HG.out.1 HG.out.2.1 HG.out.2.2
      have hb5 := grownB HF.out.2.1 HG.out.2.1 (fun k hk => by have := own_base HF.out.2.2.2 k hk; have := HM.out.2.1.size; omega)
      have HU2 := Aside0.mk (And.intro hU2 hb5)
      clear hU2 hb5
      go_roundw
      case measure => simp only [intOf]; omega
      case rel => exact ⟨j + 1, by omega, by rw [Int.natCast_add]; rfl, ⟨_, _, _, rfl⟩, ⟨by rw [HD.out]; exact HU2.out.1⟩, ⟨HU2.out.2⟩⟩
    · obtain rfl : j = xs.length := by omega
      have dl : decide ((xs.length : Int) < (xs.length : Int)) = false := decide_eq_false (by omega)
      obtain ⟨g1, g2, g3, g4⟩ := HU.out
      rw [List.take_length] at g1 g2
      have hMm := g1.weak (P' := fun k => P k ∨ W.heap.size ≤ k) (fun k _ h => h.1)
      have hway : WayP wr wp.heap.size (bldA xs nx m).1 (.slice Aw nw cw) := own_weaken g2 HM.out.2.1.size
      have hnew : ∀ k, (Value.slice Aw nw cw).ownBlock = some k → P k ∨ W.heap.size ≤ k := fun k hk => .inr (own_base g2 k hk)
      have HS := Aside0.mk (state_call wp wr _ gm _ none _ (.pointer none) _ HB1.out hMm rfl hway hnew (by have := HM.out.2.2; omega))
      have HK := Aside0.mk g3
      clear g1 g2 g3 g4 hMm hway hnew
      go_wp2_with fail
      refine HS.out.mono ?_
      rintro ex W4 ⟨rfl, h1, h2, h3⟩
      have HF := Aside0.mk (And.intro h1 (And.intro h2 (HK.out.trans h3)))
      clear h1 h2 h3
      go_wp2_with fail
      go_ret
      refine ⟨?_, ?_, HF.out.2⟩
      · unfold bld; rfl
      · unfold bld; exact HF.out.1
end Go.Proofs.Ytcdpmmpdfdillaa.Q

namespace Go.Proofs.Ytcdpmmpdfdillaa.Q
open Go.RowKit Go.Proofs.YtcdpmmpdfdillaaW.PrintWords Go.Proofs.YtcdpmmpdfdillaaW.PrintLast
set_option linter.unusedVariables false
set_option linter.unusedSimpArgs false
attribute [local go_sem high] zero87
def PostX (g : Nat) (p : ByteArray) (o : Int) (w : World) (r : Except (Int × Int) (Rx × Int)) (e : Ending) (w' : World) : Prop :=
  RP r (fun x => ∃ v, e = .returned v ∧ RepX w' (fun k => w.heap.size ≤ k) x.1 v ∧ St w' g p x.2 o ∧ Bx w.heap.size g w w') (fun c a => e = .panicked (flt c a) ∧ Bx w.heap.size g w w')
def AltC (k : Nat) : Prop := ∀ (g : Nat) (p : ByteArray) (i o : Int) (r : Except (Int × Int) (Rx × Int)), altL k p i o [] = some r → 0 ≤ i → i ≤ p.size → p.size ≤ 200 → 0 ≤ o → o ≤ 20 → ∀ w, St w g p i o → Calls Try.prog 35 #[.pointer (some ⟨g, 0, none⟩)] w (PostX g p o w r)
def SeqC (k : Nat) : Prop := ∀ (g : Nat) (p : ByteArray) (i o : Int) (r : Except (Int × Int) (Rx × Int)), seqL k p i o [] = some r → 0 ≤ i → i ≤ p.size → p.size ≤ 200 → 0 ≤ o → o ≤ 20 → ∀ w, St w g p i o → Calls Try.prog 45 #[.pointer (some ⟨g, 0, none⟩)] w (PostX g p o w r)
def AtomC (k : Nat) : Prop := ∀ (g : Nat) (p : ByteArray) (i o : Int) (r : Except (Int × Int) (Rx × Int)), atomF k p i o = some r → 0 ≤ i → i < p.size → p.size ≤ 200 → 0 ≤ o → o ≤ 20 → ∀ w, St w g p i o → Calls Try.prog 48 #[.pointer (some ⟨g, 0, none⟩)] w (PostX g p o w r)
theorem RepX_bx {w w1 : World} {g : Nat} {x : Rx} {v : Value} {ok : Nat → Prop} (h : RepX w ok x v) (hb : Bx w.heap.size g w w1) (hg : ∀ k, ok k → k ≠ g) : RepX w1 ok x v := RepX_move (fun k hk hl => ⟨hk, hb.block k hl (hg k hk)⟩) _ _ h
set_option maxHeartbeats 4000000 in
set_option maxRecDepth 100000 in
theorem atom_paren (k : Nat) (IH : AltC k) (g : Nat) (p : ByteArray) (i o : Int) (r : Except (Int × Int) (Rx × Int)) (h : atomF (k + 1) p i o = some r) (h0 : 0 ≤ i) (h1 : i < p.size) (hp : p.size ≤ 200) (o0 : 0 ≤ o) (o1 : o ≤ 20) (w : World) (hs : St w g p i o) (e1 : bt p i = 40) :
    Calls Try.prog 48 #[.pointer (some ⟨g, 0, none⟩)] w (PostX g p o w r) := by
  have HS := Aside0.mk hs
  have hgl : g < w.heap.size := lt_of_some hs
  have c0 := hs.c0
  have c1 := hs.c1
  have c2 := hs.c2
  have f1 := hs.fr 1
  have f2 := hs.fr 2
  have kr : K0 (Bx w.heap.size g w w) := ⟨Bx.refl _ _ _⟩
  have hx := bt_at p i
  have HIH := Aside0.mk IH
  have hA := h
  simp only [atomF] at hA
  rw [if_pos e1] at hA
  have d1 : (bt p i == 40) = true := beq_iff_eq.mpr e1
  clear IH h hs e1
  by_cases e2 : o = 20
  · rw [if_pos e2] at hA
    obtain rfl := Option.some.inj hA
    have d2 : (o == 20) = true := beq_iff_eq.mpr e2
    clear e2
    go_enter Try.func48, Try.ntmps48
    go_wp2_with fail
    go_at_call 36
    refine (fail_calls _ _ _ _).mono ?_
    rintro e w' ⟨rfl, rfl⟩
    exact ⟨rfl, rfl, kk⟩
  · rw [if_neg e2] at hA
    have d2 : (o == 20) = false := beq_eq_false_iff_ne.mpr e2
    have o2 : 0 ≤ o + 1 := by omega
    have o3 : o + 1 ≤ 20 := by omega
    have i2 : 0 ≤ i + 1 := by omega
    have i3 : i + 1 ≤ p.size := by omega
    have HA := Aside0.mk hA
    clear e2 hA
    have hs2 : St ((w.setCell ⟨g, 1, none⟩ (.int .i64 (i + 1))).setCell ⟨g, 2, none⟩ (.int .i64 (o + 1))) g p (i + 1) (o + 1) := stt HS
    have hx2 : Bx w.heap.size g w ((w.setCell ⟨g, 1, none⟩ (.int .i64 (i + 1))).setCell ⟨g, 2, none⟩ (.int .i64 (o + 1))) := kk
    have HS2 := Aside0.mk hs2
    have HX2 := Aside0.mk hx2
    clear hs2 hx2
    go_enter Try.func48, Try.ntmps48
    go_wp2_with fail
    go_at_call 35
    cases hq : altL k p (i + 1) (o + 1) [] with
    | none => exfalso; have := HA.out; rw [hq] at this; cases this
    | some q =>
    refine (HIH.out g p (i + 1) (o + 1) q hq i2 i3 hp o2 o3 _ HS2.out).mono ?_
    rintro e w1 hch
    clear c0 c1 c2 f1 f2 kr
    rcases q with ⟨c, a⟩ | ⟨x, j⟩
    · obtain ⟨rfl, hb1⟩ := hch
      have hA := HA.out
      rw [hq] at hA
      obtain rfl := Option.some.inj hA
      exact ⟨rfl, rfl, HX2.out.trans (hb1.lower HX2.out.size)⟩
    · obtain ⟨v, rfl, hrep, hst, hb1⟩ := hch
      have hA := HA.out
      rw [hq] at hA
      simp only [obind] at hA
      have hjb := (par_ok k).1 _ _ _ _ _ hq i2 i3
      have j0 : 0 ≤ j := by have := hjb.1; omega
      have j1 : j ≤ p.size := hjb.2
      have hx3 : Bx w.heap.size g w w1 := HX2.out.trans (hb1.lower HX2.out.size)
      have hrep2 : RepX w1 (fun k => w.heap.size ≤ k) x v := RepX_move (fun k hk hl => ⟨Nat.le_trans HX2.out.size hk, rfl⟩) _ _ hrep
      have HREP := Aside0.mk hrep2
      have kr : K0 (Bx w.heap.size g w w1) := ⟨hx3⟩
      have HST := Aside0.mk hst
      have c0 := hst.c0
      have c1 := hst.c1
      have c2 := hst.c2
      have f1 := hst.fr 1
      have f2 := hst.fr 2
      clear hst hb1 hx3 hrep hrep2 hq HA HX2 HS2 HS hjb
      by_cases e3 : j = p.size
      · rw [if_pos e3] at hA
        obtain rfl := Option.some.inj hA
        have d3 : (j == (p.size : Int)) = true := beq_iff_eq.mpr e3
        clear e3 hA
        go_wp2
        go_quiet (fail)
        go_wp2_with fail
        go_at_call 36
        refine (fail_calls _ _ _ _).mono ?_
        rintro e w' ⟨rfl, rfl⟩
        exact ⟨rfl, rfl, kk⟩
      · rw [if_neg e3] at hA
        obtain rfl := Option.some.inj hA
        have d3 : (j == (p.size : Int)) = false := beq_eq_false_iff_ne.mpr e3
        have e : o + 1 - 1 = o := by omega
        have hEO := Aside0.mk e
        clear e3 hA e
        go_wp2
        go_quiet (fail)
        go_wp2
        go_ret
        have kr1 : K0 (Bx w1.heap.size g w1 w1) := ⟨Bx.refl _ _ _⟩
        refine ⟨v, rfl, RepX_bx (g := g) HREP.out ?_ ?_, ?_, kk⟩
        · exact kk
        · intro k hk e
          have : w.heap.size ≤ k := hk
          omega
        · exact stt HST
set_option maxHeartbeats 4000000 in
set_option maxRecDepth 100000 in
theorem atom_class (k : Nat) (g : Nat) (p : ByteArray) (i o : Int) (r : Except (Int × Int) (Rx × Int)) (h : atomF (k + 1) p i o = some r) (h0 : 0 ≤ i) (h1 : i < p.size) (hp : p.size ≤ 200) (o0 : 0 ≤ o) (o1 : o ≤ 20) (w : World) (hs : St w g p i o) (e1 : bt p i ≠ 40) (e2 : bt p i = 91) :
    Calls Try.prog 48 #[.pointer (some ⟨g, 0, none⟩)] w (PostX g p o w r) := by
  have HS := Aside0.mk hs
  have hgl : g < w.heap.size := lt_of_some hs
  have c0 := hs.c0
  have c1 := hs.c1
  have c2 := hs.c2
  have f1 := hs.fr 1
  have f2 := hs.fr 2
  have kr : K0 (Bx w.heap.size g w w) := ⟨Bx.refl _ _ _⟩
  have hx := bt_at p i
  have hA := h
  simp only [atomF] at hA
  rw [if_neg e1] at hA
  have d1 : (bt p i == 40) = false := beq_eq_false_iff_ne.mpr e1
  clear h hs e1 c2 f2
  rw [if_pos e2] at hA
  have d2 : (bt p i == 91) = true := beq_iff_eq.mpr e2
  have i2 : 0 ≤ i + 1 := by omega
  have i3 : i + 1 ≤ p.size := by omega
  have HA := Aside0.mk hA
  have hs2 : St (w.setCell ⟨g, 1, none⟩ (.int .i64 (i + 1))) g p (i + 1) o := stt HS
  have hx2 : Bx w.heap.size g w (w.setCell ⟨g, 1, none⟩ (.int .i64 (i + 1))) := kk
  have HS2 := Aside0.mk hs2
  have HX2 := Aside0.mk hx2
  clear hs2 hx2 e2 hA
  go_enter Try.func48, Try.ntmps48
  go_wp2_with fail
  go_at_call 50
  cases hq : claF k p (i + 1) with
  | none => exfalso; have := HA.out; rw [hq] at this; cases this
  | some q =>
  refine (class_calls k g p (i + 1) o _ HS2.out i2 i3 hp q hq).mono ?_
  rintro e w1 hch
  have hA := HA.out
  rw [hq] at hA
  rcases q with ⟨c, a⟩ | ⟨s, j⟩
  · obtain ⟨rfl, hb1⟩ := hch
    obtain rfl := Option.some.inj hA
    exact ⟨rfl, rfl, HX2.out.trans (hb1.lower HX2.out.size)⟩
  · obtain ⟨rfl, hst, hb1⟩ := hch
    obtain rfl := Option.some.inj hA
    have hl := (claF_ok hq i2 i3).2.2
    have HL := Aside0.mk hl
    have HB := Aside0.mk (HX2.out.trans (hb1.lower HX2.out.size))
    have HST := Aside0.mk hst
    clear hb1 hst hA hq HA hl
    go_wp2
    go_ret
    exact ⟨_, rfl, by unfold RepX; exact ⟨HL.out, rfl⟩, HST.out, HB.out⟩
/-- The set of all bytes, filled from the first. -/
def fillT (n : Nat) : List Bool := List.replicate n true ++ List.replicate (256 - n) false
theorem fillT_len (n : Nat) (h : n ≤ 256) : (fillT n).length = 256 := by unfold fillT; rw [List.length_append, List.length_replicate, List.length_replicate]; omega
theorem fillT_set (n : Nat) (h : n < 256) : (fillT n).set n true = fillT (n + 1) := by
  unfold fillT
  have e : 256 - n = (256 - (n + 1)) + 1 := by omega
  have := set_fill (List.replicate n true) false true (256 - (n + 1))
  rw [List.length_replicate] at this
  rw [e, this, List.replicate_succ']
theorem fillT_0 : fillT 0 = noB := rfl
theorem fillT_all : fillT 256 = List.replicate 256 true := by unfold fillT; rw [Nat.sub_self]; exact List.append_nil _
set_option maxHeartbeats 4000000 in
set_option maxRecDepth 100000 in
theorem atom_dot (k : Nat) (g : Nat) (p : ByteArray) (i o : Int) (r : Except (Int × Int) (Rx × Int)) (h : atomF (k + 1) p i o = some r) (h0 : 0 ≤ i) (h1 : i < p.size) (hp : p.size ≤ 200) (o0 : 0 ≤ o) (o1 : o ≤ 20) (w : World) (hs : St w g p i o) (e1 : bt p i ≠ 40) (e2 : bt p i ≠ 91) (e3 : bt p i = 46) :
    Calls Try.prog 48 #[.pointer (some ⟨g, 0, none⟩)] w (PostX g p o w r) := by
  have HS := Aside0.mk hs
  have hgl : g < w.heap.size := lt_of_some hs
  have c0 := hs.c0
  have c1 := hs.c1
  have c2 := hs.c2
  have f1 := hs.fr 1
  have f2 := hs.fr 2
  have kr : K0 (Bx w.heap.size g w w) := ⟨Bx.refl _ _ _⟩
  have hx := bt_at p i
  have hA := h
  simp only [atomF] at hA
  rw [if_neg e1, if_neg e2, if_pos e3] at hA
  obtain rfl := Option.some.inj hA
  have d1 : (bt p i == 40) = false := beq_eq_false_iff_ne.mpr e1
  have d2 : (bt p i == 91) = false := beq_eq_false_iff_ne.mpr e2
  have d3 : (bt p i == 46) = true := beq_iff_eq.mpr e3
  clear h hs e1 e2 e3 hA c2 f2
  have hgx : w.heap.size ≠ g := by omega
  have HGX := Aside0.mk hgx
  have i3 : i + 1 ≤ p.size := by omega
  clear hgx
  go_enter Try.func48, Try.ntmps48
  go_upto_region 21 with (fail)
  try rw [show Try.zeroCells82 = oneA noB 0 false from by kernel_rfl]
  have hs2 : St ((w.setCell ⟨g, 1, none⟩ (.int .i64 (i + 1))).alloc (.cells (oneA noB 0 false) 82)) g p (i + 1) o := stt HS
  have hrow : Row ((w.setCell ⟨g, 1, none⟩ (.int .i64 (i + 1))).alloc (.cells (oneA noB 0 false) 82)) w.heap.size (fillT 0) := by
    have h := heap_alloc_new (w.setCell ⟨g, 1, none⟩ (.int .i64 (i + 1))) (.cells (oneA noB 0 false) 82)
    rw [show (w.setCell ⟨g, 1, none⟩ (.int .i64 (i + 1))).heap.size = w.heap.size by simp [World.setCell]] at h
    rw [fillT_0]
    exact h
  have hx2 : Bx w.heap.size g w ((w.setCell ⟨g, 1, none⟩ (.int .i64 (i + 1))).alloc (.cells (oneA noB 0 false) 82)) := kk
  have HS2 := Aside0.mk hs2
  have HR2 := Aside0.mk hrow
  have HX2 := Aside0.mk hx2
  clear hs2 hrow hx2 c0 c1 f1 kr HS
  go_loopg [85] 256 (fun kq v W => ∃ b : Nat, v = .int .i64 b ∧ Aside0 (b + kq = 256) ∧ Aside0 (St W g p (i + 1) o) ∧ Aside0 (Row W w.heap.size (fillT b)) ∧ Aside0 (Bx w.heap.size g w W))
  case atStart => exact ⟨0, rfl, ⟨rfl⟩, HS2, HR2, HX2⟩
  case round =>
    clear HS2 HR2 HX2
    obtain ⟨b, rfl, HE, HST, HROW, HB⟩ := hrel
    have kb : K0 (Bx w.heap.size g w wr) := ⟨HB.out⟩
    cases gk with
    | zero =>
      obtain rfl : b = 256 := by have := HE.out; omega
      have hrow := HROW.out
      rw [fillT_all] at hrow
      have hl : (List.replicate 256 true).length = 256 := List.length_replicate
      have hsz : (Try.prog.info? 82).map (·.size) = some (oneA (List.replicate 256 true) 0 false).size := by rw [oneA_size _ _ _ hl]; exact info87
      have HSZ := Aside0.mk hsz
      have HRW := Aside0.mk hrow
      have HL := Aside0.mk hl
      clear hsz hrow hl HROW
      generalize List.replicate 256 true = al at *
      go_wp2_with (refine wpList_load_row rfl 82 (.tmp 6) rfl w.heap.size rfl 82 (oneA al 0 false) (0, 0) _ HRW.out Try.underlying82 rfl HSZ.out ?_)
      go_ret
      exact ⟨_, rfl, by unfold RepX; exact ⟨HL.out, rfl⟩, HST.out, HB.out⟩
    | succ kq =>
      have hb : b < 256 := by have := HE.out; omega
      have hcl := HROW.out.cell (fillT_len b (Nat.le_of_lt hb)) b hb
      have hfr := HROW.out.fr b
      have kx : K0 (w.heap.size ≤ w.heap.size) := ⟨Nat.le_refl _⟩
      have hset := HROW.out.set (fillT_len b (Nat.le_of_lt hb)) b hb true
      rw [fillT_set b hb] at hset
      have HSET := Aside0.mk hset
      clear hset
      go_wp2
      go_roundg kq
      case measure => omega
      case rel => exact ⟨b + 1, by go_num, ⟨by have := HE.out; omega⟩, ⟨st_far HST.out (Ne.symm HGX.out)⟩, HSET, ⟨kk⟩⟩
set_option maxHeartbeats 4000000 in
set_option maxRecDepth 100000 in
theorem atom_bad42 (k : Nat) (g : Nat) (p : ByteArray) (i o : Int) (r : Except (Int × Int) (Rx × Int)) (h : atomF (k + 1) p i o = some r) (h0 : 0 ≤ i) (h1 : i < p.size) (hp : p.size ≤ 200) (o0 : 0 ≤ o) (o1 : o ≤ 20) (w : World) (hs : St w g p i o) (e1 : bt p i = 42) :
    Calls Try.prog 48 #[.pointer (some ⟨g, 0, none⟩)] w (PostX g p o w r) := by
  have HS := Aside0.mk hs
  have hgl : g < w.heap.size := lt_of_some hs
  have c0 := hs.c0
  have c1 := hs.c1
  have c2 := hs.c2
  have f1 := hs.fr 1
  have f2 := hs.fr 2
  have kr : K0 (Bx w.heap.size g w w) := ⟨Bx.refl _ _ _⟩
  have hx := bt_at p i
  have hA := h
  have hA2 : some (Except.error (2, i)) = some r := by
    simp only [atomF] at hA
    rw [e1] at hA
    exact hA
  obtain rfl := Option.some.inj hA2
  clear h hs hA hA2 c2 f2
  have b40 : (bt p i == 40) = false := by rw [e1]; rfl
  have b91 : (bt p i == 91) = false := by rw [e1]; rfl
  have b46 : (bt p i == 46) = false := by rw [e1]; rfl
  have b42 : (bt p i == 42) = true := by rw [e1]; rfl
  have b43 : (bt p i == 43) = false := by rw [e1]; rfl
  have b63 : (bt p i == 63) = false := by rw [e1]; rfl
  have b93 : (bt p i == 93) = false := by rw [e1]; rfl
  clear e1
  go_enter Try.func48, Try.ntmps48
  go_wp2_with fail
  go_at_call 36
  refine (fail_calls _ _ _ _).mono ?_
  rintro e w' ⟨rfl, rfl⟩
  exact ⟨rfl, rfl, kk⟩
set_option maxHeartbeats 4000000 in
set_option maxRecDepth 100000 in
theorem atom_bad43 (k : Nat) (g : Nat) (p : ByteArray) (i o : Int) (r : Except (Int × Int) (Rx × Int)) (h : atomF (k + 1) p i o = some r) (h0 : 0 ≤ i) (h1 : i < p.size) (hp : p.size ≤ 200) (o0 : 0 ≤ o) (o1 : o ≤ 20) (w : World) (hs : St w g p i o) (e1 : bt p i = 43) :
    Calls Try.prog 48 #[.pointer (some ⟨g, 0, none⟩)] w (PostX g p o w r) := by
  have HS := Aside0.mk hs
  have hgl : g < w.heap.size := lt_of_some hs
  have c0 := hs.c0
  have c1 := hs.c1
  have c2 := hs.c2
  have f1 := hs.fr 1
  have f2 := hs.fr 2
  have kr : K0 (Bx w.heap.size g w w) := ⟨Bx.refl _ _ _⟩
  have hx := bt_at p i
  have hA := h
  have hA2 : some (Except.error (2, i)) = some r := by
    simp only [atomF] at hA
    rw [e1] at hA
    exact hA
  obtain rfl := Option.some.inj hA2
  clear h hs hA hA2 c2 f2
  have b40 : (bt p i == 40) = false := by rw [e1]; rfl
  have b91 : (bt p i == 91) = false := by rw [e1]; rfl
  have b46 : (bt p i == 46) = false := by rw [e1]; rfl
  have b42 : (bt p i == 42) = false := by rw [e1]; rfl
  have b43 : (bt p i == 43) = true := by rw [e1]; rfl
  have b63 : (bt p i == 63) = false := by rw [e1]; rfl
  have b93 : (bt p i == 93) = false := by rw [e1]; rfl
  clear e1
  go_enter Try.func48, Try.ntmps48
  go_wp2_with fail
  go_at_call 36
  refine (fail_calls _ _ _ _).mono ?_
  rintro e w' ⟨rfl, rfl⟩
  exact ⟨rfl, rfl, kk⟩
set_option maxHeartbeats 4000000 in
set_option maxRecDepth 100000 in
theorem atom_bad63 (k : Nat) (g : Nat) (p : ByteArray) (i o : Int) (r : Except (Int × Int) (Rx × Int)) (h : atomF (k + 1) p i o = some r) (h0 : 0 ≤ i) (h1 : i < p.size) (hp : p.size ≤ 200) (o0 : 0 ≤ o) (o1 : o ≤ 20) (w : World) (hs : St w g p i o) (e1 : bt p i = 63) :
    Calls Try.prog 48 #[.pointer (some ⟨g, 0, none⟩)] w (PostX g p o w r) := by
  have HS := Aside0.mk hs
  have hgl : g < w.heap.size := lt_of_some hs
  have c0 := hs.c0
  have c1 := hs.c1
  have c2 := hs.c2
  have f1 := hs.fr 1
  have f2 := hs.fr 2
  have kr : K0 (Bx w.heap.size g w w) := ⟨Bx.refl _ _ _⟩
  have hx := bt_at p i
  have hA := h
  have hA2 : some (Except.error (2, i)) = some r := by
    simp only [atomF] at hA
    rw [e1] at hA
    exact hA
  obtain rfl := Option.some.inj hA2
  clear h hs hA hA2 c2 f2
  have b40 : (bt p i == 40) = false := by rw [e1]; rfl
  have b91 : (bt p i == 91) = false := by rw [e1]; rfl
  have b46 : (bt p i == 46) = false := by rw [e1]; rfl
  have b42 : (bt p i == 42) = false := by rw [e1]; rfl
  have b43 : (bt p i == 43) = false := by rw [e1]; rfl
  have b63 : (bt p i == 63) = true := by rw [e1]; rfl
  have b93 : (bt p i == 93) = false := by rw [e1]; rfl
  clear e1
  go_enter Try.func48, Try.ntmps48
  go_wp2_with fail
  go_at_call 36
  refine (fail_calls _ _ _ _).mono ?_
  rintro e w' ⟨rfl, rfl⟩
  exact ⟨rfl, rfl, kk⟩
set_option maxHeartbeats 4000000 in
set_option maxRecDepth 100000 in
theorem atom_bad93 (k : Nat) (g : Nat) (p : ByteArray) (i o : Int) (r : Except (Int × Int) (Rx × Int)) (h : atomF (k + 1) p i o = some r) (h0 : 0 ≤ i) (h1 : i < p.size) (hp : p.size ≤ 200) (o0 : 0 ≤ o) (o1 : o ≤ 20) (w : World) (hs : St w g p i o) (e1 : bt p i = 93) :
    Calls Try.prog 48 #[.pointer (some ⟨g, 0, none⟩)] w (PostX g p o w r) := by
  have HS := Aside0.mk hs
  have hgl : g < w.heap.size := lt_of_some hs
  have c0 := hs.c0
  have c1 := hs.c1
  have c2 := hs.c2
  have f1 := hs.fr 1
  have f2 := hs.fr 2
  have kr : K0 (Bx w.heap.size g w w) := ⟨Bx.refl _ _ _⟩
  have hx := bt_at p i
  have hA := h
  have hA2 : some (Except.error (2, i)) = some r := by
    simp only [atomF] at hA
    rw [e1] at hA
    exact hA
  obtain rfl := Option.some.inj hA2
  clear h hs hA hA2 c2 f2
  have b40 : (bt p i == 40) = false := by rw [e1]; rfl
  have b91 : (bt p i == 91) = false := by rw [e1]; rfl
  have b46 : (bt p i == 46) = false := by rw [e1]; rfl
  have b42 : (bt p i == 42) = false := by rw [e1]; rfl
  have b43 : (bt p i == 43) = false := by rw [e1]; rfl
  have b63 : (bt p i == 63) = false := by rw [e1]; rfl
  have b93 : (bt p i == 93) = true := by rw [e1]; rfl
  clear e1
  go_enter Try.func48, Try.ntmps48
  go_wp2_with fail
  go_at_call 36
  refine (fail_calls _ _ _ _).mono ?_
  rintro e w' ⟨rfl, rfl⟩
  exact ⟨rfl, rfl, kk⟩
set_option maxHeartbeats 4000000 in
set_option maxRecDepth 100000 in
theorem atom_lit (k : Nat) (g : Nat) (p : ByteArray) (i o : Int) (r : Except (Int × Int) (Rx × Int)) (h : atomF (k + 1) p i o = some r) (h0 : 0 ≤ i) (h1 : i < p.size) (hp : p.size ≤ 200) (o0 : 0 ≤ o) (o1 : o ≤ 20) (w : World) (hs : St w g p i o) (n40 : bt p i ≠ 40) (n91 : bt p i ≠ 91) (n46 : bt p i ≠ 46) (n42 : bt p i ≠ 42) (n43 : bt p i ≠ 43) (n63 : bt p i ≠ 63) (n93 : bt p i ≠ 93) (n92 : bt p i ≠ 92) :
    Calls Try.prog 48 #[.pointer (some ⟨g, 0, none⟩)] w (PostX g p o w r) := by
  have HS := Aside0.mk hs
  have hgl : g < w.heap.size := lt_of_some hs
  have c0 := hs.c0
  have c1 := hs.c1
  have c2 := hs.c2
  have f1 := hs.fr 1
  have f2 := hs.fr 2
  have kr : K0 (Bx w.heap.size g w w) := ⟨Bx.refl _ _ _⟩
  have hx := bt_at p i
  have hop : ¬ (isOp (bt p i) = true ∨ bt p i = 93) := by unfold isOp; simp [n42, n43, n63, n93]
  have hA := h
  simp only [atomF] at hA
  rw [if_neg n40, if_neg n91, if_neg n46, if_neg hop] at hA
  rw [if_neg n92] at hA
  obtain rfl := Option.some.inj hA
  have b40 : (bt p i == 40) = false := beq_eq_false_iff_ne.mpr n40
  have b91 : (bt p i == 91) = false := beq_eq_false_iff_ne.mpr n91
  have b46 : (bt p i == 46) = false := beq_eq_false_iff_ne.mpr n46
  have b42 : (bt p i == 42) = false := beq_eq_false_iff_ne.mpr n42
  have b43 : (bt p i == 43) = false := beq_eq_false_iff_ne.mpr n43
  have b63 : (bt p i == 63) = false := beq_eq_false_iff_ne.mpr n63
  have b93 : (bt p i == 93) = false := beq_eq_false_iff_ne.mpr n93
  have b92 : (bt p i == 92) = false := beq_eq_false_iff_ne.mpr n92
  have br := bt_range p i
  have q0 : 0 ≤ bt p i := br.1
  have q1 : bt p i < 256 := by omega
  clear h hs hop c2 f2 n40 n91 n46 n42 n43 n63 n93
  clear hA n92 br
  have hs2 : St (w.setCell ⟨g, 1, none⟩ (.int .i64 (i + 1))) g p (i + 1) o := stt HS
  have hx2 : Bx w.heap.size g w (w.setCell ⟨g, 1, none⟩ (.int .i64 (i + 1))) := kk
  have HS2 := Aside0.mk hs2
  have HX2 := Aside0.mk hx2
  clear hs2 hx2
  go_enter Try.func48, Try.ntmps48
  go_wp2_with fail
  go_at_call 51
  refine (single_calls _ q0 q1 _).mono ?_
  rintro e w1 ⟨rfl, hb⟩
  have hbx : Bx w.heap.size g w w1 := HX2.out.trans ((Bx.of hb).lower HX2.out.size)
  have hst : St w1 g p (i + 1) o := by have := HS2.out; unfold St at this ⊢; rw [hb.block g (lt_of_some this)]; exact this
  have HBX := Aside0.mk hbx
  have HST := Aside0.mk hst
  have kr : K0 (Bx w.heap.size g w w1) := ⟨hbx⟩
  clear hb hbx hst HS2 HX2
  go_wp2
  go_ret
  exact ⟨_, rfl, by unfold sgl RepX; exact ⟨by rw [List.length_set]; exact noB_len, rfl⟩, HST.out, HBX.out⟩
set_option maxHeartbeats 4000000 in
set_option maxRecDepth 100000 in
theorem atom_esc (k : Nat) (g : Nat) (p : ByteArray) (i o : Int) (r : Except (Int × Int) (Rx × Int)) (h : atomF (k + 1) p i o = some r) (h0 : 0 ≤ i) (h1 : i < p.size) (hp : p.size ≤ 200) (o0 : 0 ≤ o) (o1 : o ≤ 20) (w : World) (hs : St w g p i o) (n40 : bt p i ≠ 40) (n91 : bt p i ≠ 91) (n46 : bt p i ≠ 46) (n42 : bt p i ≠ 42) (n43 : bt p i ≠ 43) (n63 : bt p i ≠ 63) (n93 : bt p i ≠ 93) (n92 : bt p i = 92) :
    Calls Try.prog 48 #[.pointer (some ⟨g, 0, none⟩)] w (PostX g p o w r) := by
  have HS := Aside0.mk hs
  have hgl : g < w.heap.size := lt_of_some hs
  have c0 := hs.c0
  have c1 := hs.c1
  have c2 := hs.c2
  have f1 := hs.fr 1
  have f2 := hs.fr 2
  have kr : K0 (Bx w.heap.size g w w) := ⟨Bx.refl _ _ _⟩
  have hx := bt_at p i
  have hop : ¬ (isOp (bt p i) = true ∨ bt p i = 93) := by unfold isOp; simp [n42, n43, n63, n93]
  have hA := h
  simp only [atomF] at hA
  rw [if_neg n40, if_neg n91, if_neg n46, if_neg hop] at hA
  rw [if_pos n92] at hA
  have b40 : (bt p i == 40) = false := beq_eq_false_iff_ne.mpr n40
  have b91 : (bt p i == 91) = false := beq_eq_false_iff_ne.mpr n91
  have b46 : (bt p i == 46) = false := beq_eq_false_iff_ne.mpr n46
  have b42 : (bt p i == 42) = false := beq_eq_false_iff_ne.mpr n42
  have b43 : (bt p i == 43) = false := beq_eq_false_iff_ne.mpr n43
  have b63 : (bt p i == 63) = false := beq_eq_false_iff_ne.mpr n63
  have b93 : (bt p i == 93) = false := beq_eq_false_iff_ne.mpr n93
  have b92 : (bt p i == 92) = true := beq_iff_eq.mpr n92
  clear h hs hop c2 f2 n40 n91 n46 n42 n43 n63 n93
  clear n92
  by_cases e1 : i + 1 = p.size
  · rw [if_pos e1] at hA
    obtain rfl := Option.some.inj hA
    have d1 : (i + 1 == (p.size : Int)) = true := beq_iff_eq.mpr e1
    clear e1 hA
    go_enter Try.func48, Try.ntmps48
    go_wp2
    go_quiet (fail)
    go_wp2_with fail
    go_at_call 36
    refine (fail_calls _ _ _ _).mono ?_
    rintro e w' ⟨rfl, rfl⟩
    exact ⟨rfl, rfl, kk⟩
  · rw [if_neg e1] at hA
    obtain rfl := Option.some.inj hA
    have d1 : (i + 1 == (p.size : Int)) = false := beq_eq_false_iff_ne.mpr e1
    have hx1 := bt_at p (i + 1)
    have br := bt_range p (i + 1)
    have q0 : 0 ≤ bt p (i + 1) := br.1
    have q1 : bt p (i + 1) < 256 := by omega
    have i3 : i + 1 < p.size := by omega
    clear e1 hA br
    go_enter Try.func48, Try.ntmps48
    go_wp2
    go_quiet (fail)
    rename_i nq
    go_wp2_with fail
    go_at_call 51
    have hs2 : St (((w.setCell ⟨g, 1, none⟩ (.int .i64 (i + 1))).drewN nq).setCell ⟨g, 1, none⟩ (.int .i64 (i + 1 + 1))) g p (i + 1 + 1) o := stt HS
    have hx2 : Bx w.heap.size g w (((w.setCell ⟨g, 1, none⟩ (.int .i64 (i + 1))).drewN nq).setCell ⟨g, 1, none⟩ (.int .i64 (i + 1 + 1))) := kk
    have e2 : i + 1 + 1 = i + 2 := by omega
    have HE2 := Aside0.mk e2
    have HS2 := Aside0.mk hs2
    have HX2 := Aside0.mk hx2
    clear hs2 hx2 e2
    refine (single_calls _ q0 q1 _).mono ?_
    rintro e w1 ⟨rfl, hb⟩
    have hbx : Bx w.heap.size g w w1 := HX2.out.trans ((Bx.of hb).lower HX2.out.size)
    have hst : St w1 g p (i + 1 + 1) o := by have := HS2.out; unfold St at this ⊢; rw [hb.block g (lt_of_some this)]; exact this
    have HBX := Aside0.mk hbx
    have HST := Aside0.mk hst
    have kr : K0 (Bx w.heap.size g w w1) := ⟨hbx⟩
    clear hb hbx hst HS2 HX2
    go_wp2
    go_ret
    exact ⟨_, rfl, by unfold sgl RepX; exact ⟨by rw [List.length_set]; exact noB_len, rfl⟩, by have h := HST.out; rwa [HE2.out] at h, HBX.out⟩
theorem atom_calls (k : Nat) (IH : AltC k) : AtomC (k + 1) := by
  intro g p i o r h h0 h1 hp o0 o1 w hs
  by_cases n40 : bt p i = 40
  · exact atom_paren k IH g p i o r h h0 h1 hp o0 o1 w hs n40
  by_cases n91 : bt p i = 91
  · exact atom_class k g p i o r h h0 h1 hp o0 o1 w hs n40 n91
  by_cases n46 : bt p i = 46
  · exact atom_dot k g p i o r h h0 h1 hp o0 o1 w hs n40 n91 n46
  by_cases n42 : bt p i = 42
  · exact atom_bad42 k g p i o r h h0 h1 hp o0 o1 w hs n42
  by_cases n43 : bt p i = 43
  · exact atom_bad43 k g p i o r h h0 h1 hp o0 o1 w hs n43
  by_cases n63 : bt p i = 63
  · exact atom_bad63 k g p i o r h h0 h1 hp o0 o1 w hs n63
  by_cases n93 : bt p i = 93
  · exact atom_bad93 k g p i o r h h0 h1 hp o0 o1 w hs n93
  by_cases n92 : bt p i = 92
  · exact atom_esc k g p i o r h h0 h1 hp o0 o1 w hs n40 n91 n46 n42 n43 n63 n93 n92
  · exact atom_lit k g p i o r h h0 h1 hp o0 o1 w hs n40 n91 n46 n42 n43 n63 n93 n92
end Go.Proofs.Ytcdpmmpdfdillaa.Q

namespace Go.Proofs
open Go.Shelf
def Try.lays137_ren : Go.Shelf.Ren := ⟨fun | 137 => 49 | 217 => 52 | 266 => 54 | n => n, fun | 9 => 9 | 5 => 5 | 3 => 3 | n => n, fun | n => n⟩
theorem Try.lays137 : Go.Proofs.Lays.n137 Try.prog Try.lays137_ren := {
  mixed := by kernel_rfl
  f137 := Try.func49.trans (congrArg some (by kernel_rfl))
  f217 := Try.func52.trans (congrArg some (by kernel_rfl))
  f266 := Try.func54.trans (congrArg some (by kernel_rfl))
  t3 := Try.underlying3
  a3 := Try.isAgg3
  z3 := Try.sizeOf3
  v3 := Try.zeroValue3
  t5 := Try.underlying5
  a5 := Try.isAgg5
  z5 := Try.sizeOf5
  v5 := Try.zeroValue5
  t9 := Try.underlying9
  a9 := Try.isAgg9
  z9 := Try.sizeOf9
  v9 := Try.zeroValue9 }
open Go.RowKit in
/-- strings.IndexByte: "IndexByte returns the index of the first instance of c in s, or -1 if c is not present in s.": IT RETURNS 'Lib.indexByte s c'; the world is as it was. (LAID: no walk: one application.) -/
theorem Try.strings_IndexByte (s : ByteArray) (c : Int) (w : World) :
    Calls Try.prog 49 #[.string s, .int .u8 c] w fun e w' => e = .returned (.int .i64 (Lib.indexByte s.data.toList c.toNat.toUInt8)) ∧ w' = w := Any.strings_IndexByte Try.lays137 s c w
end Go.Proofs

namespace Go.Proofs.Ytcdpmmpdfdillaa.Q
open Go.RowKit Go.Proofs.YtcdpmmpdfdillaaW.PrintWords Go.Proofs.YtcdpmmpdfdillaaW.PrintLast
set_option linter.unusedVariables false
set_option linter.unusedSimpArgs false
def ibx (c : Int) : Int := Lib.indexByte [42, 43, 63] c.toNat.toUInt8
theorem ibx_all : (List.range 256).all (fun n => decide (0 ≤ ibx (n : Int)) == isOp (n : Int)) = true := by kernel_rfl
theorem ibx_op (c : Int) (h0 : 0 ≤ c) (h1 : c ≤ 255) : decide (0 ≤ ibx c) = isOp c := by
  have h := List.all_eq_true.mp ibx_all c.toNat (List.mem_range.mpr (by omega))
  rw [show ((c.toNat : Nat) : Int) = c by omega] at h
  exact beq_iff_eq.mp h
theorem ib_calls (c : Int) (w : World) : Calls Try.prog 49 #[.string ⟨#[42, 43, 63]⟩, .int .u8 c] w fun e w' => e = .returned (.int .i64 (ibx c)) ∧ w' = w := Try.strings_IndexByte _ _ _
def seqB (p : ByteArray) (j : Int) : Bool := decide (j < p.size) && (bt p j != 124 && bt p j != 41)
theorem seqB_iff (p : ByteArray) (j : Int) : (seqB p j = true) ↔ (j < p.size ∧ (bt p j ≠ 124 ∧ bt p j ≠ 41)) := by unfold seqB; simp
def opB (p : ByteArray) (j : Int) : Bool := decide (j < p.size) && isOp (bt p j)
theorem opB_iff (p : ByteArray) (j : Int) : (opB p j = true) ↔ (j < p.size ∧ isOp (bt p j) = true) := by unfold opB; simp
theorem info40 : (Try.prog.info? 37).map (fun i => (i.zero, i.size, i.bytes)) = some (some .nilIface, 1, 16) := by kernel_rfl
theorem RepX_iface {w : World} {ok : Nat → Prop} {x : Rx} {v : Value} (h : RepX w ok x v) : ∃ T u, v = .iface T u := by
  cases x <;> unfold RepX at h
  · exact ⟨_, _, h.2⟩
  · obtain ⟨u, vs, rfl, -⟩ := h; exact ⟨_, _, rfl⟩
  · obtain ⟨u, vs, rfl, -⟩ := h; exact ⟨_, _, rfl⟩
  · obtain ⟨u, -, rfl⟩ := h; exact ⟨_, _, rfl⟩
theorem Acc.cell {w : World} {x T : Nat} {acc : List Rx} {v : Value} {vs : List Value} (h : Acc w x T acc v vs) : w.cell? ⟨x, 0, none⟩ = some v := cell_of_row _ x 0 _ T _ h.1
theorem acc_bx {w w1 : World} {g x T : Nat} {acc : List Rx} {v : Value} {vs : List Value} (h : Acc w x T acc v vs) (hb : Bx w.heap.size g w w1) (hg : g < x) : Acc w1 x T acc v vs := acc_move h fun k hk hl => hb.block k hl (by omega)
theorem own_sl {w : World} {b : Nat} {e : TypeId} {size n : Nat} {v : Value} {xs : List Value} (h : w.ownsRow b e size v n xs) : ∃ A m c, v = .slice A m c := by
  rcases h.2 with ⟨rfl, _⟩ | ⟨g, cap, cur, rfl, _⟩ <;> exact ⟨_, _, _, rfl⟩
theorem acc_grown {w1 w2 : World} {x T : Nat} {acc : List Rx} {v : Value} {vs : List Value} {o : Obj} (h : Acc w1 x T acc v vs) (hg : (w1.alloc o).grownBy w2 v.ownBlock) : w2.heap[x]? = some (.cells #[v] T (0, 0)) := by
  have hl := lt_of_some h.1
  exact ((hg.block x (by rw [sz_al]; omega) (fun e => h.2.2.1 e.symm)).trans (heap_alloc_old w1 _ hl)).trans h.1
theorem st_grown {w1 w2 : World} {g : Nat} {p : ByteArray} {i o' : Int} {o : Obj} {row : Option Nat} (h : St w1 g p i o') (hg : (w1.alloc o).grownBy w2 row) (hr : some g ≠ row) : St w2 g p i o' := by
  have hl := lt_of_some h
  exact ((hg.block g (by rw [sz_al]; omega) hr).trans (heap_alloc_old w1 _ hl)).trans h
theorem bx_grown {w w1 w2 : World} {g : Nat} {o : Obj} {row : Option Nat} (h : Bx w.heap.size g w w1) (hg : (w1.alloc o).grownBy w2 row) (hr : ∀ k, row = some k → w.heap.size ≤ k) : Bx w.heap.size g w w2 :=
  h.trans ⟨hg.os, hg.tape, hg.output, by have := hg.size; rw [sz_al] at this; omega, fun k hk _ => (hg.block k (by rw [sz_al]; have := h.size; omega) (fun e => by have := hr k e.symm; omega)).trans (heap_alloc_old w1 _ (by have := h.size; omega))⟩
theorem bk_cell {w : World} {x T : Nat} {v : Value} (h : w.heap[x]? = some (.cells #[v] T (0, 0))) : w.cell? ⟨x, 0, none⟩ = some v := cell_of_row _ x 0 _ T _ h
theorem bk_fr {w : World} {x T : Nat} {cs : Array Value} (h : w.heap[x]? = some (.cells cs T (0, 0))) (j : Nat) : w.frozen? ⟨x, j, none⟩ = false := by unfold World.frozen?; rw [h]; simp
theorem acc_nil (w : World) (T : Nat) : Acc (w.alloc (.cells #[.slice none 0 0] T)) w.heap.size T [] (.slice none 0 0) [] :=
  ⟨heap_alloc_new _ _, World.ownsRow_nil _ _ _ _, by simp [Value.ownBlock], by unfold RepXs; rfl⟩
set_option maxHeartbeats 4000000 in
set_option maxRecDepth 100000 in
theorem seq_calls (k : Nat) (IH : ∀ m, m < k → AtomC m) : SeqC k := by
  intro g p i o r h h0 h1 hp o0 o1 w hs
  have HIH := Aside0.mk IH
  have H := Aside0.mk h
  have HS := Aside0.mk hs
  have hgl : g < w.heap.size := lt_of_some hs
  have HGL := Aside0.mk hgl
  have kr : K0 (Bx w.heap.size g w w) := ⟨Bx.refl _ _ _⟩
  obtain ⟨i0, hi, hz0, hz1, hz2⟩ := info_parts info40
  have HI := Aside0.mk hi
  have HZ := Aside0.mk (And.intro hz0 (And.intro hz1 hz2))
  clear IH h hs hi hz0 hz1 hz2 hgl
  go_enter Try.func45, Try.ntmps45
  go_upto_region 2 with (fail)
  have HS2 := Aside0.mk (show St (w.alloc (.cells #[.slice none 0 0] 65)) g p i o from stt HS)
  have HA2 := Aside0.mk (acc_nil w 65)
  have HX2 := Aside0.mk (show Bx w.heap.size g w (w.alloc (.cells #[.slice none 0 0] 65)) from kk)
  clear kr HS
  go_loopg [4] k (fun kq v4 W => ∃ (j : Int) (acc : List Rx) (v : Value) (vs : List Value), Aside0 (seqL kq p j o acc = some r) ∧ Aside0 (kq ≤ k) ∧ Aside0 (0 ≤ j ∧ j ≤ p.size ∧ acc.length ≤ j) ∧ Aside0 (St W g p j o) ∧ Aside0 (Acc W w.heap.size 65 acc v vs) ∧ Aside0 (Bx w.heap.size g w W))
  case atStart => exact ⟨i, [], _, [], H, ⟨Nat.le_refl _⟩, ⟨h0, h1, h0⟩, HS2, HA2, HX2⟩
  case round =>
    clear HS2 HA2 HX2 H
    obtain ⟨j, acc, v, vs, HA, HK, HN, HST, HACC, HB⟩ := hrel
    cases gk with
    | zero => exact absurd HA.out (by simp [seqL])
    | succ k1 =>
    have c0 := HST.out.c0
    have c1 := HST.out.c1
    have f1 := HST.out.fr 1
    have j0 := HN.out.1
    have j1 := HN.out.2.1
    have kw : K0 (Bx w.heap.size g w wr) := ⟨HB.out⟩
    have hx := bt_at p j
    go_upto_region 2 with (fail)
    go_cut [38] (fun v38 wc => v38 = .bool (seqB p j) ∧ ∃ m, wc = wr.drewN m)
    case first =>
      by_cases e1 : j < p.size
      · have d1 : decide (j < (p.size : Int)) = true := decide_eq_true e1
        by_cases e2 : bt p j = 124
        · have hc : seqB p j = false := by unfold seqB; rw [e2]; simp
          have d2 : (bt p j != 124) = false := bne_eq_false_iff_eq.mpr e2
          have HC := Aside0.mk hc
          clear hc e2
          go_quiet (fail)
          go_wp2
          go_meet
          case rel => exact ⟨by rw [HC.out], _, rfl⟩
        · have d2 : (bt p j != 124) = true := bne_iff_ne.mpr e2
          have hc : seqB p j = (bt p j != 41) := by unfold seqB; rw [d1, d2]; rfl
          have HC := Aside0.mk hc
          clear hc e2
          go_quiet (fail)
          go_wp2
          go_meet
          case rel => exact ⟨by rw [HC.out], _, rfl⟩
      · have d1 : decide (j < (p.size : Int)) = false := decide_eq_false e1
        have hc : seqB p j = false := by unfold seqB; rw [d1]; rfl
        have HC := Aside0.mk hc
        clear hc
        go_quiet (fail)
        go_wp2
        go_meet
        case rel => exact ⟨by rw [HC.out], _, rfl⟩
    case rest =>
      obtain ⟨rfl, m, rfl⟩ := hcut
      have hA := HA.out
      simp only [seqL, ← seqB_iff] at hA
      have hacc : Acc (wr.drewN m) w.heap.size 65 acc v vs := acc_move HACC.out (fun _ _ _ => rfl)
      have HACC2 := Aside0.mk hacc
      have HST2 := Aside0.mk (st_drewN (n := m) HST.out)
      have HB2 := Aside0.mk (show Bx w.heap.size g w (wr.drewN m) from kk)
      clear hacc HACC HST HB kw c0 c1 f1 hx
      generalize hsb : seqB p j = sb at hA ⊢
      have HSB := Aside0.mk hsb
      clear hsb HA
      generalize wr.drewN m = wx at *
      have HGL := HGL
      cases sb
      · obtain rfl := Option.some.inj hA
        have hcl := HACC2.out.cell
        clear hA
        go_wp2
        go_ret
        refine ⟨_, rfl, ?_, HST2.out, HB2.out⟩
        unfold RepX
        exact ⟨v, vs, rfl, own_lower HACC2.out.2.1 (Nat.zero_le _), fun k hk => (HACC2.out.2.1.lt k hk).1, RepXs_move (fun k hk hl => ⟨Nat.le_of_lt hk.1, rfl⟩) _ _ HACC2.out.2.2.2⟩
      · rw [if_pos rfl] at hA
        have HA3 := Aside0.mk hA
        have j2 : j < p.size := by have := (seqB_iff p j).mp HSB.out; exact this.1
        clear hA
        go_wp2_with fail
        go_at_call 48
        cases hq : atomF k1 p j o with
        | none => exfalso; have := HA3.out; rw [hq] at this; cases this
        | some q =>
        have hk1 : k1 < k := by have := HK.out; omega
        refine (HIH.out k1 hk1 g p j o q hq j0 j2 hp o0 o1 _ HST2.out).mono ?_
        rintro e w1 hch
        rcases q with ⟨c, a⟩ | ⟨y0, j3⟩
        · obtain ⟨rfl, hb1⟩ := hch
          have hA := HA3.out
          rw [hq] at hA
          obtain rfl := Option.some.inj hA
          exact ⟨rfl, rfl, HB2.out.trans (hb1.lower HB2.out.size)⟩
        · obtain ⟨v0, rfl, hrep, hst, hb1⟩ := hch
          have hA := HA3.out
          rw [hq] at hA
          simp only [obind] at hA
          obtain ⟨yf, hof, hA⟩ := Option.bind_eq_some_iff.mp hA
          have hjb := (par_ok k1).2.2 _ _ _ _ hq j0 j2
          have HOF := Aside0.mk hof
          have HA4 := Aside0.mk hA
          have HJ := Aside0.mk hjb
          have hfb := opsF_ok _ _ _ _ _ hof hjb.2
          have HF := Aside0.mk hfb
          have HACC := Aside0.mk (acc_bx HACC2.out hb1 HGL.out)
          have hxB : w.heap.size < wx.heap.size := lt_of_some HACC2.out.1
          have HXB := Aside0.mk hxB
          have hvB := fun k hk => (HACC2.out.2.1.lt k hk).2
          have HVB := Aside0.mk hvB
          have HST := Aside0.mk hst
          have HREP := Aside0.mk hrep
          have HB := Aside0.mk (HB2.out.trans (hb1.lower HB2.out.size))
          clear hof hA hjb hfb hxB hvB hst hrep hb1 hq HA3 HACC2 HST2 HB2
          obtain ⟨T0, u0, rfl⟩ := RepX_iface HREP.out
          have kw : K0 (Bx w.heap.size g w w1) := ⟨HB.out⟩
          go_upto_region 4 with (fail)
          go_loopg [4] k1 (fun kq v4 W => ∃ (j2 : Int) (y : Rx) (T4 : TypeId) (u4 : Value), v4 = .iface T4 u4 ∧ Aside0 (opsF kq p j2 y = some yf) ∧ Aside0 (0 ≤ j2 ∧ j2 ≤ p.size) ∧ Aside0 (St W g p j2 o) ∧ Aside0 (RepX W (fun k => wx.heap.size ≤ k) y (.iface T4 u4)) ∧ Aside0 (Acc W w.heap.size 65 acc v vs) ∧ Aside0 (Bx w.heap.size g w W))
          case atStart => exact ⟨j3, y0, T0, u0, rfl, HOF, ⟨by have := HJ.out.1; omega, HJ.out.2⟩, HST, HREP, HACC, HB⟩
          case round =>
            clear HST HREP HACC HB HOF kw
            obtain ⟨j2, y, T4, u4, rfl, HO, HN2, HST, HREP, HACC, HB⟩ := hrel
            cases gk with
            | zero => exact absurd HO.out (by simp [opsF])
            | succ k2 =>
            have c0 := HST.out.c0
            have c1 := HST.out.c1
            have f1 := HST.out.fr 1
            have m0 := HN2.out.1
            have m1 := HN2.out.2
            have kw : K0 (Bx w.heap.size g w wr) := ⟨HB.out⟩
            have hx := bt_at p j2
            go_upto_region 4 with (fail)
            go_cut [63] (fun v63 wc => v63 = .bool (opB p j2) ∧ ∃ m, wc = wr.drewN m)
            case first =>
              by_cases e1 : j2 < p.size
              · have d1 : decide (j2 < (p.size : Int)) = true := decide_eq_true e1
                have br := bt_range p j2
                have hib := ibx_op (bt p j2) br.1 br.2
                have hc : opB p j2 = isOp (bt p j2) := by unfold opB; rw [d1]; rfl
                have HC := Aside0.mk (hc.trans hib.symm)
                clear hc br hib
                go_quiet ((go_at_call 49; exact Calls.quiet_of_same (ib_calls _ _)))
                go_wp2
                go_meet
                case rel => exact ⟨by rw [HC.out], _, rfl⟩
              · have d1 : decide (j2 < (p.size : Int)) = false := decide_eq_false e1
                have hc : opB p j2 = false := by unfold opB; rw [d1]; rfl
                have HC := Aside0.mk hc
                clear hc
                go_quiet (fail)
                go_wp2
                go_meet
                case rel => exact ⟨by rw [HC.out], _, rfl⟩
            case rest =>
              obtain ⟨rfl, m, rfl⟩ := hcut
              have hO := HO.out
              simp only [opsF, ← opB_iff] at hO
              have HACC2 := Aside0.mk (show Acc (wr.drewN m) w.heap.size 65 acc v vs from acc_move HACC.out (fun _ _ _ => rfl))
              have HREP2 := Aside0.mk (show RepX (wr.drewN m) (fun k => wx.heap.size ≤ k) y (.iface T4 u4) from RepX_move (w := wr) (w1 := wr.drewN m) (fun k hk hl => ⟨hk, rfl⟩) _ _ HREP.out)
              have HST2 := Aside0.mk (st_drewN (n := m) HST.out)
              have HB2 := Aside0.mk (show Bx w.heap.size g w (wr.drewN m) from kk)
              clear HACC HREP HST HB kw c0 c1 f1 hx
              generalize hsb : opB p j2 = sb at hO ⊢
              have HSB2 := Aside0.mk hsb
              clear hsb HO
              generalize wr.drewN m = wy at *
              have kw : K0 (Bx w.heap.size g w wy) := ⟨HB2.out⟩
              have c0 := HST2.out.c0
              have c1 := HST2.out.c1
              have f1 := HST2.out.fr 1
              have hx := bt_at p j2
              cases sb
              · obtain rfl := Option.some.inj hO
                have hcl := HACC2.out.cell
                clear hO
                have hvl := RepXs_len _ _ HACC2.out.2.2.2
                have hln := HN.out.2.2
                have hc1 : ∀ j u, [Value.iface T4 u4][j]? = some u → (wy.alloc (.cells #[.iface T4 u4] 37)).cell? ((⟨wy.heap.size, 0, none⟩ : Addr).add j) = some u := by
                  intro j' u' hu
                  rcases j' with _ | j'
                  · cases hu; exact cell_of_row _ wy.heap.size 0 _ 37 _ (heap_alloc_new _ _)
                  · cases hu
                have hc2 : ∀ u ∈ [Value.iface T4 u4], u.oneCell' = true := by
                  intro u' hu
                  obtain rfl := List.mem_singleton.mp hu
                  rfl
                have hc3 : vs.length + 1 ≤ maxLen := by simp only [maxLen]; omega
                have hc4 : (vs.length + 1) * 16 ≤ 140737488355328 := by omega
                have hc5 : w.heap.size ≤ (wy.alloc (.cells #[.iface T4 u4] 37)).heap.size := by rw [sz_al]; have := lt_of_some HACC2.out.1; omega
                have HC1 := Aside0.mk hc1
                have HC2 := Aside0.mk hc2
                have HC3 := Aside0.mk hc3
                have HC4 := Aside0.mk hc4
                have HC5 := Aside0.mk hc5
                have HVL := Aside0.mk hvl
                clear hc1 hc2 hc3 hc4 hc5 hvl hln c0 c1 f1 hx
                go_upto_region 7 with (fail)
                go_wp2_with (at_builtin; refine wpList_append_at rfl (.tmp 84) (.tmp 86) 62 rfl w.heap.size 37 i0 .nilIface 1 16 Try.underlying62 HI.out HZ.out.1 HZ.out.2.1 HZ.out.2.2 rfl (by decide) v vs.length vs rfl (HACC2.out.2.1.alloc _) ⟨wy.heap.size, 0, none⟩ 1 1 [.iface T4 u4] rfl rfl HC1.out HC2.out HC3.out HC4.out HC5.out ?_; intro v2 w2 hown hgr hloc; obtain ⟨A2, n2, c2', rfl⟩ := own_sl hown; have hx2 := acc_grown HACC2.out hgr; have hcl2 := bk_cell hx2; have hfr2 := bk_fr hx2 0; have HG := Aside0.mk (And.intro hown (And.intro hgr hloc)); clear hown hgr hloc hx2)
                go_roundg k1
                case measure => omega
                case rel =>
                  have hpush := acc_push HACC2.out HREP2.out (fun k hk => hk) HXB.out HVB.out HG.out.2.1 HG.out.1 HG.out.2.2
                  have hst : St w2 g p j2 o := st_grown HST2.out HG.out.2.1 (fun e => by have := (HACC2.out.2.1.lt g e.symm).1; have := HGL.out; omega)
                  have hbx : Bx w.heap.size g w w2 := bx_grown HB2.out HG.out.2.1 (fun k hk => (HACC2.out.2.1.lt k hk).1)
                  have kz : K0 (Bx w.heap.size g w w2) := ⟨hbx⟩
                  have kx : K0 (w.heap.size ≤ w.heap.size) := ⟨Nat.le_refl _⟩
                  have hf := HF.out
                  have hj := HJ.out
                  have hn := HN.out
                  exact ⟨j2, acc ++ [y], _, _, HA4, ⟨by have := HK.out; omega⟩, ⟨m0, m1, by rw [List.length_append]; simp only [List.length_cons, List.length_nil]; omega⟩, ⟨st_far hst (by have := HGL.out; omega)⟩, ⟨hpush⟩, ⟨kk⟩⟩
              · rw [if_pos rfl] at hO
                have HO2 := Aside0.mk hO
                have m2 : j2 < p.size := by have := (opB_iff p j2).mp HSB2.out; exact this.1
                clear hO
                go_wp2
                go_quiet (fail)
                go_wp2
                go_roundg k2
                case measure => omega
                case rel =>
                  refine ⟨j2 + 1, .rep y (bt p j2), _, _, rfl, HO2, ⟨by omega, by omega⟩, ⟨stt HST2⟩, ⟨?_⟩, ⟨?_⟩, ⟨kk⟩⟩
                  · unfold RepX
                    refine ⟨_, RepX_move (fun k hk hl => ⟨hk, ?_⟩) _ _ HREP2.out, rfl⟩
                    have hne : k ≠ g := by have := HGL.out; have := HXB.out; omega
                    exact Below.heap_setCell _ _ _ _ hne
                  · exact acc_move HACC2.out (fun k hk hl => Below.heap_setCell _ _ _ _ (by have := HGL.out; show k ≠ g; omega))
end Go.Proofs.Ytcdpmmpdfdillaa.Q

namespace Go.Proofs.Ytcdpmmpdfdillaa.Q
open Go.RowKit Go.Proofs.YtcdpmmpdfdillaaW.PrintWords Go.Proofs.YtcdpmmpdfdillaaW.PrintLast
set_option linter.unusedVariables false
set_option linter.unusedSimpArgs false
theorem zeroRep (w : World) : (zeroValue 84).run Try.prog w = .ok (.agg #[.nilIface, .int .u8 0]) w := by kernel_rfl
attribute [local go_sem high] zeroRep
/-- The row of ways, one of them stored anew. -/
theorem RepM.way {w : World} {B gm q : Nat} {P : Nat → Prop} {m : Sts} {o : Option (List Bool)} {l0 ls : List Nat} {u : Value} (h : RepM w B P gm m) (hq : m[q]? = some (o, l0)) (hu : WayP w B ls u) (hp : ∀ k, u.ownBlock = some k → P k) :
    ∃ g n c, w.cell? ⟨gm, 1, none⟩ = some (.slice (some ⟨g, 0, none⟩) n c) ∧ n = m.length ∧ B ≤ g ∧ (w.cell? ⟨g, q, none⟩).isSome = true ∧ w.frozen? ⟨g, q, none⟩ = false ∧ RepM (w.setCell ⟨g, q, none⟩ u) B P gm (m.set q (o, ls)) ∧ KeepT w (w.setCell ⟨g, q, none⟩ u) := by
  obtain ⟨vs, vw, ss, ws, h1, h2, h3, h4, h5⟩ := h
  have hql := (List.getElem?_eq_some_iff.1 hq).1
  obtain ⟨v0, u0, a1, a2, a3, a4, a5⟩ := h5 q o l0 hq
  obtain ⟨g, c, e, hc⟩ := own_part h4 a3
  subst e
  obtain ⟨cs, hcs⟩ := own_typed h4 g rfl
  have hk : KeepT w (w.setCell ⟨g, q, none⟩ u) := KeepT.set hcs (.inr (.inr rfl))
  have hst := (h4.stored q u).1
  refine ⟨g, _, c, (blk_cell h1 1).trans rfl, rfl, own_base h4 g rfl, by rw [hc]; rfl, blk_frozen hcs q, ⟨vs, .slice (some ⟨g, 0, none⟩) m.length c, ss, ws.set q u, ?_, h2, ?_, ?_, fun p o' ls' hp' => ?_⟩, hk⟩
  · exact (Below.heap_setCell _ _ _ _ (fun e => own_notblk h4 h1 (by decide) (by rw [show gm = g from e]; rfl))).trans h1
  · rw [List.length_set]
    exact own_setCell h3 (fun e => own_apart h4 h3 (by decide) g rfl e.symm) _
  · rw [List.length_set]; exact hst
  · have hwl : ws.length = m.length := by have := h4.1; omega
    by_cases e : p = q
    · subst e
      rw [List.getElem?_set_self hql] at hp'
      injection hp' with hp'
      injection hp' with e1 e2
      subst e1; subst e2
      exact ⟨v0, u, a1, a2.keep hk, List.getElem?_set_self (by omega), hu.keep hk, hp⟩
    · rw [List.getElem?_set_ne (Ne.symm e)] at hp'
      obtain ⟨v', u', b1, b2, b3, b4, b5⟩ := h5 p o' ls' hp'
      exact ⟨v', u', b1, b2.keep hk, by rw [List.getElem?_set_ne (Ne.symm e)]; exact b3, b4.keep hk, b5⟩
theorem bld_opt (x : Rx) (nx : Nat) (m : Sts) : bld (.rep x 63) nx m = ((bld x nx m).2.length, (bld x nx m).2 ++ [(none, [(bld x nx m).1, nx])]) := by rw [bld]; rfl
theorem bld_loop (x : Rx) (op : Int) (h : op ≠ 63) (nx : Nat) (m : Sts) : bld (.rep x op) nx m = (if op = 43 then (bld x m.length (m ++ [(none, [])])).1 else m.length, (bld x m.length (m ++ [(none, [])])).2.set m.length (none, [(bld x m.length (m ++ [(none, [])])).1, nx])) := by rw [bld, if_neg h]
set_option maxHeartbeats 4000000 in
set_option maxRecDepth 100000 in
theorem build_opt (x : Rx) (ih : BuildP x) : BuildP (.rep x 63) := by
  intro wp W P ok gm nx m v hB hx hM hl hct
  have HCT := Aside0.mk (show cnt x ≤ 100000 from by unfold cnt at hct; omega)
  clear hct
  unfold RepX at hx
  obtain ⟨u, hr, rfl⟩ := hx
  obtain ⟨T0, u0, rfl⟩ := RepX_iface hr
  have t1 := ta_rep1
  have t2 := ta_rep2
  have t3 := ta_rep3
  have t4 := ta_rep
  have hl2 : (bld x nx m).2.length + 1 ≤ 100000 := by unfold bld at hl; rw [if_pos rfl, List.length_append] at hl; exact hl
  have HM := Aside0.mk (And.intro hM (And.intro hB hl2))
  have HX := Aside0.mk hr
  clear hM hB hl hl2 hr
  have hW1 : (W.alloc (.cells #[.iface T0 u0, .int .u8 63] 84)).heap[W.heap.size]? = some (.cells #[.iface T0 u0, .int .u8 63] 84 (0, 0)) := heap_alloc_new W _
  have hk1 : KeepT W (W.alloc (.cells #[.iface T0 u0, .int .u8 63] 84)) := KeepT.alloc _ _
  have hM1 := (HM.out.1.alloc (.cells #[.iface T0 u0, .int .u8 63] 84))
  have hB1 := below_alloc HM.out.2.1 (.cells #[.iface T0 u0, .int .u8 63] 84)
  have HC := Aside0.mk (ih wp _ P ok gm nx m _ hB1 HX.out hM1 (by have := HM.out.2.2; omega) HCT.out)
  have HN := Aside0.mk (And.intro hW1 hk1)
  clear hW1 hk1 hM1 hB1
  go_enter Try.func15, Try.ntmps15
  go_wp2_with fail
  refine HC.out.mono ?_
  rintro ex W3 ⟨rfl, h1, h2, h3⟩
  have hnd := (h3 _ _ _ HN.out.1 (by decide) (by decide) (by decide)).trans HN.out.1
  have hW3 := blk_lt hnd
  obtain ⟨f, hf⟩ : ∃ f, (bld x nx m).1 = f := ⟨_, rfl⟩
  rw [hf]
  have hway := way_two (w := W3) (B := wp.heap.size) f nx h2.size
  have hM3 := (h1.alloc (.cells #[.int .i64 f, .int .i64 nx] 3)).weak (P' := fun k => P k ∨ W.heap.size ≤ k) (fun k _ h => h.elim .inl (fun h => .inr (by rw [sz_al] at h; omega)))
  have hnew : ∀ k, (Value.slice (some ⟨W3.heap.size, 0, none⟩) 2 2).ownBlock = some k → P k ∨ W.heap.size ≤ k := fun k hk => by
    have : W3.heap.size = k := by simpa [Value.ownBlock] using hk
    exact .inr (by omega)
  have HS := Aside0.mk (state_call wp _ _ gm _ none _ (.pointer none) _ (below_alloc h2 _) hM3 rfl hway hnew (by have := HM.out.2.2; omega))
  have HF := Aside0.mk (And.intro hf ((HN.out.2.trans h3).trans (KeepT.alloc W3 (.cells #[.int .i64 f, .int .i64 nx] 3))))
  clear h1 h2 h3 hnd hW3 hway hM3 hnew hf
  go_wp2_with fail
  refine HS.out.mono ?_
  rintro ex W4 ⟨rfl, h1, h2, h3⟩
  have HG := Aside0.mk (And.intro h1 (And.intro h2 (HF.out.2.trans h3)))
  clear h1 h2 h3
  go_wp2_with fail
  go_ret
  refine ⟨?_, ?_, HG.out.2⟩
  · rw [bld_opt]; rfl
  · rw [bld_opt, HF.out.1]; exact HG.out.1
def MM (wp W : World) (P : Nat → Prop) (gm nx : Nat) (m : Sts) (x : Rx) (op : Int) (f : Nat) (w' : World) : Prop :=
  (bld x m.length (m ++ [(none, [])])).1 = f ∧ RepM w' wp.heap.size (fun k => P k ∨ W.heap.size ≤ k) gm (bld (.rep x op) nx m).2 ∧ Below wp.heap.size wp w' ∧ KeepT W w'
set_option maxHeartbeats 4000000 in
set_option maxRecDepth 100000 in
theorem build_loop (x : Rx) (op : Int) (hop : op ≠ 63) (ih : BuildP x) : BuildP (.rep x op) := by
  intro wp W P ok gm nx m v hB hx hM hl hct
  have HCT := Aside0.mk (show cnt x ≤ 100000 from by unfold cnt at hct; omega)
  clear hct
  unfold RepX at hx
  obtain ⟨u, hr, rfl⟩ := hx
  obtain ⟨T0, u0, rfl⟩ := RepX_iface hr
  have t1 := ta_rep1
  have t2 := ta_rep2
  have t3 := ta_rep3
  have t4 := ta_rep
  have d1 : (op == 63) = false := beq_eq_false_iff_ne.2 hop
  have hext := bld_ext x m.length (m ++ [(none, [])])
  have hl2 : (bld x m.length (m ++ [(none, [])])).2.length ≤ 100000 := by rw [bld_loop x op hop] at hl; simp only [List.length_set] at hl; exact hl
  have hml : m.length + 1 ≤ 100000 := by have := hext.1; rw [List.length_append] at this; simp only [List.length_cons, List.length_nil] at this; omega
  have hq : (bld x m.length (m ++ [(none, [])])).2[m.length]? = some (none, []) := by rw [hext.2 m.length (by simp)]; simp
  have HM := Aside0.mk (And.intro hM (And.intro hB (And.intro hl2 (And.intro hml hq))))
  have HX := Aside0.mk hr
  have HO := Aside0.mk hop
  clear hM hB hl hl2 hr hext hml hq hop
  have hW1 : (W.alloc (.cells #[.iface T0 u0, .int .u8 op] 84)).heap[W.heap.size]? = some (.cells #[.iface T0 u0, .int .u8 op] 84 (0, 0)) := heap_alloc_new W _
  have hk1 : KeepT W (W.alloc (.cells #[.iface T0 u0, .int .u8 op] 84)) := KeepT.alloc _ _
  have hM1 := (HM.out.1.alloc (.cells #[.iface T0 u0, .int .u8 op] 84))
  have hB1 := below_alloc HM.out.2.1 (.cells #[.iface T0 u0, .int .u8 op] 84)
  have HS := Aside0.mk (state_call wp _ P gm m none [] (.pointer none) (.slice none 0 0) hB1 hM1 rfl (way_nil _ _) (fun k hk => by simp [Value.ownBlock] at hk) (by have := HM.out.2.2.2.1; omega))
  have HN := Aside0.mk (And.intro hW1 hk1)
  clear hW1 hk1 hM1 hB1
  go_enter Try.func15, Try.ntmps15
  go_wp2_with fail
  refine HS.out.mono ?_
  rintro ex W2 ⟨rfl, h1, h2, h3⟩
  have hnd := (h3 _ _ _ HN.out.1 (by decide) (by decide) (by decide)).trans HN.out.1
  have hW2 := blk_lt hnd
  have y0 : W2.cell? ⟨W.heap.size, 0, none⟩ = some (.iface T0 u0) := (blk_cell hnd 0).trans rfl
  have HC := Aside0.mk (ih wp W2 P ok gm m.length _ _ h2 HX.out h1 HM.out.2.2.1 HCT.out)
  have HF := Aside0.mk (And.intro hnd (And.intro hW2 (HN.out.2.trans h3)))
  clear h1 h2 h3 hnd hW2 HS
  go_wp2_with fail
  refine HC.out.mono ?_
  rintro ex W3 ⟨rfl, h1, h2, h3⟩
  obtain ⟨f, hf⟩ : ∃ f, (bld x m.length (m ++ [(none, [])])).1 = f := ⟨_, rfl⟩
  rw [hf]
  have hnd := (h3 _ _ _ HF.out.1 (by decide) (by decide) (by decide)).trans HF.out.1
  have hW3 := blk_lt hnd
  have hway := way_two (w := W3) (B := wp.heap.size) f nx h2.size
  have hM3 := (h1.alloc (.cells #[.int .i64 f, .int .i64 nx] 3)).weak (P' := fun k => P k ∨ W.heap.size ≤ k) (fun k _ h => h.elim .inl (fun h => .inr (by have := HF.out.2.1; omega)))
  have hnew : ∀ k, (Value.slice (some ⟨W3.heap.size, 0, none⟩) 2 2).ownBlock = some k → P k ∨ W.heap.size ≤ k := fun k hk => by
    have : W3.heap.size = k := by simpa [Value.ownBlock] using hk
    exact .inr (by omega)
  obtain ⟨g, n, c, a1, a2, a3, a4, a5, a6, a7⟩ := hM3.way HM.out.2.2.2.2 hway hnew
  have hB4 := below_alloc h2 (.cells #[.int .i64 f, .int .i64 nx] 3)
  have hk4 := (HF.out.2.2.trans h3).trans ((KeepT.alloc W3 (.cells #[.int .i64 f, .int .i64 nx] 3)).trans a7)
  have hnd4 := (a7 _ _ _ ((heap_alloc_old W3 (.cells #[.int .i64 f, .int .i64 nx] 3) hW3).trans hnd) (by decide) (by decide) (by decide)).trans ((heap_alloc_old W3 _ hW3).trans hnd)
  have y1 := (blk_cell hnd4 1)
  simp only [List.getElem?_toArray, List.getElem?_cons_zero, List.getElem?_cons_succ] at y1
  have a1b : W3.cell? ⟨gm, 1, none⟩ = some (.slice (some ⟨g, 0, none⟩) n c) := by
    rw [← a1]
    exact (World.cell?_alloc_past _ _ _ h1.len).symm
  obtain ⟨v4, a4⟩ := Option.isSome_iff_exists.1 a4
  have hlt : m.length < n := by rw [a2]; exact (List.getElem?_eq_some_iff.1 HM.out.2.2.2.2).1
  have i1 : ((m.length : Int) < (n : Int)) = True := eq_true (by omega)
  have i2 : ((0 : Int) ≤ (m.length : Int)) = True := eq_true (by omega)
  have HG := Aside0.mk (And.intro hf (And.intro a6 (And.intro (Below.setCell (p := ⟨g, m.length, none⟩) hB4 a3 (.slice (some ⟨W3.heap.size, 0, none⟩) 2 2)) hk4)))
  clear h1 h2 h3 hnd hW3 hway hM3 hnew a1 a2 a3 a6 a7 hB4 hk4 hnd4 hf HC t1 t2 t3 t4 y0
  have fin : MM wp W P gm nx m x op f (((W3.alloc (.cells #[.int .i64 f, .int .i64 nx] 3)).setCell ⟨g, m.length, none⟩ (.slice (some ⟨W3.heap.size, 0, none⟩) 2 2))) := by
    refine ⟨HG.out.1, ?_, HG.out.2.2⟩
    rw [bld_loop x op HO.out, HG.out.1]
    exact HG.out.2.1
  have FIN := Aside0.mk fin
  clear fin
  by_cases h43 : op = 43
  · have d2 : (op == 43) = true := beq_iff_eq.2 h43
    have H43 := Aside0.mk h43
    clear h43
    go_wp2_with fail
    go_ret
    refine ⟨?_, FIN.out.2⟩
    rw [bld_loop x op HO.out, if_pos H43.out, FIN.out.1]; rfl
  · have d2 : (op == 43) = false := beq_eq_false_iff_ne.2 h43
    have H43 := Aside0.mk h43
    clear h43
    go_wp2_with fail
    go_ret
    refine ⟨?_, FIN.out.2⟩
    rw [bld_loop x op HO.out, if_neg H43.out]; rfl
mutual
theorem build_all : ∀ x : Rx, BuildP x
  | .one s b pl => build_one s b pl
  | .seq xs => build_seq xs (builds_all xs)
  | .alt xs => build_alt xs (builds_all xs)
  | .rep x op => if h : op = 63 then h ▸ build_opt x (build_all x) else build_loop x op h (build_all x)
theorem builds_all : ∀ xs : List Rx, ∀ x ∈ xs, BuildP x
  | [], x, h => absurd h List.not_mem_nil
  | y :: ys, x, h => by
    rcases List.mem_cons.1 h with e | h
    · rw [e]; exact build_all y
    · exact builds_all ys x h
end
end Go.Proofs.Ytcdpmmpdfdillaa.Q

namespace Go.Proofs.Ytcdpmmpdfdillaa.Q
open Go.RowKit Go.Proofs.YtcdpmmpdfdillaaW.PrintWords Go.Proofs.YtcdpmmpdfdillaaW.PrintLast
set_option linter.unusedVariables false
set_option linter.unusedSimpArgs false
/-- A row of marks of its own. -/
def RowB (w : World) (g : Nat) (v : List Bool) : Prop := w.heap[g]? = some (.cells (v.map Value.bool).toArray 4 (0, 0))
theorem RowB.at {w : World} {g : Nat} {v : List Bool} (h : RowB w g v) {s : Nat} (hs : s < v.length) : w.cell? ⟨g, s, none⟩ = some (.bool (v.getD s false)) := by
  rw [blk_cell h, List.getElem?_toArray, List.getElem?_map, List.getElem?_eq_getElem hs]
  simp [List.getD_eq_getElem?_getD, hs]
theorem RowB.put {w : World} {g : Nat} {v : List Bool} (h : RowB w g v) (s : Nat) (x : Bool) : RowB (w.setCell ⟨g, s, none⟩ (.bool x)) g (v.set s x) := by
  unfold RowB
  refine blk_put h s (.bool x) ?_
  rw [List.setIfInBounds_toArray, List.map_set]
theorem RepM.moveB {w w' : World} {B gm : Nat} {P : Nat → Prop} {m : Sts} (h : RepM w B P gm m) (hk : ∀ (k : Nat) (cells : Array Value) (t : Nat), w.heap[k]? = some (.cells cells t (0, 0)) → t ≠ 4 → w'.heap[k]? = w.heap[k]?) : RepM w' B P gm m := by
  obtain ⟨vs, vw, ss, ws, h1, h2, h3, h4, h5⟩ := h
  have mv : ∀ {e n b : Nat} {v : Value} {xs : List Value}, w.ownsRow b e 1 v n xs → e ≠ 4 → w'.ownsRow b e 1 v n xs := fun ho he => own_move ho (fun k hk' => by
    obtain ⟨cs, hc⟩ := own_typed ho k hk'
    exact hk k cs _ hc he)
  refine ⟨vs, vw, ss, ws, (hk gm _ _ h1 (by decide)).trans h1, h2, mv h3 (by decide), mv h4 (by decide), fun q o ls hq => ?_⟩
  obtain ⟨v, u, g1, g2, g3, g4, g5⟩ := h5 q o ls hq
  refine ⟨v, u, g1, ?_, g3, mv g4 (by decide), g5⟩
  cases o with
  | none => exact g2
  | some s =>
    obtain ⟨k, cells, t, e1, e2, e3, e4, e5⟩ := g2
    exact ⟨k, cells, t, e1, e2, e3, (hk k _ _ e4 (by rcases e3 with rfl | rfl <;> decide)).trans e4, e5⟩
/-- But one row of marks all is as it was. -/
def OnlyB (g : Nat) (w w' : World) : Prop := w'.os = w.os ∧ w'.tape = w.tape ∧ w'.output = w.output ∧ w.heap.size ≤ w'.heap.size ∧ ∀ k, k < w.heap.size → k ≠ g → w'.heap[k]? = w.heap[k]?
theorem OnlyB.refl (g : Nat) (w : World) : OnlyB g w w := ⟨rfl, rfl, rfl, Nat.le_refl _, fun _ _ _ => rfl⟩
theorem OnlyB.trans {g : Nat} {a b c : World} (h : OnlyB g a b) (k : OnlyB g b c) : OnlyB g a c :=
  ⟨k.1.trans h.1, k.2.1.trans h.2.1, k.2.2.1.trans h.2.2.1, Nat.le_trans h.2.2.2.1 k.2.2.2.1, fun q h1 h2 => (k.2.2.2.2 q (Nat.lt_of_lt_of_le h1 h.2.2.2.1) h2).trans (h.2.2.2.2 q h1 h2)⟩
theorem OnlyB.set (g : Nat) (w : World) (s : Nat) (x : Value) : OnlyB g w (w.setCell ⟨g, s, none⟩ x) := ⟨rfl, rfl, rfl, by rw [World.size_setCell]; exact Nat.le_refl _, fun k _ hk => Below.heap_setCell _ _ _ _ hk⟩
theorem RepM.only {w w' : World} {B gm g : Nat} {P : Nat → Prop} {m : Sts} {v : List Bool} (h : RepM w B P gm m) (hr : RowB w g v) (ho : OnlyB g w w') : RepM w' B P gm m := h.moveB fun k cells t hk ht => ho.2.2.2.2 k (blk_lt hk) (fun e => by
  subst e
  unfold RowB at hr
  rw [hk] at hr
  injection hr with hr
  injection hr with _ e
  exact ht e)
/-- What lies at a state. -/
theorem RepM.get {w : World} {B gm q : Nat} {P : Nat → Prop} {m : Sts} {o : Option (List Bool)} {ls : List Nat} (h : RepM w B P gm m) (hq : m[q]? = some (o, ls)) :
    ∃ a b c d pv u, w.cell? ⟨gm, 0, none⟩ = some (.slice (some ⟨a, 0, none⟩) m.length c) ∧ w.cell? ⟨gm, 1, none⟩ = some (.slice (some ⟨b, 0, none⟩) m.length d) ∧ w.cell? ⟨a, q, none⟩ = some (.pointer pv) ∧ w.cell? ⟨b, q, none⟩ = some u ∧ SetP w B o (.pointer pv) ∧ WayP w B ls u := by
  obtain ⟨vs, vw, ss, ws, h1, h2, h3, h4, h5⟩ := h
  obtain ⟨v, u, a1, a2, a3, a4, a5⟩ := h5 q o ls hq
  obtain ⟨pv, rfl⟩ := a2.ptr
  obtain ⟨a, c, rfl, e1⟩ := own_part h3 a1
  obtain ⟨b, d, rfl, e2⟩ := own_part h4 a3
  exact ⟨a, b, c, d, pv, u, (blk_cell h1 0).trans rfl, (blk_cell h1 1).trans rfl, e1, e2, a2, a4⟩
def ReachP (m : Sts) (k : Nat) : Prop := ∀ (W : World) (B gm g c s : Nat) (P : Nat → Prop) (v : List Bool), RepM W B P gm m → RowB W g v → v.length = m.length → s < m.length → unm v < k →
  Calls Try.prog 16 #[.pointer (some ⟨gm, 0, none⟩), .slice (some ⟨g, 0, none⟩) m.length c, .int .i64 s] W fun e w' => e = .returned (.tuple #[]) ∧ RowB w' g (rch m k v s) ∧ OnlyB g W w'
set_option maxHeartbeats 4000000 in
set_option maxRecDepth 100000 in
theorem reach_all (m : Sts) (hg : Good m) (hml : m.length ≤ 100000) : ∀ k, ReachP m k := by
  intro k
  induction k with
  | zero => intro W B gm g c s P v _ _ _ _ h; exact absurd h (Nat.not_lt_zero _)
  | succ k ih =>
    intro W B gm g c s P v hM hR hl hs hu
    obtain ⟨o, ls, hq⟩ : ∃ o ls, m[s]? = some (o, ls) := ⟨m[s].1, m[s].2, List.getElem?_eq_getElem hs⟩
    have x0 := hR.at (by omega : s < v.length)
    have i1 : ((s : Int) < (m.length : Int)) = True := eq_true (by omega)
    have i2 : ((0 : Int) ≤ (s : Int)) = True := eq_true (by omega)
    have f0 : W.frozen? ⟨g, s, none⟩ = false := blk_frozen hR s
    by_cases hv : v.getD s false = true
    · rw [hv] at x0
      have HR := Aside0.mk (And.intro hR (show rch m (k + 1) v s = v from by rw [rch, if_pos hv]))
      clear hM hR hu hv hq hl
      go_enter Try.func16, Try.ntmps16
      go_wp2_with fail
      refine bodyPost_ret (results_none rfl _ _ _) rfl ?_
      exact ⟨rfl, by rw [HR.out.2]; exact HR.out.1, OnlyB.refl _ _⟩
    · have hv0 : v.getD s false = false := by simpa using hv
      have hR1 := hR.put s true
      have hM1 := hM.only hR (OnlyB.set g W s (.bool true))
      obtain ⟨a, b, c1, d1, pv, u, y0, y1, y2, y3, hS, hWy⟩ := hM1.get hq
      have hu1 := unm_set v s (by omega) hv0
      have hl1 : (v.set s true).length = m.length := by rw [List.length_set]; exact hl
      have hrch : rch m (k + 1) v s = (match m[s]? with | some (none, ws) => ws.foldl (fun v w => rch m k v w) (v.set s true) | _ => v.set s true) := by rw [rch, if_neg hv]; rfl
      rw [hq] at hrch
      rw [hv0] at x0
      have HR := Aside0.mk (And.intro hR1 (And.intro hM1 (And.intro hl1 (show unm (v.set s true) < k by omega))))
      have HO := Aside0.mk (OnlyB.set g W s (.bool true))
      have HW := Aside0.mk hWy
      have HQ := Aside0.mk (And.intro hrch hq)
      clear hM hR hu hv hv0 hl hR1 hM1 hu1 hl1 hWy hrch hq
      cases o with
      | some st =>
        obtain ⟨kb, cells, t, e, -⟩ := hS
        injection e with e
        subst e
        go_enter Try.func16, Try.ntmps16
        go_wp2_with fail
        refine bodyPost_end (results_none rfl _ _ _) rfl ?_
        exact ⟨rfl, by rw [HQ.out.1]; exact HR.out.1, HO.out⟩
      | none =>
        obtain rfl : pv = none := by injection hS
        clear hS
        obtain ⟨A, n, cu, rfl⟩ := HW.out.sl
        obtain rfl : n = ls.length := by
          rcases HW.out.2 with ⟨e, h0⟩ | ⟨g', cap, cur, e, _⟩
          · injection e with _ e _; omega
          · injection e
        go_enter Try.func16, Try.ntmps16
        go_wp2_with fail
        generalize W.setCell ⟨g, s, none⟩ (.bool true) = W1 at *
        obtain ⟨fin, hfin⟩ : ∃ fin, rch m (k + 1) v s = fin := ⟨_, rfl⟩
        rw [hfin] at HQ
        have HFin := Aside0.mk hfin
        clear hfin
        have HQ2 : Aside0 ((ls.drop 0).foldl (fun v w => rch m k v w) (v.set s true) = fin ∧ (v.set s true).length = m.length ∧ unm (v.set s true) < k) := ⟨⟨by rw [List.drop_zero]; exact HQ.out.1.symm, HR.out.2.2⟩⟩
        have HB0 : Aside0 (RowB W1 g (v.set s true)) := ⟨HR.out.1⟩
        have HO0 : Aside0 (OnlyB g W1 W1) := ⟨OnlyB.refl _ _⟩
        clear x0 y0 y1 y2 y3 f0 i1 i2
        go_loopw [31] (fun v31 W' => ∃ (j : Nat) (vj : List Bool), j ≤ ls.length ∧ v31 = .int .i64 j ∧ Aside0 ((ls.drop j).foldl (fun v w => rch m k v w) vj = fin ∧ vj.length = m.length ∧ unm vj < k) ∧ Aside0 (RowB W' g vj) ∧ Aside0 (OnlyB g W1 W')) (fun v31 _ => ls.length - (intOf v31).toNat)
        case atStart => exact ⟨0, _, by omega, rfl, HQ2, HB0, HO0⟩
        case round =>
          clear HQ2 HB0 HO0
          obtain ⟨j, vj, hj, rfl, HF, HB, HOj⟩ := hrel
          by_cases hlt : j < ls.length
          · have dl : decide ((j : Int) < (ls.length : Int)) = true := decide_eq_true (by omega)
            have i1 : ((j : Int) < (ls.length : Int)) = True := eq_true (by omega)
            have i2 : ((0 : Int) ≤ (j : Int)) = True := eq_true (by omega)
            have hwj : IntKind.i64.wrap ((j : Int) + 1) = ((j + 1 : Nat) : Int) := by have := own_max HW.out; simp only [maxLen] at this; rw [IntKind.wrap_i64]; omega
            obtain ⟨w, hw⟩ : ∃ w, ls[j]? = some w := ⟨_, List.getElem?_eq_getElem hlt⟩
            have hwm : w < m.length := hg s none ls w HQ.out.2 (List.mem_of_getElem? hw)
            have owr : wr.ownsRow B 3 1 (.slice A ls.length cu) ls.length (ints ls) := own_move HW.out (fun q hq => by
              obtain ⟨cs, hc⟩ := own_typed HW.out q hq
              refine HOj.out.2.2.2.2 q (blk_lt hc) (fun e => ?_)
              subst e
              have hb := HR.out.1
              unfold RowB at hb
              rw [hc] at hb
              injection hb with hb
              injection hb with _ e
              exact absurd e (by decide))
            obtain ⟨g2, c2, eA, hc⟩ := own_part owr (show (ints ls)[j]? = some (.int .i64 (w : Int)) by unfold ints; rw [List.getElem?_map, hw]; rfl)
            injection eA with eA e2 e3
            subst eA; subst e3
            clear e2
            have hstep : (ls.drop (j + 1)).foldl (fun v w => rch m k v w) (rch m k vj w) = fin := by
              have h1 := HF.out.1
              have h2 : ls.drop j = w :: ls.drop (j + 1) := by rw [List.drop_eq_getElem_cons hlt]; congr 1; exact (List.getElem?_eq_some_iff.1 hw).2
              rw [h2] at h1
              exact h1
            have hnew := (rch_new m hg k vj w HF.out.2.1 hwm HF.out.2.2).1.le
            have HC := Aside0.mk (ih wr B gm g c w P vj (HR.out.2.1.only HR.out.1 HOj.out) HB.out HF.out.2.1 hwm HF.out.2.2)
            have HN := Aside0.mk (And.intro hstep (And.intro (hnew.1.trans HF.out.2.1) (Nat.lt_of_le_of_lt (unm_le hnew) HF.out.2.2)))
            clear owr hstep hnew hw hwm
            go_wp2_with fail
            refine HC.out.mono ?_
            rintro ex W3 ⟨rfl, h1, h2⟩
            have HG := Aside0.mk (And.intro h1 (HOj.out.trans h2))
            clear h1 h2 HC hc
            go_wp2_with fail
            go_roundw
            case measure => simp only [intOf]; omega
            case rel => exact ⟨j + 1, _, by omega, by rw [Int.natCast_add]; rfl, HN, ⟨HG.out.1⟩, ⟨HG.out.2⟩⟩
          · obtain rfl : j = ls.length := by omega
            have dl : decide ((ls.length : Int) < (ls.length : Int)) = false := decide_eq_false (by omega)
            go_wp2_with fail
            refine bodyPost_end (results_none rfl _ _ _) rfl ?_
            have h1 := HF.out.1
            rw [List.drop_length] at h1
            exact ⟨rfl, by rw [HFin.out, ← h1]; exact HB.out, HO.out.trans HOj.out⟩
end Go.Proofs.Ytcdpmmpdfdillaa.Q

namespace Go.Proofs.Ytcdpmmpdfdillaa.Q
open Go.RowKit Go.Proofs.YtcdpmmpdfdillaaW.PrintWords Go.Proofs.YtcdpmmpdfdillaaW.PrintLast
set_option linter.unusedVariables false
set_option linter.unusedSimpArgs false
def altB (p : ByteArray) (j : Int) : Bool := decide (j = p.size) || (bt p j != 124)
theorem altB_iff (p : ByteArray) (j : Int) : (altB p j = true) ↔ (j = p.size ∨ bt p j ≠ 124) := by unfold altB; simp
set_option maxHeartbeats 4000000 in
set_option maxRecDepth 100000 in
theorem alt_calls (k : Nat) (IH : ∀ m, m < k → SeqC m) : AltC k := by
  intro g p i o r h h0 h1 hp o0 o1 w hs
  have HIH := Aside0.mk IH
  have H := Aside0.mk h
  have HS := Aside0.mk hs
  have hgl : g < w.heap.size := lt_of_some hs
  have HGL := Aside0.mk hgl
  have kr : K0 (Bx w.heap.size g w w) := ⟨Bx.refl _ _ _⟩
  obtain ⟨i0, hi, hz0, hz1, hz2⟩ := info_parts info40
  have HI := Aside0.mk hi
  have HZ := Aside0.mk (And.intro hz0 (And.intro hz1 hz2))
  clear IH h hs hi hz0 hz1 hz2 hgl
  go_enter Try.func35, Try.ntmps35
  go_upto_region 2 with (fail)
  have HS2 := Aside0.mk (show St (w.alloc (.cells #[.slice none 0 0] 64)) g p i o from stt HS)
  have HA2 := Aside0.mk (acc_nil w 64)
  have HX2 := Aside0.mk (show Bx w.heap.size g w (w.alloc (.cells #[.slice none 0 0] 64)) from kk)
  clear kr HS
  go_loopg [4] k (fun kq v4 W => ∃ (j : Int) (acc : List Rx) (v : Value) (vs : List Value), Aside0 (altL kq p j o acc = some r) ∧ Aside0 (kq ≤ k) ∧ Aside0 (0 ≤ j ∧ j ≤ p.size ∧ acc.length ≤ j) ∧ Aside0 (St W g p j o) ∧ Aside0 (Acc W w.heap.size 64 acc v vs) ∧ Aside0 (Bx w.heap.size g w W))
  case atStart => exact ⟨i, [], _, [], H, ⟨Nat.le_refl _⟩, ⟨h0, h1, h0⟩, HS2, HA2, HX2⟩
  case round =>
    clear HS2 HA2 HX2 H
    obtain ⟨j, acc, v, vs, HA, HK, HN, HST, HACC, HB⟩ := hrel
    cases gk with
    | zero => exact absurd HA.out (by simp [altL])
    | succ k1 =>
    have j0 := HN.out.1
    have j1 := HN.out.2.1
    have kw : K0 (Bx w.heap.size g w wr) := ⟨HB.out⟩
    have hA := HA.out
    simp only [altL] at hA
    have HA2 := Aside0.mk hA
    clear hA HA
    cases hq : seqL k1 p j o [] with
    | none => exfalso; have := HA2.out; rw [hq] at this; cases this
    | some q =>
    have HQ := Aside0.mk hq
    have hcl := HACC.out.cell
    have HXB := Aside0.mk (lt_of_some HACC.out.1)
    have HVB := Aside0.mk (fun k hk => (HACC.out.2.1.lt k hk).2)
    have HVL := Aside0.mk (RepXs_len _ _ HACC.out.2.2.2)
    have hst := st_drew HST.out
    have hacc : Acc wr.drew w.heap.size 64 acc v vs := acc_move HACC.out (fun _ _ _ => rfl)
    have hbx : Bx w.heap.size g w wr.drew := kk
    have HACC2 := Aside0.mk hacc
    have HST2 := Aside0.mk hst
    have HB2 := Aside0.mk hbx
    have hk1 : k1 < k := by have := HK.out; omega
    have HK1 := Aside0.mk hk1
    clear hacc hst hbx hk1 hq HACC HST HB kw
    go_upto_region 2 with (fail)
    go_cut [] (fun wc => ∃ (y : Rx) (j2 : Int) (v2 : Value) (vs2 : List Value), q = .ok (y, j2) ∧ Aside0 (St wc g p j2 o) ∧ Aside0 (Acc wc w.heap.size 64 (acc ++ [y]) v2 vs2) ∧ Aside0 (Bx w.heap.size g w wc))
    case first =>
      refine sz_region (S := fun W => W.cell? ⟨w.heap.size, 0, none⟩ = some v) 7 [(0, false), (1, false), (2, false), (3, true), (4, true), (5, true), (6, false), (7, true)] (by intro d v c a w h; cases d <;> exact h) (by kernel_rfl) (by kernel_rfl) HACC2.out.cell ?_
      repeat (first | (refine sz_n ?_ ?_ rfl ?_ ?_ ?_; rotate_left 2; (intro W hW; go_simp; first | done | with_reducible rfl); (simp only [List.setIfInBounds_toArray, List.set_cons_zero, List.set_cons_succ]; try rfl)) | (refine sz_g ?_ ?_ rfl rfl rfl ?_ ?_ ?_; rotate_left 2; (intro W hW; go_simp; first | done | with_reducible rfl); (simp only [List.setIfInBounds_toArray, List.set_cons_zero, List.set_cons_succ]; try rfl)) | (refine sz_f ?_ rfl rfl rfl ?_ ?_; rotate_left; (simp only [List.setIfInBounds_toArray, List.set_cons_zero, List.set_cons_succ]; try rfl)) | (refine sz_u ?_ rfl rfl rfl ?_ ?_; rotate_left; (simp only [List.setIfInBounds_toArray, List.set_cons_zero, List.set_cons_succ]; try rfl)))
      refine sz_1n rfl (fun K hK => ?_)
      go_simp
      go_at_call 45
      refine (HIH.out k1 HK1.out g p j o q HQ.out j0 j1 hp o0 o1 _ HST2.out).mono ?_
      rintro e w1 hch
      rcases q with ⟨c, a⟩ | ⟨y, j2⟩
      · obtain ⟨rfl, hb1⟩ := hch
        have hA := HA2.out
        rw [HQ.out] at hA
        obtain rfl := Option.some.inj hA
        exact ⟨rfl, rfl, HB2.out.trans (hb1.lower HB2.out.size)⟩
      · obtain ⟨v1, rfl, hrep, hst, hb1⟩ := hch
        obtain ⟨T1, u1, rfl⟩ := RepX_iface hrep
        have hacc := acc_bx HACC2.out hb1 HGL.out
        have HREP := Aside0.mk hrep
        have HST := Aside0.mk hst
        have HACC := Aside0.mk hacc
        have HB := Aside0.mk (HB2.out.trans (hb1.lower HB2.out.size))
        have hcl1 := hacc.cell
        clear hrep hst hacc hb1 HST2 HACC2 HB2 hcl
        go_wp2_with fail
        refine hK.out _ _ (.inr hcl1) ?_
        refine sz_1n rfl (fun K hK => ?_)
        go_simp
        have hvl := HVL.out
        have hln := HN.out.2.2
        have hc1 : ∀ j u, [Value.iface T1 u1][j]? = some u → (w1.alloc (.cells #[.iface T1 u1] 37)).cell? ((⟨w1.heap.size, 0, none⟩ : Addr).add j) = some u := by
          intro j' u' hu
          rcases j' with _ | j'
          · cases hu; exact cell_of_row _ w1.heap.size 0 _ 37 _ (heap_alloc_new _ _)
          · cases hu
        have hc2 : ∀ u ∈ [Value.iface T1 u1], u.oneCell' = true := by
          intro u' hu
          obtain rfl := List.mem_singleton.mp hu
          rfl
        have hc3 : vs.length + 1 ≤ maxLen := by simp only [maxLen]; omega
        have hc4 : (vs.length + 1) * 16 ≤ 140737488355328 := by omega
        have hc5 : w.heap.size ≤ (w1.alloc (.cells #[.iface T1 u1] 37)).heap.size := by rw [sz_al]; have := lt_of_some HACC.out.1; omega
        refine hK.out _ _ (.inr ((cell_of_row _ w.heap.size 0 _ 64 _ ((heap_alloc_old w1 _ (lt_of_some HACC.out.1)).trans HACC.out.1)))) ?_
        refine sz_1n rfl (fun K hK => ?_)
        refine wp_append_at (.tmp 5) (.tmp 8) 62 rfl w.heap.size 37 i0 .nilIface 1 16 Try.underlying62 HI.out HZ.out.1 HZ.out.2.1 HZ.out.2.2 rfl (by decide) v vs.length vs rfl (HACC.out.2.1.alloc _) ⟨w1.heap.size, 0, none⟩ 1 1 [.iface T1 u1] rfl rfl hc1 hc2 hc3 hc4 hc5 ?_
        intro v2 w2 hown hgr hloc
        obtain ⟨A2, n2, c2', rfl⟩ := own_sl hown
        have hx2 := acc_grown HACC.out hgr
        have hcl2 := bk_cell hx2
        have hfr2 := bk_fr hx2 0
        have HG := Aside0.mk (And.intro hown (And.intro hgr hloc))
        clear hown hgr hloc hx2 hc1 hc2 hc3 hc4 hc5 hvl hln hcl1
        refine hK.out _ _ (.inr hcl2) ?_
        simp only [Act.put, List.setIfInBounds_toArray, List.set_cons_zero, List.set_cons_succ]
        repeat (first | (refine sz_n ?_ ?_ rfl ?_ ?_ ?_; rotate_left 2; (intro W hW; go_simp; first | done | with_reducible rfl); (simp only [List.setIfInBounds_toArray, List.set_cons_zero, List.set_cons_succ]; try rfl)) | (refine sz_g ?_ ?_ rfl rfl rfl ?_ ?_ ?_; rotate_left 2; (intro W hW; go_simp; first | done | with_reducible rfl); (simp only [List.setIfInBounds_toArray, List.set_cons_zero, List.set_cons_succ]; try rfl)) | (refine sz_f ?_ rfl rfl rfl ?_ ?_; rotate_left; (simp only [List.setIfInBounds_toArray, List.set_cons_zero, List.set_cons_succ]; try rfl)) | (refine sz_u ?_ rfl rfl rfl ?_ ?_; rotate_left; (simp only [List.setIfInBounds_toArray, List.set_cons_zero, List.set_cons_succ]; try rfl)))
        refine sz_1n rfl (fun K hK => ?_)
        go_simp
        refine hK.out _ _ (.inl rfl) ?_
        refine sz_done ?_
        go_wp2_with fail
        have hpush := acc_push HACC.out HREP.out (fun k hk => hk) HXB.out HVB.out HG.out.2.1 HG.out.1 HG.out.2.2
        have hst : St w2 g p j2 o := st_grown HST.out HG.out.2.1 (fun e => by have := (HACC.out.2.1.lt g e.symm).1; have := HGL.out; omega)
        have hbx : Bx w.heap.size g w w2 := bx_grown HB.out HG.out.2.1 (fun k hk => (HACC.out.2.1.lt k hk).1)
        have kz : K0 (Bx w.heap.size g w w2) := ⟨hbx⟩
        have kx : K0 (w.heap.size ≤ w.heap.size) := ⟨Nat.le_refl _⟩
        have HP := Aside0.mk hpush
        have HS3 := Aside0.mk hst
        clear hpush hst hbx
        go_meet
        case rel => exact ⟨y, j2, _, _, rfl, ⟨st_far HS3.out (by have := HGL.out; omega)⟩, HP, ⟨kk⟩⟩
    case rest =>
      clear HB2 HST2 HACC2 hcl
      obtain ⟨y, j2, v2, vs2, rfl, HST, HACC, HB⟩ := hcut
      have hA := HA2.out
      rw [HQ.out] at hA
      simp only [obind, ← altB_iff] at hA
      have hjb := (par_ok k1).2.1 _ _ _ _ _ HQ.out j0 j1
      have m0 : 0 ≤ j2 := by have := hjb.1; omega
      have m1 : j2 ≤ p.size := hjb.2
      have HJ := Aside0.mk hjb
      have c0 := HST.out.c0
      have c1 := HST.out.c1
      have f1 := HST.out.fr 1
      have hx := bt_at p j2
      have kw : K0 (Bx w.heap.size g w wc) := ⟨HB.out⟩
      generalize hab : altB p j2 = ab at hA
      have HAB := Aside0.mk hab
      have HA3 := Aside0.mk hA
      clear hA HA2 hab hjb
      go_upto_region 3 with (fail)
      go_cut [32] (fun v32 wd => v32 = .bool ab ∧ ∃ m, wd = wc.drewN m)
      case first =>
        by_cases e1 : j2 = p.size
        · have d1 : (j2 == (p.size : Int)) = true := beq_iff_eq.mpr e1
          have hc : altB p j2 = true := by unfold altB; rw [decide_eq_true e1]; rfl
          have HC := Aside0.mk (HAB.out.symm.trans hc)
          clear hc e1
          go_quiet (fail)
          go_wp2
          go_meet
          case rel => exact ⟨by rw [HC.out], _, rfl⟩
        · have d1 : (j2 == (p.size : Int)) = false := beq_eq_false_iff_ne.mpr e1
          have hc : altB p j2 = (bt p j2 != 124) := by unfold altB; rw [decide_eq_false e1]; rfl
          have HC := Aside0.mk (HAB.out.symm.trans hc)
          have m2 : j2 < p.size := by omega
          clear hc e1
          go_quiet (fail)
          go_wp2
          go_meet
          case rel => exact ⟨by rw [HC.out], _, rfl⟩
      case rest =>
        obtain ⟨rfl, m, rfl⟩ := hcut
        have hacc : Acc (wc.drewN m) w.heap.size 64 (acc ++ [y]) v2 vs2 := acc_move HACC.out (fun _ _ _ => rfl)
        have hst := st_drewN (n := m) HST.out
        have hbx : Bx w.heap.size g w (wc.drewN m) := kk
        have HACC2 := Aside0.mk hacc
        have HST2 := Aside0.mk hst
        have HB2 := Aside0.mk hbx
        have hA := HA3.out
        clear hacc hst hbx HACC HST HB kw HA3 c0 c1 f1
        generalize wc.drewN m = wy at *
        have c0 := HST2.out.c0
        have c1 := HST2.out.c1
        have f1 := HST2.out.fr 1
        have kw : K0 (Bx w.heap.size g w wy) := ⟨HB2.out⟩
        cases ab
        · rw [if_neg (by simp)] at hA
          have HA4 := Aside0.mk hA
          have hne : j2 ≠ (p.size : Int) ∧ bt p j2 = 124 := by have := HAB.out; unfold altB at this; simpa using this
          have m2 : j2 < p.size := by have := hne.1; omega
          clear hA hne
          go_wp2
          go_roundg k1
          case measure => omega
          case rel => 
            have hj := HJ.out
            have hn := HN.out
            exact ⟨j2 + 1, acc ++ [y], v2, vs2, HA4, ⟨by have := HK.out; omega⟩, ⟨by omega, by omega, by rw [List.length_append]; simp only [List.length_cons, List.length_nil]; omega⟩, ⟨stt HST2⟩, ⟨acc_move HACC2.out (fun k hk hl => Below.heap_setCell _ _ _ _ (by have := HGL.out; show k ≠ g; omega))⟩, ⟨kk⟩⟩
        · rw [if_pos rfl] at hA
          obtain rfl := Option.some.inj hA
          have hcl := HACC2.out.cell
          clear hA
          go_wp2
          go_ret
          refine ⟨_, rfl, ?_, HST2.out, HB2.out⟩
          unfold RepX
          exact ⟨v2, vs2, rfl, own_lower HACC2.out.2.1 (Nat.zero_le _), fun k hk => (HACC2.out.2.1.lt k hk).1, RepXs_move (fun k hk hl => ⟨Nat.le_of_lt hk.1, rfl⟩) _ _ HACC2.out.2.2.2⟩
theorem all_calls : ∀ k, (∀ m, m ≤ k → SeqC m) ∧ (∀ m, m ≤ k → AltC m) ∧ (∀ m, m ≤ k → AtomC m)
  | 0 => by
    have hm : ∀ m, m ≤ 0 → AtomC m := by
      intro m hm
      obtain rfl : m = 0 := by omega
      intro g p i o r h
      cases h
    have hs : ∀ m, m ≤ 0 → SeqC m := fun m hm' => seq_calls m fun q hq => (by omega)
    exact ⟨hs, fun m hm' => alt_calls m fun q hq => (by omega), hm⟩
  | k + 1 => by
    obtain ⟨is, ia, im⟩ := all_calls k
    refine ⟨fun m hm => seq_calls m fun q hq => im q (by omega), fun m hm => alt_calls m fun q hq => is q (by omega), fun m hm => ?_⟩
    rcases Nat.lt_or_ge k m with h | h
    · obtain rfl : m = k + 1 := by omega
      exact atom_calls k (ia k (Nat.le_refl _))
    · exact im m h
theorem alt_any (k : Nat) : AltC k := (all_calls k).2.1 k (Nat.le_refl _)
end Go.Proofs.Ytcdpmmpdfdillaa.Q

namespace Go.Proofs.Ytcdpmmpdfdillaa.Q
open Go.RowKit Go.Proofs.YtcdpmmpdfdillaaW.PrintWords Go.Proofs.YtcdpmmpdfdillaaW.PrintLast
set_option linter.unusedVariables false
set_option linter.unusedSimpArgs false
def patF (k : Nat) (p : ByteArray) : Option (Except (Int × Int) Rx) := obind (altL k p 0 0 []) fun x => if x.2 < p.size then some (.error (2, x.2)) else some (.ok x.1)
def VarX (w : World) (bx : Nat) (v : Value) : Prop := w.heap[bx]? = some (.cells #[v] 37 (0, 0))
def IsI (v : Value) : Prop := v = .nilIface ∨ ∃ T u, v = .iface T u
set_option maxHeartbeats 4000000 in
set_option maxRecDepth 100000 in
theorem pat1_calls (k : Nat) (p : ByteArray) (r : Except (Int × Int) Rx) (h : patF k p = some r) (hp : p.size ≤ 200) (bp bx : Nat) (u : Value) (w : World) (hb : w.cell? ⟨bp, 0, none⟩ = some (.string p)) (hx : VarX w bx u) (hne : bp ≠ bx) (hu : IsI u) :
    Calls Try.prog 34 #[.pointer (some ⟨bp, 0, none⟩), .pointer (some ⟨bx, 0, none⟩)] w fun e w' => RP r (fun x => ∃ v, e = .returned (.tuple #[]) ∧ VarX w' bx v ∧ RepX w' (fun k => w.heap.size ≤ k) x v ∧ Bx w.heap.size bx w w') (fun c a => e = .panicked (flt c a) ∧ (∃ v, VarX w' bx v ∧ IsI v) ∧ Bx w.heap.size bx w w') := by
  have HX := Aside0.mk hx
  have HXL := Aside0.mk (lt_of_some hx)
  have HBL := Aside0.mk (World.block_lt_of_cell? w _ hb)
  have HNE := Aside0.mk hne
  have HU := Aside0.mk hu
  have hs : St (w.alloc (.cells #[.string p, .int .i64 0, .int .i64 0] 77)) w.heap.size p 0 0 := heap_alloc_new _ _
  have HS := Aside0.mk hs
  have h' := h
  unfold patF at h'
  cases hq : altL k p 0 0 [] with
  | none => rw [hq] at h'; cases h'
  | some q =>
  rw [hq] at h'
  have HQ := Aside0.mk hq
  have HR := Aside0.mk h'
  have HBP := Aside0.mk hb
  clear hx hne hs h h' hq hu
  go_enter Try.func34, Try.ntmps34
  go_wp2_with fail
  go_at_call 35
  refine (alt_any k w.heap.size p 0 0 q HQ.out (Int.le_refl _) (by omega) hp (by omega) (by omega) _ HS.out).mono ?_
  rintro e w1 hch
  have hal : Below w.heap.size w (w.alloc (.cells #[.string p, .int .i64 0, .int .i64 0] 77)) := (Below.refl _ _).alloc (Nat.le_refl _) _
  have hsz := sz_al w (.cells #[.string p, .int .i64 0, .int .i64 0] 77)
  rcases q with ⟨c, a⟩ | ⟨x, j⟩
  · obtain ⟨rfl, hb1⟩ := hch
    obtain rfl := Option.some.inj HR.out
    have hbl := hb1.below (C := w.heap.size) (by rw [hsz]; omega) (Nat.le_refl _)
    exact ⟨rfl, rfl, ⟨u, (hbl.block bx HXL.out).trans ((hal.block bx HXL.out).trans HX.out), HU.out⟩, Bx.of (hal.trans hbl)⟩
  · obtain ⟨v, rfl, hrep, hst, hb1⟩ := hch
    have hbl := hb1.below (C := w.heap.size) (by rw [hsz]; omega) (Nat.le_refl _)
    have hB := hal.trans hbl
    have hvx : VarX w1 bx u := (hB.block bx HXL.out).trans HX.out
    have hcb : w1.cell? ⟨bp, 0, none⟩ = some (.string p) := (hB.cell (p := ⟨bp, 0, none⟩) HBL.out).trans HBP.out
    obtain ⟨T0, u0, rfl⟩ := RepX_iface hrep
    have hjb := (par_ok k).1 _ _ _ _ _ HQ.out (Int.le_refl _) (by omega)
    have j0 : 0 ≤ j := hjb.1
    have j1 : j ≤ p.size := hjb.2
    have hcx := bk_cell hvx
    have hfx := bk_fr hvx 0
    have hgx : w.heap.size ≠ bx := by have := HXL.out; omega
    have hpx : ¬ bp = bx := HNE.out
    have c1 := hst.c1
    have hr := HR.out
    simp only [obind] at hr
    have hst2 : St (w1.setCell ⟨bx, 0, none⟩ (.iface T0 u0)) w.heap.size p j 0 := st_far hst hgx
    have hvx2 : VarX (w1.setCell ⟨bx, 0, none⟩ (.iface T0 u0)) bx (.iface T0 u0) := bk_put hvx _
    have hbx2 : Bx w.heap.size bx w (w1.setCell ⟨bx, 0, none⟩ (.iface T0 u0)) := (Bx.of hB).trans ⟨rfl, rfl, rfl, by simp [World.setCell], fun k _ hk => Below.heap_setCell _ _ _ _ hk⟩
    have hcb2 : (w1.setCell ⟨bx, 0, none⟩ (.iface T0 u0)).cell? ⟨bp, 0, none⟩ = some (.string p) := by
      unfold World.cell?; rw [Below.heap_setCell _ _ _ _ hpx]; exact hcb
    have hrep2 : RepX (w1.setCell ⟨bx, 0, none⟩ (.iface T0 u0)) (fun k => w.heap.size ≤ k) x (.iface T0 u0) := RepX_move (fun k hk hl => ⟨by rw [hsz] at hk; omega, Below.heap_setCell _ _ _ _ (by have := HXL.out; show k ≠ bx; omega)⟩) _ _ hrep
    have c12 := hst2.c1
    have HF := Aside0.mk (And.intro hvx2 (And.intro hbx2 hrep2))
    clear hst2 hvx2 hbx2 hrep2 hst hrep hvx hB hbl hb1 hal hjb HR HX HS c1 hcb
    by_cases e1 : j < p.size
    · rw [if_pos e1] at hr
      obtain rfl := Option.some.inj hr
      have d1 : decide (j < (p.size : Int)) = true := decide_eq_true e1
      clear hr e1
      go_upto_region 2 with (fail)
      generalize w1.setCell ⟨bx, 0, none⟩ (.iface T0 u0) = w2 at *
      go_wp2_with fail
      go_at_call 36
      refine (fail_calls _ _ _ _).mono ?_
      rintro e w' ⟨rfl, rfl⟩
      exact ⟨rfl, rfl, ⟨_, HF.out.1, .inr ⟨_, _, rfl⟩⟩, HF.out.2.1⟩
    · rw [if_neg e1] at hr
      obtain rfl := Option.some.inj hr
      have d1 : decide (j < (p.size : Int)) = false := decide_eq_false e1
      clear hr e1
      go_upto_region 2 with (fail)
      generalize w1.setCell ⟨bx, 0, none⟩ (.iface T0 u0) = w2 at *
      go_wp2
      go_end0
      exact ⟨_, rfl, HF.out.1, HF.out.2.2, HF.out.2.1⟩
end Go.Proofs.Ytcdpmmpdfdillaa.Q

namespace Go.Proofs.Ytcdpmmpdfdillaa.Q
open Go.RowKit Go.Proofs.YtcdpmmpdfdillaaW.PrintWords Go.Proofs.YtcdpmmpdfdillaaW.PrintLast
set_option linter.unusedVariables false
set_option linter.unusedSimpArgs false
def Fv (w : World) (b : Nat) (c a : Int) : Prop := w.heap[b]? = some (.cells #[.int .i64 c, .int .i64 a] 39 (0, 0))
theorem catch_idle (b : Nat) (w : World) :
    CallsD Try.prog 44 #[.pointer (some ⟨b, 0, none⟩)] .returning w fun e u' w' => e = .returned (.tuple #[]) ∧ u' = .returning ∧ w' = w := by
  refine callsD_of_wpS Try.func44 rfl fun c₀ cs hu => ?_
  apply wpS_seq
  apply wpS_region
  simp [wpOpsS, go_sem, recoverD, hu, Try.ntmps44, Exit.thenS]
  apply wpS_seq
  apply wpS_region
  simp [wpOpsS, go_sem, Exit.thenS]
  refine wpS_cond (t := false) (by simp [Act.eval, Array.replicate]) ?_
  simp only [Bool.false_eq_true, if_false]
  refine wpS_of_wp (wp_skip ?_)
  cases c₀
  simp_all [bodyPostS, results, Try.results44]
theorem run_ta (v : Value) (w : World) : (Instr.typeAssert (.iface 39 v) 20 39 true).run Try.prog w = .ok (.tuple #[v, .bool true]) w := by kernel_rfl
set_option maxHeartbeats 1000000 in
set_option maxRecDepth 100000 in
theorem catch_some (b : Nat) (c a c0 a0 : Int) (w : World) (hb : Fv w b c0 a0) :
    CallsD Try.prog 44 #[.pointer (some ⟨b, 0, none⟩)] (.panicking (flt c a)) w fun e u' w' => e = .returned (.tuple #[]) ∧ u' = .panicking [{ v := .iface 39 (.agg #[.int .i64 c, .int .i64 a]), recovered := true }] ∧ Fv w' b c a ∧ Bx w.heap.size b w w' := by
  refine callsD_of_wpS Try.func44 rfl fun c₀ cs hu => ?_
  apply wpS_seq
  apply wpS_region
  simp [wpOpsS, go_sem, recoverD, hu, flt, Try.ntmps44, Exit.thenS]
  apply wpS_seq
  apply wpS_region
  simp [wpOpsS, go_sem, Exit.thenS]
  refine wpS_cond (t := true) (by simp [Act.eval, Array.replicate]) ?_
  simp only [if_true]
  refine wpS_of_wp (wp_mono (Q := fun e a' w' => e = .normal ∧ a'.defers = [] ∧ Fv w' b c a ∧ Bx w.heap.size b w w') ?_ ?_)
  · have hbl := lt_of_some hb
    have kr : K0 (Bx w.heap.size b w w) := ⟨Bx.refl _ _ _⟩
    have HB := Aside0.mk hb
    have hc0 : w.cell? ⟨b, 0, none⟩ = some (.int .i64 c0) := cell_of_row _ b 0 _ 39 _ hb
    have hc1 : w.cell? ⟨b, 1, none⟩ = some (.int .i64 a0) := cell_of_row _ b 1 _ 39 _ hb
    have hf0 := bk_fr hb 0
    have hf1 := bk_fr hb 1
    clear hb
    have hta := run_ta
    simp only [Array.replicate_succ, Array.replicate_zero, List.push_toArray, List.append_toArray, List.nil_append, List.cons_append, List.setIfInBounds_toArray, List.set_cons_zero, List.set_cons_succ]
    go_wp2
    refine ⟨?_, kk⟩
    have h1 := bk_put (j := 0) HB.out (.int .i64 c)
    have h2 := bk_put (j := 1) h1 (.int .i64 a)
    have h3 := blk_alloc h2 (.cells #[.int .i64 c, .int .i64 a] 39)
    simpa [Fv] using h3
  · rintro e a' w' ⟨rfl, hd, hf, hx⟩
    cases c₀
    simp [bodyPostS, results, Try.results44, hd, hf, hx]
def CaughtP (w : World) (bx : Nat) (r : Except (Int × Int) Rx) (e : Ending) (w' : World) : Prop :=
  RP r (fun x => ∃ v, e = .returned (.agg #[.int .i64 0, .int .i64 0]) ∧ VarX w' bx v ∧ RepX w' (fun k => w.heap.size ≤ k) x v ∧ Bx w.heap.size bx w w') (fun c a => ∃ v, e = .returned (.agg #[.int .i64 c, .int .i64 a]) ∧ VarX w' bx v ∧ Bx w.heap.size bx w w' ∧ IsI v)
set_option maxHeartbeats 4000000 in
set_option maxRecDepth 100000 in
theorem caught_calls (k : Nat) (p : ByteArray) (r : Except (Int × Int) Rx) (h : patF k p = some r) (hp : p.size ≤ 200) (bp bx : Nat) (u : Value) (w : World) (hb : w.cell? ⟨bp, 0, none⟩ = some (.string p)) (hx : VarX w bx u) (hne : bp ≠ bx) (hu : IsI u) :
    Calls Try.prog 33 #[.func (.func 34) #[] #[.pointer (some ⟨bp, 0, none⟩), .pointer (some ⟨bx, 0, none⟩)]] w (CaughtP w bx r) := by
  have hmf : ∀ (fn : Fn) (first cap : Array Value) (w : World), (Instr.makeFunc fn first cap).run Try.prog w = .ok (.func fn first cap) w := fun _ _ _ _ => rfl
  have hbl := World.block_lt_of_cell? w _ hb
  have hxl := lt_of_some hx
  have hb2 : (w.alloc (.cells #[.int .i64 0, .int .i64 0] 39)).cell? ⟨bp, 0, none⟩ = some (.string p) := by
    unfold World.cell?; rw [heap_alloc_old w _ hbl]; exact hb
  have hx2 : VarX (w.alloc (.cells #[.int .i64 0, .int .i64 0] 39)) bx u := (heap_alloc_old w _ hxl).trans hx
  have hfv : Fv (w.alloc (.cells #[.int .i64 0, .int .i64 0] 39)) w.heap.size 0 0 := heap_alloc_new _ _
  have HB := Aside0.mk hb2
  have HX := Aside0.mk hx2
  have HF := Aside0.mk hfv
  have HXL := Aside0.mk hxl
  clear hb hx hb2 hx2 hfv hbl hxl
  go_enter_defers Try.func33, Try.ntmps33
  go_wp2_with fail
  go_at_call 34
  refine (pat1_calls k p r h hp bp bx u _ HB.out HX.out hne hu).mono ?_
  rintro e w1 hch
  have hsz := sz_al w (.cells #[.int .i64 0, .int .i64 0] 39)
  have hal : Bx w.heap.size bx w (w.alloc (.cells #[.int .i64 0, .int .i64 0] 39)) := Bx.of ((Below.refl _ _).alloc (Nat.le_refl _) _)
  rcases r with ⟨c, a⟩ | x
  · obtain ⟨rfl, ⟨v, hv, hvi⟩, hb1⟩ := hch
    have hfv2 : Fv w1 w.heap.size 0 0 := (hb1.block _ (by rw [hsz]; omega) (by have := HXL.out; omega)).trans HF.out
    have e1 : ∀ w2 : World, VarX w2 bx v → Bx w.heap.size bx w w2 → CaughtP w bx (.error (c, a)) (.returned (.agg #[.int .i64 c, .int .i64 a])) w2 := fun w2 h1 h2 => ⟨v, rfl, h1, h2, hvi⟩
    have E1 := Aside0.mk e1
    clear e1
    generalize CaughtP w bx (.error (c, a)) = CP at *
    refine leaves_cons (f := 44) (args := #[.pointer (some ⟨w.heap.size, 0, none⟩)]) (by simp) (by simp [go_sem]) ?_
    refine (catch_some w.heap.size c a 0 0 w1 hfv2).mono ?_
    rintro e u' w2 ⟨rfl, rfl, hf2, hb2⟩
    have hc0 : w2.cell? ⟨w.heap.size, 0, none⟩ = some (.int .i64 c) := cell_of_row _ w.heap.size 0 _ 39 _ hf2
    have hc1 : w2.cell? ⟨w.heap.size, 1, none⟩ = some (.int .i64 a) := cell_of_row _ w.heap.size 1 _ 39 _ hf2
    have hv2 : VarX w2 bx v := (hb2.block bx (lt_of_some hv) (by have := HXL.out; omega)).trans hv
    have hbb : Bx w.heap.size bx w w2 := (hal.trans (hb1.lower (by rw [hsz]; omega))).trans ⟨hb2.os, hb2.tape, hb2.output, hb2.size, fun k hk hn => hb2.block k (by have := hal.size; have := hb1.size; omega) (by omega)⟩
    have hfin := E1.out w2 hv2 hbb
    simp [Leaves, settle, flt, results, Try.results33, go_sem, hc0, hc1]
    exact hfin
  · obtain ⟨v, rfl, hv, hrep, hb1⟩ := hch
    have hfv2 : Fv w1 w.heap.size 0 0 := (hb1.block _ (by rw [hsz]; omega) (by have := HXL.out; omega)).trans HF.out
    have hc0 : w1.cell? ⟨w.heap.size, 0, none⟩ = some (.int .i64 0) := cell_of_row _ w.heap.size 0 _ 39 _ hfv2
    have hc1 : w1.cell? ⟨w.heap.size, 1, none⟩ = some (.int .i64 0) := cell_of_row _ w.heap.size 1 _ 39 _ hfv2
    have hf0 := bk_fr hfv2 0
    have hf1 := bk_fr hfv2 1
    have h2 := bk_put (j := 1) (bk_put (j := 0) hfv2 (.int .i64 0)) (.int .i64 0)
    have hfv3 : Fv ((w1.setCell ⟨w.heap.size, 0, none⟩ (.int .i64 0)).setCell ⟨w.heap.size, 1, none⟩ (.int .i64 0)) w.heap.size 0 0 := h2
    have hm : ∀ q, q ≠ w.heap.size → ((w1.setCell ⟨w.heap.size, 0, none⟩ (.int .i64 0)).setCell ⟨w.heap.size, 1, none⟩ (.int .i64 0)).heap[q]? = w1.heap[q]? := fun q hq => (Below.heap_setCell _ _ _ _ hq).trans (Below.heap_setCell _ _ _ _ hq)
    have hv2 : VarX ((w1.setCell ⟨w.heap.size, 0, none⟩ (.int .i64 0)).setCell ⟨w.heap.size, 1, none⟩ (.int .i64 0)) bx v := (hm bx (by have := HXL.out; omega)).trans hv
    have hrep2 : RepX ((w1.setCell ⟨w.heap.size, 0, none⟩ (.int .i64 0)).setCell ⟨w.heap.size, 1, none⟩ (.int .i64 0)) (fun k => w.heap.size ≤ k) x v := RepX_move (fun k hk hl => ⟨by rw [hsz] at hk; omega, hm k (by rw [hsz] at hk; omega)⟩) _ _ hrep
    have hbb : Bx w.heap.size bx w ((w1.setCell ⟨w.heap.size, 0, none⟩ (.int .i64 0)).setCell ⟨w.heap.size, 1, none⟩ (.int .i64 0)) := (hal.trans (hb1.lower (by rw [hsz]; omega))).trans ⟨rfl, rfl, rfl, by simp [World.setCell], fun k hk hn => hm k (by omega)⟩
    have e1 : CaughtP w bx (.ok x) (.returned (.agg #[.int .i64 0, .int .i64 0])) ((w1.setCell ⟨w.heap.size, 0, none⟩ (.int .i64 0)).setCell ⟨w.heap.size, 1, none⟩ (.int .i64 0)) := ⟨v, rfl, hv2, hrep2, hbb⟩
    have E1 := Aside0.mk e1
    have HF3 := Aside0.mk hfv3
    clear e1 hv2 hrep2 hbb hm h2 hfv3 hb1 hrep hv hal
    generalize CaughtP w bx (.ok x) = CP at *
    go_wp2
    generalize (w1.setCell ⟨w.heap.size, 0, none⟩ (.int .i64 0)).setCell ⟨w.heap.size, 1, none⟩ (.int .i64 0) = w2 at *
    refine leaves_cons (f := 44) (args := #[.pointer (some ⟨w.heap.size, 0, none⟩)]) (by simp) (by simp [go_sem]) ?_
    refine (catch_idle w.heap.size w2).mono ?_
    rintro e u' w3 ⟨rfl, rfl, rfl⟩
    have hc0 : w3.cell? ⟨w.heap.size, 0, none⟩ = some (.int .i64 0) := cell_of_row _ w.heap.size 0 _ 39 _ HF3.out
    have hc1 : w3.cell? ⟨w.heap.size, 1, none⟩ = some (.int .i64 0) := cell_of_row _ w.heap.size 1 _ 39 _ HF3.out
    simp [Leaves, settle, results, Try.results33, go_sem, hc0, hc1]
    exact E1.out
end Go.Proofs.Ytcdpmmpdfdillaa.Q

namespace Go.Proofs.Ytcdpmmpdfdillaa.Q
open Go.RowKit Go.Proofs.YtcdpmmpdfdillaaW.PrintWords Go.Proofs.YtcdpmmpdfdillaaW.PrintLast
set_option linter.unusedVariables false
set_option linter.unusedSimpArgs false
def patR (k : Nat) (p : ByteArray) : Option (Except (Int × Int) Rx) := if 200 < p.size then some (.error (1, 0)) else patF k p
def PatP (w : World) (r : Except (Int × Int) Rx) (e : Ending) (w' : World) : Prop :=
  RP r (fun x => ∃ v, e = .returned (.tuple #[v, .agg #[.int .i64 0, .int .i64 0]]) ∧ RepX w' (fun k => w.heap.size ≤ k) x v ∧ Below w.heap.size w w') (fun c a => ∃ v, e = .returned (.tuple #[v, .agg #[.int .i64 c, .int .i64 a]]) ∧ Below w.heap.size w w')
set_option maxHeartbeats 4000000 in
set_option maxRecDepth 100000 in
theorem pattern_calls (k : Nat) (p : ByteArray) (r : Except (Int × Int) Rx) (h : patR k p = some r) (w : World) :
    Calls Try.prog 13 #[.string p] w (PatP w r) := by
  have hmf : ∀ (fn : Fn) (first cap : Array Value) (w : World), (Instr.makeFunc fn first cap).run Try.prog w = .ok (.func fn first cap) w := fun _ _ _ _ => rfl
  unfold patR at h
  by_cases e1 : 200 < p.size
  · rw [if_pos e1] at h
    obtain rfl := Option.some.inj h
    have d1 : decide (200 < (p.size : Int)) = true := decide_eq_true (by omega)
    have d2 : decide (200 < p.size) = true := decide_eq_true e1
    clear h e1
    go_enter Try.func13, Try.ntmps13
    go_wp2
    have kr : K0 (Below w.heap.size w w) := ⟨Below.refl _ _⟩
    have h1 := old1 w (.cells #[.string p] 9) (.cells #[.nilIface] 37) (.cells #[.int .i64 1, .int .i64 0] 39)
    have h2 := new2 w (.cells #[.string p] 9) (.cells #[.nilIface] 37) (.cells #[.int .i64 1, .int .i64 0] 39)
    have c0 := bk_cell h1
    have c1 := cell_of_row _ (w.heap.size + 1 + 1) 0 _ 39 _ h2
    have c2 := cell_of_row _ (w.heap.size + 1 + 1) 1 _ 39 _ h2
    simp at c1 c2
    refine bodyPost_ret (v := .tuple #[.nilIface, .agg #[.int .i64 1, .int .i64 0]]) (by simp [results, Try.results13, go_sem, c0, c1, c2]) rfl ⟨_, rfl, kk⟩
  · rw [if_neg e1] at h
    have d1 : decide (200 < (p.size : Int)) = false := decide_eq_false (by omega)
    have d2 : decide (200 < p.size) = false := decide_eq_false e1
    have hp2 : p.size ≤ 200 := by omega
    clear e1
    go_enter Try.func13, Try.ntmps13
    go_wp2_with fail
    have h0 : (((w.alloc (.cells #[.string p] 9)).alloc (.cells #[.nilIface] 37)).alloc (.cells #[.int .i64 0, .int .i64 0] 39)).heap[w.heap.size]? = some (.cells #[.string p] 9) := by
      rw [heap_alloc_old ((w.alloc (.cells #[.string p] 9)).alloc (.cells #[.nilIface] 37)) _ (by rw [sz_al, sz_al]; omega), heap_alloc_old (w.alloc (.cells #[.string p] 9)) _ (by rw [sz_al]; omega)]
      exact heap_alloc_new w _
    have h1 := old1 w (.cells #[.string p] 9) (.cells #[.nilIface] 37) (.cells #[.int .i64 0, .int .i64 0] 39)
    have h2 := new2 w (.cells #[.string p] 9) (.cells #[.nilIface] 37) (.cells #[.int .i64 0, .int .i64 0] 39)
    have hsz : (((w.alloc (.cells #[.string p] 9)).alloc (.cells #[.nilIface] 37)).alloc (.cells #[.int .i64 0, .int .i64 0] 39)).heap.size = w.heap.size + 3 := by rw [sz_al, sz_al, sz_al]
    have hal : Below w.heap.size w (((w.alloc (.cells #[.string p] 9)).alloc (.cells #[.nilIface] 37)).alloc (.cells #[.int .i64 0, .int .i64 0] 39)) := by
      have kr : K0 (Below w.heap.size w w) := ⟨Below.refl _ _⟩
      exact kk
    generalize ((w.alloc (.cells #[.string p] 9)).alloc (.cells #[.nilIface] 37)).alloc (.cells #[.int .i64 0, .int .i64 0] 39) = wa at *
    go_at_call 33
    refine (caught_calls k p r h hp2 w.heap.size (w.heap.size + 1) .nilIface wa (bk_cell h0) h1 (by omega) (.inl rfl)).mono ?_
    rintro e w1 hch
    obtain ⟨c, a, v, rfl, hv, hbx, hvi, hpp⟩ : ∃ (c a : Int) (v : Value), e = .returned (.agg #[.int .i64 c, .int .i64 a]) ∧ VarX w1 (w.heap.size + 1) v ∧ Bx wa.heap.size (w.heap.size + 1) wa w1 ∧ IsI v ∧ ∀ w2 : World, Below w.heap.size w w2 → (∀ q, q ≠ w.heap.size + 1 + 1 → q ≠ w.heap.size + 1 → q < w1.heap.size → w2.heap[q]? = w1.heap[q]?) → PatP w r (.returned (.tuple #[v, .agg #[.int .i64 c, .int .i64 a]])) w2 := by
      rcases r with ⟨c, a⟩ | x
      · obtain ⟨v, he, hv, hb, hi⟩ := hch
        exact ⟨c, a, v, he, hv, hb, hi, fun w2 hb2 _ => ⟨v, rfl, hb2⟩⟩
      · obtain ⟨v, he, hv, hrep, hb⟩ := hch
        obtain ⟨T0, u0, rfl⟩ := RepX_iface hrep
        exact ⟨0, 0, _, he, hv, hb, .inr ⟨_, _, rfl⟩, fun w2 hb2 hm => ⟨_, rfl, RepX_move (fun q hq hl => ⟨by rw [hsz] at hq; omega, hm q (by rw [hsz] at hq; omega) (by rw [hsz] at hq; omega) hl⟩) _ _ hrep, hb2⟩⟩
    have hf : Fv w1 (w.heap.size + 1 + 1) 0 0 := (hbx.block _ (by rw [hsz]; omega) (by omega)).trans h2
    have g0 : w1.cell? ⟨w.heap.size + 1 + 1, 0, none⟩ = some (.int .i64 0) := cell_of_row _ (w.heap.size + 1 + 1) 0 _ 39 _ hf
    have g1 : w1.cell? ⟨w.heap.size + 1 + 1, 1, none⟩ = some (.int .i64 0) := cell_of_row _ (w.heap.size + 1 + 1) 1 _ 39 _ hf
    have f0 := bk_fr hf 0
    have f1 := bk_fr hf 1
    have hf2 : Fv ((w1.setCell ⟨w.heap.size + 1 + 1, 0, none⟩ (.int .i64 c)).setCell ⟨w.heap.size + 1 + 1, 1, none⟩ (.int .i64 a)) (w.heap.size + 1 + 1) c a := bk_put (j := 1) (bk_put (j := 0) hf (.int .i64 c)) (.int .i64 a)
    have hm2 : ∀ q, q ≠ w.heap.size + 1 + 1 → ((w1.setCell ⟨w.heap.size + 1 + 1, 0, none⟩ (.int .i64 c)).setCell ⟨w.heap.size + 1 + 1, 1, none⟩ (.int .i64 a)).heap[q]? = w1.heap[q]? := fun q hq => (Below.heap_setCell _ _ _ _ hq).trans (Below.heap_setCell _ _ _ _ hq)
    have hv2 : VarX ((w1.setCell ⟨w.heap.size + 1 + 1, 0, none⟩ (.int .i64 c)).setCell ⟨w.heap.size + 1 + 1, 1, none⟩ (.int .i64 a)) (w.heap.size + 1) v := (hm2 _ (by omega)).trans hv
    have hB2 : Below w.heap.size w ((w1.setCell ⟨w.heap.size + 1 + 1, 0, none⟩ (.int .i64 c)).setCell ⟨w.heap.size + 1 + 1, 1, none⟩ (.int .i64 a)) := (hal.trans (hbx.below (by rw [hsz]; omega) (by omega))).trans ((Below.setCell (Below.setCell (Below.refl _ _) (by show _ ≤ w.heap.size + 1 + 1; omega) _) (by show _ ≤ w.heap.size + 1 + 1; omega) _))
    have HV2 := Aside0.mk hv2
    have HF2 := Aside0.mk hf2
    have HM2 := Aside0.mk hm2
    have HB2 := Aside0.mk hB2
    have HPP := Aside0.mk hpp
    clear hv2 hf2 hm2 hB2 hpp hf hv hbx h0 h1 h2 hal hch h
    go_upto_region 4 with (fail)
    generalize (w1.setCell ⟨w.heap.size + 1 + 1, 0, none⟩ (.int .i64 c)).setCell ⟨w.heap.size + 1 + 1, 1, none⟩ (.int .i64 a) = w2 at *
    have s0 := bk_cell HV2.out
    have s1 : w2.cell? ⟨w.heap.size + 1 + 1, 0, none⟩ = some (.int .i64 c) := cell_of_row _ (w.heap.size + 1 + 1) 0 _ 39 _ HF2.out
    have s2 : w2.cell? ⟨w.heap.size + 1 + 1, 1, none⟩ = some (.int .i64 a) := cell_of_row _ (w.heap.size + 1 + 1) 1 _ 39 _ HF2.out
    have t0 := bk_fr HV2.out 0
    have t1 := bk_fr HF2.out 0
    have t2 := bk_fr HF2.out 1
    refine sz_region (S := fun W => W.cell? ⟨w.heap.size + 1, 0, none⟩ = some v ∧ W.cell? ⟨w.heap.size + 1 + 1, 0, none⟩ = some (.int .i64 c) ∧ W.cell? ⟨w.heap.size + 1 + 1, 1, none⟩ = some (.int .i64 a)) 4 [(0, false), (1, false), (2, true), (3, true)] (by intro d v c a w h; cases d <;> exact h) (by kernel_rfl) (by kernel_rfl) ⟨s0, s1, s2⟩ ?_
    refine sz_n ?_ ?_ rfl ?_ ?_ ?_; rotate_left 2; (intro W hW; obtain ⟨s0, s1, s2⟩ := hW; go_simp; first | done | with_reducible rfl); (simp only [List.setIfInBounds_toArray, List.set_cons_zero, List.set_cons_succ]; try rfl)
    refine sz_n ?_ ?_ rfl ?_ ?_ ?_; rotate_left 2; (intro W hW; obtain ⟨s0, s1, s2⟩ := hW; go_simp; first | done | with_reducible rfl); (simp only [List.setIfInBounds_toArray, List.set_cons_zero, List.set_cons_succ]; try rfl)
    refine sz_1n rfl (fun K hK => ?_)
    have hv3 : VarX ((w2.setCell ⟨w.heap.size + 1, 0, none⟩ v).drew) (w.heap.size + 1) v := bk_put (j := 0) HV2.out v
    have hm3 : ∀ q, q ≠ w.heap.size + 1 → ((w2.setCell ⟨w.heap.size + 1, 0, none⟩ v).drew).heap[q]? = w2.heap[q]? := fun q hq => Below.heap_setCell _ _ _ _ hq
    have hB3 : Below w.heap.size w ((w2.setCell ⟨w.heap.size + 1, 0, none⟩ v).drew) := (HB2.out.trans (Below.setCell (Below.refl _ _) (by show _ ≤ w.heap.size + 1; omega) v)).drew
    have HV3 := Aside0.mk hv3
    have HF3 := Aside0.mk ((hm3 _ (by omega)).trans HF2.out)
    have HB3 := Aside0.mk hB3
    have HM3 := Aside0.mk hm3
    clear hv3 hm3 hB3
    rcases hvi with rfl | ⟨T0, u0, rfl⟩
    all_goals
      go_simp
      refine hK.out _ _ (.inr ?_) ?_
      · exact ⟨bk_cell HV3.out, cell_of_row _ (w.heap.size + 1 + 1) 0 _ 39 _ HF3.out, cell_of_row _ (w.heap.size + 1 + 1) 1 _ 39 _ HF3.out⟩
      refine sz_1n rfl (fun K hK => ?_)
      clear s0 s1 s2 t0 t1 t2
      generalize (w2.setCell ⟨w.heap.size + 1, 0, none⟩ _).drew = w3 at *
      have q1 : w3.cell? ⟨w.heap.size + 1 + 1, 0, none⟩ = some (.int .i64 c) := cell_of_row _ (w.heap.size + 1 + 1) 0 _ 39 _ HF3.out
      have q2 : w3.cell? ⟨w.heap.size + 1 + 1, 1, none⟩ = some (.int .i64 a) := cell_of_row _ (w.heap.size + 1 + 1) 1 _ 39 _ HF3.out
      have q3 := bk_fr HF3.out 0
      have q4 := bk_fr HF3.out 1
      go_simp
      have hm4 : ∀ q, q ≠ w.heap.size + 1 + 1 → ((w3.setCell ⟨w.heap.size + 1 + 1, 0, none⟩ (.int .i64 c)).setCell ⟨w.heap.size + 1 + 1, 1, none⟩ (.int .i64 a)).heap[q]? = w3.heap[q]? := fun q hq => (Below.heap_setCell _ _ _ _ hq).trans (Below.heap_setCell _ _ _ _ hq)
      have hv4 := (hm4 _ (by omega)).trans HV3.out
      have hf4 : Fv ((w3.setCell ⟨w.heap.size + 1 + 1, 0, none⟩ (.int .i64 c)).setCell ⟨w.heap.size + 1 + 1, 1, none⟩ (.int .i64 a)) (w.heap.size + 1 + 1) c a := bk_put (j := 1) (bk_put (j := 0) HF3.out (.int .i64 c)) (.int .i64 a)
      have hB4 : Below w.heap.size w ((w3.setCell ⟨w.heap.size + 1 + 1, 0, none⟩ (.int .i64 c)).setCell ⟨w.heap.size + 1 + 1, 1, none⟩ (.int .i64 a)) := HB3.out.trans ((Below.setCell (Below.setCell (Below.refl _ _) (by show _ ≤ w.heap.size + 1 + 1; omega) _) (by show _ ≤ w.heap.size + 1 + 1; omega) _))
      have hP := HPP.out _ hB4 (fun q h1 h2 h3 => (hm4 q h1).trans ((HM3.out q h2).trans (HM2.out q h1)))
      have HV4 := Aside0.mk hv4
      have HF4 := Aside0.mk hf4
      have HP4 := Aside0.mk hP
      clear hv4 hf4 hB4 hP hm4
      generalize (w3.setCell ⟨w.heap.size + 1 + 1, 0, none⟩ (.int .i64 c)).setCell ⟨w.heap.size + 1 + 1, 1, none⟩ (.int .i64 a) = w4 at *
      have p0 := bk_cell HV4.out
      have p1 : w4.cell? ⟨w.heap.size + 1 + 1, 0, none⟩ = some (.int .i64 c) := cell_of_row _ (w.heap.size + 1 + 1) 0 _ 39 _ HF4.out
      have p2 : w4.cell? ⟨w.heap.size + 1 + 1, 1, none⟩ = some (.int .i64 a) := cell_of_row _ (w.heap.size + 1 + 1) 1 _ 39 _ HF4.out
      refine hK.out _ _ (.inr ⟨p0, p1, p2⟩) ?_
      refine sz_done ?_
      go_wp2
      exact bodyPost_ret (by simp [results, Try.results13, go_sem, p0, p1, p2]) rfl HP4.out
end Go.Proofs.Ytcdpmmpdfdillaa.Q

namespace Go.Proofs.Ytcdpmmpdfdillaa.Q
open Go.RowKit Go.Proofs.YtcdpmmpdfdillaaW.PrintWords Go.Proofs.YtcdpmmpdfdillaaW.PrintLast
set_option linter.unusedVariables false
set_option linter.unusedSimpArgs false
theorem leo_obind {α β : Type} {x x' : Option (Except (Int × Int) α)} {f f' : α → Option (Except (Int × Int) β)} (h : LeO x x') (k : ∀ a, LeO (f a) (f' a)) : LeO (obind x f) (obind x' f') := by
  intro r hr
  rcases x with _ | (e | a)
  · cases hr
  · rw [h _ rfl]; exact hr
  · rw [h _ rfl]; exact k a r hr
theorem leo_cls : ∀ k p i f s, LeO (clsF k p i f s) (clsF (k + 1) p i f s)
  | 0, _, _, _, _ => fun r h => by cases h
  | k + 1, p, i, f, s => by
    simp only [clsF]
    refine LeO.ite ?_ (LeO.refl _)
    rcases hc : chF p i with e | ⟨lo, j⟩
    · exact LeO.refl _
    · simp only []
      refine LeO.ite ?_ (leo_cls k _ _ _ _)
      rcases hc2 : chF p (j + 1) with e | ⟨hi, m⟩
      · exact LeO.refl _
      · exact LeO.ite (LeO.refl _) (leo_cls k _ _ _ _)
theorem leo_cla (k : Nat) (p : ByteArray) (i : Int) : LeO (claF k p i) (claF (k + 1) p i) := LeO.map _ (leo_cls _ _ _ _ _)
theorem leo_ops : ∀ k p i x, LeO (opsF k p i x) (opsF (k + 1) p i x)
  | 0, _, _, _ => fun r h => by cases h
  | k + 1, p, i, x => by
    simp only [opsF]
    exact LeO.ite (leo_ops k _ _ _) (LeO.refl _)
theorem altL_s (k : Nat) (p : ByteArray) (i o : Int) (acc : List Rx) : altL (k + 1) p i o acc = obind (seqL k p i o []) fun x => if x.2 = p.size ∨ bt p x.2 ≠ 124 then some (.ok (.alt (acc ++ [x.1]), x.2)) else altL k p (x.2 + 1) o (acc ++ [x.1]) := by rw [altL]
theorem seqL_s (k : Nat) (p : ByteArray) (i o : Int) (acc : List Rx) : seqL (k + 1) p i o acc = if i < p.size ∧ (bt p i ≠ 124 ∧ bt p i ≠ 41) then obind (atomF k p i o) fun x => (opsF k p x.2 x.1).bind fun y => seqL k p y.2 o (acc ++ [y.1]) else some (.ok (.seq acc, i)) := by rw [seqL]
theorem atomF_s (k : Nat) (p : ByteArray) (i o : Int) : atomF (k + 1) p i o =
    if bt p i = 40 then (if o = 20 then some (.error (3, i)) else obind (altL k p (i + 1) (o + 1) []) fun x => if x.2 = p.size then some (.error (2, x.2)) else some (.ok (x.1, x.2 + 1)))
    else if bt p i = 91 then obind (claF k p (i + 1)) fun x => some (.ok (.one x.1 0 false, x.2))
    else if bt p i = 46 then some (.ok (.one (List.replicate 256 true) 0 false, i + 1))
    else if isOp (bt p i) = true ∨ bt p i = 93 then some (.error (2, i))
    else if bt p i = 92 then (if i + 1 = p.size then some (.error (2, i + 1)) else some (.ok (sgl (bt p (i + 1)), i + 2)))
    else some (.ok (sgl (bt p i), i + 1)) := by rw [atomF]
theorem leo_par : ∀ k, (∀ p i o acc, LeO (altL k p i o acc) (altL (k + 1) p i o acc)) ∧ (∀ p i o acc, LeO (seqL k p i o acc) (seqL (k + 1) p i o acc)) ∧ (∀ p i o, LeO (atomF k p i o) (atomF (k + 1) p i o))
  | 0 => ⟨fun _ _ _ _ r h => (by cases h), fun _ _ _ _ r h => (by cases h), fun _ _ _ r h => (by cases h)⟩
  | k + 1 => by
    obtain ⟨ia, is, im⟩ := leo_par k
    refine ⟨fun p i o acc => ?_, fun p i o acc => ?_, fun p i o => ?_⟩
    · rw [altL_s k, altL_s (k + 1)]
      exact leo_obind (is _ _ _ _) fun x => LeO.ite (LeO.refl _) (ia _ _ _ _)
    · rw [seqL_s k, seqL_s (k + 1)]
      exact LeO.ite (leo_obind (im _ _ _) fun x => LeO.bind (leo_ops _ _ _ _) fun y => is _ _ _ _) (LeO.refl _)
    · rw [atomF_s k, atomF_s (k + 1)]
      exact LeO.ite (LeO.ite (LeO.refl _) (leo_obind (ia _ _ _ _) fun x => LeO.refl _)) (LeO.ite (leo_obind (leo_cla _ _ _) fun x => LeO.refl _) (LeO.refl _))
theorem leo_patR (k : Nat) (p : ByteArray) : LeO (patR k p) (patR (k + 1) p) := LeO.ite (LeO.refl _) (leo_obind ((leo_par k).1 _ _ _ _) fun x => LeO.refl _)
end Go.Proofs.Ytcdpmmpdfdillaa.Q

namespace Go.Proofs.Ytcdpmmpdfdillaa.Q
open Go.RowKit Go.Proofs.YtcdpmmpdfdillaaW.PrintWords Go.Proofs.YtcdpmmpdfdillaaW.PrintLast
set_option linter.unusedVariables false
set_option linter.unusedSimpArgs false
theorem chF_err {p : ByteArray} {i c a : Int} (h : chF p i = .error (c, a)) : c ≠ 0 := by
  unfold chF at h
  split at h
  · split at h
    · cases h; decide
    · cases h
  · split at h
    · cases h; decide
    · cases h
theorem clsF_err : ∀ (k : Nat) (p : ByteArray) (i : Int) (f : Bool) (s : List Bool) (c a : Int), clsF k p i f s = some (.error (c, a)) → c ≠ 0
  | 0, _, _, _, _, _, _, h => by cases h
  | k + 1, p, i, f, s, c, a, h => by
    simp only [clsF] at h
    split at h
    · cases hch : chF p i with
      | error x => rw [hch] at h; cases h; exact chF_err hch
      | ok x =>
        obtain ⟨lo, j⟩ := x
        rw [hch] at h
        simp only [] at h
        split at h
        · cases hch2 : chF p (j + 1) with
          | error x => rw [hch2] at h; cases h; exact chF_err hch2
          | ok x =>
            obtain ⟨hi, m⟩ := x
            rw [hch2] at h
            simp only [] at h
            split at h
            · cases h; decide
            · exact clsF_err k _ _ _ _ _ _ h
        · exact clsF_err k _ _ _ _ _ _ h
    · cases h
theorem obind_er {α β : Type} {x : Option (Except (Int × Int) α)} {f : α → Option (Except (Int × Int) β)} {e : Int × Int} (h : obind x f = some (.error e)) : x = some (.error e) ∨ ∃ a, x = some (.ok a) ∧ f a = some (.error e) := by
  rcases x with _ | (e' | a)
  · cases h
  · cases h; exact .inl rfl
  · exact .inr ⟨a, rfl, h⟩
theorem par_err : ∀ k, (∀ p i o acc c a, altL k p i o acc = some (.error (c, a)) → c ≠ 0) ∧ (∀ p i o acc c a, seqL k p i o acc = some (.error (c, a)) → c ≠ 0) ∧ (∀ p i o c a, atomF k p i o = some (.error (c, a)) → c ≠ 0)
  | 0 => ⟨fun _ _ _ _ _ _ h => (by cases h), fun _ _ _ _ _ _ h => (by cases h), fun _ _ _ _ _ h => (by cases h)⟩
  | k + 1 => by
    obtain ⟨ia, is, im⟩ := par_err k
    refine ⟨fun p i o acc c a h => ?_, fun p i o acc c a h => ?_, fun p i o c a h => ?_⟩
    · rw [altL_s] at h
      rcases obind_er h with h | ⟨x, hx, h⟩
      · exact is _ _ _ _ _ _ h
      · split at h
        · cases h
        · exact ia _ _ _ _ _ _ h
    · rw [seqL_s] at h
      split at h
      · rcases obind_er h with h | ⟨x, hx, h⟩
        · exact im _ _ _ _ _ h
        · obtain ⟨y, hy, h⟩ := Option.bind_eq_some_iff.mp h
          exact is _ _ _ _ _ _ h
      · cases h
    · rw [atomF_s] at h
      split at h
      · split at h
        · cases h; decide
        · rcases obind_er h with h | ⟨x, hx, h⟩
          · exact ia _ _ _ _ _ _ h
          · split at h
            · cases h; decide
            · cases h
      · split at h
        · rcases obind_er h with h | ⟨x, hx, h⟩
          · obtain ⟨q, hq, hr⟩ := claF_err h
            rcases q with ⟨c', a'⟩ | x
            · cases hr; exact clsF_err _ _ _ _ _ _ _ hq
            · cases hr
          · cases h
        · split at h
          · cases h
          · split at h
            · cases h; decide
            · split at h
              · split at h
                · cases h; decide
                · cases h
              · cases h
theorem patR_err {k : Nat} {p : ByteArray} {c a : Int} (h : patR k p = some (.error (c, a))) : c ≠ 0 := by
  unfold patR at h
  split at h
  · cases h; decide
  · unfold patF at h
    rcases obind_er h with h | ⟨x, hx, h⟩
    · exact (par_err k).1 _ _ _ _ _ _ h
    · split at h
      · cases h; decide
      · cases h
end Go.Proofs.Ytcdpmmpdfdillaa.Q

namespace Go.Proofs.Ytcdpmmpdfdillaa.Q
open Go.RowKit Go.Proofs.YtcdpmmpdfdillaaW.PrintWords Go.Proofs.YtcdpmmpdfdillaaW.PrintLast
set_option linter.unusedVariables false
set_option linter.unusedSimpArgs false
/-- q is p from a to b. -/
structure Win (p q : ByteArray) (a b : Int) : Prop where
  a0 : 0 ≤ a
  ab : a ≤ b
  bp : b ≤ p.size
  sz : (q.size : Int) = b - a
  bt : ∀ i : Int, a ≤ i → i < b → bt q (i - a) = bt p i
section
variable {p q : ByteArray} {a b : Int} (hw : Win p q a b)
include hw
theorem sh_ch {i : Int} {r : Int × Int} (h : chF p i = .ok r) (h0 : a ≤ i) (h1 : r.2 ≤ b) (h2 : i < r.2) : chF q (i - a) = .ok (r.1, r.2 - a) := by
  have hs := hw.sz; have hbp := hw.bp
  have hb0 := hw.bt i h0 (by omega)
  unfold chF at h ⊢
  by_cases hc : i < p.size ∧ bt p i = 92
  · rw [if_pos hc] at h
    by_cases he : i + 1 = p.size
    · rw [if_pos he] at h; cases h
    · rw [if_neg he] at h
      cases h
      have hb1 := hw.bt (i + 1) (by omega) (by simp only at h1; omega)
      simp only at h1
      rw [if_pos ⟨by omega, by rw [hb0]; exact hc.2⟩, if_neg (by omega)]
      rw [show i - a + 1 = i + 1 - a by omega, hb1, show i - a + 2 = i + 2 - a by omega]
  · rw [if_neg hc] at h
    split at h
    · cases h
    · rename_i hn
      cases h
      simp only at h1 h2
      have h92 : bt p i ≠ 92 := fun e => hc ⟨by omega, e⟩
      rw [if_neg (fun e => h92 (by rw [← hb0]; exact e.2)), if_neg (by rw [hb0]; rintro (e | e | e) <;> first | exact absurd e (by omega) | exact hn (.inr (.inl e)) | exact hn (.inr (.inr e)))]
      rw [hb0, show i - a + 1 = i + 1 - a by omega]
theorem sh_cls : ∀ (k : Nat) (i : Int) (f : Bool) (s : List Bool) (r : List Bool × Int), clsF k p i f s = some (.ok r) → a ≤ i → i ≤ p.size → s.length = 256 → r.2 < b → clsF k q (i - a) f s = some (.ok (r.1, r.2 - a))
  | 0, _, _, _, _, h, _, _, _, _ => by cases h
  | k + 1, i, f, s, r, h, h0, h1, hl, hr => by
    have hs := hw.sz; have hbp := hw.bp; have ha0 := hw.a0
    obtain ⟨g1, g2, -⟩ := clsF_ok (k + 1) p i f s r h (by omega) h1 hl
    have hb0 := hw.bt i h0 (by omega)
    simp only [clsF] at h ⊢
    by_cases hc : f = true ∨ i = p.size ∨ bt p i ≠ 93
    · rw [if_pos hc] at h
      rw [if_pos (by rw [hb0]; rcases hc with e | e | e <;> first | exact .inl e | exact absurd e (by omega) | exact .inr (.inr e))]
      cases hch : chF p i with
      | error x => rw [hch] at h; cases h
      | ok y =>
        obtain ⟨lo, j⟩ := y
        rw [hch] at h
        simp only at h
        obtain ⟨c0, c1, c2, c3⟩ := chF_ok hch (by omega) h1
        by_cases hd : j < p.size ∧ bt p j = 45
        · rw [if_pos hd] at h
          cases hch2 : chF p (j + 1) with
          | error x => rw [hch2] at h; cases h
          | ok y2 =>
            obtain ⟨hi, m⟩ := y2
            rw [hch2] at h
            simp only at h
            obtain ⟨d0, d1, d2, d3⟩ := chF_ok hch2 (by omega) (by omega)
            by_cases hlh : lo > hi
            · rw [if_pos hlh] at h; cases h
            · rw [if_neg hlh] at h
              have hsl : (setR s lo hi).length = 256 := by unfold setR; rw [setN_len]; exact hl
              have g3 := clsF_ok k p m false _ r h (by omega) d3 hsl
              have ih := sh_cls k m false _ r h (by omega) d3 hsl hr
              rw [sh_ch hw hch h0 (by simp only; omega) (by simp only; omega)]
              have hbj := hw.bt j (by omega) (by omega)
              simp only
              rw [if_pos ⟨by omega, by rw [hbj]; exact hd.2⟩, show j - a + 1 = j + 1 - a by omega, sh_ch hw hch2 (by omega) (by simp only; omega) (by simp only; omega)]
              simp only
              rw [if_neg hlh]
              exact ih
        · rw [if_neg hd] at h
          have hsl : (setR s lo lo).length = 256 := by unfold setR; rw [setN_len]; exact hl
          have g3 := clsF_ok k p j false _ r h (by omega) c3 hsl
          have ih := sh_cls k j false _ r h (by omega) c3 hsl hr
          rw [sh_ch hw hch h0 (by simp only; omega) (by simp only; omega)]
          have hbj := hw.bt j (by omega) (by omega)
          simp only
          rw [if_neg (by rw [hbj]; exact fun e => hd ⟨by omega, e.2⟩)]
          exact ih
    · rw [if_neg hc] at h
      cases h
      rw [if_neg (by rw [hb0]; rintro (e | e | e) <;> first | exact hc (.inl e) | exact absurd e (by omega) | exact hc (.inr (.inr e)))]
theorem sh_cla {k : Nat} {i : Int} {r : List Bool × Int} (h : claF k p i = some (.ok r)) (h0 : a ≤ i) (h1 : i < p.size) (hr : r.2 ≤ b) : claF k q (i - a) = some (.ok (r.1, r.2 - a)) := by
  have hs := hw.sz; have hbp := hw.bp; have ha0 := hw.a0
  obtain ⟨g1, -, -⟩ := claF_ok h (by omega) (by omega)
  have hb0 := hw.bt i h0 (by omega)
  have hnq : notQ q (i - a) = notQ p i := by
    unfold notQ
    rw [hb0, decide_eq_true (show i - a < (q.size : Int) by omega), decide_eq_true h1]
  have hni : notI q (i - a) = notI p i - a := by unfold notI; rw [hnq]; split <;> omega
  unfold claF at h ⊢
  rw [hni, hnq]
  cases hc : clsF k p (notI p i) true noB with
  | none => rw [hc] at h; cases h
  | some x =>
    rw [hc] at h
    cases x with
    | error e => cases h
    | ok y =>
      have hle : a ≤ notI p i := by unfold notI; split <;> omega
      have hle2 : notI p i ≤ p.size := by unfold notI; split <;> omega
      have he : r = (if notQ p i = true then y.1.map (!·) else y.1, y.2 + 1) := by
        simp only [Option.map_some, Except.map, Option.some.injEq, Except.ok.injEq] at h
        exact h.symm
      have hy2 : y.2 < b := by rw [he] at hr; simp only at hr; omega
      rw [sh_cls hw k _ true noB y hc hle hle2 noB_len hy2, he]
      simp only [Option.map_some, Except.map]
      rw [show y.2 - a + 1 = y.2 + 1 - a by omega]
theorem sh_ops : ∀ (k : Nat) (i : Int) (x : Rx) (r : Rx × Int), opsF k p i x = some r → a ≤ i → i ≤ p.size → r.2 ≤ b → opsF k q (i - a) x = some (r.1, r.2 - a)
  | 0, _, _, _, h, _, _, _ => by cases h
  | k + 1, i, x, r, h, h0, h1, hr => by
    have hs := hw.sz; have hbp := hw.bp
    obtain ⟨g1, g2⟩ := opsF_ok (k + 1) p i x r h h1
    simp only [opsF] at h ⊢
    by_cases hc : i < p.size ∧ isOp (bt p i) = true
    · rw [if_pos hc] at h
      obtain ⟨g3, g4⟩ := opsF_ok k p (i + 1) _ r h (by omega)
      have hb0 := hw.bt i h0 (by omega)
      rw [if_pos ⟨by omega, by rw [hb0]; exact hc.2⟩, hb0, show i - a + 1 = i + 1 - a by omega]
      exact sh_ops k (i + 1) _ r h (by omega) (by omega) hr
    · rw [if_neg hc] at h
      cases h
      rw [if_neg]
      rintro ⟨e1, e2⟩
      have hb0 := hw.bt i h0 (by omega)
      rw [hb0] at e2
      exact hc ⟨by omega, e2⟩
theorem sh_par : ∀ (k : Nat), (∀ i o acc r, altL k p i o acc = some (.ok r) → a ≤ i → i ≤ (p.size : Int) → r.2 ≤ b → ∀ o', o' ≤ o → o ≤ 20 → altL k q (i - a) o' acc = some (.ok (r.1, r.2 - a))) ∧
    (∀ i o acc r, seqL k p i o acc = some (.ok r) → a ≤ i → i ≤ (p.size : Int) → r.2 ≤ b → ∀ o', o' ≤ o → o ≤ 20 → seqL k q (i - a) o' acc = some (.ok (r.1, r.2 - a))) ∧
    (∀ i o r, atomF k p i o = some (.ok r) → a ≤ i → i < (p.size : Int) → r.2 ≤ b → ∀ o', o' ≤ o → o ≤ 20 → atomF k q (i - a) o' = some (.ok (r.1, r.2 - a)))
  | 0 => ⟨(fun _ _ _ _ h => by cases h), (fun _ _ _ _ h => by cases h), (fun _ _ _ h => by cases h)⟩
  | k + 1 => by
    obtain ⟨ihA, ihS, ihT⟩ := sh_par k
    have hs := hw.sz; have hbp := hw.bp; have ha0 := hw.a0
    refine ⟨fun i o acc r h h0 h1 hr o' ho ho2 => ?_, fun i o acc r h h0 h1 hr o' ho ho2 => ?_, fun i o r h h0 h1 hr o' ho ho2 => ?_⟩
    · rw [altL_s] at h ⊢
      obtain ⟨x, hx, h⟩ := obind_ok h
      have hb := (par_ok k).2.1 _ _ _ _ _ hx (by omega) h1
      split at h
      · rename_i hc
        cases h
        simp only at hr
        rw [ihS i o [] x hx h0 h1 hr o' ho ho2]
        simp only [obind]
        rw [if_pos]
        by_cases he : x.2 = b
        · left; omega
        · right
          rw [hw.bt x.2 (by omega) (by omega)]
          rcases hc with e | e
          · omega
          · exact e
      · rename_i hc
        have e1 : ¬ x.2 = (p.size : Int) := fun e => hc (.inl e)
        have e2 : bt p x.2 = 124 := Classical.not_not.mp fun e => hc (.inr e)
        have hb2 := (par_ok k).1 _ _ _ _ _ h (by omega) (by omega)
        rw [ihS i o [] x hx h0 h1 (by omega) o' ho ho2]
        simp only [obind]
        rw [if_neg (by rw [hw.bt x.2 (by omega) (by omega)]; rintro (e | e) <;> first | exact absurd e (by omega) | exact e e2), show x.2 - a + 1 = x.2 + 1 - a by omega]
        exact ihA (x.2 + 1) o _ r h (by omega) (by omega) hr o' ho ho2
    · rw [seqL_s] at h ⊢
      split at h
      · rename_i hc
        obtain ⟨x, hx, h⟩ := obind_ok h
        have hb := (par_ok k).2.2 _ _ _ _ hx (by omega) hc.1
        obtain ⟨y, hy, h⟩ := Option.bind_eq_some_iff.mp h
        have hb2 := opsF_ok _ _ _ _ _ hy hb.2
        have hb3 := (par_ok k).2.1 _ _ _ _ _ h (by omega) hb2.2
        have hb0 := hw.bt i h0 (by omega)
        rw [if_pos ⟨by omega, by rw [hb0]; exact hc.2⟩, ihT i o x hx h0 hc.1 (by omega) o' ho ho2]
        simp only [obind]
        rw [sh_ops hw k x.2 x.1 y hy (by omega) hb.2 (by omega)]
        simp only [Option.bind_some]
        exact ihS y.2 o _ r h (by omega) hb2.2 hr o' ho ho2
      · rename_i hc
        cases h
        simp only at hr
        rw [if_neg]
        rintro ⟨e1, e2⟩
        rw [hw.bt i h0 (by omega)] at e2
        exact hc ⟨by omega, e2⟩
    · have hb := (par_ok (k + 1)).2.2 _ _ _ _ h (by omega) h1
      have hb0 := hw.bt i h0 (by omega)
      rw [atomF_s] at h ⊢
      rw [hb0]
      by_cases c1 : bt p i = 40
      · rw [if_pos c1] at h ⊢
        split at h
        · cases h
        · rename_i ho3
          obtain ⟨x, hx, h⟩ := obind_ok h
          have hbx := (par_ok k).1 _ _ _ _ _ hx (by omega) (by omega)
          split at h
          · cases h
          · rename_i hx2
            cases h
            simp only at hr
            rw [if_neg (by omega), show i - a + 1 = i + 1 - a by omega, ihA (i + 1) (o + 1) [] x hx (by omega) (by omega) (by omega) (o' + 1) (by omega) (by omega)]
            simp only [obind]
            rw [if_neg (by omega), show x.2 - a + 1 = x.2 + 1 - a by omega]
      · rw [if_neg c1] at h ⊢
        by_cases c2 : bt p i = 91
        · rw [if_pos c2] at h ⊢
          obtain ⟨x, hx, h⟩ := obind_ok h
          cases h
          simp only at hr hb
          have hi1 : i + 1 < p.size := by
            have := claF_ok hx (by omega) (by omega)
            omega
          rw [show i - a + 1 = i + 1 - a by omega, sh_cla hw hx (by omega) hi1 hr]
          rfl
        · rw [if_neg c2] at h ⊢
          by_cases c3 : bt p i = 46
          · rw [if_pos c3] at h ⊢
            cases h
            rw [show i - a + 1 = i + 1 - a by omega]
          · rw [if_neg c3] at h ⊢
            split at h
            · cases h
            · rename_i c4
              rw [if_neg c4]
              by_cases c5 : bt p i = 92
              · rw [if_pos c5] at h ⊢
                split at h
                · cases h
                · rename_i he
                  cases h
                  simp only at hr
                  have hb1 := hw.bt (i + 1) (by omega) (by omega)
                  rw [if_neg (by omega), show i - a + 1 = i + 1 - a by omega, hb1, show i - a + 2 = i + 2 - a by omega]
              · rw [if_neg c5] at h ⊢
                cases h
                rw [show i - a + 1 = i + 1 - a by omega]
end
end Go.Proofs.Ytcdpmmpdfdillaa.Q

namespace Go.Proofs.Ytcdpmmpdfdillaa.Q
open Go.RowKit Go.Proofs.YtcdpmmpdfdillaaW.PrintWords Go.Proofs.YtcdpmmpdfdillaaW.PrintLast Go.Proofs.YtcdpmmpdfdillaaW.PrintMore
set_option linter.unusedVariables false
set_option linter.unusedSimpArgs false

/-! ### spec_l4Op: function 28 -/
def spec_l4Op.f (a0 : Int) : Option (Bool) := if a0 = 42 then (some true) else (if a0 = 43 then (some true) else (some (a0 == 63)))
set_option maxHeartbeats 8000000 in
set_option maxRecDepth 100000 in
theorem spec_l4Op.calls (a0 : Int) (r : Bool) (w : World) (h : spec_l4Op.f a0 = some r) :
  Calls Try.prog 28 #[.int .u8 a0] w fun e w' => e = .returned (.bool r) ∧ Drawn0 w w' := by
 have H : (if a0 = 42 then (some true) else (if a0 = 43 then (some true) else (some (a0 == 63)))) = some r := h
 clear h
 by_cases c2 : a0 = 42
 ·rw [if_pos c2] at H
  have c2b0 : (a0 == 42) = true := beq_iff_eq.mpr c2
  have c2b1 : (a0 != 42) = false := bne_eq_false_iff_eq.mpr c2
  clear c2
  obtain rfl := Option.some.inj H
  go_enter Try.func28, Try.ntmps28
  go_wp2
  go_ret
  exact ⟨by first | rfl | (simp; done) | (simp [*]; done), by repeat (first | exact Drawn0.refl _ | apply Drawn0.step)⟩
 ·rw [if_neg c2] at H
  have c2b0 : (a0 == 42) = false := beq_eq_false_iff_ne.mpr c2
  have c2b1 : (a0 != 42) = true := bne_iff_ne.mpr c2
  by_cases c3 : a0 = 43
  ·rw [if_pos c3] at H
   have c3b0 : (a0 == 43) = true := beq_iff_eq.mpr c3
   have c3b1 : (a0 != 43) = false := bne_eq_false_iff_eq.mpr c3
   clear c3
   obtain rfl := Option.some.inj H
   go_enter Try.func28, Try.ntmps28
   go_wp2
   go_ret
   exact ⟨by first | rfl | (simp; done) | (simp [*]; done), by repeat (first | exact Drawn0.refl _ | apply Drawn0.step)⟩
  ·rw [if_neg c3] at H
   have c3b0 : (a0 == 43) = false := beq_eq_false_iff_ne.mpr c3
   have c3b1 : (a0 != 43) = true := bne_iff_ne.mpr c3
   obtain rfl := Option.some.inj H
   go_enter Try.func28, Try.ntmps28
   go_wp2
   go_ret
   exact ⟨by first | rfl | (simp; done) | (simp [*]; done), by repeat (first | exact Drawn0.refl _ | apply Drawn0.step)⟩

end Go.Proofs.Ytcdpmmpdfdillaa.Q

namespace Go.Proofs.Ytcdpmmpdfdillaa.Q
open Go.RowKit Go.Proofs.YtcdpmmpdfdillaaW.PrintWords Go.Proofs.YtcdpmmpdfdillaaW.PrintLast Go.Proofs.YtcdpmmpdfdillaaW.PrintMore
set_option linter.unusedVariables false
set_option linter.unusedSimpArgs false

/-! ### spec_l4Ch: function 39 -/
def spec_l4Ch.j0 : Nat → ByteArray → Int → Bool → Option (Int × Int × Bool)
 | 0, _, _, _ => none
 | k + 1, x0, x1, x22 => if x22 = true then (some (0, x1, false)) else (if 0 ≤ x1 then (if x1 < (x0.size : Int) then (if (bt x0 x1) = 92 then (if (wrap64 (x1 + 1)) ≥ (x0.size : Int) then (some (0, wrap64 (x1 + 1), false)) else (if 0 ≤ (wrap64 (x1 + 1)) then (if (wrap64 (x1 + 1)) < (x0.size : Int) then (some (bt x0 (wrap64 (x1 + 1)), wrap64 (x1 + 2), true)) else (none)) else (none))) else (some (bt x0 x1, wrap64 (x1 + 1), true))) else (none)) else (none))
def spec_l4Ch.f (k : Nat) (a0 : ByteArray) (a1 : Int) : Option (Int × Int × Bool) := if a1 ≥ (a0.size : Int) then (spec_l4Ch.j0 k a0 a1 true) else (if 0 ≤ a1 then (if a1 < (a0.size : Int) then (if (bt a0 a1) = 93 then (spec_l4Ch.j0 k a0 a1 true) else (spec_l4Ch.j0 k a0 a1 ((bt a0 a1) == 45))) else (none)) else (none))
set_option maxHeartbeats 8000000 in
set_option maxRecDepth 100000 in
theorem spec_l4Ch.calls (k : Nat) (a0 : ByteArray) (a1 : Int) (r1 : Int) (r2 : Int) (r3 : Bool) (w : World) (h : spec_l4Ch.f k a0 a1 = some (r1, r2, r3)) :
  Calls Try.prog 39 #[.string a0, .int .i64 a1] w fun e w' => e = .returned (.tuple #[.int .u8 r1, .int .i64 r2, .bool r3]) ∧ Drawn0 w w' := by
 have H : (if a1 ≥ (a0.size : Int) then (spec_l4Ch.j0 k a0 a1 true) else (if 0 ≤ a1 then (if a1 < (a0.size : Int) then (if (bt a0 a1) = 93 then (spec_l4Ch.j0 k a0 a1 true) else (spec_l4Ch.j0 k a0 a1 ((bt a0 a1) == 45))) else (none)) else (none))) = some (r1, r2, r3) := h
 clear h
 have HC3 := Aside0.mk H
 clear H
 go_enter Try.func39, Try.ntmps39
 go_upto_region 1 with (fail)
 go_cut [22] (fun v22 wc => ∃ (kq : Nat) (x22_2 : Bool), v22 = .bool x22_2 ∧ Aside0 (spec_l4Ch.j0 kq a0 a1 x22_2 = some (r1, r2, r3)) ∧ Aside0 (kq ≤ k) ∧ Drawn0 w wc)
 case first =>
  have H := HC3.out
  clear HC3
  by_cases c4 : a1 ≥ (a0.size : Int)
  ·rw [if_pos c4] at H
   have c4b0 : decide ((a0.size : Int) ≤ a1) = true := decide_eq_true c4
   clear c4
   (first | rw [c4b0] | (simp only [i64_w, i32_w]; rw [c4b0]) | skip)
   have H' := Aside0.mk H
   clear H
   go_wp2
   go_meet
   case rel => exact ⟨_, (true), (by first | rfl | (simp; done) | (simp [*]; done)), H', ⟨by first | omega | exact Nat.le_refl _⟩, by repeat (first | exact Drawn0.refl _ | apply Drawn0.step)⟩
  ·rw [if_neg c4] at H
   have c4b0 : decide ((a0.size : Int) ≤ a1) = false := decide_eq_false c4
   clear c4
   (first | rw [c4b0] | (simp only [i64_w, i32_w]; rw [c4b0]) | skip)
   by_cases c5 : 0 ≤ a1
   ·rw [if_pos c5] at H
    have c5b0 : decide (0 ≤ a1) = true := decide_eq_true c5
    clear c5
    by_cases c6 : a1 < (a0.size : Int)
    ·rw [if_pos c6] at H
     have c6b0 : decide (a1 < (a0.size : Int)) = true := decide_eq_true c6
     clear c6
     by_cases c8 : (bt a0 a1) = 93
     ·rw [if_pos c8] at H
      have c8b0 : ((bt a0 a1) == 93) = true := beq_iff_eq.mpr c8
      have c8b1 : ((bt a0 a1) != 93) = false := bne_eq_false_iff_eq.mpr c8
      clear c8
      have H' := Aside0.mk H
      clear H
      have p7 : 0 ≤ (a1 : Int) := of_decide_eq_true (by first | (with_reducible assumption) | assumption)
      have q7 : a1 < (a0.size : Int) := of_decide_eq_true (by first | (with_reducible assumption) | assumption)
      have hx7 := bt_at a0 a1
      replace p7 := eq_true p7
      replace q7 := eq_true q7
      go_wp2
      go_meet
      case rel => exact ⟨_, (true), (by first | rfl | (simp; done) | (simp [*]; done)), H', ⟨by first | omega | exact Nat.le_refl _⟩, by repeat (first | exact Drawn0.refl _ | apply Drawn0.step)⟩
     ·rw [if_neg c8] at H
      have c8b0 : ((bt a0 a1) == 93) = false := beq_eq_false_iff_ne.mpr c8
      have c8b1 : ((bt a0 a1) != 93) = true := bne_iff_ne.mpr c8
      have H' := Aside0.mk H
      clear H
      have p7 : 0 ≤ (a1 : Int) := of_decide_eq_true (by first | (with_reducible assumption) | assumption)
      have q7 : a1 < (a0.size : Int) := of_decide_eq_true (by first | (with_reducible assumption) | assumption)
      have hx7 := bt_at a0 a1
      replace p7 := eq_true p7
      replace q7 := eq_true q7
      have p9 : 0 ≤ (a1 : Int) := of_decide_eq_true (by first | (with_reducible assumption) | assumption)
      have q9 : a1 < (a0.size : Int) := of_decide_eq_true (by first | (with_reducible assumption) | assumption)
      have hx9 := bt_at a0 a1
      replace p9 := eq_true p9
      replace q9 := eq_true q9
      go_wp2
      go_meet
      case rel => exact ⟨_, (((bt a0 a1) == 45)), (by first | rfl | (simp; done) | (simp [*]; done)), H', ⟨by first | omega | exact Nat.le_refl _⟩, by repeat (first | exact Drawn0.refl _ | apply Drawn0.step)⟩
    ·rw [if_neg c6] at H
     exact absurd H (by simp)
   ·rw [if_neg c5] at H
    exact absurd H (by simp)
 case rest =>
  clear HC3
  try clear p2
  try clear c3
  try clear c4
  try clear c4b0
  try clear c5
  try clear c5b0
  try clear c6
  try clear c6b0
  try clear p7
  try clear q7
  try clear hx7
  try clear c8
  try clear c8b0
  try clear c8b1
  try clear p9
  try clear q9
  try clear hx9
  try clear p7
  try clear p9
  try clear q7
  try clear q9
  obtain ⟨kq, x22_2, rfl, HA, HJ2, ⟨mc2, rfl⟩⟩ := hcut
  cases kq with
  | zero => exact absurd HA.out (by simp [spec_l4Ch.j0])
  | succ kj2 =>
   have H := HA.out
   clear HA
   simp only [spec_l4Ch.j0] at H
   by_cases c10 : x22_2 = true
   ·subst c10
    have H1 : (some (0, a1, false)) = some (r1, r2, r3) := by rw [if_pos rfl] at H; exact H
    clear H
    have H := H1
    clear H1
    simp only [Option.some.injEq, Prod.mk.injEq] at H
    obtain ⟨rfl, rfl, rfl⟩ := H
    go_wp2
    go_ret3
    exact ⟨by first | rfl | (simp; done) | (simp [*]; done), by repeat (first | exact Drawn0.refl _ | apply Drawn0.step)⟩
   ·replace c10 := Bool.eq_false_iff.mpr c10
    subst c10
    have H1 : (if 0 ≤ a1 then (if a1 < (a0.size : Int) then (if (bt a0 a1) = 92 then (if (wrap64 (a1 + 1)) ≥ (a0.size : Int) then (some (0, wrap64 (a1 + 1), false)) else (if 0 ≤ (wrap64 (a1 + 1)) then (if (wrap64 (a1 + 1)) < (a0.size : Int) then (some (bt a0 (wrap64 (a1 + 1)), wrap64 (a1 + 2), true)) else (none)) else (none))) else (some (bt a0 a1, wrap64 (a1 + 1), true))) else (none)) else (none)) = some (r1, r2, r3) := by rw [if_neg (show ¬ (false = true) by decide)] at H; exact H
    clear H
    have H := H1
    clear H1
    by_cases c11 : 0 ≤ a1
    ·rw [if_pos c11] at H
     have c11b0 : decide (0 ≤ a1) = true := decide_eq_true c11
     clear c11
     by_cases c12 : a1 < (a0.size : Int)
     ·rw [if_pos c12] at H
      have c12b0 : decide (a1 < (a0.size : Int)) = true := decide_eq_true c12
      clear c12
      by_cases c14 : (bt a0 a1) = 92
      ·rw [if_pos c14] at H
       have c14b0 : ((bt a0 a1) == 92) = true := beq_iff_eq.mpr c14
       have c14b1 : ((bt a0 a1) != 92) = false := bne_eq_false_iff_eq.mpr c14
       clear c14
       by_cases c15 : (wrap64 (a1 + 1)) ≥ (a0.size : Int)
       ·rw [if_pos c15] at H
        have c15b0 : decide ((a0.size : Int) ≤ (wrap64 (a1 + 1))) = true := decide_eq_true c15
        clear c15
        simp only [Option.some.injEq, Prod.mk.injEq] at H
        obtain ⟨rfl, rfl, rfl⟩ := H
        have p13 : 0 ≤ (a1 : Int) := of_decide_eq_true (by first | (with_reducible assumption) | assumption)
        have q13 : a1 < (a0.size : Int) := of_decide_eq_true (by first | (with_reducible assumption) | assumption)
        have hx13 := bt_at a0 a1
        replace p13 := eq_true p13
        replace q13 := eq_true q13
        go_wp2
        go_ret3
        exact ⟨by first | rfl | (simp; done) | (simp [*]; done), by repeat (first | exact Drawn0.refl _ | apply Drawn0.step)⟩
       ·rw [if_neg c15] at H
        have c15b0 : decide ((a0.size : Int) ≤ (wrap64 (a1 + 1))) = false := decide_eq_false c15
        clear c15
        obtain ⟨ji16, hji16⟩ : ∃ j_ : Int, (wrap64 (a1 + 1)) = j_ := ⟨_, rfl⟩
        replace H : (if 0 ≤ (ji16) then (if (ji16) < (a0.size : Int) then (some (bt a0 (ji16), wrap64 (a1 + 2), true)) else (none)) else (none)) = some (r1, r2, r3) := by first | (rw [hji16] at H; exact H) | (simp only [hji16] at H ⊢; exact H)
        (try rw [hji16] at c15b0)
        have hji16w : (IntKind.i64.wrap (a1 + 1)) = ji16 := (i64_w _).trans hji16
        by_cases c17 : 0 ≤ (ji16)
        ·rw [if_pos c17] at H
         have c17b0 : decide (0 ≤ (ji16)) = true := decide_eq_true c17
         clear c17
         by_cases c18 : (ji16) < (a0.size : Int)
         ·rw [if_pos c18] at H
          have c18b0 : decide ((ji16) < (a0.size : Int)) = true := decide_eq_true c18
          clear c18
          simp only [Option.some.injEq, Prod.mk.injEq] at H
          obtain ⟨rfl, rfl, rfl⟩ := H
          have p13 : 0 ≤ (a1 : Int) := of_decide_eq_true (by first | (with_reducible assumption) | assumption)
          have q13 : a1 < (a0.size : Int) := of_decide_eq_true (by first | (with_reducible assumption) | assumption)
          have hx13 := bt_at a0 a1
          replace p13 := eq_true p13
          replace q13 := eq_true q13
          have p19 : 0 ≤ ((ji16) : Int) := of_decide_eq_true (by first | (with_reducible assumption) | assumption)
          have q19 : (ji16) < (a0.size : Int) := of_decide_eq_true (by first | (with_reducible assumption) | assumption)
          have hx19 := bt_at a0 (ji16)
          replace p19 := eq_true p19
          replace q19 := eq_true q19
          go_wp2
          go_ret3
          exact ⟨by first | rfl | (simp; done) | (simp only [← hji16] <;> (first | rfl | simp)) | (simp [*]; done), by repeat (first | exact Drawn0.refl _ | apply Drawn0.step)⟩
         ·rw [if_neg c18] at H
          exact absurd H (by simp)
        ·rw [if_neg c17] at H
         exact absurd H (by simp)
      ·rw [if_neg c14] at H
       have c14b0 : ((bt a0 a1) == 92) = false := beq_eq_false_iff_ne.mpr c14
       have c14b1 : ((bt a0 a1) != 92) = true := bne_iff_ne.mpr c14
       simp only [Option.some.injEq, Prod.mk.injEq] at H
       obtain ⟨rfl, rfl, rfl⟩ := H
       have p13 : 0 ≤ (a1 : Int) := of_decide_eq_true (by first | (with_reducible assumption) | assumption)
       have q13 : a1 < (a0.size : Int) := of_decide_eq_true (by first | (with_reducible assumption) | assumption)
       have hx13 := bt_at a0 a1
       replace p13 := eq_true p13
       replace q13 := eq_true q13
       have p20 : 0 ≤ (a1 : Int) := of_decide_eq_true (by first | (with_reducible assumption) | assumption)
       have q20 : a1 < (a0.size : Int) := of_decide_eq_true (by first | (with_reducible assumption) | assumption)
       have hx20 := bt_at a0 a1
       replace p20 := eq_true p20
       replace q20 := eq_true q20
       go_wp2
       go_ret3
       exact ⟨by first | rfl | (simp; done) | (simp [*]; done), by repeat (first | exact Drawn0.refl _ | apply Drawn0.step)⟩
     ·rw [if_neg c12] at H
      exact absurd H (by simp)
    ·rw [if_neg c11] at H
     exact absurd H (by simp)

end Go.Proofs.Ytcdpmmpdfdillaa.Q

namespace Go.Proofs.Ytcdpmmpdfdillaa.Q
open Go.RowKit
theorem at_fn {P : Program} {ops : Array Oper} {rest : List Oper} {o : Oper} {a : Act} {Q : Exit → Act → World → Prop} {W : World} {f : FuncId} {xs : Array Operand} {ts : Array TypeId}
    (_is : o.op = .call { callee := .value (.func f), args := xs, argTypes := ts }) (go : wpList P ops Q (o :: rest) a W) : wpList P ops Q (o :: rest) a W := go
end Go.Proofs.Ytcdpmmpdfdillaa.Q

namespace Go.Proofs.Ytcdpmmpdfdillaa.Q
open Go.RowKit Go.Proofs.YtcdpmmpdfdillaaW.PrintWords Go.Proofs.YtcdpmmpdfdillaaW.PrintLast Go.Proofs.YtcdpmmpdfdillaaW.PrintMore
set_option linter.unusedVariables false
set_option linter.unusedSimpArgs false

/-! ### spec_l4Class: function 29 -/
mutual
def spec_l4Class.j0 : Nat → ByteArray → Int → Bool → Option (Int × Int × Int)
 | 0, _, _, _ => none
 | k + 1, x0, x6, x25 => if x25 = true then (spec_l4Class.j1 k x0 (wrap64 (x6 + 1))) else (spec_l4Class.j1 k x0 x6)
def spec_l4Class.j1 : Nat → ByteArray → Int → Option (Int × Int × Int)
 | 0, _, _ => none
 | k + 1, x0, x6 => spec_l4Class.l0 k x0 x6 0
def spec_l4Class.l0 : Nat → ByteArray → Int → Int → Option (Int × Int × Int)
 | 0, _, _, _ => none
 | k + 1, x0, x6, x7 => if x6 < (x0.size : Int) then (if 0 ≤ x6 then (if (bt x0 x6) = 93 then (spec_l4Class.j3 k x0 x6 x7 (decide (x7 > 0))) else (spec_l4Class.j3 k x0 x6 x7 false)) else (none)) else (some (0, 2, (x0.size : Int)))
def spec_l4Class.j3 : Nat → ByteArray → Int → Int → Bool → Option (Int × Int × Int)
 | 0, _, _, _, _ => none
 | k + 1, x0, x6, x7, x39 => if x39 = true then (some (wrap64 (x6 + 1), 0, 0)) else ((spec_l4Ch.f k x0 x6).bind fun bt102 => (if bt102.2.2 = true then (if bt102.2.1 < (x0.size : Int) then (if 0 ≤ bt102.2.1 then (spec_l4Class.j4 k x0 x6 x7 bt102.1 bt102.2.1 ((bt x0 bt102.2.1) == 45)) else (none)) else (spec_l4Class.j4 k x0 x6 x7 bt102.1 bt102.2.1 false)) else (some (0, 2, bt102.2.1))))
def spec_l4Class.j4 : Nat → ByteArray → Int → Int → Int → Int → Bool → Option (Int × Int × Int)
 | 0, _, _, _, _, _, _ => none
 | k + 1, x0, x6, x7, x8, x9, x63 => if x63 = true then ((spec_l4Ch.f k x0 (wrap64 (x9 + 1))).bind fun bt105 => (if bt105.2.2 = true then (if x8 > bt105.1 then (some (0, 4, x6)) else (spec_l4Class.l0 k x0 bt105.2.1 (wrap64 (x7 + 1)))) else (some (0, 2, bt105.2.1)))) else (spec_l4Class.l0 k x0 x9 (wrap64 (x7 + 1)))
end
def spec_l4Class.f (k : Nat) (a0 : ByteArray) (a1 : Int) : Option (Int × Int × Int) := if (wrap64 (a1 + 1)) < (a0.size : Int) then (if 0 ≤ (wrap64 (a1 + 1)) then (spec_l4Class.j0 k a0 (wrap64 (a1 + 1)) ((bt a0 (wrap64 (a1 + 1))) == 94)) else (none)) else (spec_l4Class.j0 k a0 (wrap64 (a1 + 1)) false)
set_option maxHeartbeats 8000000 in
set_option maxRecDepth 100000 in
theorem spec_l4Class.calls (k : Nat) (a0 : ByteArray) (a1 : Int) (r1 : Int) (r2 : Int) (r3 : Int) (w : World) (h : spec_l4Class.f k a0 a1 = some (r1, r2, r3)) :
  Calls Try.prog 29 #[.string a0, .int .i64 a1] w fun e w' => e = .returned (.tuple #[.int .i64 r1, .agg #[.int .i64 r2, .int .i64 r3]]) ∧ Below w.heap.size w w' := by
 have hu30 := Try.underlying30
 have HB := Aside0.mk (Below.refl w.heap.size w)
 have H : (if (wrap64 (a1 + 1)) < (a0.size : Int) then (if 0 ≤ (wrap64 (a1 + 1)) then (spec_l4Class.j0 k a0 (wrap64 (a1 + 1)) ((bt a0 (wrap64 (a1 + 1))) == 94)) else (none)) else (spec_l4Class.j0 k a0 (wrap64 (a1 + 1)) false)) = some (r1, r2, r3) := h
 clear h
 have HC3 := Aside0.mk H
 clear H
 go_enter Try.func29, Try.ntmps29
 go_upto_region 2 with (first | ((with_reducible refine gate_dst (N := 5) rfl ?_); refine box_event ?hg (N := 5) ?hd (cs := #[.int .i64 0, .int .i64 0]) (t := 30) ?hr ?_; (case hd => rfl); (case hg => rfl); (case hr => first | (go_simp; done) | (go_simp; rfl)); intro gb101 hg w4 hbox hb; have n0_ := Aside0.mk (below_step bw hb); have n1_ := Aside0.mk (hbox); have n2_ := Aside0.mk ((by rw [hg]; exact (below_size bw) : w.heap.size ≤ gb101)); have n3_ := Aside0.mk ((by rw [hg]; exact (below_size bw) : w.heap.size ≤ gb101)); clear HB; have HB := n0_; have BK101 := n1_; have GW101 := n2_; have GE101 := n3_; clear n0_ n1_ n2_ n3_; clear hb hbox hg))
 (try simp only [Act.put, List.setIfInBounds_toArray, List.set_cons_zero, List.set_cons_succ])
 go_cut [25] (fun v25 wc => ∃ (kq : Nat) (x25_2 : Bool), v25 = .bool x25_2 ∧ Aside0 (spec_l4Class.j0 kq a0 (wrap64 (a1 + 1)) x25_2 = some (r1, r2, r3)) ∧ Aside0 (kq ≤ k) ∧ Aside0 (wc.heap[gb101]? = some (.cells #[.int .i64 0, .int .i64 0] 30 (0, 0))) ∧ Aside0 (Below w.heap.size w wc))
 case first =>
  have H := HC3.out
  clear HC3
  by_cases c5 : (wrap64 (a1 + 1)) < (a0.size : Int)
  ·rw [if_pos c5] at H
   have c5b0 : decide ((wrap64 (a1 + 1)) < (a0.size : Int)) = true := decide_eq_true c5
   clear c5
   (first | rw [c5b0] | (simp only [i64_w, i32_w]; rw [c5b0]) | skip)
   obtain ⟨ji6, hji6⟩ : ∃ j_ : Int, (wrap64 (a1 + 1)) = j_ := ⟨_, rfl⟩
   replace H : (if 0 ≤ (ji6) then (spec_l4Class.j0 k a0 ji6 ((bt a0 (ji6)) == 94)) else (none)) = some (r1, r2, r3) := by first | (rw [hji6] at H; exact H) | (simp only [hji6] at H ⊢; exact H)
   (try rw [hji6] at c5b0)
   have hji6w : (IntKind.i64.wrap (a1 + 1)) = ji6 := (i64_w _).trans hji6
   by_cases c7 : 0 ≤ (ji6)
   ·rw [if_pos c7] at H
    have c7b0 : decide (0 ≤ (ji6)) = true := decide_eq_true c7
    clear c7
    have H' := Aside0.mk H
    clear H
    have p8 : 0 ≤ ((ji6) : Int) := of_decide_eq_true (by first | (with_reducible assumption) | assumption)
    have q8 : (ji6) < (a0.size : Int) := of_decide_eq_true (by first | (with_reducible assumption) | assumption)
    have hx8 := bt_at a0 (ji6)
    replace p8 := eq_true p8
    replace q8 := eq_true q8
    go_wp2
    go_meet
    case rel => exact ⟨_, (((bt a0 (ji6)) == 94)), (by first | rfl | (simp; done) | (simp only [← hji6] <;> (first | rfl | simp)) | (simp [*]; done)), (by first | exact H' | (rw [hji6]; exact H') | (rw [← hji6]; exact H')), ⟨by first | omega | exact Nat.le_refl _⟩, ⟨lb BK101⟩, ⟨bw⟩⟩
   ·rw [if_neg c7] at H
    exact absurd H (by simp)
  ·rw [if_neg c5] at H
   have c5b0 : decide ((wrap64 (a1 + 1)) < (a0.size : Int)) = false := decide_eq_false c5
   clear c5
   (first | rw [c5b0] | (simp only [i64_w, i32_w]; rw [c5b0]) | skip)
   have H' := Aside0.mk H
   clear H
   go_wp2
   go_meet
   case rel => exact ⟨_, (false), (by first | rfl | (simp; done) | (simp [*]; done)), (by first | exact H' | (rw [hji6]; exact H') | (rw [← hji6]; exact H')), ⟨by first | omega | exact Nat.le_refl _⟩, ⟨lb BK101⟩, ⟨bw⟩⟩
 case rest =>
  clear HC3
  try clear c2
  try clear p2
  try clear c5
  try clear c5b0
  try clear p6
  try clear c7
  try clear c7b0
  try clear p8
  try clear q8
  try clear hx8
  try clear p8
  try clear q8
  obtain ⟨kq, x25_2, rfl, HA, HJ2, BK101, HB⟩ := hcut
  cases kq with
  | zero => exact absurd HA.out (by simp [spec_l4Class.j0])
  | succ kj2 =>
   have H := HA.out
   clear HA
   simp only [spec_l4Class.j0] at H
   have HC9 := Aside0.mk H
   clear H
   go_upto_if 25 with (fail)
   go_cut [6] (fun v6 wc => ∃ (kq : Nat) (x6_8 : Int), v6 = .int .i64 x6_8 ∧ Aside0 (spec_l4Class.j1 kq a0 x6_8 = some (r1, r2, r3)) ∧ Aside0 (kq ≤ kj2) ∧ Aside0 (wc.heap[gb101]? = some (.cells #[.int .i64 0, .int .i64 0] 30 (0, 0))) ∧ Aside0 (Below w.heap.size w wc))
   case first =>
    have H := HC9.out
    clear HC9
    by_cases c10 : x25_2 = true
    ·subst c10
     have H1 : (spec_l4Class.j1 kj2 a0 (wrap64 ((wrap64 (a1 + 1)) + 1))) = some (r1, r2, r3) := by rw [if_pos rfl] at H; exact H
     clear H
     have H := H1
     clear H1
     have H' := Aside0.mk H
     clear H
     go_wp2
     go_meet
     case rel => exact ⟨_, (wrap64 ((wrap64 (a1 + 1)) + 1)), (by first | rfl | (simp; done) | (simp [*]; done)), H', ⟨by have := HJ2.out; first | omega | exact Nat.le_refl _⟩, ⟨lb BK101⟩, ⟨bw⟩⟩
    ·replace c10 := Bool.eq_false_iff.mpr c10
     subst c10
     have H1 : (spec_l4Class.j1 kj2 a0 (wrap64 (a1 + 1))) = some (r1, r2, r3) := by rw [if_neg (show ¬ (false = true) by decide)] at H; exact H
     clear H
     have H := H1
     clear H1
     have H' := Aside0.mk H
     clear H
     go_wp2
     go_meet
     case rel => exact ⟨_, ((wrap64 (a1 + 1))), (by first | rfl | (simp; done) | (simp [*]; done)), H', ⟨by have := HJ2.out; first | omega | exact Nat.le_refl _⟩, ⟨lb BK101⟩, ⟨bw⟩⟩
   case rest =>
    clear HC9
    try clear c1
    try clear c2
    try clear p2
    try clear c5
    try clear c5b0
    try clear p6
    try clear c7
    try clear c7b0
    try clear p8
    try clear q8
    try clear hx8
    try clear c10
    try clear p2
    try clear p6
    try clear p8
    try clear q8
    obtain ⟨kq, x6_8, rfl, HA, HJ8, BK101, HB⟩ := hcut
    cases kq with
    | zero => exact absurd HA.out (by simp [spec_l4Class.j1])
    | succ kj8 =>
     have H := HA.out
     clear HA
     simp only [spec_l4Class.j1] at H
     have H' := Aside0.mk H
     clear H
     go_wp2
     go_loopg [6, 7] kj8 (fun kq v6 v7 w' => ∃ (x6_3 : Int) (x7_3 : Int) (x102000_3 : Int) (x102001_3 : Int), v6 = .int .i64 x6_3 ∧ v7 = .int .i64 x7_3 ∧ Aside0 (spec_l4Class.l0 kq a0 x6_3 x7_3 = some (r1, r2, r3)) ∧ Aside0 (kq ≤ kj8) ∧ Aside0 (w'.heap[gb101]? = some (.cells #[.int .i64 x102000_3, .int .i64 x102001_3] 30 (0, 0))) ∧ Aside0 (Below w.heap.size w w'))
     case atStart => exact ⟨(x6_8), (0), (0), (0), (by first | rfl | (simp; done) | (simp [*]; done)), (by first | rfl | (simp; done) | (simp [*]; done)), H', ⟨Nat.le_refl _⟩, ⟨lb BK101⟩, ⟨bw⟩⟩
     case round =>
      clear H'
      try clear c1
      try clear c2
      try clear p2
      try clear c5
      try clear c5b0
      try clear p6
      try clear c7
      try clear c7b0
      try clear p8
      try clear q8
      try clear hx8
      try clear c10
      try clear p2
      try clear p6
      try clear p8
      try clear q8
      obtain ⟨x6_3, x7_3, x102000_3, x102001_3, rfl, rfl, HA, HK3, BK101, HB⟩ := hrel
      cases gk with
      | zero => exact absurd HA.out (by simp [spec_l4Class.l0])
      | succ k3 =>
       have H := HA.out
       clear HA
       simp only [spec_l4Class.l0] at H
       by_cases c11 : x6_3 < (a0.size : Int)
       ·rw [if_pos c11] at H
        have c11b0 : decide (x6_3 < (a0.size : Int)) = true := decide_eq_true c11
        clear c11
        have HC12 := Aside0.mk H
        clear H
        go_upto_region 6 with (fail)
        go_cut [39] (fun v39 wc => ∃ (kq : Nat) (x39_11 : Bool), v39 = .bool x39_11 ∧ Aside0 (spec_l4Class.j3 kq a0 x6_3 x7_3 x39_11 = some (r1, r2, r3)) ∧ Aside0 (kq ≤ k3) ∧ Aside0 (wc.heap[gb101]? = some (.cells #[.int .i64 x102000_3, .int .i64 x102001_3] 30 (0, 0))) ∧ Aside0 (Below w.heap.size w wc))
        case first =>
         have H := HC12.out
         clear HC12
         by_cases c13 : 0 ≤ x6_3
         ·rw [if_pos c13] at H
          have c13b0 : decide (0 ≤ x6_3) = true := decide_eq_true c13
          clear c13
          (first | rw [c13b0] | (simp only [i64_w, i32_w]; rw [c13b0]) | skip)
          by_cases c15 : (bt a0 x6_3) = 93
          ·rw [if_pos c15] at H
           have c15b0 : ((bt a0 x6_3) == 93) = true := beq_iff_eq.mpr c15
           have c15b1 : ((bt a0 x6_3) != 93) = false := bne_eq_false_iff_eq.mpr c15
           clear c15
           have H' := Aside0.mk H
           clear H
           have p14 : 0 ≤ (x6_3 : Int) := of_decide_eq_true (by first | (with_reducible assumption) | assumption)
           have q14 : x6_3 < (a0.size : Int) := of_decide_eq_true (by first | (with_reducible assumption) | assumption)
           have hx14 := bt_at a0 x6_3
           replace p14 := eq_true p14
           replace q14 := eq_true q14
           go_wp2
           go_meet
           case rel => exact ⟨_, (decide (x7_3 > 0)), (by first | rfl | (simp; done) | (simp [*]; done)), H', ⟨by have := HJ2.out; have := HJ8.out; have := HK3.out; first | omega | exact Nat.le_refl _⟩, ⟨lb BK101⟩, ⟨bw⟩⟩
          ·rw [if_neg c15] at H
           have c15b0 : ((bt a0 x6_3) == 93) = false := beq_eq_false_iff_ne.mpr c15
           have c15b1 : ((bt a0 x6_3) != 93) = true := bne_iff_ne.mpr c15
           have H' := Aside0.mk H
           clear H
           have p14 : 0 ≤ (x6_3 : Int) := of_decide_eq_true (by first | (with_reducible assumption) | assumption)
           have q14 : x6_3 < (a0.size : Int) := of_decide_eq_true (by first | (with_reducible assumption) | assumption)
           have hx14 := bt_at a0 x6_3
           replace p14 := eq_true p14
           replace q14 := eq_true q14
           go_wp2
           go_meet
           case rel => exact ⟨_, (false), (by first | rfl | (simp; done) | (simp [*]; done)), H', ⟨by have := HJ2.out; have := HJ8.out; have := HK3.out; first | omega | exact Nat.le_refl _⟩, ⟨lb BK101⟩, ⟨bw⟩⟩
         ·rw [if_neg c13] at H
          exact absurd H (by simp)
        case rest =>
         clear HC12
         try clear c1
         try clear p1
         try clear q1
         try clear hx1
         try clear c2
         try clear p2
         try clear c5
         try clear c5b0
         try clear p6
         try clear c7
         try clear c7b0
         try clear p8
         try clear q8
         try clear hx8
         try clear c10
         try clear c11
         try clear c11b0
         try clear c13
         try clear c13b0
         try clear p14
         try clear q14
         try clear hx14
         try clear c15
         try clear c15b0
         try clear c15b1
         try clear p14
         try clear p2
         try clear p6
         try clear p8
         try clear q14
         try clear q8
         obtain ⟨kq, x39_11, rfl, HA, HJ11, BK101, HB⟩ := hcut
         cases kq with
         | zero => exact absurd HA.out (by simp [spec_l4Class.j3])
         | succ kj11 =>
          have H := HA.out
          clear HA
          simp only [spec_l4Class.j3] at H
          by_cases c16 : x39_11 = true
          ·subst c16
           have H1 : (some (wrap64 (x6_3 + 1), 0, 0)) = some (r1, r2, r3) := by rw [if_pos rfl] at H; exact H
           clear H
           have H := H1
           clear H1
           simp only [Option.some.injEq, Prod.mk.injEq] at H
           obtain ⟨rfl, rfl, rfl⟩ := H
           have hcz17_0 : wc.cell? ⟨gb101, 0, none⟩ = some (.int .i64 x102000_3) := (blk_cell BK101.out 0).trans rfl
           have hcz17_1 : wc.cell? ⟨gb101, 1, none⟩ = some (.int .i64 x102001_3) := (blk_cell BK101.out 1).trans rfl
           have hfz17_0 := blk_frozen BK101.out 0
           have hfz17_1 := blk_frozen BK101.out 1
           go_wp2
           refine bodyPost_ret (results_tc rfl _ _ gb101 30 #[.int .i64 0, .int .i64 0] (0, 0) _ rfl (by (with_reducible repeat (first | refine blk_drewN ?_ _ | refine blk_drew ?_ | refine blk_alloc ?_ _)); refine blk_put (cs := #[.int .i64 0, .int .i64 x102001_3]) ?_ 1 _ rfl; (with_reducible repeat (first | refine blk_drewN ?_ _ | refine blk_drew ?_ | refine blk_alloc ?_ _)); refine blk_put (cs := #[.int .i64 x102000_3, .int .i64 x102001_3]) ?_ 0 _ rfl; (with_reducible repeat (first | refine blk_drewN ?_ _ | refine blk_drew ?_ | refine blk_alloc ?_ _)); exact BK101.out) Try.underlying30 rfl (by kernel_rfl)) rfl ?_
           exact ⟨by first | rfl | (simp [errW_none, errW_some] <;> rfl) | (simp [*, errW_none, errW_some] <;> rfl), bw⟩
          ·replace c16 := Bool.eq_false_iff.mpr c16
           subst c16
           have H1 : ((spec_l4Ch.f kj11 a0 x6_3).bind fun bt102 => (if bt102.2.2 = true then (if bt102.2.1 < (a0.size : Int) then (if 0 ≤ bt102.2.1 then (spec_l4Class.j4 kj11 a0 x6_3 x7_3 bt102.1 bt102.2.1 ((bt a0 bt102.2.1) == 45)) else (none)) else (spec_l4Class.j4 kj11 a0 x6_3 x7_3 bt102.1 bt102.2.1 false)) else (some (0, 2, bt102.2.1)))) = some (r1, r2, r3) := by rw [if_neg (show ¬ (false = true) by decide)] at H; exact H
           clear H
           have H := H1
           clear H1
           replace H := Option.bind_eq_some_iff.mp H
           obtain ⟨⟨t102, t103, t104⟩, A180, H⟩ := H
           replace H : (if t104 = true then (if t103 < (a0.size : Int) then (if 0 ≤ t103 then (spec_l4Class.j4 kj11 a0 x6_3 x7_3 t102 t103 ((bt a0 t103) == 45)) else (none)) else (spec_l4Class.j4 kj11 a0 x6_3 x7_3 t102 t103 false)) else (some (0, 2, t103))) = some (r1, r2, r3) := H
           have A18 := Aside0.mk A180
           clear A180
           by_cases c19 : t104 = true
           ·subst c19
            have H1 : (if t103 < (a0.size : Int) then (if 0 ≤ t103 then (spec_l4Class.j4 kj11 a0 x6_3 x7_3 t102 t103 ((bt a0 t103) == 45)) else (none)) else (spec_l4Class.j4 kj11 a0 x6_3 x7_3 t102 t103 false)) = some (r1, r2, r3) := by rw [if_pos rfl] at H; exact H
            clear H
            have H := H1
            clear H1
            have HC20 := Aside0.mk H
            clear H
            go_upto_region 11 with (first | ((with_reducible refine at_fn (f := 39) rfl ?_); refine goesL_ (some 46) rfl rfl Try.func39 (by kernel_rfl) rfl #[.string a0, .int .i64 x6_3] rfl (by (try simp only [List.map_toArray, List.map_cons, List.map_nil]); first | done | rfl | (simp only [List.length_drop, List.length_take]; rfl)) ?_; (with_reducible refine (spec_l4Ch.calls kj11 a0 x6_3 t102 t103 true _ A18.out).mono ?_); rintro e w' ⟨rfl, ⟨nd, rfl⟩⟩; refine ⟨_, rfl, ?_⟩))
            (try simp only [Act.put, List.setIfInBounds_toArray, List.set_cons_zero, List.set_cons_succ])
            go_cut [63] (fun v63 wc => ∃ (kq : Nat) (x63_19 : Bool), v63 = .bool x63_19 ∧ Aside0 (spec_l4Class.j4 kq a0 x6_3 x7_3 t102 t103 x63_19 = some (r1, r2, r3)) ∧ Aside0 (kq ≤ kj11) ∧ Aside0 (wc.heap[gb101]? = some (.cells #[.int .i64 x102000_3, .int .i64 x102001_3] 30 (0, 0))) ∧ Aside0 (Below w.heap.size w wc))
            case first =>
             have H := HC20.out
             clear HC20
             by_cases c21 : t103 < (a0.size : Int)
             ·rw [if_pos c21] at H
              have c21b0 : decide (t103 < (a0.size : Int)) = true := decide_eq_true c21
              clear c21
              (first | rw [c21b0] | (simp only [i64_w, i32_w]; rw [c21b0]) | skip)
              by_cases c22 : 0 ≤ t103
              ·rw [if_pos c22] at H
               have c22b0 : decide (0 ≤ t103) = true := decide_eq_true c22
               clear c22
               have H' := Aside0.mk H
               clear H
               have p23 : 0 ≤ (t103 : Int) := of_decide_eq_true (by first | (with_reducible assumption) | assumption)
               have q23 : t103 < (a0.size : Int) := of_decide_eq_true (by first | (with_reducible assumption) | assumption)
               have hx23 := bt_at a0 t103
               replace p23 := eq_true p23
               replace q23 := eq_true q23
               go_wp2
               go_meet
               case rel => exact ⟨_, (((bt a0 t103) == 45)), (by first | rfl | (simp; done) | (simp [*]; done)), H', ⟨by have := HJ2.out; have := HJ8.out; have := HK3.out; have := HJ11.out; first | omega | exact Nat.le_refl _⟩, ⟨lb BK101⟩, ⟨bw⟩⟩
              ·rw [if_neg c22] at H
               exact absurd H (by simp)
             ·rw [if_neg c21] at H
              have c21b0 : decide (t103 < (a0.size : Int)) = false := decide_eq_false c21
              clear c21
              (first | rw [c21b0] | (simp only [i64_w, i32_w]; rw [c21b0]) | skip)
              have H' := Aside0.mk H
              clear H
              go_wp2
              go_meet
              case rel => exact ⟨_, (false), (by first | rfl | (simp; done) | (simp [*]; done)), H', ⟨by have := HJ2.out; have := HJ8.out; have := HK3.out; have := HJ11.out; first | omega | exact Nat.le_refl _⟩, ⟨lb BK101⟩, ⟨bw⟩⟩
            case rest =>
             clear HC20
             try clear c1
             try clear p1
             try clear q1
             try clear hx1
             try clear c2
             try clear p2
             try clear q2
             try clear hx2
             try clear c3
             try clear c5
             try clear c5b0
             try clear p6
             try clear c7
             try clear c7b0
             try clear p8
             try clear q8
             try clear hx8
             try clear c10
             try clear c11
             try clear c11b0
             try clear c13
             try clear c13b0
             try clear p14
             try clear q14
             try clear hx14
             try clear c15
             try clear c15b0
             try clear c15b1
             try clear c16
             try clear c19
             try clear c21
             try clear c21b0
             try clear c22
             try clear c22b0
             try clear p23
             try clear q23
             try clear hx23
             try clear hcz17_0
             try clear hcz17_1
             try clear hfz17_0
             try clear hfz17_1
             try clear p1
             try clear p14
             try clear p2
             try clear p23
             try clear p6
             try clear p8
             try clear q1
             try clear q14
             try clear q23
             try clear q8
             obtain ⟨kq, x63_19, rfl, HA, HJ19, BK101, HB⟩ := hcut
             cases kq with
             | zero => exact absurd HA.out (by simp [spec_l4Class.j4])
             | succ kj19 =>
              have H := HA.out
              clear HA
              simp only [spec_l4Class.j4] at H
              by_cases c24 : x63_19 = true
              ·subst c24
               have H1 : ((spec_l4Ch.f kj19 a0 (wrap64 (t103 + 1))).bind fun bt105 => (if bt105.2.2 = true then (if t102 > bt105.1 then (some (0, 4, x6_3)) else (spec_l4Class.l0 kj19 a0 bt105.2.1 (wrap64 (x7_3 + 1)))) else (some (0, 2, bt105.2.1)))) = some (r1, r2, r3) := by rw [if_pos rfl] at H; exact H
               clear H
               have H := H1
               clear H1
               replace H := Option.bind_eq_some_iff.mp H
               obtain ⟨⟨t105, t106, t107⟩, A250, H⟩ := H
               replace H : (if t107 = true then (if t102 > t105 then (some (0, 4, x6_3)) else (spec_l4Class.l0 kj19 a0 t106 (wrap64 (x7_3 + 1)))) else (some (0, 2, t106))) = some (r1, r2, r3) := H
               have A25 := Aside0.mk A250
               clear A250
               by_cases c26 : t107 = true
               ·subst c26
                have H1 : (if t102 > t105 then (some (0, 4, x6_3)) else (spec_l4Class.l0 kj19 a0 t106 (wrap64 (x7_3 + 1)))) = some (r1, r2, r3) := by rw [if_pos rfl] at H; exact H
                clear H
                have H := H1
                clear H1
                by_cases c27 : t102 > t105
                ·rw [if_pos c27] at H
                 have c27b0 : decide (t105 < t102) = true := decide_eq_true c27
                 clear c27
                 simp only [Option.some.injEq, Prod.mk.injEq] at H
                 obtain ⟨rfl, rfl, rfl⟩ := H
                 go_wp2_with (first | ((with_reducible refine at_fn (f := 39) rfl ?_); refine goesL_ (some 68) rfl rfl Try.func39 (by kernel_rfl) rfl #[.string a0, .int .i64 (wrap64 (t103 + 1))] rfl (by (try simp only [List.map_toArray, List.map_cons, List.map_nil]); first | done | rfl | (simp only [List.length_drop, List.length_take]; rfl)) ?_; (with_reducible refine (spec_l4Ch.calls kj19 a0 (wrap64 (t103 + 1)) t105 t106 true _ A25.out).mono ?_); rintro e w' ⟨rfl, ⟨nd, rfl⟩⟩; refine ⟨_, rfl, ?_⟩; (try (rw [drewN_self wc]; generalize hq_ : World.drewN wc _ = wc; have n0_ : Aside0 (wc.heap[gb101]? = some (.cells #[.int .i64 x102000_3, .int .i64 x102001_3] 30 (0, 0))) := ⟨by rw [← hq_]; exact (lb BK101)⟩; have n1_ : Aside0 (Below w.heap.size w wc) := ⟨by rw [← hq_]; exact bw⟩; clear BK101 HB hq_; have BK101 := n0_; have HB := n1_; clear n0_ n1_)); have hcz28_0 : wc.cell? ⟨gb101, 0, none⟩ = some (.int .i64 x102000_3) := (blk_cell BK101.out 0).trans rfl; have hcz28_1 : wc.cell? ⟨gb101, 1, none⟩ = some (.int .i64 x102001_3) := (blk_cell BK101.out 1).trans rfl; have hfz28_0 := blk_frozen BK101.out 0; have hfz28_1 := blk_frozen BK101.out 1))
                 refine bodyPost_ret (results_tc rfl _ _ gb101 30 #[.int .i64 4, .int .i64 x6_3] (0, 0) _ rfl (by (with_reducible repeat (first | refine blk_drewN ?_ _ | refine blk_drew ?_ | refine blk_alloc ?_ _)); refine blk_put (cs := #[.int .i64 4, .int .i64 x102001_3]) ?_ 1 _ rfl; (with_reducible repeat (first | refine blk_drewN ?_ _ | refine blk_drew ?_ | refine blk_alloc ?_ _)); refine blk_put (cs := #[.int .i64 x102000_3, .int .i64 x102001_3]) ?_ 0 _ rfl; (with_reducible repeat (first | refine blk_drewN ?_ _ | refine blk_drew ?_ | refine blk_alloc ?_ _)); exact BK101.out) Try.underlying30 rfl (by kernel_rfl)) rfl ?_
                 exact ⟨by first | rfl | (simp [errW_none, errW_some] <;> rfl) | (simp [*, errW_none, errW_some] <;> rfl), bw⟩
                ·rw [if_neg c27] at H
                 have c27b0 : decide (t105 < t102) = false := decide_eq_false c27
                 clear c27
                 have H' := Aside0.mk H
                 clear H
                 go_wp2_with (first | ((with_reducible refine at_fn (f := 39) rfl ?_); refine goesL_ (some 68) rfl rfl Try.func39 (by kernel_rfl) rfl #[.string a0, .int .i64 (wrap64 (t103 + 1))] rfl (by (try simp only [List.map_toArray, List.map_cons, List.map_nil]); first | done | rfl | (simp only [List.length_drop, List.length_take]; rfl)) ?_; (with_reducible refine (spec_l4Ch.calls kj19 a0 (wrap64 (t103 + 1)) t105 t106 true _ A25.out).mono ?_); rintro e w' ⟨rfl, ⟨nd, rfl⟩⟩; refine ⟨_, rfl, ?_⟩))
                 go_roundg kj19
                 case measure => have := HJ2.out; have := HJ8.out; have := HK3.out; have := HJ11.out; have := HJ19.out; omega
                 case rel => exact ⟨(t106), (wrap64 (x7_3 + 1)), (x102000_3), (x102001_3), (by first | rfl | (simp; done) | (simp [*]; done)), (by first | rfl | (simp; done) | (simp [*]; done)), H', ⟨by have := HJ2.out; have := HJ8.out; have := HK3.out; have := HJ11.out; have := HJ19.out; omega⟩, ⟨lb BK101⟩, ⟨bw⟩⟩
               ·replace c26 := Bool.eq_false_iff.mpr c26
                subst c26
                have H1 : (some (0, 2, t106)) = some (r1, r2, r3) := by rw [if_neg (show ¬ (false = true) by decide)] at H; exact H
                clear H
                have H := H1
                clear H1
                simp only [Option.some.injEq, Prod.mk.injEq] at H
                obtain ⟨rfl, rfl, rfl⟩ := H
                go_wp2_with (first | ((with_reducible refine at_fn (f := 39) rfl ?_); refine goesL_ (some 68) rfl rfl Try.func39 (by kernel_rfl) rfl #[.string a0, .int .i64 (wrap64 (t103 + 1))] rfl (by (try simp only [List.map_toArray, List.map_cons, List.map_nil]); first | done | rfl | (simp only [List.length_drop, List.length_take]; rfl)) ?_; (with_reducible refine (spec_l4Ch.calls kj19 a0 (wrap64 (t103 + 1)) t105 t106 false _ A25.out).mono ?_); rintro e w' ⟨rfl, ⟨nd, rfl⟩⟩; refine ⟨_, rfl, ?_⟩; (try (rw [drewN_self wc]; generalize hq_ : World.drewN wc _ = wc; have n0_ : Aside0 (wc.heap[gb101]? = some (.cells #[.int .i64 x102000_3, .int .i64 x102001_3] 30 (0, 0))) := ⟨by rw [← hq_]; exact (lb BK101)⟩; have n1_ : Aside0 (Below w.heap.size w wc) := ⟨by rw [← hq_]; exact bw⟩; clear BK101 HB hq_; have BK101 := n0_; have HB := n1_; clear n0_ n1_)); have hcz29_0 : wc.cell? ⟨gb101, 0, none⟩ = some (.int .i64 x102000_3) := (blk_cell BK101.out 0).trans rfl; have hcz29_1 : wc.cell? ⟨gb101, 1, none⟩ = some (.int .i64 x102001_3) := (blk_cell BK101.out 1).trans rfl; have hfz29_0 := blk_frozen BK101.out 0; have hfz29_1 := blk_frozen BK101.out 1))
                refine bodyPost_ret (results_tc rfl _ _ gb101 30 #[.int .i64 2, .int .i64 t106] (0, 0) _ rfl (by (with_reducible repeat (first | refine blk_drewN ?_ _ | refine blk_drew ?_ | refine blk_alloc ?_ _)); refine blk_put (cs := #[.int .i64 2, .int .i64 x102001_3]) ?_ 1 _ rfl; (with_reducible repeat (first | refine blk_drewN ?_ _ | refine blk_drew ?_ | refine blk_alloc ?_ _)); refine blk_put (cs := #[.int .i64 x102000_3, .int .i64 x102001_3]) ?_ 0 _ rfl; (with_reducible repeat (first | refine blk_drewN ?_ _ | refine blk_drew ?_ | refine blk_alloc ?_ _)); exact BK101.out) Try.underlying30 rfl (by kernel_rfl)) rfl ?_
                exact ⟨by first | rfl | (simp [errW_none, errW_some] <;> rfl) | (simp [*, errW_none, errW_some] <;> rfl), bw⟩
              ·replace c24 := Bool.eq_false_iff.mpr c24
               subst c24
               have H1 : (spec_l4Class.l0 kj19 a0 t103 (wrap64 (x7_3 + 1))) = some (r1, r2, r3) := by rw [if_neg (show ¬ (false = true) by decide)] at H; exact H
               clear H
               have H := H1
               clear H1
               have H' := Aside0.mk H
               clear H
               go_wp2
               go_roundg kj19
               case measure => have := HJ2.out; have := HJ8.out; have := HK3.out; have := HJ11.out; have := HJ19.out; omega
               case rel => exact ⟨(t103), (wrap64 (x7_3 + 1)), (x102000_3), (x102001_3), (by first | rfl | (simp; done) | (simp [*]; done)), (by first | rfl | (simp; done) | (simp [*]; done)), H', ⟨by have := HJ2.out; have := HJ8.out; have := HK3.out; have := HJ11.out; have := HJ19.out; omega⟩, ⟨lb BK101⟩, ⟨bw⟩⟩
           ·replace c19 := Bool.eq_false_iff.mpr c19
            subst c19
            have H1 : (some (0, 2, t103)) = some (r1, r2, r3) := by rw [if_neg (show ¬ (false = true) by decide)] at H; exact H
            clear H
            have H := H1
            clear H1
            simp only [Option.some.injEq, Prod.mk.injEq] at H
            obtain ⟨rfl, rfl, rfl⟩ := H
            go_wp2_with (first | ((with_reducible refine at_fn (f := 39) rfl ?_); refine goesL_ (some 46) rfl rfl Try.func39 (by kernel_rfl) rfl #[.string a0, .int .i64 x6_3] rfl (by (try simp only [List.map_toArray, List.map_cons, List.map_nil]); first | done | rfl | (simp only [List.length_drop, List.length_take]; rfl)) ?_; (with_reducible refine (spec_l4Ch.calls kj11 a0 x6_3 t102 t103 false _ A18.out).mono ?_); rintro e w' ⟨rfl, ⟨nd, rfl⟩⟩; refine ⟨_, rfl, ?_⟩; (try (rw [drewN_self wc]; generalize hq_ : World.drewN wc _ = wc; have n0_ : Aside0 (wc.heap[gb101]? = some (.cells #[.int .i64 x102000_3, .int .i64 x102001_3] 30 (0, 0))) := ⟨by rw [← hq_]; exact (lb BK101)⟩; have n1_ : Aside0 (Below w.heap.size w wc) := ⟨by rw [← hq_]; exact bw⟩; clear BK101 HB hq_; have BK101 := n0_; have HB := n1_; clear n0_ n1_)); have hcz30_0 : wc.cell? ⟨gb101, 0, none⟩ = some (.int .i64 x102000_3) := (blk_cell BK101.out 0).trans rfl; have hcz30_1 : wc.cell? ⟨gb101, 1, none⟩ = some (.int .i64 x102001_3) := (blk_cell BK101.out 1).trans rfl; have hfz30_0 := blk_frozen BK101.out 0; have hfz30_1 := blk_frozen BK101.out 1))
            refine bodyPost_ret (results_tc rfl _ _ gb101 30 #[.int .i64 2, .int .i64 t103] (0, 0) _ rfl (by (with_reducible repeat (first | refine blk_drewN ?_ _ | refine blk_drew ?_ | refine blk_alloc ?_ _)); refine blk_put (cs := #[.int .i64 2, .int .i64 x102001_3]) ?_ 1 _ rfl; (with_reducible repeat (first | refine blk_drewN ?_ _ | refine blk_drew ?_ | refine blk_alloc ?_ _)); refine blk_put (cs := #[.int .i64 x102000_3, .int .i64 x102001_3]) ?_ 0 _ rfl; (with_reducible repeat (first | refine blk_drewN ?_ _ | refine blk_drew ?_ | refine blk_alloc ?_ _)); exact BK101.out) Try.underlying30 rfl (by kernel_rfl)) rfl ?_
            exact ⟨by first | rfl | (simp [errW_none, errW_some] <;> rfl) | (simp [*, errW_none, errW_some] <;> rfl), bw⟩
       ·rw [if_neg c11] at H
        have c11b0 : decide (x6_3 < (a0.size : Int)) = false := decide_eq_false c11
        clear c11
        simp only [Option.some.injEq, Prod.mk.injEq] at H
        obtain ⟨rfl, rfl, rfl⟩ := H
        have hcz31_0 : wr.cell? ⟨gb101, 0, none⟩ = some (.int .i64 x102000_3) := (blk_cell BK101.out 0).trans rfl
        have hcz31_1 : wr.cell? ⟨gb101, 1, none⟩ = some (.int .i64 x102001_3) := (blk_cell BK101.out 1).trans rfl
        have hfz31_0 := blk_frozen BK101.out 0
        have hfz31_1 := blk_frozen BK101.out 1
        go_wp2
        refine bodyPost_ret (results_tc rfl _ _ gb101 30 #[.int .i64 2, .int .i64 (a0.size : Int)] (0, 0) _ rfl (by (with_reducible repeat (first | refine blk_drewN ?_ _ | refine blk_drew ?_ | refine blk_alloc ?_ _)); refine blk_put (cs := #[.int .i64 2, .int .i64 x102001_3]) ?_ 1 _ rfl; (with_reducible repeat (first | refine blk_drewN ?_ _ | refine blk_drew ?_ | refine blk_alloc ?_ _)); refine blk_put (cs := #[.int .i64 x102000_3, .int .i64 x102001_3]) ?_ 0 _ rfl; (with_reducible repeat (first | refine blk_drewN ?_ _ | refine blk_drew ?_ | refine blk_alloc ?_ _)); exact BK101.out) Try.underlying30 rfl (by kernel_rfl)) rfl ?_
        exact ⟨by first | rfl | (simp [errW_none, errW_some] <;> rfl) | (simp [*, errW_none, errW_some] <;> rfl), bw⟩

end Go.Proofs.Ytcdpmmpdfdillaa.Q

namespace Go.Proofs.Ytcdpmmpdfdillaa.Q
open Go.RowKit Go.Proofs.YtcdpmmpdfdillaaW.PrintWords Go.Proofs.YtcdpmmpdfdillaaW.PrintLast Go.Proofs.YtcdpmmpdfdillaaW.PrintMore
set_option linter.unusedVariables false
set_option linter.unusedSimpArgs false

/-! ### spec_CheckRegex: function 11 -/
def spec_CheckRegex.l0 : Nat → ByteArray → Int → Bool → Int → Option (Int × Int)
 | 0, _, _, _, _ => none
 | k + 1, x0, x3, x4, x5 => if x5 < (x0.size : Int) then (if 0 ≤ x5 then (if (bt x0 x5) = 40 then (if x3 = 20 then (some (3, x5)) else (spec_CheckRegex.l0 k x0 (wrap64 (x3 + 1)) false (wrap64 (x5 + 1)))) else (if (bt x0 x5) = 41 then (if x3 = 0 then (some (2, x5)) else (spec_CheckRegex.l0 k x0 (wrap64 (x3 - 1)) true (wrap64 (x5 + 1)))) else (if (bt x0 x5) = 124 then (spec_CheckRegex.l0 k x0 x3 false (wrap64 (x5 + 1))) else ((spec_l4Op.f (bt x0 x5)).bind fun t109 => (if t109 = true then (if x4 = true then (spec_CheckRegex.l0 k x0 x3 x4 (wrap64 (x5 + 1))) else (some (2, x5))) else (if (bt x0 x5) = 91 then ((spec_l4Class.f k x0 x5).bind fun bt110 => (if bt110.2.1 = 0 then (spec_CheckRegex.l0 k x0 x3 true bt110.1) else (some (bt110.2.1, bt110.2.2)))) else (if (bt x0 x5) = 93 then (some (2, x5)) else (if (bt x0 x5) = 92 then (if (wrap64 (x5 + 1)) = (x0.size : Int) then (some (2, (x0.size : Int))) else (spec_CheckRegex.l0 k x0 x3 true (wrap64 (x5 + 2)))) else (spec_CheckRegex.l0 k x0 x3 true (wrap64 (x5 + 1))))))))))) else (none)) else (if x3 > 0 then (some (2, (x0.size : Int))) else (some (0, 0)))
def spec_CheckRegex.f (k : Nat) (a0 : ByteArray) : Option (Int × Int) := if (a0.size : Int) > 200 then (some (1, 0)) else (spec_CheckRegex.l0 k a0 0 false 0)
set_option maxHeartbeats 8000000 in
set_option maxRecDepth 100000 in
theorem spec_CheckRegex.calls (k : Nat) (a0 : ByteArray) (r1 : Int) (r2 : Int) (w : World) (h : spec_CheckRegex.f k a0 = some (r1, r2)) :
  Calls Try.prog 11 #[.string a0] w fun e w' => e = .returned (.agg #[.int .i64 r1, .int .i64 r2]) ∧ Below w.heap.size w w' := by
 have hu30 := Try.underlying30
 have HB := Aside0.mk (Below.refl w.heap.size w)
 have H : (if (a0.size : Int) > 200 then (some (1, 0)) else (spec_CheckRegex.l0 k a0 0 false 0)) = some (r1, r2) := h
 clear h
 by_cases c2 : (a0.size : Int) > 200
 ·rw [if_pos c2] at H
  have c2b0 : decide (200 < (a0.size : Int)) = true := decide_eq_true c2
  have c2b1 : decide (200 < a0.size) = true := decide_eq_true (by omega)
  clear c2
  simp only [Option.some.injEq, Prod.mk.injEq] at H
  obtain ⟨rfl, rfl⟩ := H
  go_enter Try.func11, Try.ntmps11
  go_wp2_with (first | ((with_reducible refine gate_dst (N := 2) rfl ?_); refine box_event ?hg (N := 2) ?hd (cs := #[.int .i64 0, .int .i64 0]) (t := 30) ?hr ?_; (case hd => rfl); (case hg => rfl); (case hr => first | (go_simp; done) | (go_simp; rfl)); intro gb108 hg w3 hbox hb; have n0_ := Aside0.mk (below_step bw hb); have n1_ := Aside0.mk (hbox); have n2_ := Aside0.mk ((by rw [hg]; exact (below_size bw) : w.heap.size ≤ gb108)); have n3_ := Aside0.mk ((by rw [hg]; exact (below_size bw) : w.heap.size ≤ gb108)); clear HB; have HB := n0_; have BK108 := n1_; have GW108 := n2_; have GE108 := n3_; clear n0_ n1_ n2_ n3_; clear hb hbox hg; have hcz4_0 : w3.cell? ⟨gb108, 0, none⟩ = some (.int .i64 0) := (blk_cell BK108.out 0).trans rfl; have hcz4_1 : w3.cell? ⟨gb108, 1, none⟩ = some (.int .i64 0) := (blk_cell BK108.out 1).trans rfl; have hfz4_0 := blk_frozen BK108.out 0; have hfz4_1 := blk_frozen BK108.out 1))
  refine bodyPost_ret (results_cell_row rfl _ _ gb108 30 #[.int .i64 1, .int .i64 0] (0, 0) _ rfl (by (with_reducible repeat (first | refine blk_drewN ?_ _ | refine blk_drew ?_ | refine blk_alloc ?_ _)); refine blk_put (cs := #[.int .i64 1, .int .i64 0]) ?_ 1 _ rfl; (with_reducible repeat (first | refine blk_drewN ?_ _ | refine blk_drew ?_ | refine blk_alloc ?_ _)); refine blk_put (cs := #[.int .i64 0, .int .i64 0]) ?_ 0 _ rfl; (with_reducible repeat (first | refine blk_drewN ?_ _ | refine blk_drew ?_ | refine blk_alloc ?_ _)); exact BK108.out) Try.underlying30 rfl (by kernel_rfl)) rfl ?_
  exact ⟨by first | rfl | (simp [errW_none, errW_some] <;> rfl) | (simp [*, errW_none, errW_some] <;> rfl), bw⟩
 ·rw [if_neg c2] at H
  have c2b0 : decide (200 < (a0.size : Int)) = false := decide_eq_false c2
  have c2b1 : decide (200 < a0.size) = false := decide_eq_false (by omega)
  clear c2
  have H' := Aside0.mk H
  clear H
  go_enter Try.func11, Try.ntmps11
  go_wp2_with (first | ((with_reducible refine gate_dst (N := 2) rfl ?_); refine box_event ?hg (N := 2) ?hd (cs := #[.int .i64 0, .int .i64 0]) (t := 30) ?hr ?_; (case hd => rfl); (case hg => rfl); (case hr => first | (go_simp; done) | (go_simp; rfl)); intro gb108 hg w5 hbox hb; have n0_ := Aside0.mk (below_step bw hb); have n1_ := Aside0.mk (hbox); have n2_ := Aside0.mk ((by rw [hg]; exact (below_size bw) : w.heap.size ≤ gb108)); have n3_ := Aside0.mk ((by rw [hg]; exact (below_size bw) : w.heap.size ≤ gb108)); clear HB; have HB := n0_; have BK108 := n1_; have GW108 := n2_; have GE108 := n3_; clear n0_ n1_ n2_ n3_; clear hb hbox hg))
  go_loopg [3, 4, 5] k (fun kq v3 v4 v5 w' => ∃ (x3_1 : Int) (x4_1 : Bool) (x5_1 : Int) (x109000_1 : Int) (x109001_1 : Int), v3 = .int .i64 x3_1 ∧ v4 = .bool x4_1 ∧ v5 = .int .i64 x5_1 ∧ Aside0 (spec_CheckRegex.l0 kq a0 x3_1 x4_1 x5_1 = some (r1, r2)) ∧ Aside0 (kq ≤ k) ∧ Aside0 (w'.heap[gb108]? = some (.cells #[.int .i64 x109000_1, .int .i64 x109001_1] 30 (0, 0))) ∧ Aside0 (Below w.heap.size w w'))
  case atStart => exact ⟨(0), (false), (0), (0), (0), (by first | rfl | (simp; done) | (simp [*]; done)), (by first | rfl | (simp; done) | (simp [*]; done)), (by first | rfl | (simp; done) | (simp [*]; done)), H', ⟨Nat.le_refl _⟩, ⟨lb BK108⟩, ⟨bw⟩⟩
  case round =>
   clear H'
   try clear c1
   try clear c2
   try clear c2b0
   try clear c2b1
   try clear p2
   try clear hcz4_0
   try clear hcz4_1
   try clear hfz4_0
   try clear hfz4_1
   obtain ⟨x3_1, x4_1, x5_1, x109000_1, x109001_1, rfl, rfl, rfl, HA, HK1, BK108, HB⟩ := hrel
   cases gk with
   | zero => exact absurd HA.out (by simp [spec_CheckRegex.l0])
   | succ k1 =>
    have H := HA.out
    clear HA
    simp only [spec_CheckRegex.l0] at H
    by_cases c6 : x5_1 < (a0.size : Int)
    ·rw [if_pos c6] at H
     have c6b0 : decide (x5_1 < (a0.size : Int)) = true := decide_eq_true c6
     clear c6
     by_cases c7 : 0 ≤ x5_1
     ·rw [if_pos c7] at H
      have c7b0 : decide (0 ≤ x5_1) = true := decide_eq_true c7
      clear c7
      by_cases c9 : (bt a0 x5_1) = 40
      ·rw [if_pos c9] at H
       have c9b0 : ((bt a0 x5_1) == 40) = true := beq_iff_eq.mpr c9
       have c9b1 : ((bt a0 x5_1) != 40) = false := bne_eq_false_iff_eq.mpr c9
       clear c9
       by_cases c10 : x3_1 = 20
       ·rw [if_pos c10] at H
        have c10b0 : (x3_1 == 20) = true := beq_iff_eq.mpr c10
        have c10b1 : (x3_1 != 20) = false := bne_eq_false_iff_eq.mpr c10
        clear c10
        simp only [Option.some.injEq, Prod.mk.injEq] at H
        obtain ⟨rfl, rfl⟩ := H
        have p8 : 0 ≤ (x5_1 : Int) := of_decide_eq_true (by first | (with_reducible assumption) | assumption)
        have q8 : x5_1 < (a0.size : Int) := of_decide_eq_true (by first | (with_reducible assumption) | assumption)
        have hx8 := bt_at a0 x5_1
        replace p8 := eq_true p8
        replace q8 := eq_true q8
        have hcz11_0 : wr.cell? ⟨gb108, 0, none⟩ = some (.int .i64 x109000_1) := (blk_cell BK108.out 0).trans rfl
        have hcz11_1 : wr.cell? ⟨gb108, 1, none⟩ = some (.int .i64 x109001_1) := (blk_cell BK108.out 1).trans rfl
        have hfz11_0 := blk_frozen BK108.out 0
        have hfz11_1 := blk_frozen BK108.out 1
        go_wp2
        refine bodyPost_ret (results_cell_row rfl _ _ gb108 30 #[.int .i64 3, .int .i64 x5_1] (0, 0) _ rfl (by (with_reducible repeat (first | refine blk_drewN ?_ _ | refine blk_drew ?_ | refine blk_alloc ?_ _)); refine blk_put (cs := #[.int .i64 3, .int .i64 x109001_1]) ?_ 1 _ rfl; (with_reducible repeat (first | refine blk_drewN ?_ _ | refine blk_drew ?_ | refine blk_alloc ?_ _)); refine blk_put (cs := #[.int .i64 x109000_1, .int .i64 x109001_1]) ?_ 0 _ rfl; (with_reducible repeat (first | refine blk_drewN ?_ _ | refine blk_drew ?_ | refine blk_alloc ?_ _)); exact BK108.out) Try.underlying30 rfl (by kernel_rfl)) rfl ?_
        exact ⟨by first | rfl | (simp [errW_none, errW_some] <;> rfl) | (simp [*, errW_none, errW_some] <;> rfl), bw⟩
       ·rw [if_neg c10] at H
        have c10b0 : (x3_1 == 20) = false := beq_eq_false_iff_ne.mpr c10
        have c10b1 : (x3_1 != 20) = true := bne_iff_ne.mpr c10
        have H' := Aside0.mk H
        clear H
        have p8 : 0 ≤ (x5_1 : Int) := of_decide_eq_true (by first | (with_reducible assumption) | assumption)
        have q8 : x5_1 < (a0.size : Int) := of_decide_eq_true (by first | (with_reducible assumption) | assumption)
        have hx8 := bt_at a0 x5_1
        replace p8 := eq_true p8
        replace q8 := eq_true q8
        go_wp2
        go_roundg k1
        case measure => have := HK1.out; omega
        case rel => exact ⟨(wrap64 (x3_1 + 1)), (false), (wrap64 (x5_1 + 1)), (x109000_1), (x109001_1), (by first | rfl | (simp; done) | (simp [*]; done)), (by first | rfl | (simp; done) | (simp [*]; done)), (by first | rfl | (simp; done) | (simp [*]; done)), H', ⟨by have := HK1.out; omega⟩, ⟨lb BK108⟩, ⟨bw⟩⟩
      ·rw [if_neg c9] at H
       have c9b0 : ((bt a0 x5_1) == 40) = false := beq_eq_false_iff_ne.mpr c9
       have c9b1 : ((bt a0 x5_1) != 40) = true := bne_iff_ne.mpr c9
       by_cases c12 : (bt a0 x5_1) = 41
       ·rw [if_pos c12] at H
        have c12b0 : ((bt a0 x5_1) == 41) = true := beq_iff_eq.mpr c12
        have c12b1 : ((bt a0 x5_1) != 41) = false := bne_eq_false_iff_eq.mpr c12
        clear c12
        by_cases c13 : x3_1 = 0
        ·rw [if_pos c13] at H
         have c13b0 : (x3_1 == 0) = true := beq_iff_eq.mpr c13
         have c13b1 : (x3_1 != 0) = false := bne_eq_false_iff_eq.mpr c13
         clear c13
         simp only [Option.some.injEq, Prod.mk.injEq] at H
         obtain ⟨rfl, rfl⟩ := H
         have p8 : 0 ≤ (x5_1 : Int) := of_decide_eq_true (by first | (with_reducible assumption) | assumption)
         have q8 : x5_1 < (a0.size : Int) := of_decide_eq_true (by first | (with_reducible assumption) | assumption)
         have hx8 := bt_at a0 x5_1
         replace p8 := eq_true p8
         replace q8 := eq_true q8
         have hcz14_0 : wr.cell? ⟨gb108, 0, none⟩ = some (.int .i64 x109000_1) := (blk_cell BK108.out 0).trans rfl
         have hcz14_1 : wr.cell? ⟨gb108, 1, none⟩ = some (.int .i64 x109001_1) := (blk_cell BK108.out 1).trans rfl
         have hfz14_0 := blk_frozen BK108.out 0
         have hfz14_1 := blk_frozen BK108.out 1
         go_wp2
         refine bodyPost_ret (results_cell_row rfl _ _ gb108 30 #[.int .i64 2, .int .i64 x5_1] (0, 0) _ rfl (by (with_reducible repeat (first | refine blk_drewN ?_ _ | refine blk_drew ?_ | refine blk_alloc ?_ _)); refine blk_put (cs := #[.int .i64 2, .int .i64 x109001_1]) ?_ 1 _ rfl; (with_reducible repeat (first | refine blk_drewN ?_ _ | refine blk_drew ?_ | refine blk_alloc ?_ _)); refine blk_put (cs := #[.int .i64 x109000_1, .int .i64 x109001_1]) ?_ 0 _ rfl; (with_reducible repeat (first | refine blk_drewN ?_ _ | refine blk_drew ?_ | refine blk_alloc ?_ _)); exact BK108.out) Try.underlying30 rfl (by kernel_rfl)) rfl ?_
         exact ⟨by first | rfl | (simp [errW_none, errW_some] <;> rfl) | (simp [*, errW_none, errW_some] <;> rfl), bw⟩
        ·rw [if_neg c13] at H
         have c13b0 : (x3_1 == 0) = false := beq_eq_false_iff_ne.mpr c13
         have c13b1 : (x3_1 != 0) = true := bne_iff_ne.mpr c13
         have H' := Aside0.mk H
         clear H
         have p8 : 0 ≤ (x5_1 : Int) := of_decide_eq_true (by first | (with_reducible assumption) | assumption)
         have q8 : x5_1 < (a0.size : Int) := of_decide_eq_true (by first | (with_reducible assumption) | assumption)
         have hx8 := bt_at a0 x5_1
         replace p8 := eq_true p8
         replace q8 := eq_true q8
         go_wp2
         go_roundg k1
         case measure => have := HK1.out; omega
         case rel => exact ⟨(wrap64 (x3_1 - 1)), (true), (wrap64 (x5_1 + 1)), (x109000_1), (x109001_1), (by first | rfl | (simp; done) | (simp [*]; done)), (by first | rfl | (simp; done) | (simp [*]; done)), (by first | rfl | (simp; done) | (simp [*]; done)), H', ⟨by have := HK1.out; omega⟩, ⟨lb BK108⟩, ⟨bw⟩⟩
       ·rw [if_neg c12] at H
        have c12b0 : ((bt a0 x5_1) == 41) = false := beq_eq_false_iff_ne.mpr c12
        have c12b1 : ((bt a0 x5_1) != 41) = true := bne_iff_ne.mpr c12
        by_cases c15 : (bt a0 x5_1) = 124
        ·rw [if_pos c15] at H
         have c15b0 : ((bt a0 x5_1) == 124) = true := beq_iff_eq.mpr c15
         have c15b1 : ((bt a0 x5_1) != 124) = false := bne_eq_false_iff_eq.mpr c15
         clear c15
         have H' := Aside0.mk H
         clear H
         have p8 : 0 ≤ (x5_1 : Int) := of_decide_eq_true (by first | (with_reducible assumption) | assumption)
         have q8 : x5_1 < (a0.size : Int) := of_decide_eq_true (by first | (with_reducible assumption) | assumption)
         have hx8 := bt_at a0 x5_1
         replace p8 := eq_true p8
         replace q8 := eq_true q8
         go_wp2
         go_roundg k1
         case measure => have := HK1.out; omega
         case rel => exact ⟨(x3_1), (false), (wrap64 (x5_1 + 1)), (x109000_1), (x109001_1), (by first | rfl | (simp; done) | (simp [*]; done)), (by first | rfl | (simp; done) | (simp [*]; done)), (by first | rfl | (simp; done) | (simp [*]; done)), H', ⟨by have := HK1.out; omega⟩, ⟨lb BK108⟩, ⟨bw⟩⟩
        ·rw [if_neg c15] at H
         have c15b0 : ((bt a0 x5_1) == 124) = false := beq_eq_false_iff_ne.mpr c15
         have c15b1 : ((bt a0 x5_1) != 124) = true := bne_iff_ne.mpr c15
         replace H := Option.bind_eq_some_iff.mp H
         obtain ⟨t109, A160, H⟩ := H
         replace H : (if t109 = true then (if x4_1 = true then (spec_CheckRegex.l0 k1 a0 x3_1 x4_1 (wrap64 (x5_1 + 1))) else (some (2, x5_1))) else (if (bt a0 x5_1) = 91 then ((spec_l4Class.f k1 a0 x5_1).bind fun bt110 => (if bt110.2.1 = 0 then (spec_CheckRegex.l0 k1 a0 x3_1 true bt110.1) else (some (bt110.2.1, bt110.2.2)))) else (if (bt a0 x5_1) = 93 then (some (2, x5_1)) else (if (bt a0 x5_1) = 92 then (if (wrap64 (x5_1 + 1)) = (a0.size : Int) then (some (2, (a0.size : Int))) else (spec_CheckRegex.l0 k1 a0 x3_1 true (wrap64 (x5_1 + 2)))) else (spec_CheckRegex.l0 k1 a0 x3_1 true (wrap64 (x5_1 + 1))))))) = some (r1, r2) := H
         have A16 := Aside0.mk A160
         clear A160
         by_cases c17 : t109 = true
         ·subst c17
          have H1 : (if x4_1 = true then (spec_CheckRegex.l0 k1 a0 x3_1 x4_1 (wrap64 (x5_1 + 1))) else (some (2, x5_1))) = some (r1, r2) := by rw [if_pos rfl] at H; exact H
          clear H
          have H := H1
          clear H1
          by_cases c18 : x4_1 = true
          ·subst c18
           have H1 : (spec_CheckRegex.l0 k1 a0 x3_1 true (wrap64 (x5_1 + 1))) = some (r1, r2) := by rw [if_pos rfl] at H; exact H
           clear H
           have H := H1
           clear H1
           have H' := Aside0.mk H
           clear H
           have p8 : 0 ≤ (x5_1 : Int) := of_decide_eq_true (by first | (with_reducible assumption) | assumption)
           have q8 : x5_1 < (a0.size : Int) := of_decide_eq_true (by first | (with_reducible assumption) | assumption)
           have hx8 := bt_at a0 x5_1
           replace p8 := eq_true p8
           replace q8 := eq_true q8
           go_wp2_with (first | ((with_reducible refine at_fn (f := 28) rfl ?_); refine goesL_ (some 45) rfl rfl Try.func28 (by kernel_rfl) rfl #[.int .u8 (bt a0 x5_1)] rfl (by (try simp only [List.map_toArray, List.map_cons, List.map_nil]); first | done | rfl | (simp only [List.length_drop, List.length_take]; rfl)) ?_; (with_reducible refine (spec_l4Op.calls (bt a0 x5_1) true _ A16.out).mono ?_); rintro e w' ⟨rfl, ⟨nd, rfl⟩⟩; refine ⟨_, rfl, ?_⟩))
           go_roundg k1
           case measure => have := HK1.out; omega
           case rel => exact ⟨(x3_1), (true), (wrap64 (x5_1 + 1)), (x109000_1), (x109001_1), (by first | rfl | (simp; done) | (simp [*]; done)), (by first | rfl | (simp; done) | (simp [*]; done)), (by first | rfl | (simp; done) | (simp [*]; done)), H', ⟨by have := HK1.out; omega⟩, ⟨lb BK108⟩, ⟨bw⟩⟩
          ·replace c18 := Bool.eq_false_iff.mpr c18
           subst c18
           have H1 : (some (2, x5_1)) = some (r1, r2) := by rw [if_neg (show ¬ (false = true) by decide)] at H; exact H
           clear H
           have H := H1
           clear H1
           simp only [Option.some.injEq, Prod.mk.injEq] at H
           obtain ⟨rfl, rfl⟩ := H
           have p8 : 0 ≤ (x5_1 : Int) := of_decide_eq_true (by first | (with_reducible assumption) | assumption)
           have q8 : x5_1 < (a0.size : Int) := of_decide_eq_true (by first | (with_reducible assumption) | assumption)
           have hx8 := bt_at a0 x5_1
           replace p8 := eq_true p8
           replace q8 := eq_true q8
           go_wp2_with (first | ((with_reducible refine at_fn (f := 28) rfl ?_); refine goesL_ (some 45) rfl rfl Try.func28 (by kernel_rfl) rfl #[.int .u8 (bt a0 x5_1)] rfl (by (try simp only [List.map_toArray, List.map_cons, List.map_nil]); first | done | rfl | (simp only [List.length_drop, List.length_take]; rfl)) ?_; (with_reducible refine (spec_l4Op.calls (bt a0 x5_1) true _ A16.out).mono ?_); rintro e w' ⟨rfl, ⟨nd, rfl⟩⟩; refine ⟨_, rfl, ?_⟩; (try (rw [drewN_self wr]; generalize hq_ : World.drewN wr _ = wr; have n0_ : Aside0 (wr.heap[gb108]? = some (.cells #[.int .i64 x109000_1, .int .i64 x109001_1] 30 (0, 0))) := ⟨by rw [← hq_]; exact (lb BK108)⟩; have n1_ : Aside0 (Below w.heap.size w wr) := ⟨by rw [← hq_]; exact bw⟩; clear BK108 HB hq_; have BK108 := n0_; have HB := n1_; clear n0_ n1_)); have hcz19_0 : wr.cell? ⟨gb108, 0, none⟩ = some (.int .i64 x109000_1) := (blk_cell BK108.out 0).trans rfl; have hcz19_1 : wr.cell? ⟨gb108, 1, none⟩ = some (.int .i64 x109001_1) := (blk_cell BK108.out 1).trans rfl; have hfz19_0 := blk_frozen BK108.out 0; have hfz19_1 := blk_frozen BK108.out 1))
           refine bodyPost_ret (results_cell_row rfl _ _ gb108 30 #[.int .i64 2, .int .i64 x5_1] (0, 0) _ rfl (by (with_reducible repeat (first | refine blk_drewN ?_ _ | refine blk_drew ?_ | refine blk_alloc ?_ _)); refine blk_put (cs := #[.int .i64 2, .int .i64 x109001_1]) ?_ 1 _ rfl; (with_reducible repeat (first | refine blk_drewN ?_ _ | refine blk_drew ?_ | refine blk_alloc ?_ _)); refine blk_put (cs := #[.int .i64 x109000_1, .int .i64 x109001_1]) ?_ 0 _ rfl; (with_reducible repeat (first | refine blk_drewN ?_ _ | refine blk_drew ?_ | refine blk_alloc ?_ _)); exact BK108.out) Try.underlying30 rfl (by kernel_rfl)) rfl ?_
           exact ⟨by first | rfl | (simp [errW_none, errW_some] <;> rfl) | (simp [*, errW_none, errW_some] <;> rfl), bw⟩
         ·replace c17 := Bool.eq_false_iff.mpr c17
          subst c17
          have H1 : (if (bt a0 x5_1) = 91 then ((spec_l4Class.f k1 a0 x5_1).bind fun bt110 => (if bt110.2.1 = 0 then (spec_CheckRegex.l0 k1 a0 x3_1 true bt110.1) else (some (bt110.2.1, bt110.2.2)))) else (if (bt a0 x5_1) = 93 then (some (2, x5_1)) else (if (bt a0 x5_1) = 92 then (if (wrap64 (x5_1 + 1)) = (a0.size : Int) then (some (2, (a0.size : Int))) else (spec_CheckRegex.l0 k1 a0 x3_1 true (wrap64 (x5_1 + 2)))) else (spec_CheckRegex.l0 k1 a0 x3_1 true (wrap64 (x5_1 + 1)))))) = some (r1, r2) := by rw [if_neg (show ¬ (false = true) by decide)] at H; exact H
          clear H
          have H := H1
          clear H1
          by_cases c20 : (bt a0 x5_1) = 91
          ·rw [if_pos c20] at H
           have c20b0 : ((bt a0 x5_1) == 91) = true := beq_iff_eq.mpr c20
           have c20b1 : ((bt a0 x5_1) != 91) = false := bne_eq_false_iff_eq.mpr c20
           clear c20
           replace H := Option.bind_eq_some_iff.mp H
           obtain ⟨⟨t110, t111, t112⟩, A210, H⟩ := H
           replace H : (if t111 = 0 then (spec_CheckRegex.l0 k1 a0 x3_1 true t110) else (some (t111, t112))) = some (r1, r2) := H
           have A21 := Aside0.mk A210
           clear A210
           by_cases c22 : t111 = 0
           ·rw [if_pos c22] at H
            have c22b0 : (t111 == 0) = true := beq_iff_eq.mpr c22
            have c22b1 : (t111 != 0) = false := bne_eq_false_iff_eq.mpr c22
            clear c22
            have H' := Aside0.mk H
            clear H
            have p8 : 0 ≤ (x5_1 : Int) := of_decide_eq_true (by first | (with_reducible assumption) | assumption)
            have q8 : x5_1 < (a0.size : Int) := of_decide_eq_true (by first | (with_reducible assumption) | assumption)
            have hx8 := bt_at a0 x5_1
            replace p8 := eq_true p8
            replace q8 := eq_true q8
            go_wp2_with (first | ((with_reducible refine at_fn (f := 28) rfl ?_); refine goesL_ (some 45) rfl rfl Try.func28 (by kernel_rfl) rfl #[.int .u8 (bt a0 x5_1)] rfl (by (try simp only [List.map_toArray, List.map_cons, List.map_nil]); first | done | rfl | (simp only [List.length_drop, List.length_take]; rfl)) ?_; (with_reducible refine (spec_l4Op.calls (bt a0 x5_1) false _ A16.out).mono ?_); rintro e w' ⟨rfl, ⟨nd, rfl⟩⟩; refine ⟨_, rfl, ?_⟩; (try (rw [drewN_self wr]; generalize hq_ : World.drewN wr _ = wr; have n0_ : Aside0 (wr.heap[gb108]? = some (.cells #[.int .i64 x109000_1, .int .i64 x109001_1] 30 (0, 0))) := ⟨by rw [← hq_]; exact (lb BK108)⟩; have n1_ : Aside0 (Below w.heap.size w wr) := ⟨by rw [← hq_]; exact bw⟩; clear BK108 HB hq_; have BK108 := n0_; have HB := n1_; clear n0_ n1_))) | ((with_reducible refine at_fn (f := 29) rfl ?_); refine goesL_ (some 57) rfl rfl Try.func29 (by kernel_rfl) rfl #[.string a0, .int .i64 x5_1] rfl (by (try simp only [List.map_toArray, List.map_cons, List.map_nil]); first | done | rfl | (simp only [List.length_drop, List.length_take]; rfl)) ?_; (with_reducible refine (spec_l4Class.calls k1 a0 x5_1 t110 t111 t112 _ A21.out).mono ?_); rintro e w23 ⟨rfl, hb⟩; refine ⟨_, rfl, ?_⟩; have n0_ := Aside0.mk (blk_below (g := gb108) (o := .cells #[.int .i64 x109000_1, .int .i64 x109001_1] 30 (0, 0)) (lb BK108) hb); have n1_ := Aside0.mk (below_step bw hb); clear BK108; clear HB; have BK108 := n0_; have HB := n1_; clear n0_ n1_; (try clear hb); (try clear hb2); (try clear hk); (try clear hi)) | ((with_reducible refine gate_dst (N := 8) rfl ?_); refine box_event ?hg (N := 8) ?hd (cs := #[.int .i64 0, .int .i64 0]) (t := 30) ?hr ?_; (case hd => rfl); (case hg => rfl); (case hr => first | (go_simp; done) | (go_simp; rfl)); intro gb113 hg w24 hbox hb; have n0_ := Aside0.mk (blk_below (g := gb108) (o := .cells #[.int .i64 x109000_1, .int .i64 x109001_1] 30 (0, 0)) (lb BK108) hb); have n1_ := Aside0.mk (below_step bw hb); have n2_ := Aside0.mk (hbox); have n3_ := Aside0.mk ((by rw [hg]; exact (below_size bw) : w.heap.size ≤ gb113)); have n4_ := Aside0.mk ((by rw [hg]; exact (below_size bw) : w.heap.size ≤ gb113)); have n5_ := Aside0.mk ((by rw [hg]; exact Nat.ne_of_lt (blk_lt (g := gb108) (o := .cells #[.int .i64 x109000_1, .int .i64 x109001_1] 30 (0, 0)) (lb BK108)) : gb108 ≠ gb113)); have n6_ := Aside0.mk ((by rw [hg]; exact Nat.ne_of_gt (blk_lt (g := gb108) (o := .cells #[.int .i64 x109000_1, .int .i64 x109001_1] 30 (0, 0)) (lb BK108)) : gb113 ≠ gb108)); clear BK108; clear HB; have BK108 := n0_; have HB := n1_; have BK113 := n2_; have GW113 := n3_; have GE113 := n4_; have NB108_113 := n5_; have NB113_108 := n6_; clear n0_ n1_ n2_ n3_ n4_ n5_ n6_; clear hb hbox hg; have hnb25 := NB113_108.out; have hnc25 := NB108_113.out; have hcz26_0 : w24.cell? ⟨gb113, 0, none⟩ = some (.int .i64 0) := (blk_cell BK113.out 0).trans rfl; have hcz26_1 : w24.cell? ⟨gb113, 1, none⟩ = some (.int .i64 0) := (blk_cell BK113.out 1).trans rfl; have hfz26_0 := blk_frozen BK113.out 0; have hfz26_1 := blk_frozen BK113.out 1))
            go_roundg k1
            case measure => have := HK1.out; omega
            case rel => exact ⟨(x3_1), (true), (t110), (x109000_1), (x109001_1), (by first | rfl | (simp; done) | (simp [*]; done)), (by first | rfl | (simp; done) | (simp [*]; done)), (by first | rfl | (simp; done) | (simp [*]; done)), H', ⟨by have := HK1.out; omega⟩, ⟨by (with_reducible repeat (first | refine blk_drewN ?_ _ | refine blk_drew ?_ | refine blk_alloc ?_ _)); refine blk_far ?_ NB108_113.out _; (with_reducible repeat (first | refine blk_drewN ?_ _ | refine blk_drew ?_ | refine blk_alloc ?_ _)); refine blk_far ?_ NB108_113.out _; (with_reducible repeat (first | refine blk_drewN ?_ _ | refine blk_drew ?_ | refine blk_alloc ?_ _)); exact BK108.out⟩, ⟨bw⟩⟩
           ·rw [if_neg c22] at H
            have c22b0 : (t111 == 0) = false := beq_eq_false_iff_ne.mpr c22
            have c22b1 : (t111 != 0) = true := bne_iff_ne.mpr c22
            simp only [Option.some.injEq, Prod.mk.injEq] at H
            obtain ⟨rfl, rfl⟩ := H
            have p8 : 0 ≤ (x5_1 : Int) := of_decide_eq_true (by first | (with_reducible assumption) | assumption)
            have q8 : x5_1 < (a0.size : Int) := of_decide_eq_true (by first | (with_reducible assumption) | assumption)
            have hx8 := bt_at a0 x5_1
            replace p8 := eq_true p8
            replace q8 := eq_true q8
            go_wp2_with (first | ((with_reducible refine at_fn (f := 28) rfl ?_); refine goesL_ (some 45) rfl rfl Try.func28 (by kernel_rfl) rfl #[.int .u8 (bt a0 x5_1)] rfl (by (try simp only [List.map_toArray, List.map_cons, List.map_nil]); first | done | rfl | (simp only [List.length_drop, List.length_take]; rfl)) ?_; (with_reducible refine (spec_l4Op.calls (bt a0 x5_1) false _ A16.out).mono ?_); rintro e w' ⟨rfl, ⟨nd, rfl⟩⟩; refine ⟨_, rfl, ?_⟩; (try (rw [drewN_self wr]; generalize hq_ : World.drewN wr _ = wr; have n0_ : Aside0 (wr.heap[gb108]? = some (.cells #[.int .i64 x109000_1, .int .i64 x109001_1] 30 (0, 0))) := ⟨by rw [← hq_]; exact (lb BK108)⟩; have n1_ : Aside0 (Below w.heap.size w wr) := ⟨by rw [← hq_]; exact bw⟩; clear BK108 HB hq_; have BK108 := n0_; have HB := n1_; clear n0_ n1_))) | ((with_reducible refine at_fn (f := 29) rfl ?_); refine goesL_ (some 57) rfl rfl Try.func29 (by kernel_rfl) rfl #[.string a0, .int .i64 x5_1] rfl (by (try simp only [List.map_toArray, List.map_cons, List.map_nil]); first | done | rfl | (simp only [List.length_drop, List.length_take]; rfl)) ?_; (with_reducible refine (spec_l4Class.calls k1 a0 x5_1 t110 t111 t112 _ A21.out).mono ?_); rintro e w27 ⟨rfl, hb⟩; refine ⟨_, rfl, ?_⟩; have n0_ := Aside0.mk (blk_below (g := gb108) (o := .cells #[.int .i64 x109000_1, .int .i64 x109001_1] 30 (0, 0)) (lb BK108) hb); have n1_ := Aside0.mk (below_step bw hb); clear BK108; clear HB; have BK108 := n0_; have HB := n1_; clear n0_ n1_; (try clear hb); (try clear hb2); (try clear hk); (try clear hi)) | ((with_reducible refine gate_dst (N := 8) rfl ?_); refine box_event ?hg (N := 8) ?hd (cs := #[.int .i64 0, .int .i64 0]) (t := 30) ?hr ?_; (case hd => rfl); (case hg => rfl); (case hr => first | (go_simp; done) | (go_simp; rfl)); intro gb113 hg w28 hbox hb; have n0_ := Aside0.mk (blk_below (g := gb108) (o := .cells #[.int .i64 x109000_1, .int .i64 x109001_1] 30 (0, 0)) (lb BK108) hb); have n1_ := Aside0.mk (below_step bw hb); have n2_ := Aside0.mk (hbox); have n3_ := Aside0.mk ((by rw [hg]; exact (below_size bw) : w.heap.size ≤ gb113)); have n4_ := Aside0.mk ((by rw [hg]; exact (below_size bw) : w.heap.size ≤ gb113)); have n5_ := Aside0.mk ((by rw [hg]; exact Nat.ne_of_lt (blk_lt (g := gb108) (o := .cells #[.int .i64 x109000_1, .int .i64 x109001_1] 30 (0, 0)) (lb BK108)) : gb108 ≠ gb113)); have n6_ := Aside0.mk ((by rw [hg]; exact Nat.ne_of_gt (blk_lt (g := gb108) (o := .cells #[.int .i64 x109000_1, .int .i64 x109001_1] 30 (0, 0)) (lb BK108)) : gb113 ≠ gb108)); clear BK108; clear HB; have BK108 := n0_; have HB := n1_; have BK113 := n2_; have GW113 := n3_; have GE113 := n4_; have NB108_113 := n5_; have NB113_108 := n6_; clear n0_ n1_ n2_ n3_ n4_ n5_ n6_; clear hb hbox hg; have hnb29 := NB113_108.out; have hnc29 := NB108_113.out; have hcz30_0 : w28.cell? ⟨gb113, 0, none⟩ = some (.int .i64 0) := (blk_cell BK113.out 0).trans rfl; have hcz30_1 : w28.cell? ⟨gb113, 1, none⟩ = some (.int .i64 0) := (blk_cell BK113.out 1).trans rfl; have hfz30_0 := blk_frozen BK113.out 0; have hfz30_1 := blk_frozen BK113.out 1; have hcz31_0 : w28.cell? ⟨gb108, 0, none⟩ = some (.int .i64 x109000_1) := (blk_cell BK108.out 0).trans rfl; have hcz31_1 : w28.cell? ⟨gb108, 1, none⟩ = some (.int .i64 x109001_1) := (blk_cell BK108.out 1).trans rfl; have hfz31_0 := blk_frozen BK108.out 0; have hfz31_1 := blk_frozen BK108.out 1))
            refine bodyPost_ret (results_cell_row rfl _ _ gb108 30 #[.int .i64 t111, .int .i64 t112] (0, 0) _ rfl (by (with_reducible repeat (first | refine blk_drewN ?_ _ | refine blk_drew ?_ | refine blk_alloc ?_ _)); refine blk_put (cs := #[.int .i64 t111, .int .i64 x109001_1]) ?_ 1 _ rfl; (with_reducible repeat (first | refine blk_drewN ?_ _ | refine blk_drew ?_ | refine blk_alloc ?_ _)); refine blk_put (cs := #[.int .i64 x109000_1, .int .i64 x109001_1]) ?_ 0 _ rfl; (with_reducible repeat (first | refine blk_drewN ?_ _ | refine blk_drew ?_ | refine blk_alloc ?_ _)); refine blk_far ?_ NB108_113.out _; (with_reducible repeat (first | refine blk_drewN ?_ _ | refine blk_drew ?_ | refine blk_alloc ?_ _)); refine blk_far ?_ NB108_113.out _; (with_reducible repeat (first | refine blk_drewN ?_ _ | refine blk_drew ?_ | refine blk_alloc ?_ _)); exact BK108.out) Try.underlying30 rfl (by kernel_rfl)) rfl ?_
            exact ⟨by first | rfl | (simp [errW_none, errW_some] <;> rfl) | (simp [*, errW_none, errW_some] <;> rfl), bw⟩
          ·rw [if_neg c20] at H
           have c20b0 : ((bt a0 x5_1) == 91) = false := beq_eq_false_iff_ne.mpr c20
           have c20b1 : ((bt a0 x5_1) != 91) = true := bne_iff_ne.mpr c20
           by_cases c32 : (bt a0 x5_1) = 93
           ·rw [if_pos c32] at H
            have c32b0 : ((bt a0 x5_1) == 93) = true := beq_iff_eq.mpr c32
            have c32b1 : ((bt a0 x5_1) != 93) = false := bne_eq_false_iff_eq.mpr c32
            clear c32
            simp only [Option.some.injEq, Prod.mk.injEq] at H
            obtain ⟨rfl, rfl⟩ := H
            have p8 : 0 ≤ (x5_1 : Int) := of_decide_eq_true (by first | (with_reducible assumption) | assumption)
            have q8 : x5_1 < (a0.size : Int) := of_decide_eq_true (by first | (with_reducible assumption) | assumption)
            have hx8 := bt_at a0 x5_1
            replace p8 := eq_true p8
            replace q8 := eq_true q8
            go_wp2_with (first | ((with_reducible refine at_fn (f := 28) rfl ?_); refine goesL_ (some 45) rfl rfl Try.func28 (by kernel_rfl) rfl #[.int .u8 (bt a0 x5_1)] rfl (by (try simp only [List.map_toArray, List.map_cons, List.map_nil]); first | done | rfl | (simp only [List.length_drop, List.length_take]; rfl)) ?_; (with_reducible refine (spec_l4Op.calls (bt a0 x5_1) false _ A16.out).mono ?_); rintro e w' ⟨rfl, ⟨nd, rfl⟩⟩; refine ⟨_, rfl, ?_⟩; (try (rw [drewN_self wr]; generalize hq_ : World.drewN wr _ = wr; have n0_ : Aside0 (wr.heap[gb108]? = some (.cells #[.int .i64 x109000_1, .int .i64 x109001_1] 30 (0, 0))) := ⟨by rw [← hq_]; exact (lb BK108)⟩; have n1_ : Aside0 (Below w.heap.size w wr) := ⟨by rw [← hq_]; exact bw⟩; clear BK108 HB hq_; have BK108 := n0_; have HB := n1_; clear n0_ n1_)); have hcz33_0 : wr.cell? ⟨gb108, 0, none⟩ = some (.int .i64 x109000_1) := (blk_cell BK108.out 0).trans rfl; have hcz33_1 : wr.cell? ⟨gb108, 1, none⟩ = some (.int .i64 x109001_1) := (blk_cell BK108.out 1).trans rfl; have hfz33_0 := blk_frozen BK108.out 0; have hfz33_1 := blk_frozen BK108.out 1))
            refine bodyPost_ret (results_cell_row rfl _ _ gb108 30 #[.int .i64 2, .int .i64 x5_1] (0, 0) _ rfl (by (with_reducible repeat (first | refine blk_drewN ?_ _ | refine blk_drew ?_ | refine blk_alloc ?_ _)); refine blk_put (cs := #[.int .i64 2, .int .i64 x109001_1]) ?_ 1 _ rfl; (with_reducible repeat (first | refine blk_drewN ?_ _ | refine blk_drew ?_ | refine blk_alloc ?_ _)); refine blk_put (cs := #[.int .i64 x109000_1, .int .i64 x109001_1]) ?_ 0 _ rfl; (with_reducible repeat (first | refine blk_drewN ?_ _ | refine blk_drew ?_ | refine blk_alloc ?_ _)); exact BK108.out) Try.underlying30 rfl (by kernel_rfl)) rfl ?_
            exact ⟨by first | rfl | (simp [errW_none, errW_some] <;> rfl) | (simp [*, errW_none, errW_some] <;> rfl), bw⟩
           ·rw [if_neg c32] at H
            have c32b0 : ((bt a0 x5_1) == 93) = false := beq_eq_false_iff_ne.mpr c32
            have c32b1 : ((bt a0 x5_1) != 93) = true := bne_iff_ne.mpr c32
            by_cases c34 : (bt a0 x5_1) = 92
            ·rw [if_pos c34] at H
             have c34b0 : ((bt a0 x5_1) == 92) = true := beq_iff_eq.mpr c34
             have c34b1 : ((bt a0 x5_1) != 92) = false := bne_eq_false_iff_eq.mpr c34
             clear c34
             by_cases c35 : (wrap64 (x5_1 + 1)) = (a0.size : Int)
             ·rw [if_pos c35] at H
              have c35b0 : ((wrap64 (x5_1 + 1)) == (a0.size : Int)) = true := beq_iff_eq.mpr c35
              have c35b1 : ((wrap64 (x5_1 + 1)) != (a0.size : Int)) = false := bne_eq_false_iff_eq.mpr c35
              clear c35
              simp only [Option.some.injEq, Prod.mk.injEq] at H
              obtain ⟨rfl, rfl⟩ := H
              have p8 : 0 ≤ (x5_1 : Int) := of_decide_eq_true (by first | (with_reducible assumption) | assumption)
              have q8 : x5_1 < (a0.size : Int) := of_decide_eq_true (by first | (with_reducible assumption) | assumption)
              have hx8 := bt_at a0 x5_1
              replace p8 := eq_true p8
              replace q8 := eq_true q8
              go_wp2_with (first | ((with_reducible refine at_fn (f := 28) rfl ?_); refine goesL_ (some 45) rfl rfl Try.func28 (by kernel_rfl) rfl #[.int .u8 (bt a0 x5_1)] rfl (by (try simp only [List.map_toArray, List.map_cons, List.map_nil]); first | done | rfl | (simp only [List.length_drop, List.length_take]; rfl)) ?_; (with_reducible refine (spec_l4Op.calls (bt a0 x5_1) false _ A16.out).mono ?_); rintro e w' ⟨rfl, ⟨nd, rfl⟩⟩; refine ⟨_, rfl, ?_⟩; (try (rw [drewN_self wr]; generalize hq_ : World.drewN wr _ = wr; have n0_ : Aside0 (wr.heap[gb108]? = some (.cells #[.int .i64 x109000_1, .int .i64 x109001_1] 30 (0, 0))) := ⟨by rw [← hq_]; exact (lb BK108)⟩; have n1_ : Aside0 (Below w.heap.size w wr) := ⟨by rw [← hq_]; exact bw⟩; clear BK108 HB hq_; have BK108 := n0_; have HB := n1_; clear n0_ n1_)); have hcz36_0 : wr.cell? ⟨gb108, 0, none⟩ = some (.int .i64 x109000_1) := (blk_cell BK108.out 0).trans rfl; have hcz36_1 : wr.cell? ⟨gb108, 1, none⟩ = some (.int .i64 x109001_1) := (blk_cell BK108.out 1).trans rfl; have hfz36_0 := blk_frozen BK108.out 0; have hfz36_1 := blk_frozen BK108.out 1))
              refine bodyPost_ret (results_cell_row rfl _ _ gb108 30 #[.int .i64 2, .int .i64 (a0.size : Int)] (0, 0) _ rfl (by (with_reducible repeat (first | refine blk_drewN ?_ _ | refine blk_drew ?_ | refine blk_alloc ?_ _)); refine blk_put (cs := #[.int .i64 2, .int .i64 x109001_1]) ?_ 1 _ rfl; (with_reducible repeat (first | refine blk_drewN ?_ _ | refine blk_drew ?_ | refine blk_alloc ?_ _)); refine blk_put (cs := #[.int .i64 x109000_1, .int .i64 x109001_1]) ?_ 0 _ rfl; (with_reducible repeat (first | refine blk_drewN ?_ _ | refine blk_drew ?_ | refine blk_alloc ?_ _)); exact BK108.out) Try.underlying30 rfl (by kernel_rfl)) rfl ?_
              exact ⟨by first | rfl | (simp [errW_none, errW_some] <;> rfl) | (simp [*, errW_none, errW_some] <;> rfl), bw⟩
             ·rw [if_neg c35] at H
              have c35b0 : ((wrap64 (x5_1 + 1)) == (a0.size : Int)) = false := beq_eq_false_iff_ne.mpr c35
              have c35b1 : ((wrap64 (x5_1 + 1)) != (a0.size : Int)) = true := bne_iff_ne.mpr c35
              have H' := Aside0.mk H
              clear H
              have p8 : 0 ≤ (x5_1 : Int) := of_decide_eq_true (by first | (with_reducible assumption) | assumption)
              have q8 : x5_1 < (a0.size : Int) := of_decide_eq_true (by first | (with_reducible assumption) | assumption)
              have hx8 := bt_at a0 x5_1
              replace p8 := eq_true p8
              replace q8 := eq_true q8
              go_wp2_with (first | ((with_reducible refine at_fn (f := 28) rfl ?_); refine goesL_ (some 45) rfl rfl Try.func28 (by kernel_rfl) rfl #[.int .u8 (bt a0 x5_1)] rfl (by (try simp only [List.map_toArray, List.map_cons, List.map_nil]); first | done | rfl | (simp only [List.length_drop, List.length_take]; rfl)) ?_; (with_reducible refine (spec_l4Op.calls (bt a0 x5_1) false _ A16.out).mono ?_); rintro e w' ⟨rfl, ⟨nd, rfl⟩⟩; refine ⟨_, rfl, ?_⟩))
              go_roundg k1
              case measure => have := HK1.out; omega
              case rel => exact ⟨(x3_1), (true), (wrap64 (x5_1 + 2)), (x109000_1), (x109001_1), (by first | rfl | (simp; done) | (simp [*]; done)), (by first | rfl | (simp; done) | (simp [*]; done)), (by first | rfl | (simp; done) | (simp [*]; done)), H', ⟨by have := HK1.out; omega⟩, ⟨lb BK108⟩, ⟨bw⟩⟩
            ·rw [if_neg c34] at H
             have c34b0 : ((bt a0 x5_1) == 92) = false := beq_eq_false_iff_ne.mpr c34
             have c34b1 : ((bt a0 x5_1) != 92) = true := bne_iff_ne.mpr c34
             have H' := Aside0.mk H
             clear H
             have p8 : 0 ≤ (x5_1 : Int) := of_decide_eq_true (by first | (with_reducible assumption) | assumption)
             have q8 : x5_1 < (a0.size : Int) := of_decide_eq_true (by first | (with_reducible assumption) | assumption)
             have hx8 := bt_at a0 x5_1
             replace p8 := eq_true p8
             replace q8 := eq_true q8
             go_wp2_with (first | ((with_reducible refine at_fn (f := 28) rfl ?_); refine goesL_ (some 45) rfl rfl Try.func28 (by kernel_rfl) rfl #[.int .u8 (bt a0 x5_1)] rfl (by (try simp only [List.map_toArray, List.map_cons, List.map_nil]); first | done | rfl | (simp only [List.length_drop, List.length_take]; rfl)) ?_; (with_reducible refine (spec_l4Op.calls (bt a0 x5_1) false _ A16.out).mono ?_); rintro e w' ⟨rfl, ⟨nd, rfl⟩⟩; refine ⟨_, rfl, ?_⟩))
             go_roundg k1
             case measure => have := HK1.out; omega
             case rel => exact ⟨(x3_1), (true), (wrap64 (x5_1 + 1)), (x109000_1), (x109001_1), (by first | rfl | (simp; done) | (simp [*]; done)), (by first | rfl | (simp; done) | (simp [*]; done)), (by first | rfl | (simp; done) | (simp [*]; done)), H', ⟨by have := HK1.out; omega⟩, ⟨lb BK108⟩, ⟨bw⟩⟩
     ·rw [if_neg c7] at H
      exact absurd H (by simp)
    ·rw [if_neg c6] at H
     have c6b0 : decide (x5_1 < (a0.size : Int)) = false := decide_eq_false c6
     clear c6
     by_cases c37 : x3_1 > 0
     ·rw [if_pos c37] at H
      have c37b0 : decide (0 < x3_1) = true := decide_eq_true c37
      clear c37
      simp only [Option.some.injEq, Prod.mk.injEq] at H
      obtain ⟨rfl, rfl⟩ := H
      have hcz38_0 : wr.cell? ⟨gb108, 0, none⟩ = some (.int .i64 x109000_1) := (blk_cell BK108.out 0).trans rfl
      have hcz38_1 : wr.cell? ⟨gb108, 1, none⟩ = some (.int .i64 x109001_1) := (blk_cell BK108.out 1).trans rfl
      have hfz38_0 := blk_frozen BK108.out 0
      have hfz38_1 := blk_frozen BK108.out 1
      go_wp2
      refine bodyPost_ret (results_cell_row rfl _ _ gb108 30 #[.int .i64 2, .int .i64 (a0.size : Int)] (0, 0) _ rfl (by (with_reducible repeat (first | refine blk_drewN ?_ _ | refine blk_drew ?_ | refine blk_alloc ?_ _)); refine blk_put (cs := #[.int .i64 2, .int .i64 x109001_1]) ?_ 1 _ rfl; (with_reducible repeat (first | refine blk_drewN ?_ _ | refine blk_drew ?_ | refine blk_alloc ?_ _)); refine blk_put (cs := #[.int .i64 x109000_1, .int .i64 x109001_1]) ?_ 0 _ rfl; (with_reducible repeat (first | refine blk_drewN ?_ _ | refine blk_drew ?_ | refine blk_alloc ?_ _)); exact BK108.out) Try.underlying30 rfl (by kernel_rfl)) rfl ?_
      exact ⟨by first | rfl | (simp [errW_none, errW_some] <;> rfl) | (simp [*, errW_none, errW_some] <;> rfl), bw⟩
     ·rw [if_neg c37] at H
      have c37b0 : decide (0 < x3_1) = false := decide_eq_false c37
      clear c37
      simp only [Option.some.injEq, Prod.mk.injEq] at H
      obtain ⟨rfl, rfl⟩ := H
      have hcz39_0 : wr.cell? ⟨gb108, 0, none⟩ = some (.int .i64 x109000_1) := (blk_cell BK108.out 0).trans rfl
      have hcz39_1 : wr.cell? ⟨gb108, 1, none⟩ = some (.int .i64 x109001_1) := (blk_cell BK108.out 1).trans rfl
      have hfz39_0 := blk_frozen BK108.out 0
      have hfz39_1 := blk_frozen BK108.out 1
      go_wp2
      refine bodyPost_ret (results_cell_row rfl _ _ gb108 30 #[.int .i64 0, .int .i64 0] (0, 0) _ rfl (by (with_reducible repeat (first | refine blk_drewN ?_ _ | refine blk_drew ?_ | refine blk_alloc ?_ _)); refine blk_put (cs := #[.int .i64 0, .int .i64 x109001_1]) ?_ 1 _ rfl; (with_reducible repeat (first | refine blk_drewN ?_ _ | refine blk_drew ?_ | refine blk_alloc ?_ _)); refine blk_put (cs := #[.int .i64 x109000_1, .int .i64 x109001_1]) ?_ 0 _ rfl; (with_reducible repeat (first | refine blk_drewN ?_ _ | refine blk_drew ?_ | refine blk_alloc ?_ _)); exact BK108.out) Try.underlying30 rfl (by kernel_rfl)) rfl ?_
      exact ⟨by first | rfl | (simp [errW_none, errW_some] <;> rfl) | (simp [*, errW_none, errW_some] <;> rfl), bw⟩

end Go.Proofs.Ytcdpmmpdfdillaa.Q

namespace Go.Proofs.Ytcdpmmpdfdillaa.Q
open Go.RowKit Go.Proofs.YtcdpmmpdfdillaaW.PrintWords Go.Proofs.YtcdpmmpdfdillaaW.PrintLast
set_option linter.unusedVariables false
set_option linter.unusedSimpArgs false
set_option linter.unusedSectionVars false
theorem Ev.obind {α β : Type} {x : Nat → Option (Except (Int × Int) α)} {f : Nat → α → Option (Except (Int × Int) β)} {a : α} {r : Except (Int × Int) β} (h : Ev x (.ok a)) (k : Ev (fun n => f n a) r) : Ev (fun n => Q.obind (x n) (f n)) r := by
  obtain ⟨K, h⟩ := h
  obtain ⟨K', k⟩ := k
  refine ⟨max K K', fun n hn => ?_⟩
  simp only []
  rw [h n (by omega)]
  exact k n (by omega)
theorem Ev.obind_err {α β : Type} {x : Nat → Option (Except (Int × Int) α)} {f : Nat → α → Option (Except (Int × Int) β)} {e : Int × Int} (h : Ev x (.error e)) : Ev (fun n => Q.obind (x n) (f n)) (.error e) := by
  obtain ⟨K, h⟩ := h
  refine ⟨K, fun n hn => ?_⟩
  simp only []
  rw [h n hn]
  rfl
section
variable {p : ByteArray} (hp : p.size ≤ 200)
include hp
theorem wr1 {i : Int} (h0 : 0 ≤ i) (h1 : i ≤ p.size) : wrap64 (i + 1) = i + 1 := wrap_id _ (by omega) (by omega)
theorem wr2 {i : Int} (h0 : 0 ≤ i) (h1 : i ≤ p.size) : wrap64 (i + 2) = i + 2 := wrap_id _ (by omega) (by omega)
/-- One ch: what the reference says. -/
def chS : Except (Int × Int) (Int × Int) → Int × Int × Bool
  | .ok (c, j) => (c, j, true)
  | .error (_, a) => (0, a, false)
theorem ch_code {i c a : Int} (h : chF p i = .error (c, a)) : c = 2 := by
  unfold chF at h
  split at h
  · split at h
    · cases h; rfl
    · cases h
  · split at h
    · cases h; rfl
    · cases h
theorem ch_spec {i : Int} (h0 : 0 ≤ i) (h1 : i ≤ p.size) : Ev (fun k => spec_l4Ch.f k p i) (chS (chF p i)) := by
  have hw1 := wr1 hp h0 h1
  have hw2 := wr2 hp h0 h1
  refine ⟨1, fun k hk => ?_⟩
  obtain ⟨k, rfl⟩ : ∃ m, k = m + 1 := ⟨k - 1, by omega⟩
  show spec_l4Ch.f (k + 1) p i = some (chS (chF p i))
  unfold spec_l4Ch.f chF
  by_cases e0 : i = p.size
  · rw [if_pos (by omega), if_neg (by omega), if_pos (.inl e0)]
    simp [spec_l4Ch.j0, chS]
  · rw [if_neg (by omega), if_pos h0, if_pos (by omega)]
    by_cases e93 : bt p i = 93
    · rw [if_pos e93, if_neg (by omega), if_pos (.inr (.inl e93))]
      simp [spec_l4Ch.j0, chS]
    · rw [if_neg e93]
      by_cases e45 : bt p i = 45
      · rw [if_neg (by omega), if_pos (.inr (.inr e45)), e45]
        simp [spec_l4Ch.j0, chS]
      · have hb : (bt p i == 45) = false := beq_eq_false_iff_ne.mpr e45
        rw [hb]
        simp only [spec_l4Ch.j0, Bool.false_eq_true, if_false]
        rw [hw1, hw2]
        have hlt : i < (p.size : Int) := by omega
        by_cases e92 : bt p i = 92
        · by_cases e1 : i + 1 = p.size
          · simp only [h0, hlt, e92, e1, if_true, and_self, ge_iff_le, Int.le_refl]; rfl
          · have e2 : ¬ (p.size : Int) ≤ i + 1 := by omega
            have e3 : 0 ≤ i + 1 := by omega
            have e4 : i + 1 < (p.size : Int) := by omega
            simp only [h0, hlt, e92, e1, e2, e3, e4, if_true, if_false, and_self, ge_iff_le]; rfl
        · have e5 : ¬ (i = p.size ∨ bt p i = 93 ∨ bt p i = 45) := by omega
          simp only [h0, hlt, e92, e5, if_true, if_false, and_false]; rfl
def clS : Except (Int × Int) (List Bool × Int) → Int × Int × Int
  | .ok (_, j) => (j + 1, 0, 0)
  | .error (c, a) => (0, c, a)
theorem cls_spec : ∀ (d : Nat) (i n : Int) (s : List Bool), 0 ≤ i → i ≤ p.size → (p.size : Int) - i = d → 0 ≤ n → n ≤ i →
    ∃ q, Ev (fun k => clsF k p i (decide (n = 0)) s) q ∧ Ev (fun k => spec_l4Class.l0 k p i n) (clS q) ∧ (∀ c a, q = .error (c, a) → c ≠ 0) := by
  intro d
  induction d using Nat.strongRecOn with
  | _ d ih =>
  intro i n s h0 h1 hd n0 n1
  have hcs := ch_spec hp h0 h1
  by_cases ee : i = p.size
  · have hch : chF p i = .error (2, i) := by unfold chF; rw [if_neg (by omega), if_pos (.inl ee)]
    refine ⟨.error (2, i), ⟨1, fun k hk => ?_⟩, ⟨1, fun k hk => ?_⟩, fun c a h => by cases h; decide⟩
    · obtain ⟨k, rfl⟩ : ∃ m, k = m + 1 := ⟨k - 1, by omega⟩
      show clsF (k + 1) p i _ s = _
      simp only [clsF]
      rw [if_pos (.inr (.inl ee)), hch]
    · obtain ⟨k, rfl⟩ : ∃ m, k = m + 1 := ⟨k - 1, by omega⟩
      show spec_l4Class.l0 (k + 1) p i n = _
      simp only [spec_l4Class.l0]
      rw [if_neg (by omega), ee]; rfl
  have hlt : i < p.size := by omega
  have hw1 := wr1 hp h0 h1
  by_cases ec : n = 0 ∨ bt p i ≠ 93
  · -- an item
    have hl0 : ∀ k, spec_l4Class.l0 (k + 1) p i n = spec_l4Class.j3 k p i n false := by
      intro k
      simp only [spec_l4Class.l0]
      rw [if_pos hlt, if_pos h0]
      by_cases e93 : bt p i = 93
      · rw [if_pos e93]
        have : n = 0 := by rcases ec with h | h
                           · exact h
                           · exact absurd e93 h
        rw [this]; rfl
      · rw [if_neg e93]
    have hcl : ∀ k, clsF (k + 1) p i (decide (n = 0)) s = (match chF p i with
      | .error x => some (.error x)
      | .ok (lo, j) =>
        if j < p.size ∧ bt p j = 45 then
          match chF p (j + 1) with
          | .error x => some (.error x)
          | .ok (hi, m) => if lo > hi then some (.error (4, i)) else clsF k p m false (setR s lo hi)
        else clsF k p j false (setR s lo lo)) := by
      intro k
      simp only [clsF]
      rw [if_pos (by rcases ec with h | h
                     · exact .inl (by simp [h])
                     · exact .inr (.inr h))]
      try rfl
    cases hch : chF p i with
    | error x =>
      obtain ⟨c, a⟩ := x
      have hc2 := ch_code hp hch
      subst hc2
      rw [hch] at hcs
      refine ⟨.error (2, a), Ev.step (fun k => by rw [hcl, hch]) (Ev.now _), Ev.step hl0 (Ev.step (fun k => by simp only [spec_l4Class.j3]; rw [if_neg Bool.false_ne_true]) (Ev.bind hcs ?_)), fun c a h => by cases h; decide⟩
      exact Ev.if_neg (by simp [chS]) (Ev.now _)
    | ok x =>
      obtain ⟨lo, j⟩ := x
      obtain ⟨l0, l1, l2, l3⟩ := chF_ok hch h0 h1
      rw [hch] at hcs
      have hw : wrap64 (n + 1) = n + 1 := wrap_id _ (by omega) (by omega)
      have hdn : decide (n + 1 = 0) = false := decide_eq_false (by omega)
      by_cases ed : j < p.size ∧ bt p j = 45
      · have hcs2 := ch_spec hp (i := j + 1) (by omega) (by omega)
        have hwj : wrap64 (j + 1) = j + 1 := wr1 hp (by omega) l3
        cases hch2 : chF p (j + 1) with
        | error x =>
          obtain ⟨c, a⟩ := x
          have hc2 := ch_code hp hch2
          subst hc2
          rw [hch2] at hcs2
          refine ⟨.error (2, a), Ev.step (fun k => by rw [hcl, hch]; simp only []; rw [if_pos ed, hch2]) (Ev.now _), Ev.step hl0 (Ev.step (fun k => by simp only [spec_l4Class.j3]; rw [if_neg Bool.false_ne_true]) (Ev.bind hcs ?_)), fun c a h => by cases h; decide⟩
          simp only [chS, if_true]
          refine Ev.if_pos ed.1 (Ev.if_pos (show 0 ≤ j by omega) ?_)
          rw [ed.2]
          refine Ev.step (fun k => by simp only [spec_l4Class.j4]; rw [if_pos (show ((45 : Int) == 45) = true by decide), hwj]) (Ev.bind hcs2 ?_)
          exact Ev.if_neg (by simp [chS]) (Ev.now _)
        | ok x =>
          obtain ⟨hi, m⟩ := x
          obtain ⟨q0, q1, q2, q3⟩ := chF_ok hch2 (by omega) (by omega)
          rw [hch2] at hcs2
          by_cases elh : lo > hi
          · refine ⟨.error (4, i), Ev.step (fun k => by rw [hcl, hch]; simp only []; rw [if_pos ed, hch2]; simp only []; rw [if_pos elh]) (Ev.now _), Ev.step hl0 (Ev.step (fun k => by simp only [spec_l4Class.j3]; rw [if_neg Bool.false_ne_true]) (Ev.bind hcs ?_)), fun c a h => by cases h; decide⟩
            simp only [chS, if_true]
            refine Ev.if_pos ed.1 (Ev.if_pos (show 0 ≤ j by omega) ?_)
            rw [ed.2]
            refine Ev.step (fun k => by simp only [spec_l4Class.j4]; rw [if_pos (show ((45 : Int) == 45) = true by decide), hwj]) (Ev.bind hcs2 ?_)
            simp only [chS, if_true]
            exact Ev.if_pos elh (Ev.now _)
          · obtain ⟨q, hq1, hq2, hq3⟩ := ih ((p.size : Int) - m).toNat (by omega) m (n + 1) (setR s lo hi) (by omega) q3 (by omega) (by omega) (by omega)
            rw [hdn] at hq1
            refine ⟨q, Ev.step (fun k => by rw [hcl, hch]; simp only []; rw [if_pos ed, hch2]; simp only []; rw [if_neg elh]) hq1, Ev.step hl0 (Ev.step (fun k => by simp only [spec_l4Class.j3]; rw [if_neg Bool.false_ne_true]) (Ev.bind hcs ?_)), hq3⟩
            simp only [chS, if_true]
            refine Ev.if_pos ed.1 (Ev.if_pos (show 0 ≤ j by omega) ?_)
            rw [ed.2]
            refine Ev.step (fun k => by simp only [spec_l4Class.j4]; rw [if_pos (show ((45 : Int) == 45) = true by decide), hwj]) (Ev.bind hcs2 ?_)
            simp only [chS, if_true]
            refine Ev.if_neg elh ?_
            rw [hw]; exact hq2
      · obtain ⟨q, hq1, hq2, hq3⟩ := ih ((p.size : Int) - j).toNat (by omega) j (n + 1) (setR s lo lo) (by omega) l3 (by omega) (by omega) (by omega)
        rw [hdn] at hq1
        refine ⟨q, Ev.step (fun k => by rw [hcl, hch]; simp only []; rw [if_neg ed]) hq1, Ev.step hl0 (Ev.step (fun k => by simp only [spec_l4Class.j3]; rw [if_neg Bool.false_ne_true]) (Ev.bind hcs ?_)), hq3⟩
        simp only [chS, if_true]
        by_cases ej : j < p.size
        · have hb : (bt p j == 45) = false := beq_eq_false_iff_ne.mpr (fun h => ed ⟨ej, h⟩)
          refine Ev.if_pos ej (Ev.if_pos (show 0 ≤ j by omega) ?_)
          rw [hb]
          refine Ev.step (fun k => by simp only [spec_l4Class.j4]; rw [if_neg Bool.false_ne_true, hw]) hq2
        · refine Ev.if_neg ej ?_
          refine Ev.step (fun k => by simp only [spec_l4Class.j4]; rw [if_neg Bool.false_ne_true, hw]) hq2
  · have hn : ¬ n = 0 := fun h => ec (.inl h)
    have h93 : bt p i = 93 := Classical.not_not.mp fun h => ec (.inr h)
    refine ⟨.ok (s, i), Ev.step (f := fun _ => some (.ok (s, i))) (fun k => ?_) (Ev.now _), Ev.step (f := fun k => spec_l4Class.j3 k p i n true) (fun k => ?_) (Ev.step (f := fun _ => some (i + 1, 0, 0)) (fun k => ?_) (Ev.now _)), fun c a h => by cases h⟩
    · simp only [clsF]
      rw [if_neg (by simp [hn, ee, h93])]
    · simp only [spec_l4Class.l0]
      rw [if_pos hlt, if_pos h0, if_pos h93, decide_eq_true (by omega)]
    · simp only [spec_l4Class.j3, if_true, hw1]
theorem class_spec {i : Int} (h0 : 0 ≤ i) (h1 : i < p.size) : ∃ q, Ev (fun k => claF k p (i + 1)) q ∧ ((∃ s j, q = .ok (s, j) ∧ Ev (fun k => spec_l4Class.f k p i) (j, 0, 0)) ∨ (∃ c a, q = .error (c, a) ∧ c ≠ 0 ∧ Ev (fun k => spec_l4Class.f k p i) (0, c, a))) := by
  have hw1 := wr1 hp h0 (Int.le_of_lt h1)
  have hn : 0 ≤ notI p (i + 1) ∧ notI p (i + 1) ≤ p.size := by
    unfold notI; split
    · rename_i hh; unfold notQ at hh; simp at hh; omega
    · omega
  obtain ⟨q, hq1, hq2, hq3⟩ := cls_spec hp ((p.size : Int) - notI p (i + 1)).toNat (notI p (i + 1)) 0 noB hn.1 hn.2 (by omega) (Int.le_refl _) hn.1
  have hs : Ev (fun k => spec_l4Class.f k p i) (clS q) := by
    unfold spec_l4Class.f
    rw [hw1]
    by_cases e : i + 1 < p.size
    · refine Ev.if_pos e (Ev.if_pos (show 0 ≤ i + 1 by omega) ?_)
      have hnq : notQ p (i + 1) = (bt p (i + 1) == 94) := by unfold notQ; rw [decide_eq_true e]; rfl
      have hw2 := wr1 hp (i := i + 1) (by omega) (by omega)
      refine Ev.step (f := fun k => spec_l4Class.j1 k p (notI p (i + 1))) (fun k => ?_) (Ev.step (fun k => by simp only [spec_l4Class.j1]) hq2)
      simp only [spec_l4Class.j0]
      unfold notI
      rw [hnq, hw2]
      split <;> rfl
    · refine Ev.if_neg e ?_
      have hnq : notQ p (i + 1) = false := by unfold notQ; rw [decide_eq_false e]; rfl
      refine Ev.step (f := fun k => spec_l4Class.j1 k p (notI p (i + 1))) (fun k => ?_) (Ev.step (fun k => by simp only [spec_l4Class.j1]) hq2)
      simp only [spec_l4Class.j0]
      unfold notI
      rw [hnq]
      rfl
  have hc : Ev (fun k => claF k p (i + 1)) (q.map fun x => (if notQ p (i + 1) then x.1.map (!·) else x.1, x.2 + 1)) := by
    obtain ⟨K, hK⟩ := hq1
    refine ⟨K, fun k hk => ?_⟩
    have := hK k hk
    simp only [decide_true] at this
    show (clsF k p (notI p (i + 1)) true noB).map _ = _
    rw [this]; rfl
  refine ⟨_, hc, ?_⟩
  rcases q with ⟨c, a⟩ | ⟨s, j⟩
  · exact .inr ⟨c, a, rfl, hq3 c a rfl, hs⟩
  · exact .inl ⟨_, _, rfl, hs⟩
theorem l4Op_is (c : Int) : spec_l4Op.f c = some (isOp c) := by
  unfold spec_l4Op.f isOp
  by_cases h1 : c = 42
  · simp [h1]
  · by_cases h2 : c = 43
    · simp [h2]
    · simp [h1, h2, beq_eq_false_iff_ne.mpr h1, beq_eq_false_iff_ne.mpr h2]
/-- The reference comes to r from this state. -/
def SL (p : ByteArray) (o : Int) (at_ : Bool) (i : Int) (r : Int × Int) : Prop := Ev (fun k => spec_CheckRegex.l0 k p o at_ i) r
theorem sl_s (k : Nat) (o : Int) (at_ : Bool) (i : Int) (h0 : 0 ≤ i) (h1 : i < p.size) (ho : 0 ≤ o) (ho2 : o ≤ 20) : spec_CheckRegex.l0 (k + 1) p o at_ i =
    (if bt p i = 40 then (if o = 20 then some (3, i) else spec_CheckRegex.l0 k p (o + 1) false (i + 1))
    else if bt p i = 41 then (if o = 0 then some (2, i) else spec_CheckRegex.l0 k p (o - 1) true (i + 1))
    else if bt p i = 124 then spec_CheckRegex.l0 k p o false (i + 1)
    else if isOp (bt p i) = true then (if at_ = true then spec_CheckRegex.l0 k p o at_ (i + 1) else some (2, i))
    else if bt p i = 91 then ((spec_l4Class.f k p i).bind fun b => if b.2.1 = 0 then spec_CheckRegex.l0 k p o true b.1 else some (b.2.1, b.2.2))
    else if bt p i = 93 then some (2, i)
    else if bt p i = 92 then (if i + 1 = p.size then some (2, (p.size : Int)) else spec_CheckRegex.l0 k p o true (i + 2))
    else spec_CheckRegex.l0 k p o true (i + 1)) := by
  have hw1 := wr1 hp h0 (Int.le_of_lt h1)
  have hw2 := wr2 hp h0 (Int.le_of_lt h1)
  have hw3 : wrap64 (o + 1) = o + 1 := wrap_id _ (by omega) (by omega)
  have hw4 : wrap64 (o - 1) = o - 1 := wrap_id _ (by omega) (by omega)
  rw [spec_CheckRegex.l0, if_pos h1, if_pos h0, hw1, hw2, hw3, hw4, l4Op_is hp]
  rfl
theorem sl_end (o : Int) (at_ : Bool) (ho : 0 ≤ o) : SL p o at_ p.size (if o > 0 then (2, (p.size : Int)) else (0, 0)) := by
  refine Ev.step (f := fun _ => some (if o > 0 then (2, (p.size : Int)) else (0, 0))) (fun k => ?_) (Ev.now _)
  rw [spec_CheckRegex.l0, if_neg (by omega)]
  split <;> rfl
/-- Operators behind an atom. -/
theorem ops_spec : ∀ (d : Nat) (j : Int) (x : Rx) (o : Int), 0 ≤ o → o ≤ 20 → 0 ≤ j → j ≤ p.size → (p.size : Int) - j = d →
    ∃ x' j', Ev (fun k => opsF k p j x) (x', j') ∧ j ≤ j' ∧ j' ≤ p.size ∧ (j' < p.size → isOp (bt p j') = false) ∧ ∀ r, SL p o true j' r → SL p o true j r := by
  intro d
  induction d with
  | zero =>
    intro j x o o0 o1 h0 h1 hd
    refine ⟨x, j, Ev.step (f := fun _ => some (x, j)) (fun k => ?_) (Ev.now _), Int.le_refl _, h1, fun h => by omega, fun r h => h⟩
    simp only [opsF]
    rw [if_neg (by omega)]
  | succ d ih =>
    intro j x o o0 o1 h0 h1 hd
    have hlt : j < p.size := by omega
    by_cases hop : isOp (bt p j) = true
    · obtain ⟨x', j', he, a, b, c, hs⟩ := ih (j + 1) (.rep x (bt p j)) o o0 o1 (by omega) (by omega) (by omega)
      refine ⟨x', j', Ev.step (fun k => by simp only [opsF]; rw [if_pos ⟨hlt, hop⟩]) he, by omega, b, c, fun r h => Ev.step (fun k => ?_) (hs r h)⟩
      have hn : bt p j ≠ 40 ∧ bt p j ≠ 41 ∧ bt p j ≠ 124 := by
        refine ⟨fun e => ?_, fun e => ?_, fun e => ?_⟩ <;> (rw [e] at hop; revert hop; decide)
      rw [sl_s hp k o true j h0 hlt o0 o1, if_neg hn.1, if_neg hn.2.1, if_neg hn.2.2, if_pos hop, if_pos rfl]
    · refine ⟨x, j, Ev.step (f := fun _ => some (x, j)) (fun k => ?_) (Ev.now _), Int.le_refl _, h1, fun _ => by simpa using hop, fun r h => h⟩
      simp only [opsF]
      rw [if_neg (fun h => hop h.2)]
def AtomS (p : ByteArray) (i o : Int) (at_ : Bool) : Prop :=
  (∃ c a, Ev (fun k => atomF k p i o) (.error (c, a)) ∧ SL p o at_ i (c, a)) ∨
  (∃ x j, Ev (fun k => atomF k p i o) (.ok (x, j)) ∧ i < j ∧ j ≤ p.size ∧ ∀ r, SL p o true j r → SL p o at_ i r)
def SeqS (p : ByteArray) (i o : Int) (at_ : Bool) : Prop :=
  (∃ c a, (∀ acc, Ev (fun k => seqL k p i o acc) (.error (c, a))) ∧ SL p o at_ i (c, a)) ∨
  (∃ xs j, (∀ acc, Ev (fun k => seqL k p i o acc) (.ok (.seq (acc ++ xs), j))) ∧ i ≤ j ∧ j ≤ p.size ∧ (j < p.size → bt p j = 124 ∨ bt p j = 41) ∧ ∀ r, (∀ b, SL p o b j r) → SL p o at_ i r)
def AltS (p : ByteArray) (i o : Int) : Prop :=
  (∃ c a, (∀ acc, Ev (fun k => altL k p i o acc) (.error (c, a))) ∧ SL p o false i (c, a)) ∨
  (∃ xs j, (∀ acc, Ev (fun k => altL k p i o acc) (.ok (.alt (acc ++ xs), j))) ∧ i ≤ j ∧ j ≤ p.size ∧ (j < p.size → bt p j = 41) ∧ ∀ r, (∀ b, SL p o b j r) → SL p o false i r)
theorem atom_spec (i o : Int) (at_ : Bool) (h0 : 0 ≤ i) (h1 : i < p.size) (o0 : 0 ≤ o) (o1 : o ≤ 20) (hat : at_ = true → isOp (bt p i) = false) (n124 : bt p i ≠ 124) (n41 : bt p i ≠ 41)
    (IH : o < 20 → AltS p (i + 1) (o + 1)) : AtomS p i o at_ := by
  have hsl := fun k b => sl_s hp k o b i h0 h1 o0 o1
  by_cases n40 : bt p i = 40
  · by_cases e20 : o = 20
    · refine .inl ⟨3, i, Ev.step (f := fun _ => some (.error (3, i))) (fun k => by rw [atomF_s, if_pos n40, if_pos e20]) (Ev.now _), Ev.step (f := fun _ => some (3, i)) (fun k => by rw [hsl, if_pos n40, if_pos e20]) (Ev.now _)⟩
    · have ho : o < 20 := by omega
      rcases IH ho with ⟨c, a, ha, hs⟩ | ⟨xs, j, ha, a, b, hj, hs⟩
      · refine .inl ⟨c, a, Ev.step (fun k => by rw [atomF_s, if_pos n40, if_neg e20]) (Ev.obind_err (ha [])), Ev.step (fun k => by rw [hsl, if_pos n40, if_neg e20]) hs⟩
      · by_cases ej : j = p.size
        · refine .inl ⟨2, j, Ev.step (fun k => by rw [atomF_s, if_pos n40, if_neg e20]) (Ev.obind (ha []) (Ev.if_pos ej (Ev.now _))), Ev.step (fun k => by rw [hsl, if_pos n40, if_neg e20]) (hs _ fun b => ?_)⟩
          have := sl_end hp (o + 1) b (by omega)
          rw [if_pos (by omega)] at this
          rw [ej]; exact this
        · have hlt : j < p.size := by omega
          refine .inr ⟨_, j + 1, Ev.step (fun k => by rw [atomF_s, if_pos n40, if_neg e20]) (Ev.obind (ha []) (Ev.if_neg ej (Ev.now _))), by omega, by omega, fun r h => Ev.step (fun k => by rw [hsl, if_pos n40, if_neg e20]) (hs _ fun b => ?_)⟩
          have h41 := hj hlt
          refine Ev.step (fun k => ?_) h
          rw [sl_s hp k (o + 1) b j (by omega) hlt (by omega) (by omega), if_neg (by omega), if_pos h41, if_neg (by omega), show o + 1 - 1 = o by omega]
  · by_cases n91 : bt p i = 91
    · have hop : ¬ isOp (bt p i) = true := by rw [n91]; decide
      obtain ⟨q, hq, h⟩ := class_spec hp h0 h1
      have hA : ∀ k, atomF (k + 1) p i o = obind (claF k p (i + 1)) fun x => some (.ok (.one x.1 0 false, x.2)) := fun k => by rw [atomF_s, if_neg n40, if_pos n91]
      have hS : ∀ k, spec_CheckRegex.l0 (k + 1) p o at_ i = ((spec_l4Class.f k p i).bind fun b => if b.2.1 = 0 then spec_CheckRegex.l0 k p o true b.1 else some (b.2.1, b.2.2)) := fun k => by rw [hsl, if_neg n40, if_neg n41, if_neg n124, if_neg hop, if_pos n91]
      rcases h with ⟨s, j, rfl, hs⟩ | ⟨c, a, rfl, hc, hs⟩
      · obtain ⟨K, hK⟩ := hq
        obtain ⟨a, b, -⟩ := claF_ok (hK K (Nat.le_refl _)) (by omega) (by omega)
        have a' : i + 1 < j := a
        refine .inr ⟨_, j, Ev.step hA (Ev.obind ⟨K, hK⟩ (Ev.now _)), by omega, b, fun r h => Ev.step hS (Ev.bind hs (Ev.if_pos rfl h))⟩
      · refine .inl ⟨c, a, Ev.step hA (Ev.obind_err hq), Ev.step hS (Ev.bind hs (Ev.if_neg hc (Ev.now _)))⟩
    · by_cases n46 : bt p i = 46
      · have hop : ¬ isOp (bt p i) = true := by rw [n46]; decide
        refine .inr ⟨_, i + 1, Ev.step (fun k => by rw [atomF_s, if_neg n40, if_neg n91, if_pos n46]) (Ev.now _), by omega, by omega, fun r h => Ev.step (fun k => ?_) h⟩
        rw [hsl, if_neg n40, if_neg n41, if_neg n124, if_neg hop, if_neg n91, if_neg (by omega), if_neg (by omega)]
      · by_cases hop : isOp (bt p i) = true
        · have hb : at_ = false := by
            cases at_
            · rfl
            · have := hat rfl; rw [hop] at this; cases this
          subst hb
          refine .inl ⟨2, i, Ev.step (fun k => by rw [atomF_s, if_neg n40, if_neg n91, if_neg n46, if_pos (.inl hop)]) (Ev.now _), Ev.step (fun k => ?_) (Ev.now _)⟩
          rw [hsl, if_neg n40, if_neg n41, if_neg n124, if_pos hop, if_neg Bool.false_ne_true]
        · by_cases n93 : bt p i = 93
          · refine .inl ⟨2, i, Ev.step (fun k => by rw [atomF_s, if_neg n40, if_neg n91, if_neg n46, if_pos (.inr n93)]) (Ev.now _), Ev.step (fun k => ?_) (Ev.now _)⟩
            rw [hsl, if_neg n40, if_neg n41, if_neg n124, if_neg hop, if_neg n91, if_pos n93]
          · have hno : ¬ (isOp (bt p i) = true ∨ bt p i = 93) := fun h => h.elim hop n93
            by_cases n92 : bt p i = 92
            · by_cases e1 : i + 1 = p.size
              · refine .inl ⟨2, i + 1, Ev.step (fun k => by rw [atomF_s, if_neg n40, if_neg n91, if_neg n46, if_neg hno, if_pos n92, if_pos e1]) (Ev.now _), Ev.step (fun k => ?_) (Ev.now _)⟩
                rw [hsl, if_neg n40, if_neg n41, if_neg n124, if_neg hop, if_neg n91, if_neg n93, if_pos n92, if_pos e1, e1]
              · refine .inr ⟨_, i + 2, Ev.step (fun k => by rw [atomF_s, if_neg n40, if_neg n91, if_neg n46, if_neg hno, if_pos n92, if_neg e1]) (Ev.now _), by omega, by omega, fun r h => Ev.step (fun k => ?_) h⟩
                rw [hsl, if_neg n40, if_neg n41, if_neg n124, if_neg hop, if_neg n91, if_neg n93, if_pos n92, if_neg e1]
            · refine .inr ⟨_, i + 1, Ev.step (fun k => by rw [atomF_s, if_neg n40, if_neg n91, if_neg n46, if_neg hno, if_neg n92]) (Ev.now _), by omega, by omega, fun r h => Ev.step (fun k => ?_) h⟩
              rw [hsl, if_neg n40, if_neg n41, if_neg n124, if_neg hop, if_neg n91, if_neg n93, if_neg n92]
theorem par_spec : ∀ (d : Nat) (i : Int), 0 ≤ i → i ≤ p.size → (p.size : Int) - i = d → (∀ o at_, 0 ≤ o → o ≤ 20 → (at_ = true → i < p.size → isOp (bt p i) = false) → SeqS p i o at_) ∧ (∀ o, 0 ≤ o → o ≤ 20 → AltS p i o) := by
  intro d
  induction d using Nat.strongRecOn with
  | _ d ih =>
  intro i h0 h1 hd
  have hseq : ∀ o at_, 0 ≤ o → o ≤ 20 → (at_ = true → i < p.size → isOp (bt p i) = false) → SeqS p i o at_ := by
    intro o at_ o0 o1 hat
    by_cases hc : i < p.size ∧ (bt p i ≠ 124 ∧ bt p i ≠ 41)
    · have hS : ∀ k acc, seqL (k + 1) p i o acc = obind (atomF k p i o) fun x => (opsF k p x.2 x.1).bind fun y => seqL k p y.2 o (acc ++ [y.1]) := fun k acc => by rw [seqL_s, if_pos hc]
      rcases atom_spec hp i o at_ h0 hc.1 o0 o1 (fun h => hat h hc.1) hc.2.1 hc.2.2 (fun h20 => (ih ((p.size : Int) - (i + 1)).toNat (by omega) (i + 1) (by omega) (by omega) (by omega)).2 (o + 1) (by omega) (by omega)) with ⟨c, a, ha, hs⟩ | ⟨x, j, ha, a, b, hs⟩
      · exact .inl ⟨c, a, fun acc => Ev.step (fun k => hS k acc) (Ev.obind_err ha), hs⟩
      · obtain ⟨x', j', ho, a2, b2, c2, hs2⟩ := ops_spec hp ((p.size : Int) - j).toNat j x o o0 o1 (by omega) b (by omega)
        rcases (ih ((p.size : Int) - j').toNat (by omega) j' (by omega) b2 (by omega)).1 o true o0 o1 (fun _ h => c2 h) with ⟨c, e, hq, hs3⟩ | ⟨xs, j3, hq, a3, b3, c3, hs3⟩
        · exact .inl ⟨c, e, fun acc => Ev.step (fun k => hS k acc) (Ev.obind ha (Ev.bind ho (hq _))), hs _ (hs2 _ hs3)⟩
        · refine .inr ⟨x' :: xs, j3, fun acc => ?_, by omega, b3, c3, fun r h => hs _ (hs2 _ (hs3 r h))⟩
          have := hq (acc ++ [x'])
          rw [List.append_assoc] at this
          exact Ev.step (fun k => hS k acc) (Ev.obind ha (Ev.bind ho this))
    · refine .inr ⟨[], i, fun acc => ?_, Int.le_refl _, h1, fun hlt => ?_, fun r h => h _⟩
      · rw [List.append_nil]
        exact Ev.step (fun k => by rw [seqL_s, if_neg hc]) (Ev.now _)
      · by_cases e : bt p i = 124
        · exact .inl e
        · by_cases e2 : bt p i = 41
          · exact .inr e2
          · exact absurd ⟨hlt, e, e2⟩ hc
  refine ⟨hseq, fun o o0 o1 => ?_⟩
  rcases hseq o false o0 o1 (fun h => by cases h) with ⟨c, a, hq, hs⟩ | ⟨xs, j, hq, a, b, hj, hs⟩
  · exact .inl ⟨c, a, fun acc => Ev.step (fun k => altL_s k p i o acc) (Ev.obind_err (hq [])), hs⟩
  · by_cases hb : j = p.size ∨ bt p j ≠ 124
    · refine .inr ⟨[.seq xs], j, fun acc => Ev.step (fun k => altL_s k p i o acc) (Ev.obind (hq []) (Ev.if_pos hb (Ev.now _))), a, b, fun hlt => ?_, hs⟩
      rcases hj hlt with h | h
      · rcases hb with h' | h'
        · omega
        · exact absurd h h'
      · exact h
    · have e1 : j < p.size := by
        have : ¬ j = p.size := fun h => hb (.inl h)
        omega
      have e2 : bt p j = 124 := Classical.not_not.mp fun h => hb (.inr h)
      have hbar : ∀ r, SL p o false (j + 1) r → ∀ b, SL p o b j r := fun r h b => Ev.step (fun k => by rw [sl_s hp k o b j (by omega) e1 o0 o1, if_neg (by omega), if_neg (by omega), if_pos e2]) h
      rcases (ih ((p.size : Int) - (j + 1)).toNat (by omega) (j + 1) (by omega) (by omega) (by omega)).2 o o0 o1 with ⟨c, e, ha, hs3⟩ | ⟨ys, j3, ha, a3, b3, c3, hs3⟩
      · exact .inl ⟨c, e, fun acc => Ev.step (fun k => altL_s k p i o acc) (Ev.obind (hq []) (Ev.if_neg hb (ha _))), hs _ (hbar _ hs3)⟩
      · refine .inr ⟨.seq xs :: ys, j3, fun acc => ?_, by omega, b3, c3, fun r h => hs _ (hbar _ (hs3 r h))⟩
        have := ha (acc ++ [.seq xs])
        rw [List.append_assoc] at this
        exact Ev.step (fun k => altL_s k p i o acc) (Ev.obind (hq []) (Ev.if_neg hb this))
end
/-- The program's reading of a pattern and the reference's check tell the same fault. -/
theorem check_spec (p : ByteArray) : ∃ q, Ev (fun k => patR k p) q ∧ Ev (fun k => spec_CheckRegex.f k p) (match q with | .ok _ => (0, 0) | .error x => x) := by
  by_cases hb : 200 < p.size
  · refine ⟨.error (1, 0), ⟨0, fun k _ => ?_⟩, ⟨0, fun k _ => ?_⟩⟩
    · show patR k p = _
      unfold patR; rw [if_pos hb]
    · show spec_CheckRegex.f k p = _
      unfold spec_CheckRegex.f; rw [if_pos (by omega)]
  · have hp : p.size ≤ 200 := by omega
    have hR : ∀ k, patR k p = patF k p := fun k => by unfold patR; rw [if_neg hb]
    have hF : ∀ k, spec_CheckRegex.f k p = spec_CheckRegex.l0 k p 0 false 0 := fun k => by unfold spec_CheckRegex.f; rw [if_neg (by omega)]
    simp only [hR, hF]
    rcases (par_spec hp p.size 0 (Int.le_refl _) (by omega) (by omega)).2 0 (Int.le_refl _) (by omega) with ⟨c, a, ha, hs⟩ | ⟨xs, j, ha, a, b, hj, hs⟩
    · exact ⟨.error (c, a), Ev.obind_err (ha []), hs⟩
    · by_cases e : j < p.size
      · refine ⟨.error (2, j), Ev.obind (ha []) (Ev.if_pos e (Ev.now _)), hs _ fun b => Ev.step (fun k => ?_) (Ev.now _)⟩
        rw [sl_s hp k 0 b j a e (Int.le_refl _) (by omega), if_neg (by have := hj e; omega), if_pos (hj e), if_pos rfl]
      · refine ⟨.ok (.alt ([] ++ xs)), Ev.obind (ha []) (Ev.if_neg e (Ev.now _)), hs _ fun b => ?_⟩
        have := sl_end hp 0 b (Int.le_refl _)
        rw [if_neg (by omega)] at this
        rw [show j = p.size by omega]; exact this
end Go.Proofs.Ytcdpmmpdfdillaa.Q

namespace Go.Proofs.Ytcdpmmpdfdillaa.Q
open Go.RowKit Go.Proofs.YtcdpmmpdfdillaaW.PrintWords Go.Proofs.YtcdpmmpdfdillaaW.PrintLast Go.Proofs.YtcdpmmpdfdillaaW.PrintMore
set_option linter.unusedVariables false
set_option linter.unusedSimpArgs false

/-! ### spec_l4AtomEnd: function 26 -/
mutual
def spec_l4AtomEnd.l0 : Nat → ByteArray → Int → Option (Int)
 | 0, _, _ => none
 | k + 1, x0, x7 => if 0 ≤ x7 then (if x7 < (x0.size : Int) then (if (bt x0 x7) = 41 then (some (wrap64 (x7 + 1))) else (if (bt x0 x7) = 124 then (spec_l4AtomEnd.l0 k x0 (wrap64 (x7 + 1))) else ((spec_l4Op.f (bt x0 x7)).bind fun t118 => (if t118 = true then (spec_l4AtomEnd.l0 k x0 (wrap64 (x7 + 1))) else ((spec_l4AtomEnd.f k x0 x7).bind fun t119 => (spec_l4AtomEnd.l0 k x0 t119)))))) else (none)) else (none)
def spec_l4AtomEnd.f : Nat → ByteArray → Int → Option (Int)
 | 0, _, _ => none
 | k + 1, a0, a1 => if 0 ≤ a1 then (if a1 < (a0.size : Int) then (if (bt a0 a1) = 92 then (some (wrap64 (a1 + 2))) else (if (bt a0 a1) = 91 then ((spec_l4Class.f k a0 a1).bind fun bt114 => (some bt114.1)) else (if (bt a0 a1) = 40 then (spec_l4AtomEnd.l0 k a0 (wrap64 (a1 + 1))) else (some (wrap64 (a1 + 1)))))) else (none)) else (none)
end
set_option maxHeartbeats 8000000 in
set_option maxRecDepth 100000 in
theorem spec_l4AtomEnd.calls (k : Nat) : ∀ (a0 : ByteArray) (a1 : Int) (r : Int) (w : World) (h : spec_l4AtomEnd.f k a0 a1 = some r),
  Calls Try.prog 26 #[.string a0, .int .i64 a1] w fun e w' => e = .returned (.int .i64 r) ∧ Below w.heap.size w w' := by
 induction k using Nat.strongRecOn with
 | _ k ih =>
 intro a0 a1 r w h
 cases k with
 | zero => exact absurd h (by simp [spec_l4AtomEnd.f])
 | succ k =>
 simp only [spec_l4AtomEnd.f] at h
 have hu30 := Try.underlying30
 have HB := Aside0.mk (Below.refl w.heap.size w)
 have H : (if 0 ≤ a1 then (if a1 < (a0.size : Int) then (if (bt a0 a1) = 92 then (some (wrap64 (a1 + 2))) else (if (bt a0 a1) = 91 then ((spec_l4Class.f k a0 a1).bind fun bt114 => (some bt114.1)) else (if (bt a0 a1) = 40 then (spec_l4AtomEnd.l0 k a0 (wrap64 (a1 + 1))) else (some (wrap64 (a1 + 1)))))) else (none)) else (none)) = some r := h
 clear h
 by_cases c3 : 0 ≤ a1
 ·rw [if_pos c3] at H
  have c3b0 : decide (0 ≤ a1) = true := decide_eq_true c3
  clear c3
  by_cases c4 : a1 < (a0.size : Int)
  ·rw [if_pos c4] at H
   have c4b0 : decide (a1 < (a0.size : Int)) = true := decide_eq_true c4
   clear c4
   by_cases c6 : (bt a0 a1) = 92
   ·rw [if_pos c6] at H
    have c6b0 : ((bt a0 a1) == 92) = true := beq_iff_eq.mpr c6
    have c6b1 : ((bt a0 a1) != 92) = false := bne_eq_false_iff_eq.mpr c6
    clear c6
    obtain rfl := Option.some.inj H
    have p5 : 0 ≤ (a1 : Int) := of_decide_eq_true (by first | (with_reducible assumption) | assumption)
    have q5 : a1 < (a0.size : Int) := of_decide_eq_true (by first | (with_reducible assumption) | assumption)
    have hx5 := bt_at a0 a1
    replace p5 := eq_true p5
    replace q5 := eq_true q5
    go_enter Try.func26, Try.ntmps26
    go_wp2
    go_ret
    exact ⟨by first | rfl | (simp [errW_none, errW_some] <;> rfl) | (simp [*, errW_none, errW_some] <;> rfl), bw⟩
   ·rw [if_neg c6] at H
    have c6b0 : ((bt a0 a1) == 92) = false := beq_eq_false_iff_ne.mpr c6
    have c6b1 : ((bt a0 a1) != 92) = true := bne_iff_ne.mpr c6
    by_cases c8 : (bt a0 a1) = 91
    ·rw [if_pos c8] at H
     have c8b0 : ((bt a0 a1) == 91) = true := beq_iff_eq.mpr c8
     have c8b1 : ((bt a0 a1) != 91) = false := bne_eq_false_iff_eq.mpr c8
     clear c8
     replace H := Option.bind_eq_some_iff.mp H
     obtain ⟨⟨t114, t115, t116⟩, A90, H⟩ := H
     replace H : (some t114) = some r := H
     have A9 := Aside0.mk A90
     clear A90
     obtain rfl := Option.some.inj H
     have p5 : 0 ≤ (a1 : Int) := of_decide_eq_true (by first | (with_reducible assumption) | assumption)
     have q5 : a1 < (a0.size : Int) := of_decide_eq_true (by first | (with_reducible assumption) | assumption)
     have hx5 := bt_at a0 a1
     replace p5 := eq_true p5
     replace q5 := eq_true q5
     have p7 : 0 ≤ (a1 : Int) := of_decide_eq_true (by first | (with_reducible assumption) | assumption)
     have q7 : a1 < (a0.size : Int) := of_decide_eq_true (by first | (with_reducible assumption) | assumption)
     have hx7 := bt_at a0 a1
     replace p7 := eq_true p7
     replace q7 := eq_true q7
     go_enter Try.func26, Try.ntmps26
     go_wp2_with (first | ((with_reducible refine at_fn (f := 29) rfl ?_); refine goesL_ (some 21) rfl rfl Try.func29 (by kernel_rfl) rfl #[.string a0, .int .i64 a1] rfl (by (try simp only [List.map_toArray, List.map_cons, List.map_nil]); first | done | rfl | (simp only [List.length_drop, List.length_take]; rfl)) ?_; (with_reducible refine (spec_l4Class.calls k a0 a1 t114 t115 t116 _ A9.out).mono ?_); rintro e w10 ⟨rfl, hb⟩; refine ⟨_, rfl, ?_⟩; have n0_ := Aside0.mk (below_step bw hb); clear HB; have HB := n0_; clear n0_; (try clear hb); (try clear hb2); (try clear hk); (try clear hi)) | ((with_reducible refine gate_dst (N := 6) rfl ?_); refine box_event ?hg (N := 6) ?hd (cs := #[.int .i64 0, .int .i64 0]) (t := 30) ?hr ?_; (case hd => rfl); (case hg => rfl); (case hr => first | (go_simp; done) | (go_simp; rfl)); intro gb117 hg w11 hbox hb; have n0_ := Aside0.mk (below_step bw hb); have n1_ := Aside0.mk (hbox); have n2_ := Aside0.mk ((by rw [hg]; exact (below_size bw) : w.heap.size ≤ gb117)); have n3_ := Aside0.mk ((by rw [hg]; exact (below_size bw) : w.heap.size ≤ gb117)); clear HB; have HB := n0_; have BK117 := n1_; have GW117 := n2_; have GE117 := n3_; clear n0_ n1_ n2_ n3_; clear hb hbox hg; have hcz12_0 : w11.cell? ⟨gb117, 0, none⟩ = some (.int .i64 0) := (blk_cell BK117.out 0).trans rfl; have hcz12_1 : w11.cell? ⟨gb117, 1, none⟩ = some (.int .i64 0) := (blk_cell BK117.out 1).trans rfl; have hfz12_0 := blk_frozen BK117.out 0; have hfz12_1 := blk_frozen BK117.out 1))
     go_ret
     exact ⟨by first | rfl | (simp [errW_none, errW_some] <;> rfl) | (simp [*, errW_none, errW_some] <;> rfl), bw⟩
    ·rw [if_neg c8] at H
     have c8b0 : ((bt a0 a1) == 91) = false := beq_eq_false_iff_ne.mpr c8
     have c8b1 : ((bt a0 a1) != 91) = true := bne_iff_ne.mpr c8
     by_cases c14 : (bt a0 a1) = 40
     ·rw [if_pos c14] at H
      have c14b0 : ((bt a0 a1) == 40) = true := beq_iff_eq.mpr c14
      have c14b1 : ((bt a0 a1) != 40) = false := bne_eq_false_iff_eq.mpr c14
      clear c14
      have H' := Aside0.mk H
      clear H
      have p5 : 0 ≤ (a1 : Int) := of_decide_eq_true (by first | (with_reducible assumption) | assumption)
      have q5 : a1 < (a0.size : Int) := of_decide_eq_true (by first | (with_reducible assumption) | assumption)
      have hx5 := bt_at a0 a1
      replace p5 := eq_true p5
      replace q5 := eq_true q5
      have p7 : 0 ≤ (a1 : Int) := of_decide_eq_true (by first | (with_reducible assumption) | assumption)
      have q7 : a1 < (a0.size : Int) := of_decide_eq_true (by first | (with_reducible assumption) | assumption)
      have hx7 := bt_at a0 a1
      replace p7 := eq_true p7
      replace q7 := eq_true q7
      have p13 : 0 ≤ (a1 : Int) := of_decide_eq_true (by first | (with_reducible assumption) | assumption)
      have q13 : a1 < (a0.size : Int) := of_decide_eq_true (by first | (with_reducible assumption) | assumption)
      have hx13 := bt_at a0 a1
      replace p13 := eq_true p13
      replace q13 := eq_true q13
      go_enter Try.func26, Try.ntmps26
      go_wp2
      go_loopg [7] k (fun kq v7 w' => ∃ (x7_1 : Int), v7 = .int .i64 x7_1 ∧ Aside0 (spec_l4AtomEnd.l0 kq a0 x7_1 = some r) ∧ Aside0 (kq ≤ k) ∧ Aside0 (Below w.heap.size w w'))
      case atStart => exact ⟨(wrap64 (a1 + 1)), (by first | rfl | (simp; done) | (simp [*]; done)), H', ⟨Nat.le_refl _⟩, ⟨bw⟩⟩
      case round =>
       clear H'
       try clear c1
       try clear p1
       try clear q1
       try clear hx1
       try clear c2
       try clear p2
       try clear c3
       try clear c3b0
       try clear c4
       try clear c4b0
       try clear p5
       try clear q5
       try clear hx5
       try clear c6
       try clear c6b0
       try clear c6b1
       try clear p6
       try clear p7
       try clear q7
       try clear hx7
       try clear c8
       try clear c8b0
       try clear c8b1
       try clear p13
       try clear q13
       try clear hx13
       try clear c14
       try clear c14b0
       try clear c14b1
       try clear hcz12_0
       try clear hcz12_1
       try clear hfz12_0
       try clear hfz12_1
       try clear p13
       try clear p5
       try clear p7
       try clear q13
       try clear q5
       try clear q7
       obtain ⟨x7_1, rfl, HA, HK1, HB⟩ := hrel
       cases gk with
       | zero => exact absurd HA.out (by simp [spec_l4AtomEnd.l0])
       | succ k1 =>
        have H := HA.out
        clear HA
        simp only [spec_l4AtomEnd.l0] at H
        by_cases c15 : 0 ≤ x7_1
        ·rw [if_pos c15] at H
         have c15b0 : decide (0 ≤ x7_1) = true := decide_eq_true c15
         clear c15
         by_cases c16 : x7_1 < (a0.size : Int)
         ·rw [if_pos c16] at H
          have c16b0 : decide (x7_1 < (a0.size : Int)) = true := decide_eq_true c16
          clear c16
          by_cases c18 : (bt a0 x7_1) = 41
          ·rw [if_pos c18] at H
           have c18b0 : ((bt a0 x7_1) == 41) = true := beq_iff_eq.mpr c18
           have c18b1 : ((bt a0 x7_1) != 41) = false := bne_eq_false_iff_eq.mpr c18
           clear c18
           obtain rfl := Option.some.inj H
           have p17 : 0 ≤ (x7_1 : Int) := of_decide_eq_true (by first | (with_reducible assumption) | assumption)
           have q17 : x7_1 < (a0.size : Int) := of_decide_eq_true (by first | (with_reducible assumption) | assumption)
           have hx17 := bt_at a0 x7_1
           replace p17 := eq_true p17
           replace q17 := eq_true q17
           go_wp2
           go_ret
           exact ⟨by first | rfl | (simp [errW_none, errW_some] <;> rfl) | (simp [*, errW_none, errW_some] <;> rfl), bw⟩
          ·rw [if_neg c18] at H
           have c18b0 : ((bt a0 x7_1) == 41) = false := beq_eq_false_iff_ne.mpr c18
           have c18b1 : ((bt a0 x7_1) != 41) = true := bne_iff_ne.mpr c18
           by_cases c20 : (bt a0 x7_1) = 124
           ·rw [if_pos c20] at H
            have c20b0 : ((bt a0 x7_1) == 124) = true := beq_iff_eq.mpr c20
            have c20b1 : ((bt a0 x7_1) != 124) = false := bne_eq_false_iff_eq.mpr c20
            clear c20
            have H' := Aside0.mk H
            clear H
            have p17 : 0 ≤ (x7_1 : Int) := of_decide_eq_true (by first | (with_reducible assumption) | assumption)
            have q17 : x7_1 < (a0.size : Int) := of_decide_eq_true (by first | (with_reducible assumption) | assumption)
            have hx17 := bt_at a0 x7_1
            replace p17 := eq_true p17
            replace q17 := eq_true q17
            have p19 : 0 ≤ (x7_1 : Int) := of_decide_eq_true (by first | (with_reducible assumption) | assumption)
            have q19 : x7_1 < (a0.size : Int) := of_decide_eq_true (by first | (with_reducible assumption) | assumption)
            have hx19 := bt_at a0 x7_1
            replace p19 := eq_true p19
            replace q19 := eq_true q19
            go_wp2
            go_roundg k1
            case measure => have := HK1.out; omega
            case rel => exact ⟨(wrap64 (x7_1 + 1)), (by first | rfl | (simp; done) | (simp [*]; done)), H', ⟨by have := HK1.out; omega⟩, ⟨bw⟩⟩
           ·rw [if_neg c20] at H
            have c20b0 : ((bt a0 x7_1) == 124) = false := beq_eq_false_iff_ne.mpr c20
            have c20b1 : ((bt a0 x7_1) != 124) = true := bne_iff_ne.mpr c20
            replace H := Option.bind_eq_some_iff.mp H
            obtain ⟨t118, A220, H⟩ := H
            replace H : (if t118 = true then (spec_l4AtomEnd.l0 k1 a0 (wrap64 (x7_1 + 1))) else ((spec_l4AtomEnd.f k1 a0 x7_1).bind fun t119 => (spec_l4AtomEnd.l0 k1 a0 t119))) = some r := H
            have A22 := Aside0.mk A220
            clear A220
            by_cases c23 : t118 = true
            ·subst c23
             have H1 : (spec_l4AtomEnd.l0 k1 a0 (wrap64 (x7_1 + 1))) = some r := by rw [if_pos rfl] at H; exact H
             clear H
             have H := H1
             clear H1
             have H' := Aside0.mk H
             clear H
             have p17 : 0 ≤ (x7_1 : Int) := of_decide_eq_true (by first | (with_reducible assumption) | assumption)
             have q17 : x7_1 < (a0.size : Int) := of_decide_eq_true (by first | (with_reducible assumption) | assumption)
             have hx17 := bt_at a0 x7_1
             replace p17 := eq_true p17
             replace q17 := eq_true q17
             have p19 : 0 ≤ (x7_1 : Int) := of_decide_eq_true (by first | (with_reducible assumption) | assumption)
             have q19 : x7_1 < (a0.size : Int) := of_decide_eq_true (by first | (with_reducible assumption) | assumption)
             have hx19 := bt_at a0 x7_1
             replace p19 := eq_true p19
             replace q19 := eq_true q19
             have p21 : 0 ≤ (x7_1 : Int) := of_decide_eq_true (by first | (with_reducible assumption) | assumption)
             have q21 : x7_1 < (a0.size : Int) := of_decide_eq_true (by first | (with_reducible assumption) | assumption)
             have hx21 := bt_at a0 x7_1
             replace p21 := eq_true p21
             replace q21 := eq_true q21
             go_wp2_with (first | (go_at_call 28; (with_reducible refine (spec_l4Op.calls (bt a0 x7_1) true _ A22.out).mono ?_); rintro e w' ⟨rfl, ⟨nd, rfl⟩⟩))
             go_roundg k1
             case measure => have := HK1.out; omega
             case rel => exact ⟨(wrap64 (x7_1 + 1)), (by first | rfl | (simp; done) | (simp [*]; done)), H', ⟨by have := HK1.out; omega⟩, ⟨bw⟩⟩
            ·replace c23 := Bool.eq_false_iff.mpr c23
             subst c23
             have H1 : ((spec_l4AtomEnd.f k1 a0 x7_1).bind fun t119 => (spec_l4AtomEnd.l0 k1 a0 t119)) = some r := by rw [if_neg (show ¬ (false = true) by decide)] at H; exact H
             clear H
             have H := H1
             clear H1
             replace H := Option.bind_eq_some_iff.mp H
             obtain ⟨t119, A240, H⟩ := H
             replace H : (spec_l4AtomEnd.l0 k1 a0 t119) = some r := H
             have A24 := Aside0.mk A240
             clear A240
             have H' := Aside0.mk H
             clear H
             have p17 : 0 ≤ (x7_1 : Int) := of_decide_eq_true (by first | (with_reducible assumption) | assumption)
             have q17 : x7_1 < (a0.size : Int) := of_decide_eq_true (by first | (with_reducible assumption) | assumption)
             have hx17 := bt_at a0 x7_1
             replace p17 := eq_true p17
             replace q17 := eq_true q17
             have p19 : 0 ≤ (x7_1 : Int) := of_decide_eq_true (by first | (with_reducible assumption) | assumption)
             have q19 : x7_1 < (a0.size : Int) := of_decide_eq_true (by first | (with_reducible assumption) | assumption)
             have hx19 := bt_at a0 x7_1
             replace p19 := eq_true p19
             replace q19 := eq_true q19
             have p21 : 0 ≤ (x7_1 : Int) := of_decide_eq_true (by first | (with_reducible assumption) | assumption)
             have q21 : x7_1 < (a0.size : Int) := of_decide_eq_true (by first | (with_reducible assumption) | assumption)
             have hx21 := bt_at a0 x7_1
             replace p21 := eq_true p21
             replace q21 := eq_true q21
             go_wp2_with (first | (go_at_call 28; (with_reducible refine (spec_l4Op.calls (bt a0 x7_1) false _ A22.out).mono ?_); rintro e w' ⟨rfl, ⟨nd, rfl⟩⟩) | ((with_reducible refine at_fn (f := 26) rfl ?_); refine goesL_ (some 51) rfl rfl Try.func26 (by kernel_rfl) rfl #[.string a0, .int .i64 x7_1] rfl (by (try simp only [List.map_toArray, List.map_cons, List.map_nil]); first | done | rfl | (simp only [List.length_drop, List.length_take]; rfl)) ?_; (with_reducible refine (ih k1 (by have := HK1.out; omega) a0 x7_1 t119 _ A24.out).mono ?_); rintro e w25 ⟨rfl, hb⟩; refine ⟨_, rfl, ?_⟩; have n0_ := Aside0.mk (below_step bw hb); clear HB; have HB := n0_; clear n0_; (try clear hb); (try clear hb2); (try clear hk); (try clear hi)))
             go_roundg k1
             case measure => have := HK1.out; omega
             case rel => exact ⟨(t119), (by first | rfl | (simp; done) | (simp [*]; done)), H', ⟨by have := HK1.out; omega⟩, ⟨bw⟩⟩
         ·rw [if_neg c16] at H
          exact absurd H (by simp)
        ·rw [if_neg c15] at H
         exact absurd H (by simp)
     ·rw [if_neg c14] at H
      have c14b0 : ((bt a0 a1) == 40) = false := beq_eq_false_iff_ne.mpr c14
      have c14b1 : ((bt a0 a1) != 40) = true := bne_iff_ne.mpr c14
      obtain rfl := Option.some.inj H
      have p5 : 0 ≤ (a1 : Int) := of_decide_eq_true (by first | (with_reducible assumption) | assumption)
      have q5 : a1 < (a0.size : Int) := of_decide_eq_true (by first | (with_reducible assumption) | assumption)
      have hx5 := bt_at a0 a1
      replace p5 := eq_true p5
      replace q5 := eq_true q5
      have p7 : 0 ≤ (a1 : Int) := of_decide_eq_true (by first | (with_reducible assumption) | assumption)
      have q7 : a1 < (a0.size : Int) := of_decide_eq_true (by first | (with_reducible assumption) | assumption)
      have hx7 := bt_at a0 a1
      replace p7 := eq_true p7
      replace q7 := eq_true q7
      have p13 : 0 ≤ (a1 : Int) := of_decide_eq_true (by first | (with_reducible assumption) | assumption)
      have q13 : a1 < (a0.size : Int) := of_decide_eq_true (by first | (with_reducible assumption) | assumption)
      have hx13 := bt_at a0 a1
      replace p13 := eq_true p13
      replace q13 := eq_true q13
      go_enter Try.func26, Try.ntmps26
      go_wp2
      go_ret
      exact ⟨by first | rfl | (simp [errW_none, errW_some] <;> rfl) | (simp [*, errW_none, errW_some] <;> rfl), bw⟩
  ·rw [if_neg c4] at H
   exact absurd H (by simp)
 ·rw [if_neg c3] at H
  exact absurd H (by simp)

end Go.Proofs.Ytcdpmmpdfdillaa.Q
