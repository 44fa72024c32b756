/- FnExactValidFilter: the row of the law: its arguments opened, its walk, its statement over lists (PrFnExactValidFilter). No condition. -/
import Derived.Test.YtcfbbbilonignaaCFnExactValidFilter4
import Derived.WalkSpells
import Derived.Test.YtcfbbbilonignaaRows
import Derived.WalkKit
import Derived.ProofKit
import Derived.OpenShut
import Derived.ShutString
import Derived.ChangeOld
import Derived.Below
import Derived.SizedLaws

namespace Go.Proofs.Ytcfbbbilonignaa.Q
open Go.RowKit Go.Proofs.YtcfbbbilonignaaW.PrintWords Go.Proofs.YtcfbbbilonignaaW.PrintLast Go.Proofs.YtcfbbbilonignaaW.PrintMore
set_option linter.unusedVariables false
set_option linter.unusedSimpArgs false
theorem info70_is : (Try.prog.info? 70).map (fun i => (i.zero, i.size, i.bytes)) = some (some (.pointer none), 1, 8) := by kernel_rfl
theorem grown_own_below {w w2 : World} {o : Obj} (hg : (w.alloc o).grownBy w2 (some w.heap.size)) : Below w.heap.size w w2 :=
  ⟨hg.os, hg.tape, hg.output, by have := hg.size; rw [sz_al] at this; omega, fun k hk => (hg.block k (by rw [sz_al]; omega) (fun e => by cases e; omega)).trans (heap_alloc_old w _ hk)⟩
theorem nil152 (a : Option Addr) (n c : Nat) (W : World) : (binOp .eql 152 (.slice a n c) (.slice none 0 0)).run Try.prog W = .ok (.bool a.isNone) W := Lib.run_eql_slice_nil W 152 70 a n c 0 0 Try.underlying152
set_option maxRecDepth 100000 in
theorem clone_nil (w : World) : Calls Try.prog 97 #[.slice none 0 0] w fun e w' => e = .returned (.slice none 0 0) ∧ w' = w := by
  have hE := nil152
  go_enter Try.func97, Try.ntmps97
  go_wp2
  go_ret
  exact ⟨rfl, rfl⟩
set_option maxHeartbeats 4000000 in
set_option maxRecDepth 100000 in
theorem clone_call (ad : Addr) (m c : Nat) (news : List Value) (w : World) (hl : news.length = m) (hn : ∀ j u, news[j]? = some u → w.cell? (ad.add j) = some u) (h1 : ∀ u ∈ news, u.oneCell' = true) (hm : m ≤ 1000) :
    Calls Try.prog 97 #[.slice (some ad) m c] w fun e w' => ∃ v, e = .returned v ∧ w'.ownsRow w.heap.size 70 1 v m news ∧ Below w.heap.size w w' := by
  have kr : K0 (Below w.heap.size w w) := ⟨Below.refl _ _⟩
  obtain ⟨i0, hi, hz0, hz1, hz2⟩ := info_parts info70_is
  have HI := Aside0.mk hi
  have HZ := Aside0.mk (And.intro hz0 (And.intro hz1 hz2))
  have hown : (w.alloc (.cells #[] 70)).ownsRow w.heap.size 70 1 (.slice (some ⟨w.heap.size, 0, none⟩) 0 0) 0 [] :=
    ⟨rfl, .inr ⟨w.heap.size, 0, _, rfl, Nat.le_refl _, heap_alloc_new _ _, Nat.le_refl _, by decide, rfl, rfl⟩⟩
  have hn2 : ∀ j u, news[j]? = some u → (w.alloc (.cells #[] 70)).cell? (ad.add j) = some u := fun j u hj => clk (hn j u hj) _
  have HN := Aside0.mk hn2
  have HL := Aside0.mk (show news.length = m * 1 from by omega)
  have HO := Aside0.mk hown
  have H1 := Aside0.mk h1
  have HC3 := Aside0.mk (show 0 + m ≤ maxLen from by simp only [maxLen]; omega)
  have HC4 := Aside0.mk (show (0 + m) * 8 ≤ 140737488355328 from by omega)
  clear hn hn2 hl hown h1 hi hz0 hz1 hz2 kr
  have hE := nil152
  go_enter Try.func97, Try.ntmps97
  go_wp2_with (at_builtin; refine wpList_append_at rfl (.tmp 5) (.tmp 6) 152 rfl w.heap.size 70 i0 (.pointer none) 1 8 Try.underlying152 HI.out HZ.out.1 HZ.out.2.1 HZ.out.2.2 rfl (by decide) _ 0 [] rfl HO.out ad m c news rfl HL.out HN.out H1.out HC3.out HC4.out (by rw [sz_al]; omega) ?_; intro v2 w2 hown hgr hloc; have HG := Aside0.mk (And.intro hown hgr); clear hown hgr hloc)
  go_ret
  refine ⟨v2, rfl, ?_, grown_own_below HG.out.2⟩
  have := HG.out.1
  rw [Nat.zero_add, List.nil_append] at this
  exact this
/-- The stack of trees under way. -/
def StkT (w : World) (B : Nat) (st : List Tr) (v : Value) (vs : List Value) : Prop :=
  w.ownsRow B 70 1 v vs.length vs ∧ RepTs w (fun k => B ≤ k ∧ v.ownBlock ≠ some k) st vs
def oneTree (o : Option (List Tr)) (w : World) (B : Nat) (v : Value) : Prop :=
  match o with
  | some [t] => RepT w (fun k => B ≤ k) t v
  | _ => v = .pointer none
theorem own_cut {w : World} {b e g n m c k : Nat} {xs : List Value} (h : w.ownsRow b e 1 (.slice (some ⟨g, 0, none⟩) n c) m xs) (hk : k ≤ m) : w.ownsRow b e 1 (.slice (some ⟨g, 0, none⟩) k c) k (xs.take k) := by
  obtain ⟨hl, h⟩ := h
  rcases h with ⟨e1, -⟩ | ⟨g', cap, cur, e1, hg, hh, h1, h2, h3, h4⟩
  · cases e1
  · cases e1
    refine ⟨by rw [List.length_take]; omega, .inr ⟨g, c, cur, rfl, hg, hh, by omega, h2, h3, ?_⟩⟩
    rw [← h4, List.take_take]
    congr 1; omega
theorem grown_below2 {w w1 w2 : World} {o : Obj} {row : Option Nat} (h : Below w.heap.size w w1) (hg : (w1.alloc o).grownBy w2 row) (hr : ∀ k, row = some k → w.heap.size ≤ k) : Below w.heap.size w w2 :=
  h.trans ⟨hg.os, hg.tape, hg.output, by have := hg.size; rw [sz_al] at this; omega, fun k hk => (hg.block k (by rw [sz_al]; have := h.size; omega) (fun e => by have := hr k e.symm; omega)).trans (heap_alloc_old w1 _ (by have := h.size; omega))⟩
theorem stk_push {W4 w' : World} {B k : Nat} {st : List Tr} {sv cut v' ptr : Value} {svs : List Value} {t : Tr}
    (hS : RepTs W4 (fun b => B ≤ b ∧ sv.ownBlock ≠ some b) st svs) (ht : RepT W4 (fun b => B ≤ b ∧ sv.ownBlock ≠ some b) t ptr) (hcut : ∀ b, cut.ownBlock = some b → sv.ownBlock = some b)
    (hk : (svs.take k).length = k) (ho : w'.ownsRow B 70 1 v' (k + 1) (svs.take k ++ [ptr])) (hg : (W4.alloc (.cells #[ptr] 70)).grownBy w' cut.ownBlock)
    (hl : ∀ b, v'.ownBlock = some b → cut.ownBlock = some b ∨ (W4.alloc (.cells #[ptr] 70)).heap.size ≤ b) : StkT w' B (st.take k ++ [t]) v' (svs.take k ++ [ptr]) := by
  have hsz := sz_al W4 (.cells #[ptr] 70)
  have hm : ∀ b, (B ≤ b ∧ sv.ownBlock ≠ some b) → b < W4.heap.size → (B ≤ b ∧ v'.ownBlock ≠ some b) ∧ w'.heap[b]? = W4.heap[b]? := by
    intro b ⟨h1, h2⟩ h3
    refine ⟨⟨h1, fun e => ?_⟩, ?_⟩
    · rcases hl b e with h | h
      · exact h2 (hcut b h)
      · omega
    · exact (hg.block b (by omega) (fun e => h2 (hcut b e.symm))).trans (heap_alloc_old W4 _ h3)
  refine ⟨?_, RepTs_app _ _ _ _ (RepTs_take _ _ k (RepTs_move hm _ _ hS)) ?_⟩
  · rw [List.length_append, hk]; exact ho
  · unfold RepTs
    exact ⟨ptr, [], rfl, RepT_move hm _ _ ht, by unfold RepTs; rfl⟩
theorem stk_node {wr wt W3 : World} {B k n : Nat} {st : List Tr} {sv u : Value} {svs : List Value} (x : S66) (hS : StkT wr B st sv svs) (hmv : ∀ b, b < wr.heap.size → wt.heap[b]? = wr.heap[b]?) (hsz : wr.heap.size ≤ wt.heap.size) (hB : B ≤ wt.heap.size)
    (h3 : Below wt.heap.size wt W3) (hu : W3.ownsRow wt.heap.size 70 1 u n (svs.drop k)) (hn : (svs.drop k).length = n) :
    RepTs (W3.alloc (.cells (nodeV x u) 155)) (fun b => B ≤ b ∧ sv.ownBlock ≠ some b) st svs ∧ RepT (W3.alloc (.cells (nodeV x u) 155)) (fun b => B ≤ b ∧ sv.ownBlock ≠ some b) (.node x (st.drop k)) (.pointer (some ⟨W3.heap.size, 0, none⟩)) ∧ (W3.alloc (.cells (nodeV x u) 155)).ownsRow B 70 1 sv svs.length svs ∧ Below wt.heap.size wt (W3.alloc (.cells (nodeV x u) 155)) := by
  subst hn
  have hm : ∀ b, b < wr.heap.size → (W3.alloc (.cells (nodeV x u) 155)).heap[b]? = wr.heap[b]? := fun b hb =>
    ((heap_alloc_old W3 _ (by have := h3.size; omega)).trans (h3.block b (by omega))).trans (hmv b hb)
  have hg : ∀ b, sv.ownBlock = some b → b < wr.heap.size := fun b hb => (hS.1.lt b hb).2
  have h6 := RepTs_move (w1 := W3.alloc (.cells (nodeV x u) 155)) (ok' := fun b => B ≤ b ∧ sv.ownBlock ≠ some b) (fun b hb hl => ⟨hb, hm b hl⟩) _ _ hS.2
  refine ⟨h6, ?_, own_move hS.1 (fun b hb => hm b (hg b hb)), Below.alloc h3 h3.size _⟩
  unfold RepT
  refine ⟨W3.heap.size, u, svs.drop k, rfl, ⟨by have := h3.size; omega, fun e => by have := hg _ e; have := h3.size; omega⟩, heap_alloc_new _ _, ?_, ?_, RepTs_drop _ _ k h6⟩
  · exact own_lower (own_move hu (fun b hb => heap_alloc_old _ _ (hu.lt b hb).2)) (Nat.zero_le _)
  · intro b hb
    have := (hu.lt b hb).1
    exact ⟨by omega, fun e => by have := hg _ e; omega⟩
set_option maxHeartbeats 4000000 in
set_option maxRecDepth 100000 in
theorem treeOf_call (A : Option Addr) (c : Nat) (ns : List S66) (w : World) (hr : Kd.C k66 w A ns.length ns) (hc : ns.length ≤ c) (hn : ns.length ≤ 1000) :
    Calls Try.prog 63 #[.slice A ns.length c] w fun e w' => ∃ v, e = .returned v ∧ oneTree (treesOf ns []) w' w.heap.size v ∧ Below w.heap.size w w' := by
  have kr : K0 (Below w.heap.size w w) := ⟨Below.refl _ _⟩
  have HR := Aside0.mk hr
  have HC := Aside0.mk hc
  obtain ⟨R, hR⟩ : ∃ R, treesOf ns [] = R := ⟨_, rfl⟩
  rw [hR]
  obtain ⟨i0, hi, hz0, hz1, hz2⟩ := info_parts info70_is
  have HI := Aside0.mk hi
  have HZ := Aside0.mk (And.intro hz0 (And.intro hz1 hz2))
  have HGO := Aside0.mk (show treesOf (ns.drop 0) [] = R from hR)
  have HS := Aside0.mk (show StkT w w.heap.size [] (.slice none 0 0) [] from ⟨World.ownsRow_nil _ _ _ _, by unfold RepTs; rfl⟩)
  clear hr hc hR hi hz0 hz1 hz2
  go_enter Try.func63, Try.ntmps63
  go_wp2_with fail
  go_loopw [3, 10] (fun v3 v10 W => ∃ (j : Nat) (st : List Tr) (svs : List Value), j ≤ ns.length ∧ v10 = .int .i64 j ∧ Aside0 (treesOf (ns.drop j) st = R) ∧ Aside0 (StkT W w.heap.size st v3 svs) ∧ Aside0 (st.length ≤ j) ∧ Aside0 (Below w.heap.size w W)) (fun _ v10 _ => ns.length - (intOf v10).toNat)
  case atStart => exact ⟨0, [], [], by omega, rfl, HGO, HS, ⟨Nat.le_refl _⟩, ⟨kk⟩⟩
  case round =>
    clear HGO HS kr
    obtain ⟨j, st, svs, hj, rfl, HGO, HS, HJ, HB⟩ := hrel
    have kW : K0 (Below w.heap.size w wr) := ⟨HB.out⟩
    have hsl := RepTs_len _ _ HS.out.2
    obtain ⟨A3, m3, c3, rfl⟩ := own_sl HS.out.1
    have hm3 : m3 = st.length := by
      rcases HS.out.1.2 with ⟨e, h0⟩ | ⟨g, cap, cur, e, _⟩
      · cases e; omega
      · cases e; omega
    subst hm3
    by_cases hlt : j < ns.length
    · obtain ⟨ad, e0, hx⟩ := at_T66 HR.out (j : Int) (by omega) (by omega)
      subst e0
      rw [Int.toNat_natCast] at hx
      obtain ⟨x, hX⟩ : ∃ x, rd_T66 ns (j : Int) = x := ⟨_, rfl⟩
      have hgo := HGO.out
      rw [List.drop_eq_getElem_cons hlt, show ns[j] = x from by rw [← hX]; unfold rd_T66; rw [Int.toNat_natCast]; simp [hlt]] at hgo
      rw [hX] at hx
      obtain ⟨x0, x1, x2, x3, x4, x5, x6⟩ := hx
      have x0 := clk x0
      have x1 := clk x1
      have x2 := clk x2
      have x3 := clk x3
      have x4 := clk x4
      have x5 := clk x5
      have x6 := clk x6
      have hjj := HJ.out
      have ha := arB_nn x.f0
      have ha3 := arB_le x.f0
      go_upto_region 5 with (fail)
      clear x0 x1 x2 x3 x4 x5 x6
      have hwt : Below w.heap.size w (wr.alloc (.cells #[.int .i64 x.f0, .string x.f1, .bool x.f2, .string x.f3, .int .u64 x.f4, .int .u64 x.f5, .int .i64 x.f6] 66)) := kk
      have hh := heap_alloc_new wr (.cells #[.int .i64 x.f0, .string x.f1, .bool x.f2, .string x.f3, .int .u64 x.f4, .int .u64 x.f5, .int .i64 x.f6] 66)
      have hmv : ∀ k, k < wr.heap.size → (wr.alloc (.cells #[.int .i64 x.f0, .string x.f1, .bool x.f2, .string x.f3, .int .u64 x.f4, .int .u64 x.f5, .int .i64 x.f6] 66)).heap[k]? = wr.heap[k]? := fun k hk => heap_alloc_old _ _ hk
      have hwz := sz_al wr (.cells #[.int .i64 x.f0, .string x.f1, .bool x.f2, .string x.f3, .int .u64 x.f4, .int .u64 x.f5, .int .i64 x.f6] 66)
      generalize wr.alloc (.cells #[.int .i64 x.f0, .string x.f1, .bool x.f2, .string x.f3, .int .u64 x.f4, .int .u64 x.f5, .int .i64 x.f6] 66) = wt at *
      have z0 : wt.cell? ⟨wr.heap.size, 0, none⟩ = some (.int .i64 x.f0) := (blk_cell hh 0).trans rfl
      have z1 : wt.cell? ⟨wr.heap.size, 1, none⟩ = some (.string x.f1) := (blk_cell hh 1).trans rfl
      have z2 : wt.cell? ⟨wr.heap.size, 2, none⟩ = some (.bool x.f2) := (blk_cell hh 2).trans rfl
      have z3 : wt.cell? ⟨wr.heap.size, 3, none⟩ = some (.string x.f3) := (blk_cell hh 3).trans rfl
      have z4 : wt.cell? ⟨wr.heap.size, 4, none⟩ = some (.int .u64 x.f4) := (blk_cell hh 4).trans rfl
      have z5 : wt.cell? ⟨wr.heap.size, 5, none⟩ = some (.int .u64 x.f5) := (blk_cell hh 5).trans rfl
      have z6 : wt.cell? ⟨wr.heap.size, 6, none⟩ = some (.int .i64 x.f6) := (blk_cell hh 6).trans rfl
      have z0 := clk z0
      have z1 := clk z1
      have z2 := clk z2
      have z3 := clk z3
      have z4 := clk z4
      have z5 := clk z5
      have z6 := clk z6
      have kt : K0 (Below wt.heap.size wt wt) := ⟨Below.refl _ _⟩
      have HWT := Aside0.mk hwt
      have HMV := Aside0.mk hmv
      clear hwt hmv hh kW
      go_wp2_with fail
      refine (impl_Node_arity.calls 1 x.f0 x.f1 x.f2 x.f3 x.f4 x.f5 x.f6 (arB x.f0) wt (ar_impl ..)).mono ?_
      rintro e W2 ⟨rfl, hb2⟩
      have k2 : K0 (Below wt.heap.size wt W2) := ⟨hb2⟩
      have HB2 := Aside0.mk hb2
      have tr1 : ∀ W [K0 (Below wt.heap.size wt W)], K0 (Below w.heap.size w W) := fun W k => ⟨HWT.out.trans (k.out.mono HWT.out.size)⟩
      clear hb2 kt
      obtain ⟨q, hq⟩ : ∃ q : Nat, arB x.f0 = q := ⟨(arB x.f0).toNat, by omega⟩
      simp only [treesOf, pushT] at hgo
      rw [hq] at hgo ha ha3 ⊢
      by_cases hlt2 : (st.length : Int) < q
      · rw [if_pos hlt2] at hgo
        obtain rfl : R = none := by rw [← hgo]; rfl
        have d1 : decide ((st.length : Int) - (q : Int) < 0) = true := decide_eq_true (by omega)
        go_wp2
        go_ret
        exact ⟨.pointer none, rfl, rfl, kk⟩
      rw [if_neg hlt2, Int.toNat_natCast, Option.bind_some] at hgo
      obtain ⟨k, hk⟩ : ∃ k, st.length = k + q := ⟨st.length - q, by omega⟩
      rw [show st.length - q = k by omega] at hgo
      have HGO2 := Aside0.mk hgo
      have hsub : (st.length : Int) - (q : Int) = (k : Int) := by omega
      clear hgo HGO
      go_upto_region 6 with (fail)
      try rw [hsub]
      have d1 : decide ((k : Int) < 0) = false := decide_eq_false (by omega)
      clear d1
      go_upto_region 8 with (fail)
      have hkl : k ≤ st.length := by omega
      rcases HS.out.1.2 with ⟨e, h0⟩ | ⟨g, cap, cur, e, hg, hh, h1, h2, h3, h4⟩
      case' inl =>
        injection e with e1 e2 e3
        subst e1 e3
        obtain rfl : k = 0 := by omega
        obtain rfl : q = 0 := by omega
      case' inr =>
        injection e with e1 e2 e3
        subst e1 e3
        have q1 : k ≤ c3 := by omega
        have q2 : k + q ≤ c3 := by omega
        have q3 : (k : Int) ≤ (k : Int) + (q : Int) := by omega
      all_goals (
        refine sq_region (S := fun W' => K0 (Below wt.heap.size wt W')) [(0, false), (1, false), (2, false), (3, false), (4, true), (5, false), (6, true), (7, false)] (by kernel_rfl) (by kernel_rfl) (by exact inferInstance) (fun hS => ?_)
        repeat (first | (refine sq_n ?_ ?_ rfl ?_ ?_ ?_; rotate_left 2; (intro W hW; go_simp; first | done | with_reducible rfl); (simp only [List.setIfInBounds_toArray, List.set_cons_zero, List.set_cons_succ]; try rfl)) | (refine sq_g ?_ ?_ rfl rfl rfl ?_ ?_ ?_; rotate_left 2; (intro W hW; go_simp; first | done | with_reducible rfl); (simp only [List.setIfInBounds_toArray, List.set_cons_zero, List.set_cons_succ]; try rfl))))
      case' inl =>
        have hnil : svs = [] := List.eq_nil_of_length_eq_zero (by omega)
        refine sq_1n rfl (fun hS K hK => ?_)
        go_simp
        go_at_call 97
        refine (clone_nil _).mono ?_
        rintro e W3 ⟨rfl, rfl⟩
        have F1 := Aside0.mk (show W2.drew.ownsRow wt.heap.size 70 1 (.slice none 0 0) 0 (svs.drop 0) from by rw [hnil]; exact World.ownsRow_nil _ _ _ _)
        have k3 : K0 (Below wt.heap.size wt W2.drew) := hS
        refine hK.out _ _ k3 (fun hS => ?_)
        generalize W2.drew = W3 at *
        have hv2 : ∃ v2, Value.slice none 0 0 = v2 := ⟨_, rfl⟩
      case' inr =>
        obtain ⟨ad3, hif⟩ : ∃ ad3, (if c3 = k then some (⟨g, 0, none⟩ : Addr) else some ⟨g, k, none⟩) = some ad3 := by split <;> exact ⟨_, rfl⟩
        rw [hif]
        have hcells : ∀ (i : Nat) (u : Value), (svs.drop k)[i]? = some u → wt.cell? (ad3.add i) = some u := by
          intro i u hi
          have hlt5 := (List.getElem?_eq_some_iff.mp hi).1
          rw [List.length_drop] at hlt5
          rw [if_neg (by omega)] at hif
          cases hif
          rw [List.getElem?_drop] at hi
          obtain ⟨g', e', hcl, -⟩ := own_cell (own_move HS.out.1 (fun b hb => HMV.out b (HS.out.1.lt b hb).2)) hi
          cases e'
          rw [show (⟨g, k, none⟩ : Addr).add i = ⟨g, k + i, none⟩ from by simp [Addr.add]]
          exact hcl
        have hones : ∀ u ∈ svs.drop k, u.oneCell' = true := fun u hu => RepTs_one _ _ HS.out.2 u (List.mem_of_mem_drop hu)
        refine sq_1n rfl (fun hS K hK => ?_)
        go_simp
        go_at_call 97
        refine (clone_call ad3 q (c3 - k) (svs.drop k) _ (by rw [List.length_drop]; omega) (fun i u hi => clk (hcells i u hi) _) hones (by omega)).mono ?_
        rintro e W3 ⟨v2, rfl, ho3, hb3⟩
        obtain ⟨A4, m4, c4, rfl⟩ := own_sl ho3
        have k3 : K0 (Below wt.heap.size wt W3) := ⟨hS.out.trans (hb3.mono hS.out.size)⟩
        have F1 := Aside0.mk (own_lower ho3 hS.out.size)
        refine hK.out _ _ k3 (fun hS => ?_)
        clear ho3 hb3 hcells hones
      all_goals (
        repeat (first | (refine sq_n ?_ ?_ rfl ?_ ?_ ?_; rotate_left 2; (intro W hW; go_simp; first | done | with_reducible rfl); (simp only [List.setIfInBounds_toArray, List.set_cons_zero, List.set_cons_succ]; try rfl)) | (refine sq_g ?_ ?_ rfl rfl rfl ?_ ?_ ?_; rotate_left 2; (intro W hW; go_simp; first | done | with_reducible rfl); (simp only [List.setIfInBounds_toArray, List.set_cons_zero, List.set_cons_succ]; try rfl)))
        refine sq_1n rfl (fun hS K2 hK2 => ?_)
        go_wp2_with fail
        refine hK2.out _ _ inferInstance (fun hS => ?_)
        repeat (first | (refine sq_n ?_ ?_ rfl ?_ ?_ ?_; rotate_left 2; (intro W hW; go_simp; first | done | with_reducible rfl); (simp only [List.setIfInBounds_toArray, List.set_cons_zero, List.set_cons_succ]; try rfl)) | (refine sq_g ?_ ?_ rfl rfl rfl ?_ ?_ ?_; rotate_left 2; (intro W hW; go_simp; first | done | with_reducible rfl); (simp only [List.setIfInBounds_toArray, List.set_cons_zero, List.set_cons_succ]; try rfl)))
        refine sq_done (fun hS => ?_))
      case' inl =>
        have HF := Aside0.mk (stk_node x HS.out HMV.out (by omega) (by have := HWT.out.size; omega) k3.out F1.out (by simp [hnil]))
        have HCUT := Aside0.mk (fun (W : World) (hW : W.ownsRow w.heap.size 70 1 (Value.slice none st.length 0) svs.length svs) => (by rw [hnil]; exact World.ownsRow_nil _ _ _ _ : W.ownsRow w.heap.size 70 1 (Value.slice none 0 0) 0 (svs.take 0)))
      case' inr =>
        have HF := Aside0.mk (stk_node x HS.out HMV.out (by omega) (by have := HWT.out.size; omega) k3.out F1.out (by rw [List.length_drop]; omega))
        have HCUT := Aside0.mk (fun (W : World) (hW : W.ownsRow w.heap.size 70 1 (Value.slice (some ⟨g, 0, none⟩) st.length c3) svs.length svs) => own_cut hW (show k ≤ svs.length by omega))
      all_goals (
        unfold nodeV at HF)
      case' inl =>
        generalize W3.alloc (.cells #[.int .i64 x.f0, .string x.f1, .bool x.f2, .string x.f3, .int .u64 x.f4, .int .u64 x.f5, .int .i64 x.f6, .slice none 0 0] 155) = W4 at *
      case' inr =>
        generalize W3.alloc (.cells #[.int .i64 x.f0, .string x.f1, .bool x.f2, .string x.f3, .int .u64 x.f4, .int .u64 x.f5, .int .i64 x.f6, .slice A4 m4 c4] 155) = W4 at *
      all_goals (
        generalize hptr : W3.heap.size = ptr at *
        have HO4 := Aside0.mk (HCUT.out _ (HF.out.2.2.1.alloc (.cells #[.pointer (some ⟨ptr, 0, none⟩)] 70)))
        have hc1 : ∀ i u, ([.pointer (some ⟨ptr, 0, none⟩)] : List Value)[i]? = some u → (W4.alloc (.cells #[.pointer (some ⟨ptr, 0, none⟩)] 70)).cell? ((⟨W4.heap.size, 0, none⟩ : Addr).add i) = some u := by
          intro i u hi
          rcases i with _ | i
          · cases hi
            exact cell_of_row _ W4.heap.size 0 _ 70 _ (heap_alloc_new _ _)
          · simp at hi
        have HC1 := Aside0.mk hc1
        have HC2 := Aside0.mk (show ∀ u ∈ ([.pointer (some ⟨ptr, 0, none⟩)] : List Value), u.oneCell' = true from by simp [Value.oneCell'])
        have HC5 := Aside0.mk (show w.heap.size ≤ (W4.alloc (.cells #[.pointer (some ⟨ptr, 0, none⟩)] 70)).heap.size from by rw [sz_al]; have := HF.out.2.2.2.size; have := HWT.out.size; omega)
        clear hc1)
      case' inl =>
        have HC3 := Aside0.mk (show 0 + 1 ≤ maxLen from by simp only [maxLen]; omega)
        have HC4 := Aside0.mk (show (0 + 1) * 8 ≤ 140737488355328 from by omega)
        go_wp2_with (at_builtin; refine wpList_append_at rfl (.tmp 30) (.tmp 32) 152 rfl w.heap.size 70 i0 (.pointer none) 1 8 Try.underlying152 HI.out HZ.out.1 HZ.out.2.1 HZ.out.2.2 rfl (by decide) (.slice none 0 0) 0 (svs.take 0) rfl HO4.out ⟨W4.heap.size, 0, none⟩ 1 1 [.pointer (some ⟨ptr, 0, none⟩)] rfl rfl HC1.out HC2.out HC3.out HC4.out HC5.out ?_; intro v5 w5 hown hgr hloc; have HG := Aside0.mk (stk_push HF.out.1 HF.out.2.1 (fun b hb => hb) rfl hown hgr hloc); have HGR := Aside0.mk (grown_below2 (tr1 _).out hgr (fun b hb => by cases hb)); clear hown hgr hloc)
      case' inr =>
        have HC3 := Aside0.mk (show k + 1 ≤ maxLen from by simp only [maxLen]; omega)
        have HC4 := Aside0.mk (show (k + 1) * 8 ≤ 140737488355328 from by omega)
        go_wp2_with (at_builtin; refine wpList_append_at rfl (.tmp 30) (.tmp 32) 152 rfl w.heap.size 70 i0 (.pointer none) 1 8 Try.underlying152 HI.out HZ.out.1 HZ.out.2.1 HZ.out.2.2 rfl (by decide) (.slice (some ⟨g, 0, none⟩) k c3) k (svs.take k) rfl HO4.out ⟨W4.heap.size, 0, none⟩ 1 1 [.pointer (some ⟨ptr, 0, none⟩)] rfl rfl HC1.out HC2.out HC3.out HC4.out HC5.out ?_; intro v5 w5 hown hgr hloc; have HG := Aside0.mk (stk_push HF.out.1 HF.out.2.1 (fun b hb => hb) (by rw [List.length_take]; omega) hown hgr hloc); have HGR := Aside0.mk (grown_below2 (tr1 _).out hgr (fun b hb => by cases hb; exact hg)); clear hown hgr hloc)
      all_goals (
        go_roundw
        case' measure => simp only [intOf]; omega
        case' rel => exact ⟨j + 1, _, _, by omega, by rw [Int.natCast_add]; rfl, HGO2, HG, ⟨by rw [List.length_append, List.length_take]; simp only [List.length_cons, List.length_nil]; omega⟩, HGR⟩)
    · obtain rfl : j = ns.length := by omega
      have hgo := HGO.out
      rw [List.drop_length] at hgo
      simp only [treesOf] at hgo
      subst hgo
      by_cases h1 : st.length = 1
      · obtain ⟨t, rfl⟩ := List.length_eq_one_iff.mp h1
        have hrs := HS.out.2
        unfold RepTs at hrs
        obtain ⟨v, us, rfl, hrt, hus⟩ := hrs
        obtain ⟨g, rfl, hcl, -⟩ := own_cell HS.out.1 (i := 0) (u := v) rfl
        simp only [List.length_cons, List.length_nil, Nat.zero_add] at *
        have HRT := Aside0.mk hrt
        clear hrt HS
        go_wp2
        go_ret
        exact ⟨v, rfl, RepT_move (fun k hk hl => ⟨hk.1, rfl⟩) _ _ HRT.out, kk⟩
      · have d1 : ((st.length : Int) != 1) = true := by simp; omega
        go_wp2
        go_ret
        refine ⟨.pointer none, rfl, ?_, kk⟩
        unfold oneTree
        split
        · rename_i t he
          have := Option.some.inj he
          subst this
          exact absurd rfl h1
        · rfl
end Go.Proofs.Ytcfbbbilonignaa.Q

namespace Go.Proofs.Ytcfbbbilonignaa.Q
open Go.RowKit Go.Proofs.YtcfbbbilonignaaW.PrintWords Go.Proofs.YtcfbbbilonignaaW.PrintLast Go.Proofs.YtcfbbbilonignaaW.PrintMore
set_option linter.unusedVariables false
set_option linter.unusedSimpArgs false
/-- What both tests of a node say. -/
noncomputable def nodeOk (x : S66) : Bool := ndOk (Classical.choose (node_same x.f0 x.f1 x.f2 x.f3 x.f4 x.f5 x.f6)) x.f0 x.f1 x.f2 x.f3 x.f4 x.f5 x.f6
theorem nodeOk_spec (x : S66) : Ev (fun k => spec_l5GoodNode.f k x.f0 x.f1 x.f2 x.f3 x.f4 x.f5 x.f6) (nodeOk x) := (Classical.choose_spec (node_same x.f0 x.f1 x.f2 x.f3 x.f4 x.f5 x.f6)).2
theorem node_call (x : S66) (w : World) : Calls Try.prog 62 #[.agg #[.int .i64 x.f0, .string x.f1, .bool x.f2, .string x.f3, .int .u64 x.f4, .int .u64 x.f5, .int .i64 x.f6]] w fun e w' => e = .returned (.bool (nodeOk x)) ∧ Below w.heap.size w w' := by
  obtain ⟨K, hK⟩ := (Classical.choose_spec (node_same x.f0 x.f1 x.f2 x.f3 x.f4 x.f5 x.f6)).1
  exact impl_Node_good.calls K _ _ _ _ _ _ _ _ w (hK K (Nat.le_refl _))
set_option maxHeartbeats 4000000 in
set_option maxRecDepth 100000 in
theorem bad_call (x : S66) (w : World) : Calls Try.prog 61 #[.agg #[.int .i64 x.f0, .string x.f1, .bool x.f2, .string x.f3, .int .u64 x.f4, .int .u64 x.f5, .int .i64 x.f6]] w fun e w' => e = .returned (.bool (!nodeOk x)) ∧ Below w.heap.size w w' := by
  have kr : K0 (Below w.heap.size w w) := ⟨Below.refl _ _⟩
  have hk : Below w.heap.size w (w.alloc (.cells #[.int .i64 x.f0, .string x.f1, .bool x.f2, .string x.f3, .int .u64 x.f4, .int .u64 x.f5, .int .i64 x.f6] 66)) := kk
  go_enter Try.func61, Try.ntmps61
  go_wp2_with fail
  generalize w.alloc (.cells #[.int .i64 x.f0, .string x.f1, .bool x.f2, .string x.f3, .int .u64 x.f4, .int .u64 x.f5, .int .i64 x.f6] 66) = W at *
  refine (node_call x W).mono ?_
  rintro e W2 ⟨rfl, hb⟩
  have k2 : K0 (Below w.heap.size w W2) := ⟨hk.trans (hb.mono hk.size)⟩
  clear hb hk
  go_wp2
  go_ret
  exact ⟨rfl, kk⟩
noncomputable def firstBad : Nat → List S66 → Int
  | _, [] => -1
  | i, x :: xs => if nodeOk x = true then firstBad (i + 1) xs else i
theorem firstBad_all : ∀ (xs : List S66) (i : Nat), decide (0 ≤ firstBad i xs) = !(xs.all nodeOk)
  | [], i => by simp [firstBad]
  | x :: xs, i => by
    have e : firstBad i (x :: xs) = if nodeOk x = true then firstBad (i + 1) xs else i := rfl
    by_cases h : nodeOk x = true
    · rw [show firstBad i (x :: xs) = firstBad (i + 1) xs from by rw [e, if_pos h], firstBad_all xs (i + 1)]; simp [h]
    · rw [show firstBad i (x :: xs) = (i : Int) from by rw [e, if_neg h]]; simp at h; simp [h]
set_option maxHeartbeats 4000000 in
set_option maxRecDepth 100000 in
theorem index_call (A : Option Addr) (c : Nat) (ns : List S66) (w : World) (hr : Kd.C k66 w A ns.length ns) (hc : ns.length ≤ c) (hn : ns.length ≤ 1000) :
    Calls Try.prog 94 #[.slice A ns.length c, .func (.func 61) #[] #[]] w fun e w' => e = .returned (.int .i64 (firstBad 0 ns)) ∧ Below w.heap.size w w' := by
  have kr : K0 (Below w.heap.size w w) := ⟨Below.refl _ _⟩
  have HR := Aside0.mk hr
  have HC := Aside0.mk hc
  obtain ⟨r, hR⟩ : ∃ r, firstBad 0 ns = r := ⟨_, rfl⟩
  rw [hR]
  have HGO := Aside0.mk (show firstBad 0 (ns.drop 0) = r from hR)
  clear hr hc hR
  go_enter Try.func94, Try.ntmps94
  go_wp2_with fail
  go_loopw [8] (fun v8 W => ∃ (j : Nat), j ≤ ns.length ∧ v8 = .int .i64 j ∧ Aside0 (firstBad j (ns.drop j) = r) ∧ Aside0 (Below w.heap.size w W)) (fun v8 _ => ns.length - (intOf v8).toNat)
  case atStart => exact ⟨0, by omega, rfl, HGO, ⟨kk⟩⟩
  case round =>
    clear HGO kr
    obtain ⟨j, hj, rfl, HGO, HB⟩ := hrel
    have kW : K0 (Below w.heap.size w wr) := ⟨HB.out⟩
    by_cases hlt : j < ns.length
    · obtain ⟨ad, e0, hx⟩ := at_T66 HR.out (j : Int) (by omega) (by omega)
      subst e0
      rw [Int.toNat_natCast] at hx
      obtain ⟨x, hX⟩ : ∃ x, rd_T66 ns (j : Int) = x := ⟨_, rfl⟩
      have hgo := HGO.out
      rw [List.drop_eq_getElem_cons hlt, show ns[j] = x from by rw [← hX]; unfold rd_T66; rw [Int.toNat_natCast]; simp [hlt]] at hgo
      rw [hX] at hx
      obtain ⟨x0, x1, x2, x3, x4, x5, x6⟩ := hx
      have x0 := clk x0
      have x1 := clk x1
      have x2 := clk x2
      have x3 := clk x3
      have x4 := clk x4
      have x5 := clk x5
      have x6 := clk x6
      have hw1 : IntKind.i64.wrap ((j : Int) + 1) = ((j + 1 : Nat) : Int) := by rw [IntKind.wrap_i64]; omega
      simp only [firstBad] at hgo
      go_wp2_with fail
      refine (bad_call x wr).mono ?_
      rintro e W2 ⟨rfl, hb⟩
      have k2 : K0 (Below w.heap.size w W2) := ⟨HB.out.trans (hb.mono HB.out.size)⟩
      clear hb kW x0 x1 x2 x3 x4 x5 x6
      cases hz : nodeOk x
      · rw [hz, if_neg (by decide)] at hgo
        subst hgo
        go_wp2
        go_ret
        exact ⟨rfl, kk⟩
      · rw [hz, if_pos rfl] at hgo
        go_wp2_with fail
        go_roundw
        case measure => simp only [intOf]; omega
        case rel => exact ⟨j + 1, by omega, by rw [Int.natCast_add]; rfl, ⟨hgo⟩, ⟨kk⟩⟩
    · obtain rfl : j = ns.length := by omega
      have hgo := HGO.out
      rw [List.drop_length] at hgo
      simp only [firstBad] at hgo
      subst hgo
      go_wp2
      go_ret
      exact ⟨rfl, kk⟩
set_option maxRecDepth 100000 in
theorem contains_call (A : Option Addr) (c : Nat) (ns : List S66) (w : World) (hr : Kd.C k66 w A ns.length ns) (hc : ns.length ≤ c) (hn : ns.length ≤ 1000) :
    Calls Try.prog 60 #[.slice A ns.length c, .func (.func 61) #[] #[]] w fun e w' => e = .returned (.bool (!(ns.all nodeOk))) ∧ Below w.heap.size w w' := by
  have HI := Aside0.mk (index_call A c ns w hr hc hn)
  clear hr hc hn
  go_enter Try.func60, Try.ntmps60
  go_wp2_with fail
  refine HI.out.mono ?_
  rintro e W2 ⟨rfl, hb⟩
  have k2 : K0 (Below w.heap.size w W2) := ⟨hb⟩
  have hall := firstBad_all ns 0
  generalize firstBad 0 ns = r at *
  clear hb HI
  go_wp2
  go_ret
  refine ⟨?_, kk⟩
  rw [← hall]
  rfl
/-- The tree of a valid filter. -/
noncomputable def validT (ns : List S66) : Option Tr :=
  if (ns.length : Int) > 200 then none else if ns.all nodeOk = false then none else match treesOf ns [] with | some [t] => if nestT t > 20 then none else some t | _ => none
def optT (o : Option Tr) (w : World) (B : Nat) (v : Value) : Prop :=
  match o with
  | some t => RepT w (fun k => B ≤ k) t v
  | none => v = .pointer none
set_option maxHeartbeats 4000000 in
set_option maxRecDepth 100000 in
theorem valid_call (A : Option Addr) (c : Nat) (ns : List S66) (w : World) (hr : Kd.C k66 w A ns.length ns) (hc : ns.length ≤ c) :
    Calls Try.prog 28 #[.agg #[.slice A ns.length c]] w fun e w' => ∃ v, e = .returned v ∧ optT (validT ns) w' w.heap.size v ∧ Below w.heap.size w w' := by
  have kr : K0 (Below w.heap.size w w) := ⟨Below.refl _ _⟩
  obtain ⟨r, hR⟩ : ∃ r, validT ns = r := ⟨_, rfl⟩
  rw [hR]
  unfold validT at hR
  have HR := Aside0.mk hr
  have HC := Aside0.mk hc
  clear hr hc
  by_cases hl : (ns.length : Int) > 200
  · rw [if_pos hl] at hR
    subst hR
    have e1 : decide ((200 : Int) < (ns.length : Int)) = true := decide_eq_true hl
    go_enter Try.func28, Try.ntmps28
    go_wp2
    go_ret
    exact ⟨.pointer none, rfl, rfl, kk⟩
  rw [if_neg hl] at hR
  have e1 : decide ((200 : Int) < (ns.length : Int)) = false := decide_eq_false hl
  have hB : Below w.heap.size w (w.alloc (.cells #[.slice A ns.length c] 29)) := kk
  have x0 : (w.alloc (.cells #[.slice A ns.length c] 29)).cell? ⟨w.heap.size, 0, none⟩ = some (.slice A ns.length c) := cell_of_row _ w.heap.size 0 _ 29 _ (heap_alloc_new w _)
  have hr2 := Kd.C_alloc HR.out (.cells #[.slice A ns.length c] 29)
  go_enter Try.func28, Try.ntmps28
  go_wp2_with fail
  generalize w.alloc (.cells #[.slice A ns.length c] 29) = wb at *
  have HB := Aside0.mk hB
  have HR2 := Aside0.mk hr2
  have y0 := clk x0
  clear hB x0 hr2 kr
  have tr1 : ∀ W [K0 (Below wb.heap.size wb W)], K0 (Below w.heap.size w W) := fun W k => ⟨HB.out.trans (k.out.mono HB.out.size)⟩
  refine (contains_call A c ns wb HR2.out HC.out (by omega)).mono ?_
  rintro e W2 ⟨rfl, hb⟩
  have k2 : K0 (Below wb.heap.size wb W2) := ⟨hb⟩
  cases ha : ns.all nodeOk
  · rw [ha, if_pos rfl] at hR
    subst hR
    go_wp2
    go_ret
    exact ⟨.pointer none, rfl, rfl, kk⟩
  rw [ha, if_neg (by decide)] at hR
  have HQ := Aside0.mk hR
  clear hb hR
  go_wp2_with fail
  refine (treeOf_call A c ns W2 (Kd.C_below HR2.out k2.out) HC.out (by omega)).mono ?_
  rintro e W3 ⟨v, rfl, ht, hb⟩
  have k3 : K0 (Below wb.heap.size wb W3) := ⟨k2.out.trans (hb.mono k2.out.size)⟩
  have hb2 := k2.out.size
  have hb1 := HB.out.size
  have hq := HQ.out
  clear hb
  have key : (∃ t, treesOf ns [] = some [t]) ∨ (v = .pointer none ∧ r = none) := by
    by_cases h1 : ∃ t, treesOf ns [] = some [t]
    · exact .inl h1
    · right
      constructor
      · unfold oneTree at ht
        split at ht
        · rename_i t he
          exact absurd ⟨t, he⟩ h1
        · exact ht
      · rw [← hq]
        split
        · rename_i t he
          exact absurd ⟨t, he⟩ h1
        · rfl
  rcases key with ⟨t, hto⟩ | ⟨rfl, rfl⟩
  · have hw := (treesOf_flat ns [] [t] hto trivial).2.1
    have hf := (treesOf_flat ns [] [t] hto trivial).1
    have hfl : (flatT t).length = ns.length := by
      have : flatT t = ns := by simpa [flatTs] using hf
      rw [this]
    rw [hto] at ht hq
    have ht : RepT W3 (fun k => W2.heap.size ≤ k) t v := ht
    obtain ⟨a, rfl⟩ : ∃ a, v = .pointer (some ⟨a, 0, none⟩) := by
      cases t; unfold RepT at ht; obtain ⟨a, u, vs, rfl, -⟩ := ht; exact ⟨a, rfl⟩
    have HT := Aside0.mk ht
    have HN := Aside0.mk (nest_call ns.length t (.pointer (some ⟨a, 0, none⟩)) _ W3 (by omega) (by omega) hw ht)
    have hnn := nestT_le t
    clear ht hf hfl hw
    go_wp2_with fail
    refine HN.out.mono ?_
    rintro e W4 ⟨rfl, hb⟩
    have k4 : K0 (Below wb.heap.size wb W4) := ⟨k3.out.trans (hb.mono k3.out.size)⟩
    have hfin : RepT W4 (fun k => w.heap.size ≤ k) t (.pointer (some ⟨a, 0, none⟩)) := RepT_move (fun k hk hl => ⟨by omega, hb.block k hl⟩) _ _ HT.out
    have HF := Aside0.mk hfin
    clear hb hfin HN HT
    have hq : (if nestT t > 20 then none else some t) = r := hq
    generalize nestT t = q at *
    by_cases h20 : q > 20
    · rw [if_pos h20] at hq
      subst hq
      have d1 : decide ((20 : Int) < q) = true := decide_eq_true h20
      go_wp2
      go_ret
      exact ⟨.pointer none, rfl, rfl, kk⟩
    · rw [if_neg h20] at hq
      subst hq
      have d1 : decide ((20 : Int) < q) = false := decide_eq_false h20
      go_wp2
      go_ret
      exact ⟨_, rfl, HF.out, kk⟩
  · clear ht hq
    go_wp2
    go_ret
    exact ⟨.pointer none, rfl, rfl, kk⟩
set_option maxHeartbeats 4000000 in
set_option maxRecDepth 100000 in
theorem filter_call (A : Option Addr) (c : Nat) (ns : List S66) (w : World) (hr : Kd.C k66 w A ns.length ns) (hc : ns.length ≤ c) :
    Calls Try.prog 9 #[.agg #[.slice A ns.length c]] w fun e w' => e = .returned (.bool (validT ns).isSome) ∧ Below w.heap.size w w' := by
  have kr : K0 (Below w.heap.size w w) := ⟨Below.refl _ _⟩
  have hB : Below w.heap.size w (w.alloc (.cells #[.slice A ns.length c] 29)) := kk
  have HV := Aside0.mk (valid_call A c ns _ (Kd.C_alloc hr (.cells #[.slice A ns.length c] 29)) hc)
  clear hr hc
  go_enter Try.func9, Try.ntmps9
  go_wp2_with fail
  refine HV.out.mono ?_
  rintro e W2 ⟨v, rfl, ht, hb⟩
  have k2 : K0 (Below w.heap.size w W2) := ⟨hB.trans (hb.mono hB.size)⟩
  clear hb hB HV
  cases hv : validT ns with
  | none =>
    rw [hv] at ht
    obtain rfl : v = .pointer none := ht
    go_wp2
    go_ret
    exact ⟨by rw [hv]; rfl, kk⟩
  | some t =>
    rw [hv] at ht
    have ht : RepT W2 _ t v := ht
    obtain ⟨a, rfl⟩ : ∃ a, v = .pointer (some ⟨a, 0, none⟩) := by
      cases t; unfold RepT at ht; obtain ⟨a, u, vs, rfl, -⟩ := ht; exact ⟨a, rfl⟩
    clear ht
    go_wp2
    go_ret
    exact ⟨by rw [hv]; rfl, kk⟩
/-! the reference's -/
theorem spec_loop (ns : List S66) (hn : ns.length ≤ 200) (b : Bool) (hF : Ev (fun k => (spec_l5Tree.f k ns).bind fun t => if t = true then (spec_l5Nest.f k ns).bind fun q => some (decide (q ≤ 20)) else some false) b) :
    Ev (fun k => spec_ValidFilter.l0 k 0 ns) (ns.all nodeOk && b) :=
  all_loop ns z66 nodeOk (fun k x => spec_l5GoodNode.f k x.f0 x.f1 x.f2 x.f3 x.f4 x.f5 x.f6) (fun k i => spec_ValidFilter.l0 k i ns) _ b (by omega)
    (fun k i hi => by simp only [spec_ValidFilter.l0]; rw [if_pos (by omega), if_pos (by omega), wrap_nat _ (by omega)]; rfl)
    (fun k => by simp only [spec_ValidFilter.l0]; rw [if_neg (by omega)]) (fun x _ => nodeOk_spec x) hF ns [] rfl
theorem spec_filter_is (ns : List S66) : Ev (fun k => spec_ValidFilter.f k ns) (validT ns).isSome := by
  unfold spec_ValidFilter.f validT
  by_cases hl : (ns.length : Int) > 200
  · rw [if_pos hl]
    exact Ev.if_pos hl (Ev.now _)
  rw [if_neg hl]
  refine Ev.if_neg hl ?_
  have hfr := from_is ns (by omega)
  by_cases h1 : ∃ t, treesOf ns [] = some [t]
  · obtain ⟨t, ht⟩ := h1
    have hne : ns ≠ [] := by rintro rfl; cases ht
    have h0 := (scan_one ns hne).mpr ⟨t, ht⟩
    have hw := (treesOf_flat ns [] [t] ht trivial).2.1
    have hf : flatT t = ns := by simpa [flatTs] using (treesOf_flat ns [] [t] ht trivial).1
    rw [h0] at hfr
    have hlen : 0 < ns.length := List.length_pos_iff.mpr hne
    have htree : Ev (fun k => spec_l5Tree.f k ns) true := by
      unfold spec_l5Tree.f
      exact Ev.if_pos (by omega) (Ev.bind hfr (Ev.now _))
    have hnest : Ev (fun k => spec_l5Nest.f k ns) (nestT t) := by
      have h := nest_is t hw (by rw [hf]; omega)
      rw [hf] at h; exact h
    have h := spec_loop ns (by omega) _ (Ev.bind htree (Ev.if_pos rfl (Ev.bind hnest (Ev.now (decide (nestT t ≤ 20))))))
    rw [ht]
    cases hall : ns.all nodeOk
    · rw [hall] at h; simpa using h
    · rw [hall] at h
      by_cases h20 : nestT t > 20
      · rw [decide_eq_false (by omega)] at h
        simpa [h20] using h
      · rw [decide_eq_true (by omega)] at h
        simpa [h20] using h
  · have htree : Ev (fun k => spec_l5Tree.f k ns) false := by
      unfold spec_l5Tree.f
      by_cases hne : ns = []
      · subst hne
        exact Ev.if_neg (by simp) (Ev.now _)
      · have h0 : ¬ scanN 1 ns.reverse = 0 := fun h => h1 ((scan_one ns hne).mp h)
        have hlen : 0 < ns.length := List.length_pos_iff.mpr hne
        refine Ev.if_pos (by omega) (Ev.bind hfr ?_)
        rw [beq_eq_false_iff_ne.mpr h0]
        exact Ev.now _
    have h := spec_loop ns (by omega) false (Ev.bind htree (Ev.if_neg (by decide) (Ev.now _)))
    rw [Bool.and_false] at h
    have e : (match treesOf ns [] with | some [t] => if nestT t > 20 then none else some t | _ => (none : Option Tr)) = none := by
      split
      · rename_i t he
        exact absurd ⟨t, he⟩ h1
      · rfl
    rw [e]
    simpa using h
noncomputable def impl_ValidFilter.f (l0_0 : List S66) : Option Bool := some (validT l0_0).isSome
theorem impl_ValidFilter.calls (A0_0 : Option Addr) (c0_0 : Nat) (l0_0 : List (S66)) (r : Bool) (w : World) (hr0_0 : Kd.C k66 w A0_0 l0_0.length l0_0) (hc0_0 : l0_0.length ≤ c0_0) (h : impl_ValidFilter.f l0_0 = some r) :
    Calls Try.prog 9 #[.agg #[.slice A0_0 l0_0.length c0_0]] w fun e w' => e = .returned (.bool r) ∧ Below w.heap.size w w' := by
  obtain rfl := Option.some.inj h
  exact filter_call A0_0 c0_0 l0_0 w hr0_0 hc0_0
end Go.Proofs.Ytcfbbbilonignaa.Q

namespace Go.Proofs.Ytcfbbbilonignaa.Q
open Go.RowKit Go.Proofs.YtcfbbbilonignaaW.PrintWords Go.Proofs.YtcfbbbilonignaaW.PrintLast Go.Proofs.YtcfbbbilonignaaW.PrintMore
set_option linter.unusedVariables false
set_option linter.unusedSimpArgs false

/-! ### laws_FnExactValidFilter: function 3 -/
noncomputable def laws_FnExactValidFilter.f (k : Nat) (l0_0 : List (S97)) : Option (Bool) := (laws_szFilter.f k l0_0 1048576).bind fun t208 => (if t208 < 0 then (some true) else ((laws_toFilter.f k l0_0).bind fun t209 => ((spec_ValidFilter.f k t209).bind fun t212 => ((laws_toFilter.f k l0_0).bind fun t213 => ((impl_ValidFilter.f t213).bind fun t217 => (if (t217 != t212) = true then (some false) else ((laws_toFilter.f k l0_0).bind fun t218 => ((laws_eqFilter.f k t213 t218).bind fun t221 => (if t221 = true then (some true) else (some false))))))))))
set_option maxHeartbeats 8000000 in
set_option maxRecDepth 100000 in
theorem laws_FnExactValidFilter.calls (k : Nat) (A0_0 : Option Addr) (c0_0 : Nat) (l0_0 : List (S97)) (r : Bool) (w : World) (hr0_0 : Kd.C k97 w A0_0 l0_0.length l0_0) (hc0_0 : l0_0.length ≤ c0_0) (h : laws_FnExactValidFilter.f k l0_0 = some r) :
  Calls Try.prog 3 #[.agg #[.slice A0_0 l0_0.length c0_0]] w fun e w' => e = .returned (.bool r) ∧ Below w.heap.size w w' := by
 have hu24 := Try.underlying24
 have hu29 := Try.underlying29
 have HR0_0 := Aside0.mk hr0_0
 have HC0_0 := Aside0.mk hc0_0
 clear hr0_0 hc0_0
 have HB := Aside0.mk (Below.refl w.heap.size w)
 have H : ((laws_szFilter.f k l0_0 1048576).bind fun t208 => (if t208 < 0 then (some true) else ((laws_toFilter.f k l0_0).bind fun t209 => ((spec_ValidFilter.f k t209).bind fun t212 => ((laws_toFilter.f k l0_0).bind fun t213 => ((impl_ValidFilter.f t213).bind fun t217 => (if (t217 != t212) = true then (some false) else ((laws_toFilter.f k l0_0).bind fun t218 => ((laws_eqFilter.f k t213 t218).bind fun t221 => (if t221 = true then (some true) else (some false))))))))))) = some r := h
 clear h
 replace H := Option.bind_eq_some_iff.mp H
 obtain ⟨t208, A20, H⟩ := H
 replace H : (if t208 < 0 then (some true) else ((laws_toFilter.f k l0_0).bind fun t209 => ((spec_ValidFilter.f k t209).bind fun t212 => ((laws_toFilter.f k l0_0).bind fun t213 => ((impl_ValidFilter.f t213).bind fun t217 => (if (t217 != t212) = true then (some false) else ((laws_toFilter.f k l0_0).bind fun t218 => ((laws_eqFilter.f k t213 t218).bind fun t221 => (if t221 = true then (some true) else (some false)))))))))) = some r := H
 have A2 := Aside0.mk A20
 clear A20
 by_cases c3 : t208 < 0
 ·rw [if_pos c3] at H
  have c3b0 : decide (t208 < 0) = true := decide_eq_true c3
  clear c3
  obtain rfl := Option.some.inj H
  go_enter Try.func3, Try.ntmps3
  go_wp2_with (first | ((with_reducible refine gate_dst (N := 1) rfl ?_); refine box_event ?hg (N := 1) ?hd (cs := #[.slice A0_0 l0_0.length c0_0]) (t := 24) ?hr ?_; (case hd => rfl); (case hg => rfl); (case hr => first | (go_simp; done) | (go_simp; rfl)); intro gb207 hg w4 hbox hb; have n0_ := Aside0.mk (below_step bw hb); have n1_ := Aside0.mk (hbox); have n2_ := Aside0.mk ((by rw [hg]; exact (below_size bw) : w.heap.size ≤ gb207)); have n3_ := Aside0.mk ((by rw [hg]; exact (below_size bw) : w.heap.size ≤ gb207)); clear HB; have HB := n0_; have BK207 := n1_; have GW207 := n2_; have GE207 := n3_; clear n0_ n1_ n2_ n3_; clear hb hbox hg; have hcz5_0 : w4.cell? ⟨gb207, 0, none⟩ = some (.slice A0_0 l0_0.length c0_0) := (blk_cell BK207.out 0).trans rfl; have hfz5_0 := blk_frozen BK207.out 0) | ((with_reducible refine at_fn (f := 6) rfl ?_); refine goesL_ (some 9) rfl rfl Try.func6 (by kernel_rfl) rfl #[.agg #[.slice A0_0 l0_0.length c0_0], .int .i64 1048576] rfl (by (try simp only [List.map_toArray, List.map_cons, List.map_nil]); first | done | rfl | (simp only [List.length_drop, List.length_take]; rfl)) ?_; (with_reducible refine (laws_szFilter.calls k _ _ l0_0 1048576 t208 _ ?side1 ?side2 A2.out).mono ?_); (case side1 => repeat (first | exact (Kd.C_below HR0_0.out HB.out) | (with_reducible refine Kd.C_alloc ?_ _) | (with_reducible refine Kd.C_drewN ?_ _) | (with_reducible refine Kd.C_drew ?_))); (case side2 => exact HC0_0.out); rintro e w6 ⟨rfl, hb⟩; refine ⟨_, rfl, ?_⟩; have n0_ := Aside0.mk (blk_below (g := gb207) (o := .cells #[.slice A0_0 l0_0.length c0_0] 24 (0, 0)) (lb BK207) hb); have n1_ := Aside0.mk (below_step bw hb); clear BK207; clear HB; have BK207 := n0_; have HB := n1_; clear n0_ n1_; (try clear hb); (try clear hb2); (try clear hk); (try clear hi)))
  go_ret
  exact ⟨by first | rfl | (simp [errW_none, errW_some] <;> rfl) | (simp [*, errW_none, errW_some] <;> rfl), bw⟩
 ·rw [if_neg c3] at H
  have c3b0 : decide (t208 < 0) = false := decide_eq_false c3
  clear c3
  replace H := Option.bind_eq_some_iff.mp H
  obtain ⟨t209, A70, H⟩ := H
  replace H : ((spec_ValidFilter.f k t209).bind fun t212 => ((laws_toFilter.f k l0_0).bind fun t213 => ((impl_ValidFilter.f t213).bind fun t217 => (if (t217 != t212) = true then (some false) else ((laws_toFilter.f k l0_0).bind fun t218 => ((laws_eqFilter.f k t213 t218).bind fun t221 => (if t221 = true then (some true) else (some false)))))))) = some r := H
  have A7 := Aside0.mk A70
  clear A70
  replace H := Option.bind_eq_some_iff.mp H
  obtain ⟨t212, A80, H⟩ := H
  replace H : ((laws_toFilter.f k l0_0).bind fun t213 => ((impl_ValidFilter.f t213).bind fun t217 => (if (t217 != t212) = true then (some false) else ((laws_toFilter.f k l0_0).bind fun t218 => ((laws_eqFilter.f k t213 t218).bind fun t221 => (if t221 = true then (some true) else (some false))))))) = some r := H
  have A8 := Aside0.mk A80
  clear A80
  replace H := Option.bind_eq_some_iff.mp H
  obtain ⟨t213, A90, H⟩ := H
  replace H : ((impl_ValidFilter.f t213).bind fun t217 => (if (t217 != t212) = true then (some false) else ((laws_toFilter.f k l0_0).bind fun t218 => ((laws_eqFilter.f k t213 t218).bind fun t221 => (if t221 = true then (some true) else (some false)))))) = some r := H
  have A9 := Aside0.mk A90
  clear A90
  replace H := Option.bind_eq_some_iff.mp H
  obtain ⟨t217, A100, H⟩ := H
  replace H : (if (t217 != t212) = true then (some false) else ((laws_toFilter.f k l0_0).bind fun t218 => ((laws_eqFilter.f k t213 t218).bind fun t221 => (if t221 = true then (some true) else (some false))))) = some r := H
  have A10 := Aside0.mk A100
  clear A100
  by_cases c11 : (t217 != t212) = true
  ·rw [if_pos c11] at H
   have c11b0 : (t217 != t212) = true := c11
   (try (have c11b1 : decide (t217 = t212) = false := by simpa using c11))
   (try (have c11b2 : (t217 == t212) = false := by simpa using c11))
   (try (have c11b3 : ¬ (t217 = t212) := by simpa using c11))
   clear c11
   obtain rfl := Option.some.inj H
   go_enter Try.func3, Try.ntmps3
   go_wp2_with (first | ((with_reducible refine gate_dst (N := 1) rfl ?_); refine box_event ?hg (N := 1) ?hd (cs := #[.slice A0_0 l0_0.length c0_0]) (t := 24) ?hr ?_; (case hd => rfl); (case hg => rfl); (case hr => first | (go_simp; done) | (go_simp; rfl)); intro gb207 hg w12 hbox hb; have n0_ := Aside0.mk (below_step bw hb); have n1_ := Aside0.mk (hbox); have n2_ := Aside0.mk ((by rw [hg]; exact (below_size bw) : w.heap.size ≤ gb207)); have n3_ := Aside0.mk ((by rw [hg]; exact (below_size bw) : w.heap.size ≤ gb207)); clear HB; have HB := n0_; have BK207 := n1_; have GW207 := n2_; have GE207 := n3_; clear n0_ n1_ n2_ n3_; clear hb hbox hg; have hcz13_0 : w12.cell? ⟨gb207, 0, none⟩ = some (.slice A0_0 l0_0.length c0_0) := (blk_cell BK207.out 0).trans rfl; have hfz13_0 := blk_frozen BK207.out 0) | ((with_reducible refine at_fn (f := 6) rfl ?_); refine goesL_ (some 9) rfl rfl Try.func6 (by kernel_rfl) rfl #[.agg #[.slice A0_0 l0_0.length c0_0], .int .i64 1048576] rfl (by (try simp only [List.map_toArray, List.map_cons, List.map_nil]); first | done | rfl | (simp only [List.length_drop, List.length_take]; rfl)) ?_; (with_reducible refine (laws_szFilter.calls k _ _ l0_0 1048576 t208 _ ?side1 ?side2 A2.out).mono ?_); (case side1 => repeat (first | exact (Kd.C_below HR0_0.out HB.out) | (with_reducible refine Kd.C_alloc ?_ _) | (with_reducible refine Kd.C_drewN ?_ _) | (with_reducible refine Kd.C_drew ?_))); (case side2 => exact HC0_0.out); rintro e w14 ⟨rfl, hb⟩; refine ⟨_, rfl, ?_⟩; have n0_ := Aside0.mk (blk_below (g := gb207) (o := .cells #[.slice A0_0 l0_0.length c0_0] 24 (0, 0)) (lb BK207) hb); have n1_ := Aside0.mk (below_step bw hb); clear BK207; clear HB; have BK207 := n0_; have HB := n1_; clear n0_ n1_; (try clear hb); (try clear hb2); (try clear hk); (try clear hi); have hcz15_0 : w14.cell? ⟨gb207, 0, none⟩ = some (.slice A0_0 l0_0.length c0_0) := (blk_cell BK207.out 0).trans rfl; have hfz15_0 := blk_frozen BK207.out 0) | ((with_reducible refine at_fn (f := 8) rfl ?_); refine goesL_ (some 13) rfl rfl Try.func8 (by kernel_rfl) rfl #[.agg #[.slice A0_0 l0_0.length c0_0]] rfl (by (try simp only [List.map_toArray, List.map_cons, List.map_nil]); first | done | rfl | (simp only [List.length_drop, List.length_take]; rfl)) ?_; (with_reducible refine (laws_toFilter.calls k _ _ l0_0 t209 _ ?side1 ?side2 A7.out).mono ?_); (case side1 => repeat (first | exact (Kd.C_below HR0_0.out HB.out) | (with_reducible refine Kd.C_alloc ?_ _) | (with_reducible refine Kd.C_drewN ?_ _) | (with_reducible refine Kd.C_drew ?_))); (case side2 => exact HC0_0.out); rintro e w16 ⟨v210, rfl, ho0, hb⟩; refine ⟨_, rfl, ?_⟩; have n0_ := Aside0.mk (Kd.R_lower ho0 (below_size bw)); have n1_ := Aside0.mk (blk_below (g := gb207) (o := .cells #[.slice A0_0 l0_0.length c0_0] 24 (0, 0)) (lb BK207) hb); have n2_ := Aside0.mk (below_step bw hb); clear BK207; clear HB; have HO211 := n0_; have BK207 := n1_; have HB := n2_; clear n0_ n1_ n2_; (try clear hb); (try clear hb2); (try clear hk); (try clear hi); (try clear ho0); obtain ⟨Ao17, co17, eo17⟩ := Kd.R_slice HO211.out; subst eo17) | ((with_reducible refine at_fn (f := 7) rfl ?_); refine goesL_ (some 14) rfl rfl Try.func7 (by kernel_rfl) rfl #[.agg #[.slice Ao17 t209.length co17]] rfl (by (try simp only [List.map_toArray, List.map_cons, List.map_nil]); first | done | rfl | (simp only [List.length_drop, List.length_take]; rfl)) ?_; (with_reducible refine (spec_ValidFilter.calls k _ _ t209 t212 _ ?side1 ?side2 A8.out).mono ?_); (case side1 => repeat (first | exact (Kd.R_reads' HO211.out).2.2 | (with_reducible refine Kd.C_alloc ?_ _) | (with_reducible refine Kd.C_drewN ?_ _) | (with_reducible refine Kd.C_drew ?_))); (case side2 => exact (Kd.R_reads' HO211.out).2.1); rintro e w18 ⟨rfl, hb⟩; refine ⟨_, rfl, ?_⟩; have n0_ := Aside0.mk (Kd.R_below (lf HO211) hb); have n1_ := Aside0.mk (blk_below (g := gb207) (o := .cells #[.slice A0_0 l0_0.length c0_0] 24 (0, 0)) (lb BK207) hb); have n2_ := Aside0.mk (below_step bw hb); clear HO211; clear BK207; clear HB; have HO211 := n0_; have BK207 := n1_; have HB := n2_; clear n0_ n1_ n2_; (try clear hb); (try clear hb2); (try clear hk); (try clear hi); have hcz19_0 : w18.cell? ⟨gb207, 0, none⟩ = some (.slice A0_0 l0_0.length c0_0) := (blk_cell BK207.out 0).trans rfl; have hfz19_0 := blk_frozen BK207.out 0) | ((with_reducible refine at_fn (f := 8) rfl ?_); refine goesL_ (some 16) rfl rfl Try.func8 (by kernel_rfl) rfl #[.agg #[.slice A0_0 l0_0.length c0_0]] rfl (by (try simp only [List.map_toArray, List.map_cons, List.map_nil]); first | done | rfl | (simp only [List.length_drop, List.length_take]; rfl)) ?_; (with_reducible refine (laws_toFilter.calls k _ _ l0_0 t213 _ ?side1 ?side2 A9.out).mono ?_); (case side1 => repeat (first | exact (Kd.C_below HR0_0.out HB.out) | (with_reducible refine Kd.C_alloc ?_ _) | (with_reducible refine Kd.C_drewN ?_ _) | (with_reducible refine Kd.C_drew ?_))); (case side2 => exact HC0_0.out); rintro e w20 ⟨v214, rfl, ho0, hb⟩; refine ⟨_, rfl, ?_⟩; have n0_ := Aside0.mk (Kd.R_elder' (lf HO211) (Kd.R_base ho0) hb); have n1_ := Aside0.mk (Kd.R_lower (Kd.R_new' ho0 (Kd.R_lt (lf HO211))) (below_size bw)); have n2_ := Aside0.mk (blk_below (g := gb207) (o := .cells #[.slice A0_0 l0_0.length c0_0] 24 (0, 0)) (lb BK207) hb); have n3_ := Aside0.mk (below_step bw hb); clear HO211; clear BK207; clear HB; have HO211 := n0_; have HO215 := n1_; have BK207 := n2_; have HB := n3_; clear n0_ n1_ n2_ n3_; (try clear hb); (try clear hb2); (try clear hk); (try clear hi); (try clear ho0)) | ((with_reducible refine gate_dst (N := 5) rfl ?_); refine box_event ?hg (N := 5) ?hd (cs := #[.slice none 0 0]) (t := 29) ?hr ?_; (case hd => rfl); (case hg => rfl); (case hr => first | (go_simp; done) | (go_simp; rfl)); intro gb216 hg w21 hbox hb; have n0_ := Aside0.mk (Kd.R_below (lf HO211) hb); have n1_ := Aside0.mk (Kd.R_below (lf HO215) hb); have n2_ := Aside0.mk (blk_below (g := gb207) (o := .cells #[.slice A0_0 l0_0.length c0_0] 24 (0, 0)) (lb BK207) hb); have n3_ := Aside0.mk (below_step bw hb); have n4_ := Aside0.mk (hbox); have n5_ := Aside0.mk ((by rw [hg]; exact (below_size bw) : w.heap.size ≤ gb216)); have n6_ := Aside0.mk ((by rw [hg]; exact (below_size bw) : w.heap.size ≤ gb216)); have n7_ := Aside0.mk ((by rw [hg]; exact Nat.ne_of_lt (blk_lt (g := gb207) (o := .cells #[.slice A0_0 l0_0.length c0_0] 24 (0, 0)) (lb BK207)) : gb207 ≠ gb216)); have n8_ := Aside0.mk ((by rw [hg]; exact Nat.ne_of_gt (blk_lt (g := gb207) (o := .cells #[.slice A0_0 l0_0.length c0_0] 24 (0, 0)) (lb BK207)) : gb216 ≠ gb207)); clear HO211; clear HO215; clear BK207; clear HB; have HO211 := n0_; have HO215 := n1_; have BK207 := n2_; have HB := n3_; have BK216 := n4_; have GW216 := n5_; have GE216 := n6_; have NB207_216 := n7_; have NB216_207 := n8_; clear n0_ n1_ n2_ n3_ n4_ n5_ n6_ n7_ n8_; clear hb hbox hg; obtain ⟨Ao22, co22, eo22⟩ := Kd.R_slice HO215.out; subst eo22; have hnb23 := NB216_207.out; have hnc23 := NB207_216.out; have hcz24_0 : w21.cell? ⟨gb216, 0, none⟩ = some (.slice none 0 0) := (blk_cell BK216.out 0).trans rfl; have hfz24_0 := blk_frozen BK216.out 0) | ((with_reducible refine at_fn (f := 9) rfl ?_); refine goesL_ (some 18) rfl rfl Try.func9 (by kernel_rfl) rfl #[.agg #[.slice Ao22 t213.length co22]] rfl (by (try simp only [List.map_toArray, List.map_cons, List.map_nil]); first | done | rfl | (simp only [List.length_drop, List.length_take]; rfl)) ?_; (with_reducible refine (impl_ValidFilter.calls _ _ t213 t217 _ ?side1 ?side2 A10.out).mono ?_); (case side1 => refine (Kd.R_reads' (e := 66) (base := w.heap.size) (ok := fun k_ => (True ∧ some k_ ≠ (.slice Ao17 t209.length co17 : Value).ownBlock)) (n := t213.length) (c := co22) ?_).2.2; exact (by (with_reducible repeat (first | apply Kd.R_alloc | apply Kd.R_drewN | apply Kd.R_drew)); exact (Kd.R_mono (Kd.R_far (p := ⟨gb216, 0, none⟩) (Kd.R_types HO215.out BK216.out (by decide)) (fun _ hk => hk.2) (.slice Ao22 t213.length co22)) (fun _ h_ => h_.1)))); (case side2 => exact (Kd.R_reads' HO215.out).2.1); rintro e w25 ⟨rfl, hb⟩; refine ⟨_, rfl, ?_⟩; have n0_ := Aside0.mk (Kd.R_below (by (with_reducible repeat (first | apply Kd.R_alloc | apply Kd.R_drewN | apply Kd.R_drew)); exact (Kd.R_mono (Kd.R_far (p := ⟨gb216, 0, none⟩) (Kd.R_types HO211.out BK216.out (by decide)) (fun _ hk => hk.2) (.slice Ao22 t213.length co22)) (fun _ h_ => h_.1))) hb); have n1_ := Aside0.mk (Kd.R_below (by (with_reducible repeat (first | apply Kd.R_alloc | apply Kd.R_drewN | apply Kd.R_drew)); exact (Kd.R_mono (Kd.R_far (p := ⟨gb216, 0, none⟩) (Kd.R_types HO215.out BK216.out (by decide)) (fun _ hk => hk.2) (.slice Ao22 t213.length co22)) (fun _ h_ => h_.1))) hb); have n2_ := Aside0.mk (blk_below (g := gb207) (o := .cells #[.slice A0_0 l0_0.length c0_0] 24 (0, 0)) (by (with_reducible repeat (first | refine blk_drewN ?_ _ | refine blk_drew ?_ | refine blk_alloc ?_ _)); refine blk_far ?_ NB207_216.out _; (with_reducible repeat (first | refine blk_drewN ?_ _ | refine blk_drew ?_ | refine blk_alloc ?_ _)); exact BK207.out) hb); have n3_ := Aside0.mk (blk_below (g := gb216) (o := .cells #[.slice Ao22 t213.length co22] 29 (0, 0)) (by (with_reducible repeat (first | refine blk_drewN ?_ _ | refine blk_drew ?_ | refine blk_alloc ?_ _)); refine blk_put (cs := #[.slice none 0 0]) ?_ 0 _ rfl; (with_reducible repeat (first | refine blk_drewN ?_ _ | refine blk_drew ?_ | refine blk_alloc ?_ _)); exact BK216.out) hb); have n4_ := Aside0.mk (below_step bw hb); clear HO211; clear HO215; clear BK207; clear BK216; clear HB; have HO211 := n0_; have HO215 := n1_; have BK207 := n2_; have BK216 := n3_; have HB := n4_; clear n0_ n1_ n2_ n3_ n4_; (try clear hb); (try clear hb2); (try clear hk); (try clear hi)))
   go_ret
   exact ⟨by first | rfl | (simp [errW_none, errW_some] <;> rfl) | (simp [*, errW_none, errW_some] <;> rfl), bw⟩
  ·rw [if_neg c11] at H
   have c11b0 : (t217 != t212) = false := by simpa using c11
   (try (have c11b1 : decide (t217 = t212) = true := by simpa using c11))
   (try (have c11b2 : (t217 == t212) = true := by simpa using c11))
   clear c11
   replace H := Option.bind_eq_some_iff.mp H
   obtain ⟨t218, A260, H⟩ := H
   replace H : ((laws_eqFilter.f k t213 t218).bind fun t221 => (if t221 = true then (some true) else (some false))) = some r := H
   have A26 := Aside0.mk A260
   clear A260
   replace H := Option.bind_eq_some_iff.mp H
   obtain ⟨t221, A270, H⟩ := H
   replace H : (if t221 = true then (some true) else (some false)) = some r := H
   have A27 := Aside0.mk A270
   clear A270
   by_cases c28 : t221 = true
   ·subst c28
    have H1 : (some true) = some r := by rw [if_pos rfl] at H; exact H
    clear H
    have H := H1
    clear H1
    obtain rfl := Option.some.inj H
    go_enter Try.func3, Try.ntmps3
    try go_wp2_with (first | ((with_reducible refine gate_dst (N := 1) rfl ?_); refine box_event ?hg (N := 1) ?hd (cs := #[.slice A0_0 l0_0.length c0_0]) (t := 24) ?hr ?_; (case hd => rfl); (case hg => rfl); (case hr => first | (go_simp; done) | (go_simp; rfl)); intro gb207 hg w29 hbox hb; have n0_ := Aside0.mk (below_step bw hb); have n1_ := Aside0.mk (hbox); have n2_ := Aside0.mk ((by rw [hg]; exact (below_size bw) : w.heap.size ≤ gb207)); have n3_ := Aside0.mk ((by rw [hg]; exact (below_size bw) : w.heap.size ≤ gb207)); clear HB; have HB := n0_; have BK207 := n1_; have GW207 := n2_; have GE207 := n3_; clear n0_ n1_ n2_ n3_; clear hb hbox hg; have hcz30_0 : w29.cell? ⟨gb207, 0, none⟩ = some (.slice A0_0 l0_0.length c0_0) := (blk_cell BK207.out 0).trans rfl; have hfz30_0 := blk_frozen BK207.out 0) | ((with_reducible refine at_fn (f := 6) rfl ?_); refine goesL_ (some 9) rfl rfl Try.func6 (by kernel_rfl) rfl #[.agg #[.slice A0_0 l0_0.length c0_0], .int .i64 1048576] rfl (by (try simp only [List.map_toArray, List.map_cons, List.map_nil]); first | done | rfl | (simp only [List.length_drop, List.length_take]; rfl)) ?_; (with_reducible refine (laws_szFilter.calls k _ _ l0_0 1048576 t208 _ ?side1 ?side2 A2.out).mono ?_); (case side1 => repeat (first | exact (Kd.C_below HR0_0.out HB.out) | (with_reducible refine Kd.C_alloc ?_ _) | (with_reducible refine Kd.C_drewN ?_ _) | (with_reducible refine Kd.C_drew ?_))); (case side2 => exact HC0_0.out); rintro e w31 ⟨rfl, hb⟩; refine ⟨_, rfl, ?_⟩; have n0_ := Aside0.mk (blk_below (g := gb207) (o := .cells #[.slice A0_0 l0_0.length c0_0] 24 (0, 0)) (lb BK207) hb); have n1_ := Aside0.mk (below_step bw hb); clear BK207; clear HB; have BK207 := n0_; have HB := n1_; clear n0_ n1_; (try clear hb); (try clear hb2); (try clear hk); (try clear hi); have hcz32_0 : w31.cell? ⟨gb207, 0, none⟩ = some (.slice A0_0 l0_0.length c0_0) := (blk_cell BK207.out 0).trans rfl; have hfz32_0 := blk_frozen BK207.out 0) | ((with_reducible refine at_fn (f := 8) rfl ?_); refine goesL_ (some 13) rfl rfl Try.func8 (by kernel_rfl) rfl #[.agg #[.slice A0_0 l0_0.length c0_0]] rfl (by (try simp only [List.map_toArray, List.map_cons, List.map_nil]); first | done | rfl | (simp only [List.length_drop, List.length_take]; rfl)) ?_; (with_reducible refine (laws_toFilter.calls k _ _ l0_0 t209 _ ?side1 ?side2 A7.out).mono ?_); (case side1 => repeat (first | exact (Kd.C_below HR0_0.out HB.out) | (with_reducible refine Kd.C_alloc ?_ _) | (with_reducible refine Kd.C_drewN ?_ _) | (with_reducible refine Kd.C_drew ?_))); (case side2 => exact HC0_0.out); rintro e w33 ⟨v210, rfl, ho0, hb⟩; refine ⟨_, rfl, ?_⟩; have n0_ := Aside0.mk (Kd.R_lower ho0 (below_size bw)); have n1_ := Aside0.mk (blk_below (g := gb207) (o := .cells #[.slice A0_0 l0_0.length c0_0] 24 (0, 0)) (lb BK207) hb); have n2_ := Aside0.mk (below_step bw hb); clear BK207; clear HB; have HO211 := n0_; have BK207 := n1_; have HB := n2_; clear n0_ n1_ n2_; (try clear hb); (try clear hb2); (try clear hk); (try clear hi); (try clear ho0); obtain ⟨Ao34, co34, eo34⟩ := Kd.R_slice HO211.out; subst eo34) | ((with_reducible refine at_fn (f := 7) rfl ?_); refine goesL_ (some 14) rfl rfl Try.func7 (by kernel_rfl) rfl #[.agg #[.slice Ao34 t209.length co34]] rfl (by (try simp only [List.map_toArray, List.map_cons, List.map_nil]); first | done | rfl | (simp only [List.length_drop, List.length_take]; rfl)) ?_; (with_reducible refine (spec_ValidFilter.calls k _ _ t209 t212 _ ?side1 ?side2 A8.out).mono ?_); (case side1 => repeat (first | exact (Kd.R_reads' HO211.out).2.2 | (with_reducible refine Kd.C_alloc ?_ _) | (with_reducible refine Kd.C_drewN ?_ _) | (with_reducible refine Kd.C_drew ?_))); (case side2 => exact (Kd.R_reads' HO211.out).2.1); rintro e w35 ⟨rfl, hb⟩; refine ⟨_, rfl, ?_⟩; have n0_ := Aside0.mk (Kd.R_below (lf HO211) hb); have n1_ := Aside0.mk (blk_below (g := gb207) (o := .cells #[.slice A0_0 l0_0.length c0_0] 24 (0, 0)) (lb BK207) hb); have n2_ := Aside0.mk (below_step bw hb); clear HO211; clear BK207; clear HB; have HO211 := n0_; have BK207 := n1_; have HB := n2_; clear n0_ n1_ n2_; (try clear hb); (try clear hb2); (try clear hk); (try clear hi); have hcz36_0 : w35.cell? ⟨gb207, 0, none⟩ = some (.slice A0_0 l0_0.length c0_0) := (blk_cell BK207.out 0).trans rfl; have hfz36_0 := blk_frozen BK207.out 0) | ((with_reducible refine at_fn (f := 8) rfl ?_); refine goesL_ (some 16) rfl rfl Try.func8 (by kernel_rfl) rfl #[.agg #[.slice A0_0 l0_0.length c0_0]] rfl (by (try simp only [List.map_toArray, List.map_cons, List.map_nil]); first | done | rfl | (simp only [List.length_drop, List.length_take]; rfl)) ?_; (with_reducible refine (laws_toFilter.calls k _ _ l0_0 t213 _ ?side1 ?side2 A9.out).mono ?_); (case side1 => repeat (first | exact (Kd.C_below HR0_0.out HB.out) | (with_reducible refine Kd.C_alloc ?_ _) | (with_reducible refine Kd.C_drewN ?_ _) | (with_reducible refine Kd.C_drew ?_))); (case side2 => exact HC0_0.out); rintro e w37 ⟨v214, rfl, ho0, hb⟩; refine ⟨_, rfl, ?_⟩; have n0_ := Aside0.mk (Kd.R_elder' (lf HO211) (Kd.R_base ho0) hb); have n1_ := Aside0.mk (Kd.R_lower (Kd.R_new' ho0 (Kd.R_lt (lf HO211))) (below_size bw)); have n2_ := Aside0.mk (blk_below (g := gb207) (o := .cells #[.slice A0_0 l0_0.length c0_0] 24 (0, 0)) (lb BK207) hb); have n3_ := Aside0.mk (below_step bw hb); clear HO211; clear BK207; clear HB; have HO211 := n0_; have HO215 := n1_; have BK207 := n2_; have HB := n3_; clear n0_ n1_ n2_ n3_; (try clear hb); (try clear hb2); (try clear hk); (try clear hi); (try clear ho0)) | ((with_reducible refine gate_dst (N := 5) rfl ?_); refine box_event ?hg (N := 5) ?hd (cs := #[.slice none 0 0]) (t := 29) ?hr ?_; (case hd => rfl); (case hg => rfl); (case hr => first | (go_simp; done) | (go_simp; rfl)); intro gb216 hg w38 hbox hb; have n0_ := Aside0.mk (Kd.R_below (lf HO211) hb); have n1_ := Aside0.mk (Kd.R_below (lf HO215) hb); have n2_ := Aside0.mk (blk_below (g := gb207) (o := .cells #[.slice A0_0 l0_0.length c0_0] 24 (0, 0)) (lb BK207) hb); have n3_ := Aside0.mk (below_step bw hb); have n4_ := Aside0.mk (hbox); have n5_ := Aside0.mk ((by rw [hg]; exact (below_size bw) : w.heap.size ≤ gb216)); have n6_ := Aside0.mk ((by rw [hg]; exact (below_size bw) : w.heap.size ≤ gb216)); have n7_ := Aside0.mk ((by rw [hg]; exact Nat.ne_of_lt (blk_lt (g := gb207) (o := .cells #[.slice A0_0 l0_0.length c0_0] 24 (0, 0)) (lb BK207)) : gb207 ≠ gb216)); have n8_ := Aside0.mk ((by rw [hg]; exact Nat.ne_of_gt (blk_lt (g := gb207) (o := .cells #[.slice A0_0 l0_0.length c0_0] 24 (0, 0)) (lb BK207)) : gb216 ≠ gb207)); clear HO211; clear HO215; clear BK207; clear HB; have HO211 := n0_; have HO215 := n1_; have BK207 := n2_; have HB := n3_; have BK216 := n4_; have GW216 := n5_; have GE216 := n6_; have NB207_216 := n7_; have NB216_207 := n8_; clear n0_ n1_ n2_ n3_ n4_ n5_ n6_ n7_ n8_; clear hb hbox hg; obtain ⟨Ao39, co39, eo39⟩ := Kd.R_slice HO215.out; subst eo39; have hnb40 := NB216_207.out; have hnc40 := NB207_216.out; have hcz41_0 : w38.cell? ⟨gb216, 0, none⟩ = some (.slice none 0 0) := (blk_cell BK216.out 0).trans rfl; have hfz41_0 := blk_frozen BK216.out 0) | ((with_reducible refine at_fn (f := 9) rfl ?_); refine goesL_ (some 18) rfl rfl Try.func9 (by kernel_rfl) rfl #[.agg #[.slice Ao39 t213.length co39]] rfl (by (try simp only [List.map_toArray, List.map_cons, List.map_nil]); first | done | rfl | (simp only [List.length_drop, List.length_take]; rfl)) ?_; (with_reducible refine (impl_ValidFilter.calls _ _ t213 t217 _ ?side1 ?side2 A10.out).mono ?_); (case side1 => refine (Kd.R_reads' (e := 66) (base := w.heap.size) (ok := fun k_ => (True ∧ some k_ ≠ (.slice Ao34 t209.length co34 : Value).ownBlock)) (n := t213.length) (c := co39) ?_).2.2; exact (by (with_reducible repeat (first | apply Kd.R_alloc | apply Kd.R_drewN | apply Kd.R_drew)); exact (Kd.R_mono (Kd.R_far (p := ⟨gb216, 0, none⟩) (Kd.R_types HO215.out BK216.out (by decide)) (fun _ hk => hk.2) (.slice Ao39 t213.length co39)) (fun _ h_ => h_.1)))); (case side2 => exact (Kd.R_reads' HO215.out).2.1); rintro e w42 ⟨rfl, hb⟩; refine ⟨_, rfl, ?_⟩; have n0_ := Aside0.mk (Kd.R_below (by (with_reducible repeat (first | apply Kd.R_alloc | apply Kd.R_drewN | apply Kd.R_drew)); exact (Kd.R_mono (Kd.R_far (p := ⟨gb216, 0, none⟩) (Kd.R_types HO211.out BK216.out (by decide)) (fun _ hk => hk.2) (.slice Ao39 t213.length co39)) (fun _ h_ => h_.1))) hb); have n1_ := Aside0.mk (Kd.R_below (by (with_reducible repeat (first | apply Kd.R_alloc | apply Kd.R_drewN | apply Kd.R_drew)); exact (Kd.R_mono (Kd.R_far (p := ⟨gb216, 0, none⟩) (Kd.R_types HO215.out BK216.out (by decide)) (fun _ hk => hk.2) (.slice Ao39 t213.length co39)) (fun _ h_ => h_.1))) hb); have n2_ := Aside0.mk (blk_below (g := gb207) (o := .cells #[.slice A0_0 l0_0.length c0_0] 24 (0, 0)) (by (with_reducible repeat (first | refine blk_drewN ?_ _ | refine blk_drew ?_ | refine blk_alloc ?_ _)); refine blk_far ?_ NB207_216.out _; (with_reducible repeat (first | refine blk_drewN ?_ _ | refine blk_drew ?_ | refine blk_alloc ?_ _)); exact BK207.out) hb); have n3_ := Aside0.mk (blk_below (g := gb216) (o := .cells #[.slice Ao39 t213.length co39] 29 (0, 0)) (by (with_reducible repeat (first | refine blk_drewN ?_ _ | refine blk_drew ?_ | refine blk_alloc ?_ _)); refine blk_put (cs := #[.slice none 0 0]) ?_ 0 _ rfl; (with_reducible repeat (first | refine blk_drewN ?_ _ | refine blk_drew ?_ | refine blk_alloc ?_ _)); exact BK216.out) hb); have n4_ := Aside0.mk (below_step bw hb); clear HO211; clear HO215; clear BK207; clear BK216; clear HB; have HO211 := n0_; have HO215 := n1_; have BK207 := n2_; have BK216 := n3_; have HB := n4_; clear n0_ n1_ n2_ n3_ n4_; (try clear hb); (try clear hb2); (try clear hk); (try clear hi)))
    have n0_ := Aside0.mk (Kd.R_drew HO211.out)
    have n1_ := Aside0.mk (Kd.R_drew HO215.out)
    have n2_ := Aside0.mk (blk_drew BK207.out)
    have n3_ := Aside0.mk (blk_drew BK216.out)
    have n4_ := Aside0.mk (below_drew1 HB.out)
    clear HO211
    clear HO215
    clear BK207
    clear BK216
    clear HB
    have HO211 := n0_
    have HO215 := n1_
    have BK207 := n2_
    have BK216 := n3_
    have HB := n4_
    clear n0_ n1_ n2_ n3_ n4_
    refine start_ (n := 5) (S := fun w' => w'.cell? ⟨gb216, 0, none⟩ = some (.slice Ao39 t213.length co39) ∧ w'.cell? ⟨gb207, 0, none⟩ = some (.slice A0_0 l0_0.length c0_0)) (ds := []) #[false, false, false, false, false] (by kernel_rfl) rfl rfl ⟨(blk_cell BK216.out 0).trans rfl, (blk_cell BK207.out 0).trans rfl⟩ (fun hHeld => ?_)
    generalize w42.drew = w43 at HO211 HO215 BK207 BK216 HB hHeld ⊢
    refine take_ (i := 0) (N := some 22) (v := ?_) (a' := ?_) #[true, false, false, false, false] rfl rfl (by kernel_rfl) (fun _ _ _ h => h) (Or.inl ⟨by rfl, ?_⟩) hHeld ?_ ?_
    rotate_left
    ·rintro w' ⟨s0, s1⟩
     go_simp
     with_reducible rfl
    rotate_left
    ·simp only [Act.put, List.setIfInBounds_toArray, List.set_cons_zero, List.set_cons_succ, i64_w, i32_w]
     rfl
    refine take_ (i := 1) (N := some 23) (v := ?_) (a' := ?_) #[true, true, false, false, false] rfl rfl (by kernel_rfl) (fun _ _ _ h => h) (Or.inl ⟨by rfl, ?_⟩) hHeld ?_ ?_
    rotate_left
    ·rintro w' ⟨s0, s1⟩
     go_simp
     with_reducible rfl
    rotate_left
    ·simp only [Act.put, List.setIfInBounds_toArray, List.set_cons_zero, List.set_cons_succ, i64_w, i32_w]
     rfl
    refine one_ (i := 2) (N := some 24) #[true, true, true, false, false] rfl rfl (by kernel_rfl) (by decide) (fun K hK => ?_)
    refine goes_ Try.func8 (by kernel_rfl) rfl #[.agg #[.slice A0_0 l0_0.length c0_0]] (by rfl) rfl rfl (by (try simp only [List.map_toArray, List.map_cons, List.map_nil]); first | done | rfl | (simp only [List.length_drop, List.length_take]; rfl)) ?_
    with_reducible refine (laws_toFilter.calls k _ _ l0_0 t218 _ ?side1 ?side2 A26.out).mono ?_
    (case side1 => repeat (first | exact (Kd.C_below HR0_0.out HB.out) | (with_reducible refine Kd.C_alloc ?_ _) | (with_reducible refine Kd.C_drewN ?_ _) | (with_reducible refine Kd.C_drew ?_)))
    (case side2 => exact HC0_0.out)
    rintro e w44 ⟨v219, rfl, ho0, hb⟩
    refine ⟨_, rfl, ?_⟩
    have n0_ := Aside0.mk (Kd.R_elder' (lf HO211) (Kd.R_base ho0) hb)
    have n1_ := Aside0.mk (Kd.R_elder' (lf HO215) (Kd.R_base ho0) hb)
    have n2_ := Aside0.mk (Kd.R_lower (Kd.R_new' (Kd.R_new' ho0 (Kd.R_lt (lf HO211))) (Kd.R_lt (lf HO215))) (below_size bw))
    have n3_ := Aside0.mk (blk_below (g := gb207) (o := .cells #[.slice A0_0 l0_0.length c0_0] 24 (0, 0)) (lb BK207) hb)
    have n4_ := Aside0.mk (blk_below (g := gb216) (o := .cells #[.slice Ao39 t213.length co39] 29 (0, 0)) (lb BK216) hb)
    have n5_ := Aside0.mk (below_step bw hb)
    clear HO211
    clear HO215
    clear BK207
    clear BK216
    clear HB
    have HO211 := n0_
    have HO215 := n1_
    have HO220 := n2_
    have BK207 := n3_
    have BK216 := n4_
    have HB := n5_
    clear n0_ n1_ n2_ n3_ n4_ n5_
    (try clear hb)
    (try clear hb2)
    (try clear hk)
    (try clear hi)
    (try clear ho0)
    obtain ⟨Ao45, co45, eo45⟩ := Kd.R_slice HO220.out
    (first | subst eo45 | (injection eo45 with f1_ f2_ f3_; have f4_ := f1_.symm; have f5_ := f3_.symm; clear f1_ f2_ f3_; subst f4_; subst f5_))
    refine hK.out _ _ ⟨(blk_cell BK216.out 0).trans rfl, (blk_cell BK207.out 0).trans rfl⟩ (fun hHeld => ?_)
    clear hK K
    refine norm_ (a' := ?_) ?_ ?_
    rotate_left
    ·show Act.put _ (some 24) _ = _
     simp only [Act.put, List.setIfInBounds_toArray, List.set_cons_zero, List.set_cons_succ, i64_w, i32_w]
     rfl
    refine one_ (i := 3) (N := some 25) #[true, true, true, true, false] rfl rfl (by kernel_rfl) (by decide) (fun K hK => ?_)
    refine goes_ Try.func10 (by kernel_rfl) rfl #[.agg #[.slice Ao39 t213.length co39], .agg #[.slice Ao45 t218.length co45]] (by rfl) rfl rfl (by (try simp only [List.map_toArray, List.map_cons, List.map_nil]); first | done | rfl | (simp only [List.length_drop, List.length_take]; rfl)) ?_
    with_reducible refine (laws_eqFilter.calls k _ _ t213 _ _ t218 true _ ?side1 ?side2 ?side3 ?side4 A27.out).mono ?_
    (case side1 => repeat (first | exact (Kd.R_reads' HO215.out).2.2 | (with_reducible refine Kd.C_alloc ?_ _) | (with_reducible refine Kd.C_drewN ?_ _) | (with_reducible refine Kd.C_drew ?_)))
    (case side2 => exact (Kd.R_reads' HO215.out).2.1)
    (case side3 => repeat (first | exact (Kd.R_reads' HO220.out).2.2 | (with_reducible refine Kd.C_alloc ?_ _) | (with_reducible refine Kd.C_drewN ?_ _) | (with_reducible refine Kd.C_drew ?_)))
    (case side4 => exact (Kd.R_reads' HO220.out).2.1)
    rintro e w46 ⟨rfl, hb⟩
    refine ⟨_, rfl, ?_⟩
    have n0_ := Aside0.mk (Kd.R_below (lf HO211) hb)
    have n1_ := Aside0.mk (Kd.R_below (lf HO215) hb)
    have n2_ := Aside0.mk (Kd.R_below (lf HO220) hb)
    have n3_ := Aside0.mk (blk_below (g := gb207) (o := .cells #[.slice A0_0 l0_0.length c0_0] 24 (0, 0)) (lb BK207) hb)
    have n4_ := Aside0.mk (blk_below (g := gb216) (o := .cells #[.slice Ao39 t213.length co39] 29 (0, 0)) (lb BK216) hb)
    have n5_ := Aside0.mk (below_step bw hb)
    clear HO211
    clear HO215
    clear HO220
    clear BK207
    clear BK216
    clear HB
    have HO211 := n0_
    have HO215 := n1_
    have HO220 := n2_
    have BK207 := n3_
    have BK216 := n4_
    have HB := n5_
    clear n0_ n1_ n2_ n3_ n4_ n5_
    (try clear hb)
    (try clear hb2)
    (try clear hk)
    (try clear hi)
    refine hK.out _ _ ⟨(blk_cell BK216.out 0).trans rfl, (blk_cell BK207.out 0).trans rfl⟩ (fun hHeld => ?_)
    clear hK K
    refine norm_ (a' := ?_) ?_ ?_
    rotate_left
    ·show Act.put _ (some 25) _ = _
     simp only [Act.put, List.setIfInBounds_toArray, List.set_cons_zero, List.set_cons_succ, i64_w, i32_w]
     rfl
    refine pure_ (i := 4) (N := some 26) (v := ?_) (a' := ?_) #[true, true, true, true, true] rfl rfl (by kernel_rfl) (fun _ _ _ h => h) (Or.inl ⟨by rfl, ?_⟩) ?_ ?_
    rotate_left
    ·intro w'
     go_simp
     with_reducible rfl
    rotate_left
    ·simp only [Act.put, List.setIfInBounds_toArray, List.set_cons_zero, List.set_cons_succ, i64_w, i32_w]
     rfl
    refine done_ (by kernel_rfl) ?_
    try go_wp2
    go_ret
    exact ⟨by first | rfl | (simp [errW_none, errW_some] <;> rfl) | (simp [*, errW_none, errW_some] <;> rfl), bw⟩
   ·replace c28 := Bool.eq_false_iff.mpr c28
    subst c28
    have H1 : (some false) = some r := by rw [if_neg (show ¬ (false = true) by decide)] at H; exact H
    clear H
    have H := H1
    clear H1
    obtain rfl := Option.some.inj H
    go_enter Try.func3, Try.ntmps3
    try go_wp2_with (first | ((with_reducible refine gate_dst (N := 1) rfl ?_); refine box_event ?hg (N := 1) ?hd (cs := #[.slice A0_0 l0_0.length c0_0]) (t := 24) ?hr ?_; (case hd => rfl); (case hg => rfl); (case hr => first | (go_simp; done) | (go_simp; rfl)); intro gb207 hg w47 hbox hb; have n0_ := Aside0.mk (below_step bw hb); have n1_ := Aside0.mk (hbox); have n2_ := Aside0.mk ((by rw [hg]; exact (below_size bw) : w.heap.size ≤ gb207)); have n3_ := Aside0.mk ((by rw [hg]; exact (below_size bw) : w.heap.size ≤ gb207)); clear HB; have HB := n0_; have BK207 := n1_; have GW207 := n2_; have GE207 := n3_; clear n0_ n1_ n2_ n3_; clear hb hbox hg; have hcz48_0 : w47.cell? ⟨gb207, 0, none⟩ = some (.slice A0_0 l0_0.length c0_0) := (blk_cell BK207.out 0).trans rfl; have hfz48_0 := blk_frozen BK207.out 0) | ((with_reducible refine at_fn (f := 6) rfl ?_); refine goesL_ (some 9) rfl rfl Try.func6 (by kernel_rfl) rfl #[.agg #[.slice A0_0 l0_0.length c0_0], .int .i64 1048576] rfl (by (try simp only [List.map_toArray, List.map_cons, List.map_nil]); first | done | rfl | (simp only [List.length_drop, List.length_take]; rfl)) ?_; (with_reducible refine (laws_szFilter.calls k _ _ l0_0 1048576 t208 _ ?side1 ?side2 A2.out).mono ?_); (case side1 => repeat (first | exact (Kd.C_below HR0_0.out HB.out) | (with_reducible refine Kd.C_alloc ?_ _) | (with_reducible refine Kd.C_drewN ?_ _) | (with_reducible refine Kd.C_drew ?_))); (case side2 => exact HC0_0.out); rintro e w49 ⟨rfl, hb⟩; refine ⟨_, rfl, ?_⟩; have n0_ := Aside0.mk (blk_below (g := gb207) (o := .cells #[.slice A0_0 l0_0.length c0_0] 24 (0, 0)) (lb BK207) hb); have n1_ := Aside0.mk (below_step bw hb); clear BK207; clear HB; have BK207 := n0_; have HB := n1_; clear n0_ n1_; (try clear hb); (try clear hb2); (try clear hk); (try clear hi); have hcz50_0 : w49.cell? ⟨gb207, 0, none⟩ = some (.slice A0_0 l0_0.length c0_0) := (blk_cell BK207.out 0).trans rfl; have hfz50_0 := blk_frozen BK207.out 0) | ((with_reducible refine at_fn (f := 8) rfl ?_); refine goesL_ (some 13) rfl rfl Try.func8 (by kernel_rfl) rfl #[.agg #[.slice A0_0 l0_0.length c0_0]] rfl (by (try simp only [List.map_toArray, List.map_cons, List.map_nil]); first | done | rfl | (simp only [List.length_drop, List.length_take]; rfl)) ?_; (with_reducible refine (laws_toFilter.calls k _ _ l0_0 t209 _ ?side1 ?side2 A7.out).mono ?_); (case side1 => repeat (first | exact (Kd.C_below HR0_0.out HB.out) | (with_reducible refine Kd.C_alloc ?_ _) | (with_reducible refine Kd.C_drewN ?_ _) | (with_reducible refine Kd.C_drew ?_))); (case side2 => exact HC0_0.out); rintro e w51 ⟨v210, rfl, ho0, hb⟩; refine ⟨_, rfl, ?_⟩; have n0_ := Aside0.mk (Kd.R_lower ho0 (below_size bw)); have n1_ := Aside0.mk (blk_below (g := gb207) (o := .cells #[.slice A0_0 l0_0.length c0_0] 24 (0, 0)) (lb BK207) hb); have n2_ := Aside0.mk (below_step bw hb); clear BK207; clear HB; have HO211 := n0_; have BK207 := n1_; have HB := n2_; clear n0_ n1_ n2_; (try clear hb); (try clear hb2); (try clear hk); (try clear hi); (try clear ho0); obtain ⟨Ao52, co52, eo52⟩ := Kd.R_slice HO211.out; subst eo52) | ((with_reducible refine at_fn (f := 7) rfl ?_); refine goesL_ (some 14) rfl rfl Try.func7 (by kernel_rfl) rfl #[.agg #[.slice Ao52 t209.length co52]] rfl (by (try simp only [List.map_toArray, List.map_cons, List.map_nil]); first | done | rfl | (simp only [List.length_drop, List.length_take]; rfl)) ?_; (with_reducible refine (spec_ValidFilter.calls k _ _ t209 t212 _ ?side1 ?side2 A8.out).mono ?_); (case side1 => repeat (first | exact (Kd.R_reads' HO211.out).2.2 | (with_reducible refine Kd.C_alloc ?_ _) | (with_reducible refine Kd.C_drewN ?_ _) | (with_reducible refine Kd.C_drew ?_))); (case side2 => exact (Kd.R_reads' HO211.out).2.1); rintro e w53 ⟨rfl, hb⟩; refine ⟨_, rfl, ?_⟩; have n0_ := Aside0.mk (Kd.R_below (lf HO211) hb); have n1_ := Aside0.mk (blk_below (g := gb207) (o := .cells #[.slice A0_0 l0_0.length c0_0] 24 (0, 0)) (lb BK207) hb); have n2_ := Aside0.mk (below_step bw hb); clear HO211; clear BK207; clear HB; have HO211 := n0_; have BK207 := n1_; have HB := n2_; clear n0_ n1_ n2_; (try clear hb); (try clear hb2); (try clear hk); (try clear hi); have hcz54_0 : w53.cell? ⟨gb207, 0, none⟩ = some (.slice A0_0 l0_0.length c0_0) := (blk_cell BK207.out 0).trans rfl; have hfz54_0 := blk_frozen BK207.out 0) | ((with_reducible refine at_fn (f := 8) rfl ?_); refine goesL_ (some 16) rfl rfl Try.func8 (by kernel_rfl) rfl #[.agg #[.slice A0_0 l0_0.length c0_0]] rfl (by (try simp only [List.map_toArray, List.map_cons, List.map_nil]); first | done | rfl | (simp only [List.length_drop, List.length_take]; rfl)) ?_; (with_reducible refine (laws_toFilter.calls k _ _ l0_0 t213 _ ?side1 ?side2 A9.out).mono ?_); (case side1 => repeat (first | exact (Kd.C_below HR0_0.out HB.out) | (with_reducible refine Kd.C_alloc ?_ _) | (with_reducible refine Kd.C_drewN ?_ _) | (with_reducible refine Kd.C_drew ?_))); (case side2 => exact HC0_0.out); rintro e w55 ⟨v214, rfl, ho0, hb⟩; refine ⟨_, rfl, ?_⟩; have n0_ := Aside0.mk (Kd.R_elder' (lf HO211) (Kd.R_base ho0) hb); have n1_ := Aside0.mk (Kd.R_lower (Kd.R_new' ho0 (Kd.R_lt (lf HO211))) (below_size bw)); have n2_ := Aside0.mk (blk_below (g := gb207) (o := .cells #[.slice A0_0 l0_0.length c0_0] 24 (0, 0)) (lb BK207) hb); have n3_ := Aside0.mk (below_step bw hb); clear HO211; clear BK207; clear HB; have HO211 := n0_; have HO215 := n1_; have BK207 := n2_; have HB := n3_; clear n0_ n1_ n2_ n3_; (try clear hb); (try clear hb2); (try clear hk); (try clear hi); (try clear ho0)) | ((with_reducible refine gate_dst (N := 5) rfl ?_); refine box_event ?hg (N := 5) ?hd (cs := #[.slice none 0 0]) (t := 29) ?hr ?_; (case hd => rfl); (case hg => rfl); (case hr => first | (go_simp; done) | (go_simp; rfl)); intro gb216 hg w56 hbox hb; have n0_ := Aside0.mk (Kd.R_below (lf HO211) hb); have n1_ := Aside0.mk (Kd.R_below (lf HO215) hb); have n2_ := Aside0.mk (blk_below (g := gb207) (o := .cells #[.slice A0_0 l0_0.length c0_0] 24 (0, 0)) (lb BK207) hb); have n3_ := Aside0.mk (below_step bw hb); have n4_ := Aside0.mk (hbox); have n5_ := Aside0.mk ((by rw [hg]; exact (below_size bw) : w.heap.size ≤ gb216)); have n6_ := Aside0.mk ((by rw [hg]; exact (below_size bw) : w.heap.size ≤ gb216)); have n7_ := Aside0.mk ((by rw [hg]; exact Nat.ne_of_lt (blk_lt (g := gb207) (o := .cells #[.slice A0_0 l0_0.length c0_0] 24 (0, 0)) (lb BK207)) : gb207 ≠ gb216)); have n8_ := Aside0.mk ((by rw [hg]; exact Nat.ne_of_gt (blk_lt (g := gb207) (o := .cells #[.slice A0_0 l0_0.length c0_0] 24 (0, 0)) (lb BK207)) : gb216 ≠ gb207)); clear HO211; clear HO215; clear BK207; clear HB; have HO211 := n0_; have HO215 := n1_; have BK207 := n2_; have HB := n3_; have BK216 := n4_; have GW216 := n5_; have GE216 := n6_; have NB207_216 := n7_; have NB216_207 := n8_; clear n0_ n1_ n2_ n3_ n4_ n5_ n6_ n7_ n8_; clear hb hbox hg; obtain ⟨Ao57, co57, eo57⟩ := Kd.R_slice HO215.out; subst eo57; have hnb58 := NB216_207.out; have hnc58 := NB207_216.out; have hcz59_0 : w56.cell? ⟨gb216, 0, none⟩ = some (.slice none 0 0) := (blk_cell BK216.out 0).trans rfl; have hfz59_0 := blk_frozen BK216.out 0) | ((with_reducible refine at_fn (f := 9) rfl ?_); refine goesL_ (some 18) rfl rfl Try.func9 (by kernel_rfl) rfl #[.agg #[.slice Ao57 t213.length co57]] rfl (by (try simp only [List.map_toArray, List.map_cons, List.map_nil]); first | done | rfl | (simp only [List.length_drop, List.length_take]; rfl)) ?_; (with_reducible refine (impl_ValidFilter.calls _ _ t213 t217 _ ?side1 ?side2 A10.out).mono ?_); (case side1 => refine (Kd.R_reads' (e := 66) (base := w.heap.size) (ok := fun k_ => (True ∧ some k_ ≠ (.slice Ao52 t209.length co52 : Value).ownBlock)) (n := t213.length) (c := co57) ?_).2.2; exact (by (with_reducible repeat (first | apply Kd.R_alloc | apply Kd.R_drewN | apply Kd.R_drew)); exact (Kd.R_mono (Kd.R_far (p := ⟨gb216, 0, none⟩) (Kd.R_types HO215.out BK216.out (by decide)) (fun _ hk => hk.2) (.slice Ao57 t213.length co57)) (fun _ h_ => h_.1)))); (case side2 => exact (Kd.R_reads' HO215.out).2.1); rintro e w60 ⟨rfl, hb⟩; refine ⟨_, rfl, ?_⟩; have n0_ := Aside0.mk (Kd.R_below (by (with_reducible repeat (first | apply Kd.R_alloc | apply Kd.R_drewN | apply Kd.R_drew)); exact (Kd.R_mono (Kd.R_far (p := ⟨gb216, 0, none⟩) (Kd.R_types HO211.out BK216.out (by decide)) (fun _ hk => hk.2) (.slice Ao57 t213.length co57)) (fun _ h_ => h_.1))) hb); have n1_ := Aside0.mk (Kd.R_below (by (with_reducible repeat (first | apply Kd.R_alloc | apply Kd.R_drewN | apply Kd.R_drew)); exact (Kd.R_mono (Kd.R_far (p := ⟨gb216, 0, none⟩) (Kd.R_types HO215.out BK216.out (by decide)) (fun _ hk => hk.2) (.slice Ao57 t213.length co57)) (fun _ h_ => h_.1))) hb); have n2_ := Aside0.mk (blk_below (g := gb207) (o := .cells #[.slice A0_0 l0_0.length c0_0] 24 (0, 0)) (by (with_reducible repeat (first | refine blk_drewN ?_ _ | refine blk_drew ?_ | refine blk_alloc ?_ _)); refine blk_far ?_ NB207_216.out _; (with_reducible repeat (first | refine blk_drewN ?_ _ | refine blk_drew ?_ | refine blk_alloc ?_ _)); exact BK207.out) hb); have n3_ := Aside0.mk (blk_below (g := gb216) (o := .cells #[.slice Ao57 t213.length co57] 29 (0, 0)) (by (with_reducible repeat (first | refine blk_drewN ?_ _ | refine blk_drew ?_ | refine blk_alloc ?_ _)); refine blk_put (cs := #[.slice none 0 0]) ?_ 0 _ rfl; (with_reducible repeat (first | refine blk_drewN ?_ _ | refine blk_drew ?_ | refine blk_alloc ?_ _)); exact BK216.out) hb); have n4_ := Aside0.mk (below_step bw hb); clear HO211; clear HO215; clear BK207; clear BK216; clear HB; have HO211 := n0_; have HO215 := n1_; have BK207 := n2_; have BK216 := n3_; have HB := n4_; clear n0_ n1_ n2_ n3_ n4_; (try clear hb); (try clear hb2); (try clear hk); (try clear hi)))
    have n0_ := Aside0.mk (Kd.R_drew HO211.out)
    have n1_ := Aside0.mk (Kd.R_drew HO215.out)
    have n2_ := Aside0.mk (blk_drew BK207.out)
    have n3_ := Aside0.mk (blk_drew BK216.out)
    have n4_ := Aside0.mk (below_drew1 HB.out)
    clear HO211
    clear HO215
    clear BK207
    clear BK216
    clear HB
    have HO211 := n0_
    have HO215 := n1_
    have BK207 := n2_
    have BK216 := n3_
    have HB := n4_
    clear n0_ n1_ n2_ n3_ n4_
    refine start_ (n := 5) (S := fun w' => w'.cell? ⟨gb216, 0, none⟩ = some (.slice Ao57 t213.length co57) ∧ w'.cell? ⟨gb207, 0, none⟩ = some (.slice A0_0 l0_0.length c0_0)) (ds := []) #[false, false, false, false, false] (by kernel_rfl) rfl rfl ⟨(blk_cell BK216.out 0).trans rfl, (blk_cell BK207.out 0).trans rfl⟩ (fun hHeld => ?_)
    generalize w60.drew = w61 at HO211 HO215 BK207 BK216 HB hHeld ⊢
    refine take_ (i := 0) (N := some 22) (v := ?_) (a' := ?_) #[true, false, false, false, false] rfl rfl (by kernel_rfl) (fun _ _ _ h => h) (Or.inl ⟨by rfl, ?_⟩) hHeld ?_ ?_
    rotate_left
    ·rintro w' ⟨s0, s1⟩
     go_simp
     with_reducible rfl
    rotate_left
    ·simp only [Act.put, List.setIfInBounds_toArray, List.set_cons_zero, List.set_cons_succ, i64_w, i32_w]
     rfl
    refine take_ (i := 1) (N := some 23) (v := ?_) (a' := ?_) #[true, true, false, false, false] rfl rfl (by kernel_rfl) (fun _ _ _ h => h) (Or.inl ⟨by rfl, ?_⟩) hHeld ?_ ?_
    rotate_left
    ·rintro w' ⟨s0, s1⟩
     go_simp
     with_reducible rfl
    rotate_left
    ·simp only [Act.put, List.setIfInBounds_toArray, List.set_cons_zero, List.set_cons_succ, i64_w, i32_w]
     rfl
    refine one_ (i := 2) (N := some 24) #[true, true, true, false, false] rfl rfl (by kernel_rfl) (by decide) (fun K hK => ?_)
    refine goes_ Try.func8 (by kernel_rfl) rfl #[.agg #[.slice A0_0 l0_0.length c0_0]] (by rfl) rfl rfl (by (try simp only [List.map_toArray, List.map_cons, List.map_nil]); first | done | rfl | (simp only [List.length_drop, List.length_take]; rfl)) ?_
    with_reducible refine (laws_toFilter.calls k _ _ l0_0 t218 _ ?side1 ?side2 A26.out).mono ?_
    (case side1 => repeat (first | exact (Kd.C_below HR0_0.out HB.out) | (with_reducible refine Kd.C_alloc ?_ _) | (with_reducible refine Kd.C_drewN ?_ _) | (with_reducible refine Kd.C_drew ?_)))
    (case side2 => exact HC0_0.out)
    rintro e w62 ⟨v219, rfl, ho0, hb⟩
    refine ⟨_, rfl, ?_⟩
    have n0_ := Aside0.mk (Kd.R_elder' (lf HO211) (Kd.R_base ho0) hb)
    have n1_ := Aside0.mk (Kd.R_elder' (lf HO215) (Kd.R_base ho0) hb)
    have n2_ := Aside0.mk (Kd.R_lower (Kd.R_new' (Kd.R_new' ho0 (Kd.R_lt (lf HO211))) (Kd.R_lt (lf HO215))) (below_size bw))
    have n3_ := Aside0.mk (blk_below (g := gb207) (o := .cells #[.slice A0_0 l0_0.length c0_0] 24 (0, 0)) (lb BK207) hb)
    have n4_ := Aside0.mk (blk_below (g := gb216) (o := .cells #[.slice Ao57 t213.length co57] 29 (0, 0)) (lb BK216) hb)
    have n5_ := Aside0.mk (below_step bw hb)
    clear HO211
    clear HO215
    clear BK207
    clear BK216
    clear HB
    have HO211 := n0_
    have HO215 := n1_
    have HO220 := n2_
    have BK207 := n3_
    have BK216 := n4_
    have HB := n5_
    clear n0_ n1_ n2_ n3_ n4_ n5_
    (try clear hb)
    (try clear hb2)
    (try clear hk)
    (try clear hi)
    (try clear ho0)
    obtain ⟨Ao63, co63, eo63⟩ := Kd.R_slice HO220.out
    (first | subst eo63 | (injection eo63 with f1_ f2_ f3_; have f4_ := f1_.symm; have f5_ := f3_.symm; clear f1_ f2_ f3_; subst f4_; subst f5_))
    refine hK.out _ _ ⟨(blk_cell BK216.out 0).trans rfl, (blk_cell BK207.out 0).trans rfl⟩ (fun hHeld => ?_)
    clear hK K
    refine norm_ (a' := ?_) ?_ ?_
    rotate_left
    ·show Act.put _ (some 24) _ = _
     simp only [Act.put, List.setIfInBounds_toArray, List.set_cons_zero, List.set_cons_succ, i64_w, i32_w]
     rfl
    refine one_ (i := 3) (N := some 25) #[true, true, true, true, false] rfl rfl (by kernel_rfl) (by decide) (fun K hK => ?_)
    refine goes_ Try.func10 (by kernel_rfl) rfl #[.agg #[.slice Ao57 t213.length co57], .agg #[.slice Ao63 t218.length co63]] (by rfl) rfl rfl (by (try simp only [List.map_toArray, List.map_cons, List.map_nil]); first | done | rfl | (simp only [List.length_drop, List.length_take]; rfl)) ?_
    with_reducible refine (laws_eqFilter.calls k _ _ t213 _ _ t218 false _ ?side1 ?side2 ?side3 ?side4 A27.out).mono ?_
    (case side1 => repeat (first | exact (Kd.R_reads' HO215.out).2.2 | (with_reducible refine Kd.C_alloc ?_ _) | (with_reducible refine Kd.C_drewN ?_ _) | (with_reducible refine Kd.C_drew ?_)))
    (case side2 => exact (Kd.R_reads' HO215.out).2.1)
    (case side3 => repeat (first | exact (Kd.R_reads' HO220.out).2.2 | (with_reducible refine Kd.C_alloc ?_ _) | (with_reducible refine Kd.C_drewN ?_ _) | (with_reducible refine Kd.C_drew ?_)))
    (case side4 => exact (Kd.R_reads' HO220.out).2.1)
    rintro e w64 ⟨rfl, hb⟩
    refine ⟨_, rfl, ?_⟩
    have n0_ := Aside0.mk (Kd.R_below (lf HO211) hb)
    have n1_ := Aside0.mk (Kd.R_below (lf HO215) hb)
    have n2_ := Aside0.mk (Kd.R_below (lf HO220) hb)
    have n3_ := Aside0.mk (blk_below (g := gb207) (o := .cells #[.slice A0_0 l0_0.length c0_0] 24 (0, 0)) (lb BK207) hb)
    have n4_ := Aside0.mk (blk_below (g := gb216) (o := .cells #[.slice Ao57 t213.length co57] 29 (0, 0)) (lb BK216) hb)
    have n5_ := Aside0.mk (below_step bw hb)
    clear HO211
    clear HO215
    clear HO220
    clear BK207
    clear BK216
    clear HB
    have HO211 := n0_
    have HO215 := n1_
    have HO220 := n2_
    have BK207 := n3_
    have BK216 := n4_
    have HB := n5_
    clear n0_ n1_ n2_ n3_ n4_ n5_
    (try clear hb)
    (try clear hb2)
    (try clear hk)
    (try clear hi)
    refine hK.out _ _ ⟨(blk_cell BK216.out 0).trans rfl, (blk_cell BK207.out 0).trans rfl⟩ (fun hHeld => ?_)
    clear hK K
    refine norm_ (a' := ?_) ?_ ?_
    rotate_left
    ·show Act.put _ (some 25) _ = _
     simp only [Act.put, List.setIfInBounds_toArray, List.set_cons_zero, List.set_cons_succ, i64_w, i32_w]
     rfl
    refine pure_ (i := 4) (N := some 26) (v := ?_) (a' := ?_) #[true, true, true, true, true] rfl rfl (by kernel_rfl) (fun _ _ _ h => h) (Or.inl ⟨by rfl, ?_⟩) ?_ ?_
    rotate_left
    ·intro w'
     go_simp
     with_reducible rfl
    rotate_left
    ·simp only [Act.put, List.setIfInBounds_toArray, List.set_cons_zero, List.set_cons_succ, i64_w, i32_w]
     rfl
    refine done_ (by kernel_rfl) ?_
    try go_wp2
    go_ret
    exact ⟨by first | rfl | (simp [errW_none, errW_some] <;> rfl) | (simp [*, errW_none, errW_some] <;> rfl), bw⟩

end Go.Proofs.Ytcfbbbilonignaa.Q

namespace Go.Proofs.Ytcfbbbilonignaa.Q
open Go.RowKit Go.Proofs.YtcfbbbilonignaaW.PrintWords Go.Proofs.YtcfbbbilonignaaW.PrintLast
set_option linter.unusedVariables false

/-- The law over lists and numbers. -/
def laws_FnExactValidFilter.Pure : Prop := ∀ (l0_0 : List (S97)), (l0_0.length ≤ maxLen ∧ ∀ x_ ∈ l0_0, ok97 x_) → ∃ k, laws_FnExactValidFilter.f k l0_0 = some true
end Go.Proofs.Ytcfbbbilonignaa.Q

namespace Go.Proofs.Ytcfbbbilonignaa.Q
open Go.RowKit Go.Proofs.YtcfbbbilonignaaW.PrintWords Go.Proofs.YtcfbbbilonignaaW.PrintLast
set_option linter.unusedVariables false
set_option linter.unusedSimpArgs false
def cvM (x : S97) : S66 := ⟨x.f0, x.f1, x.f2, x.f3, x.f4, x.f5, x.f6⟩
theorem szM_ok (x : S97) (n : Int) (hx : ok97 x) (h0 : 0 ≤ n) (h1 : n ≤ 1048576) : ∃ t, Ev (fun k => laws_szNode.f x.f0 x.f1 x.f2 x.f3 x.f4 x.f5 x.f6 n) t ∧ (t < 0 ∨ (0 ≤ t ∧ t ≤ n ∧ True)) := by
  obtain ⟨-, s1, -, s3, -⟩ := hx
  simp only [maxLen] at s1 s3
  unfold laws_szNode.f
  rw [wrap_id _ (by omega) (by omega)]
  by_cases h : n - (x.f1.size : Int) < 0
  · exact ⟨-1, Ev.of_all fun k => if_pos h, .inl (by omega)⟩
  · rw [if_neg h, wrap_id _ (by omega) (by omega)]
    by_cases h2 : n - (x.f1.size : Int) - (x.f3.size : Int) < 0
    · exact ⟨-1, Ev.of_all fun k => if_pos h2, .inl (by omega)⟩
    · exact ⟨_, Ev.of_all fun k => if_neg h2, .inr ⟨by omega, by omega, trivial⟩⟩
theorem szFilter_ok (xs : List S97) (n : Int) (hl : xs.length ≤ maxLen) (hok : ∀ x ∈ xs, ok97 x) (h0 : 0 ≤ n) (h1 : n ≤ 1048576) :
    ∃ t, Ev (fun k => laws_szFilter.f k xs n) t ∧ (t < 0 ∨ (0 ≤ t ∧ t ≤ n ∧ xs.length ≤ 1048576)) := by
  simp only [maxLen] at hl
  unfold laws_szFilter.f laws_szNodeS.f
  rw [wrap_id _ (by omega) (by omega)]
  by_cases h : n - (xs.length : Int) < 0
  · exact ⟨-1, Ev.bind (Ev.if_pos h (Ev.now (-1))) (Ev.if_pos (by omega) (Ev.now _)), .inl (by omega)⟩
  · obtain ⟨t, ht, h2⟩ := sz_all xs z97 (fun _ => True) (fun k x n => laws_szNode.f x.f0 x.f1 x.f2 x.f3 x.f4 x.f5 x.f6 n) (fun k n i => laws_szNodeS.l0 k xs n i) (by omega)
      (fun k n i hi => by simp only [laws_szNodeS.l0]; rw [if_pos (by omega), if_pos (by omega), wrap_nat _ (by omega)]; rfl)
      (fun k n => by simp only [laws_szNodeS.l0]; rw [if_neg (by omega)]) (fun x hx n h0 h1 => szM_ok x n (hok x hx) h0 h1) xs [] (n - xs.length) rfl (by omega) (by omega)
    rcases h2 with h2 | ⟨h2, h3, h4⟩
    · exact ⟨-1, Ev.bind (Ev.if_neg h ht) (Ev.if_pos h2 (Ev.now _)), .inl (by omega)⟩
    · exact ⟨t, Ev.bind (Ev.if_neg h ht) (Ev.if_neg (by omega) (Ev.now _)), .inr ⟨h2, by omega, by omega⟩⟩
theorem toFilter_is (xs : List S97) (hl : xs.length ≤ 1048576) : Ev (fun k => laws_toFilter.f k xs) (xs.map cvM) := by
  unfold laws_toFilter.f laws_toNodeS.f
  simp only [Int.toNat_natCast]
  have h := to_all xs z97 z66 (fun k x => laws_toNode.f x.f0 x.f1 x.f2 x.f3 x.f4 x.f5 x.f6) (fun t => (⟨t.1, t.2.1, t.2.2.1, t.2.2.2.1, t.2.2.2.2.1, t.2.2.2.2.2.1, t.2.2.2.2.2.2⟩ : S66)) cvM (fun k ys i => laws_toNodeS.l0 k xs ys i) (by omega)
    (fun k ys i hi hj => by
      simp only [laws_toNodeS.l0]; rw [if_pos (by omega), if_pos (by omega), wrap_nat _ (by omega)]
      have hj' : (i : Int) < (ys.length : Int) := by omega
      simp only [Int.toNat_natCast, hj', if_true]; rfl)
    (fun k ys => by simp only [laws_toNodeS.l0]; rw [if_neg (by omega)])
    (fun x hx => ⟨_, Ev.of_all fun k => by unfold laws_toNode.f; rfl, rfl⟩) xs [] rfl
  exact Ev.bind (Ev.if_pos (by omega) (Ev.if_pos (by omega) (by simpa using h))) (Ev.now _)
theorem eqFilter_refl (xs : List S66) (hb : xs.length < 4611686018427387904) : Ev (fun k => laws_eqFilter.f k xs xs) true := by
  have h := all_loop xs z66 (fun _ => true) (fun k x => laws_eqNode.f x.f0 x.f1 x.f2 x.f3 x.f4 x.f5 x.f6 x.f0 x.f1 x.f2 x.f3 x.f4 x.f5 x.f6) (fun k i => laws_eqNodeS.l0 k xs xs i) (fun _ => some true) true hb
    (fun k i hi => by simp only [laws_eqNodeS.l0]; rw [if_pos (by omega), if_pos (by omega), if_pos (by omega), wrap_nat _ (by omega)]; rfl)
    (fun k => by simp only [laws_eqNodeS.l0]; rw [if_neg (by omega)])
    (fun x hx => Ev.of_all fun k => by unfold laws_eqNode.f; simp) (Ev.now _) xs [] rfl
  rw [show (xs.all (fun _ => true) && true) = true from by simp] at h
  exact Ev.bind (Ev.if_pos rfl h) (Ev.if_pos rfl (Ev.now _))
end Go.Proofs.Ytcfbbbilonignaa.Q

namespace Go.Proofs.Ytcfbbbilonignaa.Pr
open Q Go.Proofs.YtcfbbbilonignaaW.PrintWords
theorem FnExactValidFilter : laws_FnExactValidFilter.Pure := by
  intro xs ⟨hl, hok⟩
  apply Ev.rounds
  unfold laws_FnExactValidFilter.f
  obtain ⟨t, ht, h1⟩ := szFilter_ok xs 1048576 hl hok (by omega) (by omega)
  rcases h1 with h1 | ⟨h1, h2, h3⟩
  · exact Ev.bind ht (Ev.if_pos h1 (Ev.now _))
  · have hk := toFilter_is xs h3
    have hle : (xs.map cvM).length < 4611686018427387904 := by rw [List.length_map]; omega
    refine Ev.bind ht (Ev.if_neg (by omega) (Ev.bind hk (Ev.bind (spec_filter_is _) (Ev.bind hk (Ev.bind (Ev.now _) (Ev.if_neg (by simp) (Ev.bind hk (Ev.bind (eqFilter_refl _ hle) (Ev.if_pos rfl (Ev.now _))))))))))
end Go.Proofs.Ytcfbbbilonignaa.Pr

namespace Go.Proofs.Ytcfbbbilonignaa.fnExactValidFilter
open Go.ChangeShapes Go.WideShapes Go.ChangeAt Go.RowKit Go.Proofs.YtcfbbbilonignaaW.PrintWords Go.Proofs.Ytcfbbbilonignaa.RowK Go.Proofs.Ytcfbbbilonignaa.Q
open Go.ChangeMaps (open_string shut_string)
set_option linter.unusedVariables false
theorem own : ownKnob Try.prog.godebug = none := by kernel_rfl
theorem laidOut : laidOutB Try.prog = true := by kernel_rfl
set_option maxRecDepth 100000 in
theorem lifted (os : Os) (started : os.Started) (H : Type) (enc : TypeId × Value → H) :
    ReturnsInHanded {} Try.checked os 3 .any (Rows.fnExactValidFilterSpec.pre6 enc Try.prog Try.f3 Rows.fnExactValidFilterRow.domain false) (Rows.fnExactValidFilterSpec.post enc Try.prog Try.f3 false true false false) := by
  refine returnsInHanded_of_change_sized (C := Try.checked) own started (by kernel_rfl) Try.func3
    (ChangeSpec.witness6 (enc := enc) (C := Try.checked) false ⟨#[], #[.agg #[.slice none 0 0]], []⟩ 8 (by kernel_rfl) (by kernel_rfl) (by kernel_rfl) (by kernel_rfl)) ?_
  intro W base args ds gs before hval0 hW hcnd hsz0 _
  have hval : ∀ (j : Nat) t v, Try.f3.params[j]? = some t → args[j]? = some v → Value.okWide Try.prog W .any base t v := hval0
  have hW' := hW
  obtain ⟨p, q, hA0, hV, rfl, hfz, hnd⟩ := hW
  have hA : DataW.TrodAll enc Try.prog W 0 (fun _ => true) true Try.f3.params.toList args.toList ds p := hA0
  rw [Try.params3] at hA hval
  obtain ⟨v0, vs0, d0, ds0, p0, q0, hargs, rfl, rfl, h0, r0⟩ := trodAll_cons hA
  obtain ⟨rfl, rfl, rfl⟩ := trodAll_nil r0
  obtain rfl : args = #[v0] := by cases args; simp_all
  obtain ⟨rfl, rfl⟩ := trodVars_none hV
  obtain ⟨cs0, rfl, _⟩ := okWide_struct Try.underlying24 (hval 0 24 v0 rfl rfl)
  have k0 := h0
  have lt0 : ∀ x ∈ p0, x.block < W.heap.size := by obtain ⟨m, hm⟩ := k0; exact DataW.trod_lt m _ _ _ hm
  obtain ⟨x0_, hK0, ok0_⟩ := Opens.arg (d := (Kd.slice 97 k97)) (opens_imp (opens_struct Try.underlying24 (by kernel_rfl) (opensF_last rfl (by kernel_rfl) (opens_slice Try.underlying22 (by kernel_rfl) opens97))) (fun _ h => h)) h0
  obtain ⟨A0_0, c0_0, hs0_0, hc0_0, hr0_0⟩ := hK0
  have hv0 : Value.agg cs0 = .agg #[.slice A0_0 (x0_).length c0_0] := agg_cells (l := [.slice A0_0 (x0_).length c0_0]) (by simp only [hs0_0] <;> rfl)
  obtain ⟨k_, hp_⟩ := Pr.FnExactValidFilter x0_ ok0_
  clear hA0 hval0 hsz0
  have hc_ := Q.laws_FnExactValidFilter.calls k_ _ _ x0_ true W hr0_0 hc0_0 hp_
  rw [← hv0] at hc_
  refine hc_.mono fun e W' ⟨he, bel0⟩ => ?_
  subst he
  have bel : Below W.heap.size W W' := bel0
  exact ⟨_, rfl, _, _, _, [], _, [], hW', trodAll_mk1 (shut_bool Try.underlying4 _), (trodAll_cons_mk (Below.trod laidOut (by kernel_rfl) (of_decide_eq_true (by kernel_rfl)) k0 bel lt0) trodAll_mk0), rfl, bel.frame _, fun h => by cases h⟩
theorem over : Rows.fnExactValidFilterRow.holds Try.pinned (OpenSpec.ofChange Rows.fnExactValidFilterSpec) :=
  OpenClaim.holds_of_wide 3 Try.f3 rfl rfl rfl rfl rfl rfl rfl ⟨rfl, rfl, rfl, rfl, rfl⟩ rfl rfl rfl rfl rfl (by kernel_rfl) Try.func3 (by kernel_rfl)
    (of_decide_eq_true (by kernel_rfl)) (by unfold Func.isWrapper; first | (rw [if_pos (by decide +kernel)]; kernel_rfl) | (rw [if_neg (by decide +kernel)]; exact ⟨rfl, rfl⟩))
    (fun os started H enc _ => lifted os started H enc)
end Go.Proofs.Ytcfbbbilonignaa.fnExactValidFilter
namespace Go.Proofs.Ytcfbbbilonignaa
theorem fnExactValidFilter_holds : Rows.FnExactValidFilterSaid := fnExactValidFilter.over
#print axioms fnExactValidFilter_holds
end Go.Proofs.Ytcfbbbilonignaa
