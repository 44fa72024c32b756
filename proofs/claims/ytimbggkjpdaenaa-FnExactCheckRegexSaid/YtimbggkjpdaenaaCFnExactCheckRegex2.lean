/- FnExactCheckRegex: the row of the law: its arguments opened, its walk, its statement over lists (PrFnExactCheckRegex). No condition. -/
import Derived.Test.YtimbggkjpdaenaaCFnExactCheckRegex1
import Derived.Defers
import Derived.Recover
import Derived.RegionTactic
import Derived.ChangeAlike
import Derived.Test.YtimbggkjpdaenaaRows
import Derived.WalkKit
import Derived.ProofKit
import Derived.OpenShut
import Derived.ShutString
import Derived.ChangeOld
import Derived.Below
import Derived.SizedLaws

namespace Go.Proofs.Ytimbggkjpdaenaa.Q
open Go.RowKit Go.Proofs.YtimbggkjpdaenaaW.PrintWords Go.Proofs.YtimbggkjpdaenaaW.PrintLast
set_option linter.unusedVariables false
set_option linter.unusedSimpArgs false
def ibx (c : Int) : Int := Lib.indexByte [42, 43, 63] c.toNat.toUInt8
theorem ibx_all : (List.range 256).all (fun n => decide (0 ≤ ibx (n : Int)) == isOp (n : Int)) = true := by kernel_rfl
theorem ibx_op (c : Int) (h0 : 0 ≤ c) (h1 : c ≤ 255) : decide (0 ≤ ibx c) = isOp c := by
  have h := List.all_eq_true.mp ibx_all c.toNat (List.mem_range.mpr (by omega))
  rw [show ((c.toNat : Nat) : Int) = c by omega] at h
  exact beq_iff_eq.mp h
theorem ib_calls (c : Int) (w : World) : Calls Try.prog 52 #[.string ⟨#[42, 43, 63]⟩, .int .u8 c] w fun e w' => e = .returned (.int .i64 (ibx c)) ∧ w' = w := Try.strings_IndexByte _ _ _
def seqB (p : ByteArray) (j : Int) : Bool := decide (j < p.size) && (bt p j != 124 && bt p j != 41)
theorem seqB_iff (p : ByteArray) (j : Int) : (seqB p j = true) ↔ (j < p.size ∧ (bt p j ≠ 124 ∧ bt p j ≠ 41)) := by unfold seqB; simp
def opB (p : ByteArray) (j : Int) : Bool := decide (j < p.size) && isOp (bt p j)
theorem opB_iff (p : ByteArray) (j : Int) : (opB p j = true) ↔ (j < p.size ∧ isOp (bt p j) = true) := by unfold opB; simp
theorem info40 : (Try.prog.info? 40).map (fun i => (i.zero, i.size, i.bytes)) = some (some .nilIface, 1, 16) := by kernel_rfl
theorem RepX_iface {w : World} {ok : Nat → Prop} {x : Rx} {v : Value} (h : RepX w ok x v) : ∃ T u, v = .iface T u := by
  cases x <;> unfold RepX at h
  · exact ⟨_, _, h.2⟩
  · obtain ⟨u, vs, rfl, -⟩ := h; exact ⟨_, _, rfl⟩
  · obtain ⟨u, vs, rfl, -⟩ := h; exact ⟨_, _, rfl⟩
  · obtain ⟨u, -, rfl⟩ := h; exact ⟨_, _, rfl⟩
theorem Acc.cell {w : World} {x T : Nat} {acc : List Rx} {v : Value} {vs : List Value} (h : Acc w x T acc v vs) : w.cell? ⟨x, 0, none⟩ = some v := cell_of_row _ x 0 _ T _ h.1
theorem acc_bx {w w1 : World} {g x T : Nat} {acc : List Rx} {v : Value} {vs : List Value} (h : Acc w x T acc v vs) (hb : Bx w.heap.size g w w1) (hg : g < x) : Acc w1 x T acc v vs := acc_move h fun k hk hl => hb.block k hl (by omega)
theorem own_sl {w : World} {b : Nat} {e : TypeId} {size n : Nat} {v : Value} {xs : List Value} (h : w.ownsRow b e size v n xs) : ∃ A m c, v = .slice A m c := by
  rcases h.2 with ⟨rfl, _⟩ | ⟨g, cap, cur, rfl, _⟩ <;> exact ⟨_, _, _, rfl⟩
theorem acc_grown {w1 w2 : World} {x T : Nat} {acc : List Rx} {v : Value} {vs : List Value} {o : Obj} (h : Acc w1 x T acc v vs) (hg : (w1.alloc o).grownBy w2 v.ownBlock) : w2.heap[x]? = some (.cells #[v] T (0, 0)) := by
  have hl := lt_of_some h.1
  exact ((hg.block x (by rw [sz_al]; omega) (fun e => h.2.2.1 e.symm)).trans (heap_alloc_old w1 _ hl)).trans h.1
theorem st_grown {w1 w2 : World} {g : Nat} {p : ByteArray} {i o' : Int} {o : Obj} {row : Option Nat} (h : St w1 g p i o') (hg : (w1.alloc o).grownBy w2 row) (hr : some g ≠ row) : St w2 g p i o' := by
  have hl := lt_of_some h
  exact ((hg.block g (by rw [sz_al]; omega) hr).trans (heap_alloc_old w1 _ hl)).trans h
theorem bx_grown {w w1 w2 : World} {g : Nat} {o : Obj} {row : Option Nat} (h : Bx w.heap.size g w w1) (hg : (w1.alloc o).grownBy w2 row) (hr : ∀ k, row = some k → w.heap.size ≤ k) : Bx w.heap.size g w w2 :=
  h.trans ⟨hg.os, hg.tape, hg.output, by have := hg.size; rw [sz_al] at this; omega, fun k hk _ => (hg.block k (by rw [sz_al]; have := h.size; omega) (fun e => by have := hr k e.symm; omega)).trans (heap_alloc_old w1 _ (by have := h.size; omega))⟩
theorem bk_cell {w : World} {x T : Nat} {v : Value} (h : w.heap[x]? = some (.cells #[v] T (0, 0))) : w.cell? ⟨x, 0, none⟩ = some v := cell_of_row _ x 0 _ T _ h
theorem bk_fr {w : World} {x T : Nat} {cs : Array Value} (h : w.heap[x]? = some (.cells cs T (0, 0))) (j : Nat) : w.frozen? ⟨x, j, none⟩ = false := by unfold World.frozen?; rw [h]; simp
theorem acc_nil (w : World) (T : Nat) : Acc (w.alloc (.cells #[.slice none 0 0] T)) w.heap.size T [] (.slice none 0 0) [] :=
  ⟨heap_alloc_new _ _, World.ownsRow_nil _ _ _ _, by simp [Value.ownBlock], by unfold RepXs; rfl⟩
set_option maxHeartbeats 4000000 in
set_option maxRecDepth 100000 in
theorem seq_calls (k : Nat) (IH : ∀ m, m < k → AtomC m) : SeqC k := by
  intro g p i o r h h0 h1 hp o0 o1 w hs
  have HIH := Aside0.mk IH
  have H := Aside0.mk h
  have HS := Aside0.mk hs
  have hgl : g < w.heap.size := lt_of_some hs
  have HGL := Aside0.mk hgl
  have kr : K0 (Bx w.heap.size g w w) := ⟨Bx.refl _ _ _⟩
  obtain ⟨i0, hi, hz0, hz1, hz2⟩ := info_parts info40
  have HI := Aside0.mk hi
  have HZ := Aside0.mk (And.intro hz0 (And.intro hz1 hz2))
  clear IH h hs hi hz0 hz1 hz2 hgl
  go_enter Try.func45, Try.ntmps45
  go_upto_region 2 with (fail)
  have HS2 := Aside0.mk (show St (w.alloc (.cells #[.slice none 0 0] 51)) g p i o from stt HS)
  have HA2 := Aside0.mk (acc_nil w 51)
  have HX2 := Aside0.mk (show Bx w.heap.size g w (w.alloc (.cells #[.slice none 0 0] 51)) from kk)
  clear kr HS
  go_loopg [4] k (fun kq v4 W => ∃ (j : Int) (acc : List Rx) (v : Value) (vs : List Value), Aside0 (seqL kq p j o acc = some r) ∧ Aside0 (kq ≤ k) ∧ Aside0 (0 ≤ j ∧ j ≤ p.size ∧ acc.length ≤ j) ∧ Aside0 (St W g p j o) ∧ Aside0 (Acc W w.heap.size 51 acc v vs) ∧ Aside0 (Bx w.heap.size g w W))
  case atStart => exact ⟨i, [], _, [], H, ⟨Nat.le_refl _⟩, ⟨h0, h1, h0⟩, HS2, HA2, HX2⟩
  case round =>
    clear HS2 HA2 HX2 H
    obtain ⟨j, acc, v, vs, HA, HK, HN, HST, HACC, HB⟩ := hrel
    cases gk with
    | zero => exact absurd HA.out (by simp [seqL])
    | succ k1 =>
    have c0 := HST.out.c0
    have c1 := HST.out.c1
    have f1 := HST.out.fr 1
    have j0 := HN.out.1
    have j1 := HN.out.2.1
    have kw : K0 (Bx w.heap.size g w wr) := ⟨HB.out⟩
    have hx := bt_at p j
    go_upto_region 2 with (fail)
    go_cut [38] (fun v38 wc => v38 = .bool (seqB p j) ∧ ∃ m, wc = wr.drewN m)
    case first =>
      by_cases e1 : j < p.size
      · have d1 : decide (j < (p.size : Int)) = true := decide_eq_true e1
        by_cases e2 : bt p j = 124
        · have hc : seqB p j = false := by unfold seqB; rw [e2]; simp
          have d2 : (bt p j != 124) = false := bne_eq_false_iff_eq.mpr e2
          have HC := Aside0.mk hc
          clear hc e2
          go_quiet (fail)
          go_wp2
          go_meet
          case rel => exact ⟨by rw [HC.out], _, rfl⟩
        · have d2 : (bt p j != 124) = true := bne_iff_ne.mpr e2
          have hc : seqB p j = (bt p j != 41) := by unfold seqB; rw [d1, d2]; rfl
          have HC := Aside0.mk hc
          clear hc e2
          go_quiet (fail)
          go_wp2
          go_meet
          case rel => exact ⟨by rw [HC.out], _, rfl⟩
      · have d1 : decide (j < (p.size : Int)) = false := decide_eq_false e1
        have hc : seqB p j = false := by unfold seqB; rw [d1]; rfl
        have HC := Aside0.mk hc
        clear hc
        go_quiet (fail)
        go_wp2
        go_meet
        case rel => exact ⟨by rw [HC.out], _, rfl⟩
    case rest =>
      obtain ⟨rfl, m, rfl⟩ := hcut
      have hA := HA.out
      simp only [seqL, ← seqB_iff] at hA
      have hacc : Acc (wr.drewN m) w.heap.size 51 acc v vs := acc_move HACC.out (fun _ _ _ => rfl)
      have HACC2 := Aside0.mk hacc
      have HST2 := Aside0.mk (st_drewN (n := m) HST.out)
      have HB2 := Aside0.mk (show Bx w.heap.size g w (wr.drewN m) from kk)
      clear hacc HACC HST HB kw c0 c1 f1 hx
      generalize hsb : seqB p j = sb at hA ⊢
      have HSB := Aside0.mk hsb
      clear hsb HA
      generalize wr.drewN m = wx at *
      have HGL := HGL
      cases sb
      · obtain rfl := Option.some.inj hA
        have hcl := HACC2.out.cell
        clear hA
        go_wp2
        go_ret
        refine ⟨_, rfl, ?_, HST2.out, HB2.out⟩
        unfold RepX
        exact ⟨v, vs, rfl, own_lower HACC2.out.2.1 (Nat.zero_le _), fun k hk => (HACC2.out.2.1.lt k hk).1, RepXs_move (fun k hk hl => ⟨Nat.le_of_lt hk.1, rfl⟩) _ _ HACC2.out.2.2.2⟩
      · rw [if_pos rfl] at hA
        have HA3 := Aside0.mk hA
        have j2 : j < p.size := by have := (seqB_iff p j).mp HSB.out; exact this.1
        clear hA
        go_wp2_with fail
        go_at_call 51
        cases hq : atomF k1 p j o with
        | none => exfalso; have := HA3.out; rw [hq] at this; cases this
        | some q =>
        have hk1 : k1 < k := by have := HK.out; omega
        refine (HIH.out k1 hk1 g p j o q hq j0 j2 hp o0 o1 _ HST2.out).mono ?_
        rintro e w1 hch
        rcases q with ⟨c, a⟩ | ⟨y0, j3⟩
        · obtain ⟨rfl, hb1⟩ := hch
          have hA := HA3.out
          rw [hq] at hA
          obtain rfl := Option.some.inj hA
          exact ⟨rfl, rfl, HB2.out.trans (hb1.lower HB2.out.size)⟩
        · obtain ⟨v0, rfl, hrep, hst, hb1⟩ := hch
          have hA := HA3.out
          rw [hq] at hA
          simp only [obind] at hA
          obtain ⟨yf, hof, hA⟩ := Option.bind_eq_some_iff.mp hA
          have hjb := (par_ok k1).2.2 _ _ _ _ hq j0 j2
          have HOF := Aside0.mk hof
          have HA4 := Aside0.mk hA
          have HJ := Aside0.mk hjb
          have hfb := opsF_ok _ _ _ _ _ hof hjb.2
          have HF := Aside0.mk hfb
          have HACC := Aside0.mk (acc_bx HACC2.out hb1 HGL.out)
          have hxB : w.heap.size < wx.heap.size := lt_of_some HACC2.out.1
          have HXB := Aside0.mk hxB
          have hvB := fun k hk => (HACC2.out.2.1.lt k hk).2
          have HVB := Aside0.mk hvB
          have HST := Aside0.mk hst
          have HREP := Aside0.mk hrep
          have HB := Aside0.mk (HB2.out.trans (hb1.lower HB2.out.size))
          clear hof hA hjb hfb hxB hvB hst hrep hb1 hq HA3 HACC2 HST2 HB2
          obtain ⟨T0, u0, rfl⟩ := RepX_iface HREP.out
          have kw : K0 (Bx w.heap.size g w w1) := ⟨HB.out⟩
          go_upto_region 4 with (fail)
          go_loopg [4] k1 (fun kq v4 W => ∃ (j2 : Int) (y : Rx) (T4 : TypeId) (u4 : Value), v4 = .iface T4 u4 ∧ Aside0 (opsF kq p j2 y = some yf) ∧ Aside0 (0 ≤ j2 ∧ j2 ≤ p.size) ∧ Aside0 (St W g p j2 o) ∧ Aside0 (RepX W (fun k => wx.heap.size ≤ k) y (.iface T4 u4)) ∧ Aside0 (Acc W w.heap.size 51 acc v vs) ∧ Aside0 (Bx w.heap.size g w W))
          case atStart => exact ⟨j3, y0, T0, u0, rfl, HOF, ⟨by have := HJ.out.1; omega, HJ.out.2⟩, HST, HREP, HACC, HB⟩
          case round =>
            clear HST HREP HACC HB HOF kw
            obtain ⟨j2, y, T4, u4, rfl, HO, HN2, HST, HREP, HACC, HB⟩ := hrel
            cases gk with
            | zero => exact absurd HO.out (by simp [opsF])
            | succ k2 =>
            have c0 := HST.out.c0
            have c1 := HST.out.c1
            have f1 := HST.out.fr 1
            have m0 := HN2.out.1
            have m1 := HN2.out.2
            have kw : K0 (Bx w.heap.size g w wr) := ⟨HB.out⟩
            have hx := bt_at p j2
            go_upto_region 4 with (fail)
            go_cut [63] (fun v63 wc => v63 = .bool (opB p j2) ∧ ∃ m, wc = wr.drewN m)
            case first =>
              by_cases e1 : j2 < p.size
              · have d1 : decide (j2 < (p.size : Int)) = true := decide_eq_true e1
                have br := bt_range p j2
                have hib := ibx_op (bt p j2) br.1 br.2
                have hc : opB p j2 = isOp (bt p j2) := by unfold opB; rw [d1]; rfl
                have HC := Aside0.mk (hc.trans hib.symm)
                clear hc br hib
                go_quiet ((go_at_call 52; exact Calls.quiet_of_same (ib_calls _ _)))
                go_wp2
                go_meet
                case rel => exact ⟨by rw [HC.out], _, rfl⟩
              · have d1 : decide (j2 < (p.size : Int)) = false := decide_eq_false e1
                have hc : opB p j2 = false := by unfold opB; rw [d1]; rfl
                have HC := Aside0.mk hc
                clear hc
                go_quiet (fail)
                go_wp2
                go_meet
                case rel => exact ⟨by rw [HC.out], _, rfl⟩
            case rest =>
              obtain ⟨rfl, m, rfl⟩ := hcut
              have hO := HO.out
              simp only [opsF, ← opB_iff] at hO
              have HACC2 := Aside0.mk (show Acc (wr.drewN m) w.heap.size 51 acc v vs from acc_move HACC.out (fun _ _ _ => rfl))
              have HREP2 := Aside0.mk (show RepX (wr.drewN m) (fun k => wx.heap.size ≤ k) y (.iface T4 u4) from RepX_move (w := wr) (w1 := wr.drewN m) (fun k hk hl => ⟨hk, rfl⟩) _ _ HREP.out)
              have HST2 := Aside0.mk (st_drewN (n := m) HST.out)
              have HB2 := Aside0.mk (show Bx w.heap.size g w (wr.drewN m) from kk)
              clear HACC HREP HST HB kw c0 c1 f1 hx
              generalize hsb : opB p j2 = sb at hO ⊢
              have HSB2 := Aside0.mk hsb
              clear hsb HO
              generalize wr.drewN m = wy at *
              have kw : K0 (Bx w.heap.size g w wy) := ⟨HB2.out⟩
              have c0 := HST2.out.c0
              have c1 := HST2.out.c1
              have f1 := HST2.out.fr 1
              have hx := bt_at p j2
              cases sb
              · obtain rfl := Option.some.inj hO
                have hcl := HACC2.out.cell
                clear hO
                have hvl := RepXs_len _ _ HACC2.out.2.2.2
                have hln := HN.out.2.2
                have hc1 : ∀ j u, [Value.iface T4 u4][j]? = some u → (wy.alloc (.cells #[.iface T4 u4] 40)).cell? ((⟨wy.heap.size, 0, none⟩ : Addr).add j) = some u := by
                  intro j' u' hu
                  rcases j' with _ | j'
                  · cases hu; exact cell_of_row _ wy.heap.size 0 _ 40 _ (heap_alloc_new _ _)
                  · cases hu
                have hc2 : ∀ u ∈ [Value.iface T4 u4], u.oneCell' = true := by
                  intro u' hu
                  obtain rfl := List.mem_singleton.mp hu
                  rfl
                have hc3 : vs.length + 1 ≤ maxLen := by simp only [maxLen]; omega
                have hc4 : (vs.length + 1) * 16 ≤ 140737488355328 := by omega
                have hc5 : w.heap.size ≤ (wy.alloc (.cells #[.iface T4 u4] 40)).heap.size := by rw [sz_al]; have := lt_of_some HACC2.out.1; omega
                have HC1 := Aside0.mk hc1
                have HC2 := Aside0.mk hc2
                have HC3 := Aside0.mk hc3
                have HC4 := Aside0.mk hc4
                have HC5 := Aside0.mk hc5
                have HVL := Aside0.mk hvl
                clear hc1 hc2 hc3 hc4 hc5 hvl hln c0 c1 f1 hx
                go_upto_region 7 with (fail)
                go_wp2_with (at_builtin; refine wpList_append_at rfl (.tmp 84) (.tmp 86) 48 rfl w.heap.size 40 i0 .nilIface 1 16 Try.underlying48 HI.out HZ.out.1 HZ.out.2.1 HZ.out.2.2 rfl (by decide) v vs.length vs rfl (HACC2.out.2.1.alloc _) ⟨wy.heap.size, 0, none⟩ 1 1 [.iface T4 u4] rfl rfl HC1.out HC2.out HC3.out HC4.out HC5.out ?_; intro v2 w2 hown hgr hloc; obtain ⟨A2, n2, c2', rfl⟩ := own_sl hown; have hx2 := acc_grown HACC2.out hgr; have hcl2 := bk_cell hx2; have hfr2 := bk_fr hx2 0; have HG := Aside0.mk (And.intro hown (And.intro hgr hloc)); clear hown hgr hloc hx2)
                go_roundg k1
                case measure => omega
                case rel =>
                  have hpush := acc_push HACC2.out HREP2.out (fun k hk => hk) HXB.out HVB.out HG.out.2.1 HG.out.1 HG.out.2.2
                  have hst : St w2 g p j2 o := st_grown HST2.out HG.out.2.1 (fun e => by have := (HACC2.out.2.1.lt g e.symm).1; have := HGL.out; omega)
                  have hbx : Bx w.heap.size g w w2 := bx_grown HB2.out HG.out.2.1 (fun k hk => (HACC2.out.2.1.lt k hk).1)
                  have kz : K0 (Bx w.heap.size g w w2) := ⟨hbx⟩
                  have kx : K0 (w.heap.size ≤ w.heap.size) := ⟨Nat.le_refl _⟩
                  have hf := HF.out
                  have hj := HJ.out
                  have hn := HN.out
                  exact ⟨j2, acc ++ [y], _, _, HA4, ⟨by have := HK.out; omega⟩, ⟨m0, m1, by rw [List.length_append]; simp only [List.length_cons, List.length_nil]; omega⟩, ⟨st_far hst (by have := HGL.out; omega)⟩, ⟨hpush⟩, ⟨kk⟩⟩
              · rw [if_pos rfl] at hO
                have HO2 := Aside0.mk hO
                have m2 : j2 < p.size := by have := (opB_iff p j2).mp HSB2.out; exact this.1
                clear hO
                go_wp2
                go_quiet (fail)
                go_wp2
                go_roundg k2
                case measure => omega
                case rel =>
                  refine ⟨j2 + 1, .rep y (bt p j2), _, _, rfl, HO2, ⟨by omega, by omega⟩, ⟨stt HST2⟩, ⟨?_⟩, ⟨?_⟩, ⟨kk⟩⟩
                  · unfold RepX
                    refine ⟨_, RepX_move (fun k hk hl => ⟨hk, ?_⟩) _ _ HREP2.out, rfl⟩
                    have hne : k ≠ g := by have := HGL.out; have := HXB.out; omega
                    exact Below.heap_setCell _ _ _ _ hne
                  · exact acc_move HACC2.out (fun k hk hl => Below.heap_setCell _ _ _ _ (by have := HGL.out; show k ≠ g; omega))
end Go.Proofs.Ytimbggkjpdaenaa.Q

namespace Go.Proofs.Ytimbggkjpdaenaa.Q
open Go.RowKit Go.Proofs.YtimbggkjpdaenaaW.PrintWords Go.Proofs.YtimbggkjpdaenaaW.PrintLast
set_option linter.unusedVariables false
set_option linter.unusedSimpArgs false
def altB (p : ByteArray) (j : Int) : Bool := decide (j = p.size) || (bt p j != 124)
theorem altB_iff (p : ByteArray) (j : Int) : (altB p j = true) ↔ (j = p.size ∨ bt p j ≠ 124) := by unfold altB; simp
set_option maxHeartbeats 4000000 in
set_option maxRecDepth 100000 in
theorem alt_calls (k : Nat) (IH : ∀ m, m < k → SeqC m) : AltC k := by
  intro g p i o r h h0 h1 hp o0 o1 w hs
  have HIH := Aside0.mk IH
  have H := Aside0.mk h
  have HS := Aside0.mk hs
  have hgl : g < w.heap.size := lt_of_some hs
  have HGL := Aside0.mk hgl
  have kr : K0 (Bx w.heap.size g w w) := ⟨Bx.refl _ _ _⟩
  obtain ⟨i0, hi, hz0, hz1, hz2⟩ := info_parts info40
  have HI := Aside0.mk hi
  have HZ := Aside0.mk (And.intro hz0 (And.intro hz1 hz2))
  clear IH h hs hi hz0 hz1 hz2 hgl
  go_enter Try.func37, Try.ntmps37
  go_upto_region 2 with (fail)
  have HS2 := Aside0.mk (show St (w.alloc (.cells #[.slice none 0 0] 50)) g p i o from stt HS)
  have HA2 := Aside0.mk (acc_nil w 50)
  have HX2 := Aside0.mk (show Bx w.heap.size g w (w.alloc (.cells #[.slice none 0 0] 50)) from kk)
  clear kr HS
  go_loopg [4] k (fun kq v4 W => ∃ (j : Int) (acc : List Rx) (v : Value) (vs : List Value), Aside0 (altL kq p j o acc = some r) ∧ Aside0 (kq ≤ k) ∧ Aside0 (0 ≤ j ∧ j ≤ p.size ∧ acc.length ≤ j) ∧ Aside0 (St W g p j o) ∧ Aside0 (Acc W w.heap.size 50 acc v vs) ∧ Aside0 (Bx w.heap.size g w W))
  case atStart => exact ⟨i, [], _, [], H, ⟨Nat.le_refl _⟩, ⟨h0, h1, h0⟩, HS2, HA2, HX2⟩
  case round =>
    clear HS2 HA2 HX2 H
    obtain ⟨j, acc, v, vs, HA, HK, HN, HST, HACC, HB⟩ := hrel
    cases gk with
    | zero => exact absurd HA.out (by simp [altL])
    | succ k1 =>
    have j0 := HN.out.1
    have j1 := HN.out.2.1
    have kw : K0 (Bx w.heap.size g w wr) := ⟨HB.out⟩
    have hA := HA.out
    simp only [altL] at hA
    have HA2 := Aside0.mk hA
    clear hA HA
    cases hq : seqL k1 p j o [] with
    | none => exfalso; have := HA2.out; rw [hq] at this; cases this
    | some q =>
    have HQ := Aside0.mk hq
    have hcl := HACC.out.cell
    have HXB := Aside0.mk (lt_of_some HACC.out.1)
    have HVB := Aside0.mk (fun k hk => (HACC.out.2.1.lt k hk).2)
    have HVL := Aside0.mk (RepXs_len _ _ HACC.out.2.2.2)
    have hst := st_drew HST.out
    have hacc : Acc wr.drew w.heap.size 50 acc v vs := acc_move HACC.out (fun _ _ _ => rfl)
    have hbx : Bx w.heap.size g w wr.drew := kk
    have HACC2 := Aside0.mk hacc
    have HST2 := Aside0.mk hst
    have HB2 := Aside0.mk hbx
    have hk1 : k1 < k := by have := HK.out; omega
    have HK1 := Aside0.mk hk1
    clear hacc hst hbx hk1 hq HACC HST HB kw
    go_upto_region 2 with (fail)
    go_cut [] (fun wc => ∃ (y : Rx) (j2 : Int) (v2 : Value) (vs2 : List Value), q = .ok (y, j2) ∧ Aside0 (St wc g p j2 o) ∧ Aside0 (Acc wc w.heap.size 50 (acc ++ [y]) v2 vs2) ∧ Aside0 (Bx w.heap.size g w wc))
    case first =>
      refine sz_region (S := fun W => W.cell? ⟨w.heap.size, 0, none⟩ = some v) 7 [(0, false), (1, false), (2, false), (3, true), (4, true), (5, true), (6, false), (7, true)] (by intro d v c a w h; cases d <;> exact h) (by kernel_rfl) (by kernel_rfl) HACC2.out.cell ?_
      repeat (first | (refine sz_n ?_ ?_ rfl ?_ ?_ ?_; rotate_left 2; (intro W hW; go_simp; first | done | with_reducible rfl); (simp only [List.setIfInBounds_toArray, List.set_cons_zero, List.set_cons_succ]; try rfl)) | (refine sz_g ?_ ?_ rfl rfl rfl ?_ ?_ ?_; rotate_left 2; (intro W hW; go_simp; first | done | with_reducible rfl); (simp only [List.setIfInBounds_toArray, List.set_cons_zero, List.set_cons_succ]; try rfl)) | (refine sz_f ?_ rfl rfl rfl ?_ ?_; rotate_left; (simp only [List.setIfInBounds_toArray, List.set_cons_zero, List.set_cons_succ]; try rfl)) | (refine sz_u ?_ rfl rfl rfl ?_ ?_; rotate_left; (simp only [List.setIfInBounds_toArray, List.set_cons_zero, List.set_cons_succ]; try rfl)))
      refine sz_1n rfl (fun K hK => ?_)
      go_simp
      go_at_call 45
      refine (HIH.out k1 HK1.out g p j o q HQ.out j0 j1 hp o0 o1 _ HST2.out).mono ?_
      rintro e w1 hch
      rcases q with ⟨c, a⟩ | ⟨y, j2⟩
      · obtain ⟨rfl, hb1⟩ := hch
        have hA := HA2.out
        rw [HQ.out] at hA
        obtain rfl := Option.some.inj hA
        exact ⟨rfl, rfl, HB2.out.trans (hb1.lower HB2.out.size)⟩
      · obtain ⟨v1, rfl, hrep, hst, hb1⟩ := hch
        obtain ⟨T1, u1, rfl⟩ := RepX_iface hrep
        have hacc := acc_bx HACC2.out hb1 HGL.out
        have HREP := Aside0.mk hrep
        have HST := Aside0.mk hst
        have HACC := Aside0.mk hacc
        have HB := Aside0.mk (HB2.out.trans (hb1.lower HB2.out.size))
        have hcl1 := hacc.cell
        clear hrep hst hacc hb1 HST2 HACC2 HB2 hcl
        go_wp2_with fail
        refine hK.out _ _ (.inr hcl1) ?_
        refine sz_1n rfl (fun K hK => ?_)
        go_simp
        have hvl := HVL.out
        have hln := HN.out.2.2
        have hc1 : ∀ j u, [Value.iface T1 u1][j]? = some u → (w1.alloc (.cells #[.iface T1 u1] 40)).cell? ((⟨w1.heap.size, 0, none⟩ : Addr).add j) = some u := by
          intro j' u' hu
          rcases j' with _ | j'
          · cases hu; exact cell_of_row _ w1.heap.size 0 _ 40 _ (heap_alloc_new _ _)
          · cases hu
        have hc2 : ∀ u ∈ [Value.iface T1 u1], u.oneCell' = true := by
          intro u' hu
          obtain rfl := List.mem_singleton.mp hu
          rfl
        have hc3 : vs.length + 1 ≤ maxLen := by simp only [maxLen]; omega
        have hc4 : (vs.length + 1) * 16 ≤ 140737488355328 := by omega
        have hc5 : w.heap.size ≤ (w1.alloc (.cells #[.iface T1 u1] 40)).heap.size := by rw [sz_al]; have := lt_of_some HACC.out.1; omega
        refine hK.out _ _ (.inr ((cell_of_row _ w.heap.size 0 _ 50 _ ((heap_alloc_old w1 _ (lt_of_some HACC.out.1)).trans HACC.out.1)))) ?_
        refine sz_1n rfl (fun K hK => ?_)
        refine wp_append_at (.tmp 5) (.tmp 8) 48 rfl w.heap.size 40 i0 .nilIface 1 16 Try.underlying48 HI.out HZ.out.1 HZ.out.2.1 HZ.out.2.2 rfl (by decide) v vs.length vs rfl (HACC.out.2.1.alloc _) ⟨w1.heap.size, 0, none⟩ 1 1 [.iface T1 u1] rfl rfl hc1 hc2 hc3 hc4 hc5 ?_
        intro v2 w2 hown hgr hloc
        obtain ⟨A2, n2, c2', rfl⟩ := own_sl hown
        have hx2 := acc_grown HACC.out hgr
        have hcl2 := bk_cell hx2
        have hfr2 := bk_fr hx2 0
        have HG := Aside0.mk (And.intro hown (And.intro hgr hloc))
        clear hown hgr hloc hx2 hc1 hc2 hc3 hc4 hc5 hvl hln hcl1
        refine hK.out _ _ (.inr hcl2) ?_
        simp only [Act.put, List.setIfInBounds_toArray, List.set_cons_zero, List.set_cons_succ]
        repeat (first | (refine sz_n ?_ ?_ rfl ?_ ?_ ?_; rotate_left 2; (intro W hW; go_simp; first | done | with_reducible rfl); (simp only [List.setIfInBounds_toArray, List.set_cons_zero, List.set_cons_succ]; try rfl)) | (refine sz_g ?_ ?_ rfl rfl rfl ?_ ?_ ?_; rotate_left 2; (intro W hW; go_simp; first | done | with_reducible rfl); (simp only [List.setIfInBounds_toArray, List.set_cons_zero, List.set_cons_succ]; try rfl)) | (refine sz_f ?_ rfl rfl rfl ?_ ?_; rotate_left; (simp only [List.setIfInBounds_toArray, List.set_cons_zero, List.set_cons_succ]; try rfl)) | (refine sz_u ?_ rfl rfl rfl ?_ ?_; rotate_left; (simp only [List.setIfInBounds_toArray, List.set_cons_zero, List.set_cons_succ]; try rfl)))
        refine sz_1n rfl (fun K hK => ?_)
        go_simp
        refine hK.out _ _ (.inl rfl) ?_
        refine sz_done ?_
        go_wp2_with fail
        have hpush := acc_push HACC.out HREP.out (fun k hk => hk) HXB.out HVB.out HG.out.2.1 HG.out.1 HG.out.2.2
        have hst : St w2 g p j2 o := st_grown HST.out HG.out.2.1 (fun e => by have := (HACC.out.2.1.lt g e.symm).1; have := HGL.out; omega)
        have hbx : Bx w.heap.size g w w2 := bx_grown HB.out HG.out.2.1 (fun k hk => (HACC.out.2.1.lt k hk).1)
        have kz : K0 (Bx w.heap.size g w w2) := ⟨hbx⟩
        have kx : K0 (w.heap.size ≤ w.heap.size) := ⟨Nat.le_refl _⟩
        have HP := Aside0.mk hpush
        have HS3 := Aside0.mk hst
        clear hpush hst hbx
        go_meet
        case rel => exact ⟨y, j2, _, _, rfl, ⟨st_far HS3.out (by have := HGL.out; omega)⟩, HP, ⟨kk⟩⟩
    case rest =>
      clear HB2 HST2 HACC2 hcl
      obtain ⟨y, j2, v2, vs2, rfl, HST, HACC, HB⟩ := hcut
      have hA := HA2.out
      rw [HQ.out] at hA
      simp only [obind, ← altB_iff] at hA
      have hjb := (par_ok k1).2.1 _ _ _ _ _ HQ.out j0 j1
      have m0 : 0 ≤ j2 := by have := hjb.1; omega
      have m1 : j2 ≤ p.size := hjb.2
      have HJ := Aside0.mk hjb
      have c0 := HST.out.c0
      have c1 := HST.out.c1
      have f1 := HST.out.fr 1
      have hx := bt_at p j2
      have kw : K0 (Bx w.heap.size g w wc) := ⟨HB.out⟩
      generalize hab : altB p j2 = ab at hA
      have HAB := Aside0.mk hab
      have HA3 := Aside0.mk hA
      clear hA HA2 hab hjb
      go_upto_region 3 with (fail)
      go_cut [32] (fun v32 wd => v32 = .bool ab ∧ ∃ m, wd = wc.drewN m)
      case first =>
        by_cases e1 : j2 = p.size
        · have d1 : (j2 == (p.size : Int)) = true := beq_iff_eq.mpr e1
          have hc : altB p j2 = true := by unfold altB; rw [decide_eq_true e1]; rfl
          have HC := Aside0.mk (HAB.out.symm.trans hc)
          clear hc e1
          go_quiet (fail)
          go_wp2
          go_meet
          case rel => exact ⟨by rw [HC.out], _, rfl⟩
        · have d1 : (j2 == (p.size : Int)) = false := beq_eq_false_iff_ne.mpr e1
          have hc : altB p j2 = (bt p j2 != 124) := by unfold altB; rw [decide_eq_false e1]; rfl
          have HC := Aside0.mk (HAB.out.symm.trans hc)
          have m2 : j2 < p.size := by omega
          clear hc e1
          go_quiet (fail)
          go_wp2
          go_meet
          case rel => exact ⟨by rw [HC.out], _, rfl⟩
      case rest =>
        obtain ⟨rfl, m, rfl⟩ := hcut
        have hacc : Acc (wc.drewN m) w.heap.size 50 (acc ++ [y]) v2 vs2 := acc_move HACC.out (fun _ _ _ => rfl)
        have hst := st_drewN (n := m) HST.out
        have hbx : Bx w.heap.size g w (wc.drewN m) := kk
        have HACC2 := Aside0.mk hacc
        have HST2 := Aside0.mk hst
        have HB2 := Aside0.mk hbx
        have hA := HA3.out
        clear hacc hst hbx HACC HST HB kw HA3 c0 c1 f1
        generalize wc.drewN m = wy at *
        have c0 := HST2.out.c0
        have c1 := HST2.out.c1
        have f1 := HST2.out.fr 1
        have kw : K0 (Bx w.heap.size g w wy) := ⟨HB2.out⟩
        cases ab
        · rw [if_neg (by simp)] at hA
          have HA4 := Aside0.mk hA
          have hne : j2 ≠ (p.size : Int) ∧ bt p j2 = 124 := by have := HAB.out; unfold altB at this; simpa using this
          have m2 : j2 < p.size := by have := hne.1; omega
          clear hA hne
          go_wp2
          go_roundg k1
          case measure => omega
          case rel => 
            have hj := HJ.out
            have hn := HN.out
            exact ⟨j2 + 1, acc ++ [y], v2, vs2, HA4, ⟨by have := HK.out; omega⟩, ⟨by omega, by omega, by rw [List.length_append]; simp only [List.length_cons, List.length_nil]; omega⟩, ⟨stt HST2⟩, ⟨acc_move HACC2.out (fun k hk hl => Below.heap_setCell _ _ _ _ (by have := HGL.out; show k ≠ g; omega))⟩, ⟨kk⟩⟩
        · rw [if_pos rfl] at hA
          obtain rfl := Option.some.inj hA
          have hcl := HACC2.out.cell
          clear hA
          go_wp2
          go_ret
          refine ⟨_, rfl, ?_, HST2.out, HB2.out⟩
          unfold RepX
          exact ⟨v2, vs2, rfl, own_lower HACC2.out.2.1 (Nat.zero_le _), fun k hk => (HACC2.out.2.1.lt k hk).1, RepXs_move (fun k hk hl => ⟨Nat.le_of_lt hk.1, rfl⟩) _ _ HACC2.out.2.2.2⟩
theorem all_calls : ∀ k, (∀ m, m ≤ k → SeqC m) ∧ (∀ m, m ≤ k → AltC m) ∧ (∀ m, m ≤ k → AtomC m)
  | 0 => by
    have hm : ∀ m, m ≤ 0 → AtomC m := by
      intro m hm
      obtain rfl : m = 0 := by omega
      intro g p i o r h
      cases h
    have hs : ∀ m, m ≤ 0 → SeqC m := fun m hm' => seq_calls m fun q hq => (by omega)
    exact ⟨hs, fun m hm' => alt_calls m fun q hq => (by omega), hm⟩
  | k + 1 => by
    obtain ⟨is, ia, im⟩ := all_calls k
    refine ⟨fun m hm => seq_calls m fun q hq => im q (by omega), fun m hm => alt_calls m fun q hq => is q (by omega), fun m hm => ?_⟩
    rcases Nat.lt_or_ge k m with h | h
    · obtain rfl : m = k + 1 := by omega
      exact atom_calls k (ia k (Nat.le_refl _))
    · exact im m h
theorem alt_any (k : Nat) : AltC k := (all_calls k).2.1 k (Nat.le_refl _)
end Go.Proofs.Ytimbggkjpdaenaa.Q

namespace Go.Proofs.Ytimbggkjpdaenaa.Q
open Go.RowKit Go.Proofs.YtimbggkjpdaenaaW.PrintWords Go.Proofs.YtimbggkjpdaenaaW.PrintLast
set_option linter.unusedVariables false
set_option linter.unusedSimpArgs false
def patF (k : Nat) (p : ByteArray) : Option (Except (Int × Int) Rx) := obind (altL k p 0 0 []) fun x => if x.2 < p.size then some (.error (2, x.2)) else some (.ok x.1)
def VarX (w : World) (bx : Nat) (v : Value) : Prop := w.heap[bx]? = some (.cells #[v] 40 (0, 0))
def IsI (v : Value) : Prop := v = .nilIface ∨ ∃ T u, v = .iface T u
set_option maxHeartbeats 4000000 in
set_option maxRecDepth 100000 in
theorem pat1_calls (k : Nat) (p : ByteArray) (r : Except (Int × Int) Rx) (h : patF k p = some r) (hp : p.size ≤ 200) (bp bx : Nat) (u : Value) (w : World) (hb : w.cell? ⟨bp, 0, none⟩ = some (.string p)) (hx : VarX w bx u) (hne : bp ≠ bx) (hu : IsI u) :
    Calls Try.prog 36 #[.pointer (some ⟨bp, 0, none⟩), .pointer (some ⟨bx, 0, none⟩)] w fun e w' => RP r (fun x => ∃ v, e = .returned (.tuple #[]) ∧ VarX w' bx v ∧ RepX w' (fun k => w.heap.size ≤ k) x v ∧ Bx w.heap.size bx w w') (fun c a => e = .panicked (flt c a) ∧ (∃ v, VarX w' bx v ∧ IsI v) ∧ Bx w.heap.size bx w w') := by
  have HX := Aside0.mk hx
  have HXL := Aside0.mk (lt_of_some hx)
  have HBL := Aside0.mk (World.block_lt_of_cell? w _ hb)
  have HNE := Aside0.mk hne
  have HU := Aside0.mk hu
  have hs : St (w.alloc (.cells #[.string p, .int .i64 0, .int .i64 0] 80)) w.heap.size p 0 0 := heap_alloc_new _ _
  have HS := Aside0.mk hs
  have h' := h
  unfold patF at h'
  cases hq : altL k p 0 0 [] with
  | none => rw [hq] at h'; cases h'
  | some q =>
  rw [hq] at h'
  have HQ := Aside0.mk hq
  have HR := Aside0.mk h'
  have HBP := Aside0.mk hb
  clear hx hne hs h h' hq hu
  go_enter Try.func36, Try.ntmps36
  go_wp2_with fail
  go_at_call 37
  refine (alt_any k w.heap.size p 0 0 q HQ.out (Int.le_refl _) (by omega) hp (by omega) (by omega) _ HS.out).mono ?_
  rintro e w1 hch
  have hal : Below w.heap.size w (w.alloc (.cells #[.string p, .int .i64 0, .int .i64 0] 80)) := (Below.refl _ _).alloc (Nat.le_refl _) _
  have hsz := sz_al w (.cells #[.string p, .int .i64 0, .int .i64 0] 80)
  rcases q with ⟨c, a⟩ | ⟨x, j⟩
  · obtain ⟨rfl, hb1⟩ := hch
    obtain rfl := Option.some.inj HR.out
    have hbl := hb1.below (C := w.heap.size) (by rw [hsz]; omega) (Nat.le_refl _)
    exact ⟨rfl, rfl, ⟨u, (hbl.block bx HXL.out).trans ((hal.block bx HXL.out).trans HX.out), HU.out⟩, Bx.of (hal.trans hbl)⟩
  · obtain ⟨v, rfl, hrep, hst, hb1⟩ := hch
    have hbl := hb1.below (C := w.heap.size) (by rw [hsz]; omega) (Nat.le_refl _)
    have hB := hal.trans hbl
    have hvx : VarX w1 bx u := (hB.block bx HXL.out).trans HX.out
    have hcb : w1.cell? ⟨bp, 0, none⟩ = some (.string p) := (hB.cell (p := ⟨bp, 0, none⟩) HBL.out).trans HBP.out
    obtain ⟨T0, u0, rfl⟩ := RepX_iface hrep
    have hjb := (par_ok k).1 _ _ _ _ _ HQ.out (Int.le_refl _) (by omega)
    have j0 : 0 ≤ j := hjb.1
    have j1 : j ≤ p.size := hjb.2
    have hcx := bk_cell hvx
    have hfx := bk_fr hvx 0
    have hgx : w.heap.size ≠ bx := by have := HXL.out; omega
    have hpx : ¬ bp = bx := HNE.out
    have c1 := hst.c1
    have hr := HR.out
    simp only [obind] at hr
    have hst2 : St (w1.setCell ⟨bx, 0, none⟩ (.iface T0 u0)) w.heap.size p j 0 := st_far hst hgx
    have hvx2 : VarX (w1.setCell ⟨bx, 0, none⟩ (.iface T0 u0)) bx (.iface T0 u0) := bk_put hvx _
    have hbx2 : Bx w.heap.size bx w (w1.setCell ⟨bx, 0, none⟩ (.iface T0 u0)) := (Bx.of hB).trans ⟨rfl, rfl, rfl, by simp [World.setCell], fun k _ hk => Below.heap_setCell _ _ _ _ hk⟩
    have hcb2 : (w1.setCell ⟨bx, 0, none⟩ (.iface T0 u0)).cell? ⟨bp, 0, none⟩ = some (.string p) := by
      unfold World.cell?; rw [Below.heap_setCell _ _ _ _ hpx]; exact hcb
    have hrep2 : RepX (w1.setCell ⟨bx, 0, none⟩ (.iface T0 u0)) (fun k => w.heap.size ≤ k) x (.iface T0 u0) := RepX_move (fun k hk hl => ⟨by rw [hsz] at hk; omega, Below.heap_setCell _ _ _ _ (by have := HXL.out; show k ≠ bx; omega)⟩) _ _ hrep
    have c12 := hst2.c1
    have HF := Aside0.mk (And.intro hvx2 (And.intro hbx2 hrep2))
    clear hst2 hvx2 hbx2 hrep2 hst hrep hvx hB hbl hb1 hal hjb HR HX HS c1 hcb
    by_cases e1 : j < p.size
    · rw [if_pos e1] at hr
      obtain rfl := Option.some.inj hr
      have d1 : decide (j < (p.size : Int)) = true := decide_eq_true e1
      clear hr e1
      go_upto_region 2 with (fail)
      generalize w1.setCell ⟨bx, 0, none⟩ (.iface T0 u0) = w2 at *
      go_wp2_with fail
      go_at_call 38
      refine (fail_calls _ _ _ _).mono ?_
      rintro e w' ⟨rfl, rfl⟩
      exact ⟨rfl, rfl, ⟨_, HF.out.1, .inr ⟨_, _, rfl⟩⟩, HF.out.2.1⟩
    · rw [if_neg e1] at hr
      obtain rfl := Option.some.inj hr
      have d1 : decide (j < (p.size : Int)) = false := decide_eq_false e1
      clear hr e1
      go_upto_region 2 with (fail)
      generalize w1.setCell ⟨bx, 0, none⟩ (.iface T0 u0) = w2 at *
      go_wp2
      go_end0
      exact ⟨_, rfl, HF.out.1, HF.out.2.2, HF.out.2.1⟩
end Go.Proofs.Ytimbggkjpdaenaa.Q

namespace Go.Proofs.Ytimbggkjpdaenaa.Q
open Go.RowKit Go.Proofs.YtimbggkjpdaenaaW.PrintWords Go.Proofs.YtimbggkjpdaenaaW.PrintLast
set_option linter.unusedVariables false
set_option linter.unusedSimpArgs false
def Fv (w : World) (b : Nat) (c a : Int) : Prop := w.heap[b]? = some (.cells #[.int .i64 c, .int .i64 a] 42 (0, 0))
theorem catch_idle (b : Nat) (w : World) :
    CallsD Try.prog 44 #[.pointer (some ⟨b, 0, none⟩)] .returning w fun e u' w' => e = .returned (.tuple #[]) ∧ u' = .returning ∧ w' = w := by
  refine callsD_of_wpS Try.func44 rfl fun c₀ cs hu => ?_
  apply wpS_seq
  apply wpS_region
  simp [wpOpsS, go_sem, recoverD, hu, Try.ntmps44, Exit.thenS]
  apply wpS_seq
  apply wpS_region
  simp [wpOpsS, go_sem, Exit.thenS]
  refine wpS_cond (t := false) (by simp [Act.eval, Array.replicate]) ?_
  simp only [Bool.false_eq_true, if_false]
  refine wpS_of_wp (wp_skip ?_)
  cases c₀
  simp_all [bodyPostS, results, Try.results44]
theorem run_ta (v : Value) (w : World) : (Instr.typeAssert (.iface 42 v) 20 42 true).run Try.prog w = .ok (.tuple #[v, .bool true]) w := by kernel_rfl
set_option maxHeartbeats 1000000 in
set_option maxRecDepth 100000 in
theorem catch_some (b : Nat) (c a c0 a0 : Int) (w : World) (hb : Fv w b c0 a0) :
    CallsD Try.prog 44 #[.pointer (some ⟨b, 0, none⟩)] (.panicking (flt c a)) w fun e u' w' => e = .returned (.tuple #[]) ∧ u' = .panicking [{ v := .iface 42 (.agg #[.int .i64 c, .int .i64 a]), recovered := true }] ∧ Fv w' b c a ∧ Bx w.heap.size b w w' := by
  refine callsD_of_wpS Try.func44 rfl fun c₀ cs hu => ?_
  apply wpS_seq
  apply wpS_region
  simp [wpOpsS, go_sem, recoverD, hu, flt, Try.ntmps44, Exit.thenS]
  apply wpS_seq
  apply wpS_region
  simp [wpOpsS, go_sem, Exit.thenS]
  refine wpS_cond (t := true) (by simp [Act.eval, Array.replicate]) ?_
  simp only [if_true]
  refine wpS_of_wp (wp_mono (Q := fun e a' w' => e = .normal ∧ a'.defers = [] ∧ Fv w' b c a ∧ Bx w.heap.size b w w') ?_ ?_)
  · have hbl := lt_of_some hb
    have kr : K0 (Bx w.heap.size b w w) := ⟨Bx.refl _ _ _⟩
    have HB := Aside0.mk hb
    have hc0 : w.cell? ⟨b, 0, none⟩ = some (.int .i64 c0) := cell_of_row _ b 0 _ 42 _ hb
    have hc1 : w.cell? ⟨b, 1, none⟩ = some (.int .i64 a0) := cell_of_row _ b 1 _ 42 _ hb
    have hf0 := bk_fr hb 0
    have hf1 := bk_fr hb 1
    clear hb
    have hta := run_ta
    simp only [Array.replicate_succ, Array.replicate_zero, List.push_toArray, List.append_toArray, List.nil_append, List.cons_append, List.setIfInBounds_toArray, List.set_cons_zero, List.set_cons_succ]
    go_wp2
    refine ⟨?_, kk⟩
    have h1 := bk_put (j := 0) HB.out (.int .i64 c)
    have h2 := bk_put (j := 1) h1 (.int .i64 a)
    have h3 := blk_alloc h2 (.cells #[.int .i64 c, .int .i64 a] 42)
    simpa [Fv] using h3
  · rintro e a' w' ⟨rfl, hd, hf, hx⟩
    cases c₀
    simp [bodyPostS, results, Try.results44, hd, hf, hx]
def CaughtP (w : World) (bx : Nat) (r : Except (Int × Int) Rx) (e : Ending) (w' : World) : Prop :=
  RP r (fun x => ∃ v, e = .returned (.agg #[.int .i64 0, .int .i64 0]) ∧ VarX w' bx v ∧ RepX w' (fun k => w.heap.size ≤ k) x v ∧ Bx w.heap.size bx w w') (fun c a => ∃ v, e = .returned (.agg #[.int .i64 c, .int .i64 a]) ∧ VarX w' bx v ∧ Bx w.heap.size bx w w' ∧ IsI v)
set_option maxHeartbeats 4000000 in
set_option maxRecDepth 100000 in
theorem caught_calls (k : Nat) (p : ByteArray) (r : Except (Int × Int) Rx) (h : patF k p = some r) (hp : p.size ≤ 200) (bp bx : Nat) (u : Value) (w : World) (hb : w.cell? ⟨bp, 0, none⟩ = some (.string p)) (hx : VarX w bx u) (hne : bp ≠ bx) (hu : IsI u) :
    Calls Try.prog 35 #[.func (.func 36) #[] #[.pointer (some ⟨bp, 0, none⟩), .pointer (some ⟨bx, 0, none⟩)]] w (CaughtP w bx r) := by
  have hmf : ∀ (fn : Fn) (first cap : Array Value) (w : World), (Instr.makeFunc fn first cap).run Try.prog w = .ok (.func fn first cap) w := fun _ _ _ _ => rfl
  have hbl := World.block_lt_of_cell? w _ hb
  have hxl := lt_of_some hx
  have hb2 : (w.alloc (.cells #[.int .i64 0, .int .i64 0] 42)).cell? ⟨bp, 0, none⟩ = some (.string p) := by
    unfold World.cell?; rw [heap_alloc_old w _ hbl]; exact hb
  have hx2 : VarX (w.alloc (.cells #[.int .i64 0, .int .i64 0] 42)) bx u := (heap_alloc_old w _ hxl).trans hx
  have hfv : Fv (w.alloc (.cells #[.int .i64 0, .int .i64 0] 42)) w.heap.size 0 0 := heap_alloc_new _ _
  have HB := Aside0.mk hb2
  have HX := Aside0.mk hx2
  have HF := Aside0.mk hfv
  have HXL := Aside0.mk hxl
  clear hb hx hb2 hx2 hfv hbl hxl
  go_enter_defers Try.func35, Try.ntmps35
  go_wp2_with fail
  go_at_call 36
  refine (pat1_calls k p r h hp bp bx u _ HB.out HX.out hne hu).mono ?_
  rintro e w1 hch
  have hsz := sz_al w (.cells #[.int .i64 0, .int .i64 0] 42)
  have hal : Bx w.heap.size bx w (w.alloc (.cells #[.int .i64 0, .int .i64 0] 42)) := Bx.of ((Below.refl _ _).alloc (Nat.le_refl _) _)
  rcases r with ⟨c, a⟩ | x
  · obtain ⟨rfl, ⟨v, hv, hvi⟩, hb1⟩ := hch
    have hfv2 : Fv w1 w.heap.size 0 0 := (hb1.block _ (by rw [hsz]; omega) (by have := HXL.out; omega)).trans HF.out
    have e1 : ∀ w2 : World, VarX w2 bx v → Bx w.heap.size bx w w2 → CaughtP w bx (.error (c, a)) (.returned (.agg #[.int .i64 c, .int .i64 a])) w2 := fun w2 h1 h2 => ⟨v, rfl, h1, h2, hvi⟩
    have E1 := Aside0.mk e1
    clear e1
    generalize CaughtP w bx (.error (c, a)) = CP at *
    refine leaves_cons (f := 44) (args := #[.pointer (some ⟨w.heap.size, 0, none⟩)]) (by simp) (by simp [go_sem]) ?_
    refine (catch_some w.heap.size c a 0 0 w1 hfv2).mono ?_
    rintro e u' w2 ⟨rfl, rfl, hf2, hb2⟩
    have hc0 : w2.cell? ⟨w.heap.size, 0, none⟩ = some (.int .i64 c) := cell_of_row _ w.heap.size 0 _ 42 _ hf2
    have hc1 : w2.cell? ⟨w.heap.size, 1, none⟩ = some (.int .i64 a) := cell_of_row _ w.heap.size 1 _ 42 _ hf2
    have hv2 : VarX w2 bx v := (hb2.block bx (lt_of_some hv) (by have := HXL.out; omega)).trans hv
    have hbb : Bx w.heap.size bx w w2 := (hal.trans (hb1.lower (by rw [hsz]; omega))).trans ⟨hb2.os, hb2.tape, hb2.output, hb2.size, fun k hk hn => hb2.block k (by have := hal.size; have := hb1.size; omega) (by omega)⟩
    have hfin := E1.out w2 hv2 hbb
    simp [Leaves, settle, flt, results, Try.results35, go_sem, hc0, hc1]
    exact hfin
  · obtain ⟨v, rfl, hv, hrep, hb1⟩ := hch
    have hfv2 : Fv w1 w.heap.size 0 0 := (hb1.block _ (by rw [hsz]; omega) (by have := HXL.out; omega)).trans HF.out
    have hc0 : w1.cell? ⟨w.heap.size, 0, none⟩ = some (.int .i64 0) := cell_of_row _ w.heap.size 0 _ 42 _ hfv2
    have hc1 : w1.cell? ⟨w.heap.size, 1, none⟩ = some (.int .i64 0) := cell_of_row _ w.heap.size 1 _ 42 _ hfv2
    have hf0 := bk_fr hfv2 0
    have hf1 := bk_fr hfv2 1
    have h2 := bk_put (j := 1) (bk_put (j := 0) hfv2 (.int .i64 0)) (.int .i64 0)
    have hfv3 : Fv ((w1.setCell ⟨w.heap.size, 0, none⟩ (.int .i64 0)).setCell ⟨w.heap.size, 1, none⟩ (.int .i64 0)) w.heap.size 0 0 := h2
    have hm : ∀ q, q ≠ w.heap.size → ((w1.setCell ⟨w.heap.size, 0, none⟩ (.int .i64 0)).setCell ⟨w.heap.size, 1, none⟩ (.int .i64 0)).heap[q]? = w1.heap[q]? := fun q hq => (Below.heap_setCell _ _ _ _ hq).trans (Below.heap_setCell _ _ _ _ hq)
    have hv2 : VarX ((w1.setCell ⟨w.heap.size, 0, none⟩ (.int .i64 0)).setCell ⟨w.heap.size, 1, none⟩ (.int .i64 0)) bx v := (hm bx (by have := HXL.out; omega)).trans hv
    have hrep2 : RepX ((w1.setCell ⟨w.heap.size, 0, none⟩ (.int .i64 0)).setCell ⟨w.heap.size, 1, none⟩ (.int .i64 0)) (fun k => w.heap.size ≤ k) x v := RepX_move (fun k hk hl => ⟨by rw [hsz] at hk; omega, hm k (by rw [hsz] at hk; omega)⟩) _ _ hrep
    have hbb : Bx w.heap.size bx w ((w1.setCell ⟨w.heap.size, 0, none⟩ (.int .i64 0)).setCell ⟨w.heap.size, 1, none⟩ (.int .i64 0)) := (hal.trans (hb1.lower (by rw [hsz]; omega))).trans ⟨rfl, rfl, rfl, by simp [World.setCell], fun k hk hn => hm k (by omega)⟩
    have e1 : CaughtP w bx (.ok x) (.returned (.agg #[.int .i64 0, .int .i64 0])) ((w1.setCell ⟨w.heap.size, 0, none⟩ (.int .i64 0)).setCell ⟨w.heap.size, 1, none⟩ (.int .i64 0)) := ⟨v, rfl, hv2, hrep2, hbb⟩
    have E1 := Aside0.mk e1
    have HF3 := Aside0.mk hfv3
    clear e1 hv2 hrep2 hbb hm h2 hfv3 hb1 hrep hv hal
    generalize CaughtP w bx (.ok x) = CP at *
    go_wp2
    generalize (w1.setCell ⟨w.heap.size, 0, none⟩ (.int .i64 0)).setCell ⟨w.heap.size, 1, none⟩ (.int .i64 0) = w2 at *
    refine leaves_cons (f := 44) (args := #[.pointer (some ⟨w.heap.size, 0, none⟩)]) (by simp) (by simp [go_sem]) ?_
    refine (catch_idle w.heap.size w2).mono ?_
    rintro e u' w3 ⟨rfl, rfl, rfl⟩
    have hc0 : w3.cell? ⟨w.heap.size, 0, none⟩ = some (.int .i64 0) := cell_of_row _ w.heap.size 0 _ 42 _ HF3.out
    have hc1 : w3.cell? ⟨w.heap.size, 1, none⟩ = some (.int .i64 0) := cell_of_row _ w.heap.size 1 _ 42 _ HF3.out
    simp [Leaves, settle, results, Try.results35, go_sem, hc0, hc1]
    exact E1.out
end Go.Proofs.Ytimbggkjpdaenaa.Q

namespace Go.Proofs.Ytimbggkjpdaenaa.Q
open Go.RowKit Go.Proofs.YtimbggkjpdaenaaW.PrintWords Go.Proofs.YtimbggkjpdaenaaW.PrintLast
set_option linter.unusedVariables false
set_option linter.unusedSimpArgs false
def patR (k : Nat) (p : ByteArray) : Option (Except (Int × Int) Rx) := if 200 < p.size then some (.error (1, 0)) else patF k p
def PatP (w : World) (r : Except (Int × Int) Rx) (e : Ending) (w' : World) : Prop :=
  RP r (fun x => ∃ v, e = .returned (.tuple #[v, .agg #[.int .i64 0, .int .i64 0]]) ∧ RepX w' (fun k => w.heap.size ≤ k) x v ∧ Below w.heap.size w w') (fun c a => ∃ v, e = .returned (.tuple #[v, .agg #[.int .i64 c, .int .i64 a]]) ∧ Below w.heap.size w w')
set_option maxHeartbeats 4000000 in
set_option maxRecDepth 100000 in
theorem pattern_calls (k : Nat) (p : ByteArray) (r : Except (Int × Int) Rx) (h : patR k p = some r) (w : World) :
    Calls Try.prog 18 #[.string p] w (PatP w r) := by
  have hmf : ∀ (fn : Fn) (first cap : Array Value) (w : World), (Instr.makeFunc fn first cap).run Try.prog w = .ok (.func fn first cap) w := fun _ _ _ _ => rfl
  unfold patR at h
  by_cases e1 : 200 < p.size
  · rw [if_pos e1] at h
    obtain rfl := Option.some.inj h
    have d1 : decide (200 < (p.size : Int)) = true := decide_eq_true (by omega)
    have d2 : decide (200 < p.size) = true := decide_eq_true e1
    clear h e1
    go_enter Try.func18, Try.ntmps18
    go_wp2
    have kr : K0 (Below w.heap.size w w) := ⟨Below.refl _ _⟩
    have h1 := old1 w (.cells #[.string p] 9) (.cells #[.nilIface] 40) (.cells #[.int .i64 1, .int .i64 0] 42)
    have h2 := new2 w (.cells #[.string p] 9) (.cells #[.nilIface] 40) (.cells #[.int .i64 1, .int .i64 0] 42)
    have c0 := bk_cell h1
    have c1 := cell_of_row _ (w.heap.size + 1 + 1) 0 _ 42 _ h2
    have c2 := cell_of_row _ (w.heap.size + 1 + 1) 1 _ 42 _ h2
    simp at c1 c2
    refine bodyPost_ret (v := .tuple #[.nilIface, .agg #[.int .i64 1, .int .i64 0]]) (by simp [results, Try.results18, go_sem, c0, c1, c2]) rfl ⟨_, rfl, kk⟩
  · rw [if_neg e1] at h
    have d1 : decide (200 < (p.size : Int)) = false := decide_eq_false (by omega)
    have d2 : decide (200 < p.size) = false := decide_eq_false e1
    have hp2 : p.size ≤ 200 := by omega
    clear e1
    go_enter Try.func18, Try.ntmps18
    go_wp2_with fail
    have h0 : (((w.alloc (.cells #[.string p] 9)).alloc (.cells #[.nilIface] 40)).alloc (.cells #[.int .i64 0, .int .i64 0] 42)).heap[w.heap.size]? = some (.cells #[.string p] 9) := by
      rw [heap_alloc_old ((w.alloc (.cells #[.string p] 9)).alloc (.cells #[.nilIface] 40)) _ (by rw [sz_al, sz_al]; omega), heap_alloc_old (w.alloc (.cells #[.string p] 9)) _ (by rw [sz_al]; omega)]
      exact heap_alloc_new w _
    have h1 := old1 w (.cells #[.string p] 9) (.cells #[.nilIface] 40) (.cells #[.int .i64 0, .int .i64 0] 42)
    have h2 := new2 w (.cells #[.string p] 9) (.cells #[.nilIface] 40) (.cells #[.int .i64 0, .int .i64 0] 42)
    have hsz : (((w.alloc (.cells #[.string p] 9)).alloc (.cells #[.nilIface] 40)).alloc (.cells #[.int .i64 0, .int .i64 0] 42)).heap.size = w.heap.size + 3 := by rw [sz_al, sz_al, sz_al]
    have hal : Below w.heap.size w (((w.alloc (.cells #[.string p] 9)).alloc (.cells #[.nilIface] 40)).alloc (.cells #[.int .i64 0, .int .i64 0] 42)) := by
      have kr : K0 (Below w.heap.size w w) := ⟨Below.refl _ _⟩
      exact kk
    generalize ((w.alloc (.cells #[.string p] 9)).alloc (.cells #[.nilIface] 40)).alloc (.cells #[.int .i64 0, .int .i64 0] 42) = wa at *
    go_at_call 35
    refine (caught_calls k p r h hp2 w.heap.size (w.heap.size + 1) .nilIface wa (bk_cell h0) h1 (by omega) (.inl rfl)).mono ?_
    rintro e w1 hch
    obtain ⟨c, a, v, rfl, hv, hbx, hvi, hpp⟩ : ∃ (c a : Int) (v : Value), e = .returned (.agg #[.int .i64 c, .int .i64 a]) ∧ VarX w1 (w.heap.size + 1) v ∧ Bx wa.heap.size (w.heap.size + 1) wa w1 ∧ IsI v ∧ ∀ w2 : World, Below w.heap.size w w2 → (∀ q, q ≠ w.heap.size + 1 + 1 → q ≠ w.heap.size + 1 → q < w1.heap.size → w2.heap[q]? = w1.heap[q]?) → PatP w r (.returned (.tuple #[v, .agg #[.int .i64 c, .int .i64 a]])) w2 := by
      rcases r with ⟨c, a⟩ | x
      · obtain ⟨v, he, hv, hb, hi⟩ := hch
        exact ⟨c, a, v, he, hv, hb, hi, fun w2 hb2 _ => ⟨v, rfl, hb2⟩⟩
      · obtain ⟨v, he, hv, hrep, hb⟩ := hch
        obtain ⟨T0, u0, rfl⟩ := RepX_iface hrep
        exact ⟨0, 0, _, he, hv, hb, .inr ⟨_, _, rfl⟩, fun w2 hb2 hm => ⟨_, rfl, RepX_move (fun q hq hl => ⟨by rw [hsz] at hq; omega, hm q (by rw [hsz] at hq; omega) (by rw [hsz] at hq; omega) hl⟩) _ _ hrep, hb2⟩⟩
    have hf : Fv w1 (w.heap.size + 1 + 1) 0 0 := (hbx.block _ (by rw [hsz]; omega) (by omega)).trans h2
    have g0 : w1.cell? ⟨w.heap.size + 1 + 1, 0, none⟩ = some (.int .i64 0) := cell_of_row _ (w.heap.size + 1 + 1) 0 _ 42 _ hf
    have g1 : w1.cell? ⟨w.heap.size + 1 + 1, 1, none⟩ = some (.int .i64 0) := cell_of_row _ (w.heap.size + 1 + 1) 1 _ 42 _ hf
    have f0 := bk_fr hf 0
    have f1 := bk_fr hf 1
    have hf2 : Fv ((w1.setCell ⟨w.heap.size + 1 + 1, 0, none⟩ (.int .i64 c)).setCell ⟨w.heap.size + 1 + 1, 1, none⟩ (.int .i64 a)) (w.heap.size + 1 + 1) c a := bk_put (j := 1) (bk_put (j := 0) hf (.int .i64 c)) (.int .i64 a)
    have hm2 : ∀ q, q ≠ w.heap.size + 1 + 1 → ((w1.setCell ⟨w.heap.size + 1 + 1, 0, none⟩ (.int .i64 c)).setCell ⟨w.heap.size + 1 + 1, 1, none⟩ (.int .i64 a)).heap[q]? = w1.heap[q]? := fun q hq => (Below.heap_setCell _ _ _ _ hq).trans (Below.heap_setCell _ _ _ _ hq)
    have hv2 : VarX ((w1.setCell ⟨w.heap.size + 1 + 1, 0, none⟩ (.int .i64 c)).setCell ⟨w.heap.size + 1 + 1, 1, none⟩ (.int .i64 a)) (w.heap.size + 1) v := (hm2 _ (by omega)).trans hv
    have hB2 : Below w.heap.size w ((w1.setCell ⟨w.heap.size + 1 + 1, 0, none⟩ (.int .i64 c)).setCell ⟨w.heap.size + 1 + 1, 1, none⟩ (.int .i64 a)) := (hal.trans (hbx.below (by rw [hsz]; omega) (by omega))).trans ((Below.setCell (Below.setCell (Below.refl _ _) (by show _ ≤ w.heap.size + 1 + 1; omega) _) (by show _ ≤ w.heap.size + 1 + 1; omega) _))
    have HV2 := Aside0.mk hv2
    have HF2 := Aside0.mk hf2
    have HM2 := Aside0.mk hm2
    have HB2 := Aside0.mk hB2
    have HPP := Aside0.mk hpp
    clear hv2 hf2 hm2 hB2 hpp hf hv hbx h0 h1 h2 hal hch h
    go_upto_region 4 with (fail)
    generalize (w1.setCell ⟨w.heap.size + 1 + 1, 0, none⟩ (.int .i64 c)).setCell ⟨w.heap.size + 1 + 1, 1, none⟩ (.int .i64 a) = w2 at *
    have s0 := bk_cell HV2.out
    have s1 : w2.cell? ⟨w.heap.size + 1 + 1, 0, none⟩ = some (.int .i64 c) := cell_of_row _ (w.heap.size + 1 + 1) 0 _ 42 _ HF2.out
    have s2 : w2.cell? ⟨w.heap.size + 1 + 1, 1, none⟩ = some (.int .i64 a) := cell_of_row _ (w.heap.size + 1 + 1) 1 _ 42 _ HF2.out
    have t0 := bk_fr HV2.out 0
    have t1 := bk_fr HF2.out 0
    have t2 := bk_fr HF2.out 1
    refine sz_region (S := fun W => W.cell? ⟨w.heap.size + 1, 0, none⟩ = some v ∧ W.cell? ⟨w.heap.size + 1 + 1, 0, none⟩ = some (.int .i64 c) ∧ W.cell? ⟨w.heap.size + 1 + 1, 1, none⟩ = some (.int .i64 a)) 4 [(0, false), (1, false), (2, true), (3, true)] (by intro d v c a w h; cases d <;> exact h) (by kernel_rfl) (by kernel_rfl) ⟨s0, s1, s2⟩ ?_
    refine sz_n ?_ ?_ rfl ?_ ?_ ?_; rotate_left 2; (intro W hW; obtain ⟨s0, s1, s2⟩ := hW; go_simp; first | done | with_reducible rfl); (simp only [List.setIfInBounds_toArray, List.set_cons_zero, List.set_cons_succ]; try rfl)
    refine sz_n ?_ ?_ rfl ?_ ?_ ?_; rotate_left 2; (intro W hW; obtain ⟨s0, s1, s2⟩ := hW; go_simp; first | done | with_reducible rfl); (simp only [List.setIfInBounds_toArray, List.set_cons_zero, List.set_cons_succ]; try rfl)
    refine sz_1n rfl (fun K hK => ?_)
    have hv3 : VarX ((w2.setCell ⟨w.heap.size + 1, 0, none⟩ v).drew) (w.heap.size + 1) v := bk_put (j := 0) HV2.out v
    have hm3 : ∀ q, q ≠ w.heap.size + 1 → ((w2.setCell ⟨w.heap.size + 1, 0, none⟩ v).drew).heap[q]? = w2.heap[q]? := fun q hq => Below.heap_setCell _ _ _ _ hq
    have hB3 : Below w.heap.size w ((w2.setCell ⟨w.heap.size + 1, 0, none⟩ v).drew) := (HB2.out.trans (Below.setCell (Below.refl _ _) (by show _ ≤ w.heap.size + 1; omega) v)).drew
    have HV3 := Aside0.mk hv3
    have HF3 := Aside0.mk ((hm3 _ (by omega)).trans HF2.out)
    have HB3 := Aside0.mk hB3
    have HM3 := Aside0.mk hm3
    clear hv3 hm3 hB3
    rcases hvi with rfl | ⟨T0, u0, rfl⟩
    all_goals
      go_simp
      refine hK.out _ _ (.inr ?_) ?_
      · exact ⟨bk_cell HV3.out, cell_of_row _ (w.heap.size + 1 + 1) 0 _ 42 _ HF3.out, cell_of_row _ (w.heap.size + 1 + 1) 1 _ 42 _ HF3.out⟩
      refine sz_1n rfl (fun K hK => ?_)
      clear s0 s1 s2 t0 t1 t2
      generalize (w2.setCell ⟨w.heap.size + 1, 0, none⟩ _).drew = w3 at *
      have q1 : w3.cell? ⟨w.heap.size + 1 + 1, 0, none⟩ = some (.int .i64 c) := cell_of_row _ (w.heap.size + 1 + 1) 0 _ 42 _ HF3.out
      have q2 : w3.cell? ⟨w.heap.size + 1 + 1, 1, none⟩ = some (.int .i64 a) := cell_of_row _ (w.heap.size + 1 + 1) 1 _ 42 _ HF3.out
      have q3 := bk_fr HF3.out 0
      have q4 := bk_fr HF3.out 1
      go_simp
      have hm4 : ∀ q, q ≠ w.heap.size + 1 + 1 → ((w3.setCell ⟨w.heap.size + 1 + 1, 0, none⟩ (.int .i64 c)).setCell ⟨w.heap.size + 1 + 1, 1, none⟩ (.int .i64 a)).heap[q]? = w3.heap[q]? := fun q hq => (Below.heap_setCell _ _ _ _ hq).trans (Below.heap_setCell _ _ _ _ hq)
      have hv4 := (hm4 _ (by omega)).trans HV3.out
      have hf4 : Fv ((w3.setCell ⟨w.heap.size + 1 + 1, 0, none⟩ (.int .i64 c)).setCell ⟨w.heap.size + 1 + 1, 1, none⟩ (.int .i64 a)) (w.heap.size + 1 + 1) c a := bk_put (j := 1) (bk_put (j := 0) HF3.out (.int .i64 c)) (.int .i64 a)
      have hB4 : Below w.heap.size w ((w3.setCell ⟨w.heap.size + 1 + 1, 0, none⟩ (.int .i64 c)).setCell ⟨w.heap.size + 1 + 1, 1, none⟩ (.int .i64 a)) := HB3.out.trans ((Below.setCell (Below.setCell (Below.refl _ _) (by show _ ≤ w.heap.size + 1 + 1; omega) _) (by show _ ≤ w.heap.size + 1 + 1; omega) _))
      have hP := HPP.out _ hB4 (fun q h1 h2 h3 => (hm4 q h1).trans ((HM3.out q h2).trans (HM2.out q h1)))
      have HV4 := Aside0.mk hv4
      have HF4 := Aside0.mk hf4
      have HP4 := Aside0.mk hP
      clear hv4 hf4 hB4 hP hm4
      generalize (w3.setCell ⟨w.heap.size + 1 + 1, 0, none⟩ (.int .i64 c)).setCell ⟨w.heap.size + 1 + 1, 1, none⟩ (.int .i64 a) = w4 at *
      have p0 := bk_cell HV4.out
      have p1 : w4.cell? ⟨w.heap.size + 1 + 1, 0, none⟩ = some (.int .i64 c) := cell_of_row _ (w.heap.size + 1 + 1) 0 _ 42 _ HF4.out
      have p2 : w4.cell? ⟨w.heap.size + 1 + 1, 1, none⟩ = some (.int .i64 a) := cell_of_row _ (w.heap.size + 1 + 1) 1 _ 42 _ HF4.out
      refine hK.out _ _ (.inr ⟨p0, p1, p2⟩) ?_
      refine sz_done ?_
      go_wp2
      exact bodyPost_ret (by simp [results, Try.results18, go_sem, p0, p1, p2]) rfl HP4.out
end Go.Proofs.Ytimbggkjpdaenaa.Q

namespace Go.Proofs.Ytimbggkjpdaenaa.Q
open Go.RowKit Go.Proofs.YtimbggkjpdaenaaW.PrintWords Go.Proofs.YtimbggkjpdaenaaW.PrintLast
set_option linter.unusedVariables false
set_option linter.unusedSimpArgs false
theorem altL_s (k : Nat) (p : ByteArray) (i o : Int) (acc : List Rx) : altL (k + 1) p i o acc = obind (seqL k p i o []) fun x => if x.2 = p.size ∨ bt p x.2 ≠ 124 then some (.ok (.alt (acc ++ [x.1]), x.2)) else altL k p (x.2 + 1) o (acc ++ [x.1]) := by rw [altL]
theorem seqL_s (k : Nat) (p : ByteArray) (i o : Int) (acc : List Rx) : seqL (k + 1) p i o acc = if i < p.size ∧ (bt p i ≠ 124 ∧ bt p i ≠ 41) then obind (atomF k p i o) fun x => (opsF k p x.2 x.1).bind fun y => seqL k p y.2 o (acc ++ [y.1]) else some (.ok (.seq acc, i)) := by rw [seqL]
theorem atomF_s (k : Nat) (p : ByteArray) (i o : Int) : atomF (k + 1) p i o =
    if bt p i = 40 then (if o = 20 then some (.error (3, i)) else obind (altL k p (i + 1) (o + 1) []) fun x => if x.2 = p.size then some (.error (2, x.2)) else some (.ok (x.1, x.2 + 1)))
    else if bt p i = 91 then obind (claF k p (i + 1)) fun x => some (.ok (.one x.1 0 false, x.2))
    else if bt p i = 46 then some (.ok (.one (List.replicate 256 true) 0 false, i + 1))
    else if isOp (bt p i) = true ∨ bt p i = 93 then some (.error (2, i))
    else if bt p i = 92 then (if i + 1 = p.size then some (.error (2, i + 1)) else some (.ok (sgl (bt p (i + 1)), i + 2)))
    else some (.ok (sgl (bt p i), i + 1)) := by rw [atomF]
def impl_CheckRegex.f (k : Nat) (a0 : ByteArray) : Option (Int × Int) := (patR k a0).map fun r => match r with | .ok _ => (0, 0) | .error x => x
set_option maxHeartbeats 4000000 in
set_option maxRecDepth 100000 in
theorem impl_CheckRegex.calls (k : Nat) (a0 : ByteArray) (r1 : Int) (r2 : Int) (w : World) (h : impl_CheckRegex.f k a0 = some (r1, r2)) :
    Calls Try.prog 8 #[.string a0] w fun e w' => e = .returned (.agg #[.int .i64 r1, .int .i64 r2]) ∧ Below w.heap.size w w' := by
  obtain ⟨q, hq, hr⟩ := Option.map_eq_some_iff.mp h
  have kr : K0 (Below w.heap.size w w) := ⟨Below.refl _ _⟩
  have ha : Below w.heap.size w (w.alloc (.cells #[.int .i64 0, .int .i64 0] 23)) := kk
  have hx := heap_alloc_new w (.cells #[.int .i64 0, .int .i64 0] 23)
  have HQ := Aside0.mk hq
  have HA := Aside0.mk ha
  have HX := Aside0.mk hx
  have hsz := sz_al w (.cells #[.int .i64 0, .int .i64 0] 23)
  have HSZ := Aside0.mk hsz
  clear h hq ha hx hsz kr
  go_enter Try.func8, Try.ntmps8
  go_wp2_with fail
  generalize w.alloc (.cells #[.int .i64 0, .int .i64 0] 23) = wa at *
  go_at_call 18
  refine (pattern_calls k a0 q HQ.out _).mono ?_
  rintro e w1 hp
  obtain ⟨v, rfl, hb⟩ : ∃ v, e = .returned (.tuple #[v, .agg #[.int .i64 r1, .int .i64 r2]]) ∧ Below wa.heap.size wa w1 := by
    rcases q with ⟨c, a⟩ | x
    · obtain ⟨v, he, hb⟩ := hp
      cases hr
      exact ⟨v, he, hb⟩
    · obtain ⟨v, he, -, hb⟩ := hp
      cases hr
      exact ⟨v, he, hb⟩
  have h1 : w1.heap[w.heap.size]? = some (.cells #[.int .i64 0, .int .i64 0] 23) := (hb.block _ (by rw [HSZ.out]; omega)).trans HX.out
  have hb2 : Below w.heap.size w w1 := HA.out.trans (hb.mono (by rw [HSZ.out]; omega))
  have hc0 : w1.cell? ⟨w.heap.size, 0, none⟩ = some (.int .i64 0) := cell_of_row _ w.heap.size 0 _ 23 _ h1
  have hc1 : w1.cell? ⟨w.heap.size, 1, none⟩ = some (.int .i64 0) := cell_of_row _ w.heap.size 1 _ 23 _ h1
  have f0 := bk_fr h1 0
  have f1 := bk_fr h1 1
  have hl := lt_of_some h1
  have H1 := Aside0.mk h1
  have HB2 := Aside0.mk hb2
  clear hp hr hb h1 hb2 HA HX HQ
  go_wp2
  have h2 : ((w1.setCell ⟨w.heap.size, 0, none⟩ (.int .i64 r1)).setCell ⟨w.heap.size, 1, none⟩ (.int .i64 r2)).heap[w.heap.size]? = some (.cells #[.int .i64 r1, .int .i64 r2] 23) := bk_put (j := 1) (bk_put (j := 0) H1.out (.int .i64 r1)) (.int .i64 r2)
  have h3 := blk_alloc h2 (.cells #[.int .i64 r1, .int .i64 r2] 42)
  refine bodyPost_ret (results_cell_row rfl _ _ w.heap.size 23 _ (0, 0) _ rfl h3 Try.underlying23 rfl (by kernel_rfl)) rfl ⟨rfl, ?_⟩
  have kr : K0 (Below w.heap.size w w1) := ⟨HB2.out⟩
  have kx : K0 (w.heap.size ≤ w.heap.size) := ⟨Nat.le_refl _⟩
  exact kk
end Go.Proofs.Ytimbggkjpdaenaa.Q

namespace Go.Proofs.Ytimbggkjpdaenaa.Q
open Go.RowKit Go.Proofs.YtimbggkjpdaenaaW.PrintWords Go.Proofs.YtimbggkjpdaenaaW.PrintLast Go.Proofs.YtimbggkjpdaenaaW.PrintMore
set_option linter.unusedVariables false
set_option linter.unusedSimpArgs false

/-! ### laws_FnExactCheckRegex: function 3 -/
def laws_FnExactCheckRegex.f (k : Nat) (a0 : ByteArray) : Option (Bool) := if (a0.size : Int) > 1048576 then (some true) else ((spec_CheckRegex.f k a0).bind fun bt116 => ((impl_CheckRegex.f k a0).bind fun bt119 => ((laws_eqRegexRes.f bt119.1 bt119.2 bt116.1 bt116.2).bind fun t122 => (if t122 = true then (some true) else (some false)))))
set_option maxHeartbeats 8000000 in
set_option maxRecDepth 100000 in
theorem laws_FnExactCheckRegex.calls (k : Nat) (a0 : ByteArray) (r : Bool) (w : World) (h : laws_FnExactCheckRegex.f k a0 = some r) :
  Calls Try.prog 3 #[.string a0] w fun e w' => e = .returned (.bool r) ∧ Below w.heap.size w w' := by
 have hu23 := Try.underlying23
 have HB := Aside0.mk (Below.refl w.heap.size w)
 have H : (if (a0.size : Int) > 1048576 then (some true) else ((spec_CheckRegex.f k a0).bind fun bt116 => ((impl_CheckRegex.f k a0).bind fun bt119 => ((laws_eqRegexRes.f bt119.1 bt119.2 bt116.1 bt116.2).bind fun t122 => (if t122 = true then (some true) else (some false)))))) = some r := h
 clear h
 by_cases c2 : (a0.size : Int) > 1048576
 ·rw [if_pos c2] at H
  have c2b0 : decide (1048576 < (a0.size : Int)) = true := decide_eq_true c2
  have c2b1 : decide (1048576 < a0.size) = true := decide_eq_true (by omega)
  clear c2
  obtain rfl := Option.some.inj H
  go_enter Try.func3, Try.ntmps3
  go_wp2
  go_ret
  exact ⟨by first | rfl | (simp [errW_none, errW_some] <;> rfl) | (simp [*, errW_none, errW_some] <;> rfl), bw⟩
 ·rw [if_neg c2] at H
  have c2b0 : decide (1048576 < (a0.size : Int)) = false := decide_eq_false c2
  have c2b1 : decide (1048576 < a0.size) = false := decide_eq_false (by omega)
  clear c2
  replace H := Option.bind_eq_some_iff.mp H
  obtain ⟨⟨t116, t117⟩, A30, H⟩ := H
  replace H : ((impl_CheckRegex.f k a0).bind fun bt119 => ((laws_eqRegexRes.f bt119.1 bt119.2 t116 t117).bind fun t122 => (if t122 = true then (some true) else (some false)))) = some r := H
  have A3 := Aside0.mk A30
  clear A30
  replace H := Option.bind_eq_some_iff.mp H
  obtain ⟨⟨t119, t120⟩, A40, H⟩ := H
  replace H : ((laws_eqRegexRes.f t119 t120 t116 t117).bind fun t122 => (if t122 = true then (some true) else (some false))) = some r := H
  have A4 := Aside0.mk A40
  clear A40
  replace H := Option.bind_eq_some_iff.mp H
  obtain ⟨t122, A50, H⟩ := H
  replace H : (if t122 = true then (some true) else (some false)) = some r := H
  have A5 := Aside0.mk A50
  clear A50
  by_cases c6 : t122 = true
  ·subst c6
   have H1 : (some true) = some r := by rw [if_pos rfl] at H; exact H
   clear H
   have H := H1
   clear H1
   obtain rfl := Option.some.inj H
   go_enter Try.func3, Try.ntmps3
   go_wp2_with (first | ((with_reducible refine at_fn (f := 7) rfl ?_); refine goesL_ (some 9) rfl rfl Try.func7 (by kernel_rfl) rfl #[.string a0] rfl (by (try simp only [List.map_toArray, List.map_cons, List.map_nil]); first | done | rfl | (simp only [List.length_drop, List.length_take]; rfl)) ?_; (with_reducible refine (spec_CheckRegex.calls k a0 t116 t117 _ A3.out).mono ?_); rintro e w7 ⟨rfl, hb⟩; refine ⟨_, rfl, ?_⟩; have n0_ := Aside0.mk (below_step bw hb); clear HB; have HB := n0_; clear n0_; (try clear hb); (try clear hb2); (try clear hk); (try clear hi)) | ((with_reducible refine gate_dst (N := 3) rfl ?_); refine box_event ?hg (N := 3) ?hd (cs := #[.int .i64 0, .int .i64 0]) (t := 23) ?hr ?_; (case hd => rfl); (case hg => rfl); (case hr => first | (go_simp; done) | (go_simp; rfl)); intro gb118 hg w8 hbox hb; have n0_ := Aside0.mk (below_step bw hb); have n1_ := Aside0.mk (hbox); have n2_ := Aside0.mk ((by rw [hg]; exact (below_size bw) : w.heap.size ≤ gb118)); have n3_ := Aside0.mk ((by rw [hg]; exact (below_size bw) : w.heap.size ≤ gb118)); clear HB; have HB := n0_; have BK118 := n1_; have GW118 := n2_; have GE118 := n3_; clear n0_ n1_ n2_ n3_; clear hb hbox hg; have hcz9_0 : w8.cell? ⟨gb118, 0, none⟩ = some (.int .i64 0) := (blk_cell BK118.out 0).trans rfl; have hcz9_1 : w8.cell? ⟨gb118, 1, none⟩ = some (.int .i64 0) := (blk_cell BK118.out 1).trans rfl; have hfz9_0 := blk_frozen BK118.out 0; have hfz9_1 := blk_frozen BK118.out 1) | ((with_reducible refine at_fn (f := 8) rfl ?_); refine goesL_ (some 11) rfl rfl Try.func8 (by kernel_rfl) rfl #[.string a0] rfl (by (try simp only [List.map_toArray, List.map_cons, List.map_nil]); first | done | rfl | (simp only [List.length_drop, List.length_take]; rfl)) ?_; (with_reducible refine (impl_CheckRegex.calls k a0 t119 t120 _ A4.out).mono ?_); rintro e w10 ⟨rfl, hb⟩; refine ⟨_, rfl, ?_⟩; have n0_ := Aside0.mk (blk_below (g := gb118) (o := .cells #[.int .i64 t116, .int .i64 t117] 23 (0, 0)) (by (with_reducible repeat (first | refine blk_drewN ?_ _ | refine blk_drew ?_ | refine blk_alloc ?_ _)); refine blk_put (cs := #[.int .i64 t116, .int .i64 0]) ?_ 1 _ rfl; (with_reducible repeat (first | refine blk_drewN ?_ _ | refine blk_drew ?_ | refine blk_alloc ?_ _)); refine blk_put (cs := #[.int .i64 0, .int .i64 0]) ?_ 0 _ rfl; (with_reducible repeat (first | refine blk_drewN ?_ _ | refine blk_drew ?_ | refine blk_alloc ?_ _)); exact BK118.out) hb); have n1_ := Aside0.mk (below_step bw hb); clear BK118; clear HB; have BK118 := n0_; have HB := n1_; clear n0_ n1_; (try clear hb); (try clear hb2); (try clear hk); (try clear hi)) | ((with_reducible refine gate_dst (N := 4) rfl ?_); refine box_event ?hg (N := 4) ?hd (cs := #[.int .i64 0, .int .i64 0]) (t := 23) ?hr ?_; (case hd => rfl); (case hg => rfl); (case hr => first | (go_simp; done) | (go_simp; rfl)); intro gb121 hg w11 hbox hb; have n0_ := Aside0.mk (blk_below (g := gb118) (o := .cells #[.int .i64 t116, .int .i64 t117] 23 (0, 0)) (lb BK118) hb); have n1_ := Aside0.mk (below_step bw hb); have n2_ := Aside0.mk (hbox); have n3_ := Aside0.mk ((by rw [hg]; exact (below_size bw) : w.heap.size ≤ gb121)); have n4_ := Aside0.mk ((by rw [hg]; exact (below_size bw) : w.heap.size ≤ gb121)); have n5_ := Aside0.mk ((by rw [hg]; exact Nat.ne_of_lt (blk_lt (g := gb118) (o := .cells #[.int .i64 t116, .int .i64 t117] 23 (0, 0)) (lb BK118)) : gb118 ≠ gb121)); have n6_ := Aside0.mk ((by rw [hg]; exact Nat.ne_of_gt (blk_lt (g := gb118) (o := .cells #[.int .i64 t116, .int .i64 t117] 23 (0, 0)) (lb BK118)) : gb121 ≠ gb118)); clear BK118; clear HB; have BK118 := n0_; have HB := n1_; have BK121 := n2_; have GW121 := n3_; have GE121 := n4_; have NB118_121 := n5_; have NB121_118 := n6_; clear n0_ n1_ n2_ n3_ n4_ n5_ n6_; clear hb hbox hg; have hnb12 := NB121_118.out; have hnc12 := NB118_121.out; have hcz13_0 : w11.cell? ⟨gb121, 0, none⟩ = some (.int .i64 0) := (blk_cell BK121.out 0).trans rfl; have hcz13_1 : w11.cell? ⟨gb121, 1, none⟩ = some (.int .i64 0) := (blk_cell BK121.out 1).trans rfl; have hfz13_0 := blk_frozen BK121.out 0; have hfz13_1 := blk_frozen BK121.out 1; have hcz14_0 : w11.cell? ⟨gb118, 0, none⟩ = some (.int .i64 t116) := (blk_cell BK118.out 0).trans rfl; have hcz14_1 : w11.cell? ⟨gb118, 1, none⟩ = some (.int .i64 t117) := (blk_cell BK118.out 1).trans rfl; have hfz14_0 := blk_frozen BK118.out 0; have hfz14_1 := blk_frozen BK118.out 1) | ((with_reducible refine at_fn (f := 9) rfl ?_); refine goesL_ (some 14) rfl rfl Try.func9 (by kernel_rfl) rfl #[.agg #[.int .i64 t119, .int .i64 t120], .agg #[.int .i64 t116, .int .i64 t117]] rfl (by (try simp only [List.map_toArray, List.map_cons, List.map_nil]); first | done | rfl | (simp only [List.length_drop, List.length_take]; rfl)) ?_; (with_reducible refine (laws_eqRegexRes.calls t119 t120 t116 t117 true _ A5.out).mono ?_); rintro e w15 ⟨rfl, hb⟩; refine ⟨_, rfl, ?_⟩; have n0_ := Aside0.mk (blk_below (g := gb118) (o := .cells #[.int .i64 t116, .int .i64 t117] 23 (0, 0)) (by (with_reducible repeat (first | refine blk_drewN ?_ _ | refine blk_drew ?_ | refine blk_alloc ?_ _)); refine blk_far ?_ NB118_121.out _; (with_reducible repeat (first | refine blk_drewN ?_ _ | refine blk_drew ?_ | refine blk_alloc ?_ _)); refine blk_far ?_ NB118_121.out _; (with_reducible repeat (first | refine blk_drewN ?_ _ | refine blk_drew ?_ | refine blk_alloc ?_ _)); exact BK118.out) hb); have n1_ := Aside0.mk (blk_below (g := gb121) (o := .cells #[.int .i64 t119, .int .i64 t120] 23 (0, 0)) (by (with_reducible repeat (first | refine blk_drewN ?_ _ | refine blk_drew ?_ | refine blk_alloc ?_ _)); refine blk_put (cs := #[.int .i64 t119, .int .i64 0]) ?_ 1 _ rfl; (with_reducible repeat (first | refine blk_drewN ?_ _ | refine blk_drew ?_ | refine blk_alloc ?_ _)); refine blk_put (cs := #[.int .i64 0, .int .i64 0]) ?_ 0 _ rfl; (with_reducible repeat (first | refine blk_drewN ?_ _ | refine blk_drew ?_ | refine blk_alloc ?_ _)); exact BK121.out) hb); have n2_ := Aside0.mk (below_step bw hb); clear BK118; clear BK121; clear HB; have BK118 := n0_; have BK121 := n1_; have HB := n2_; clear n0_ n1_ n2_; (try clear hb); (try clear hb2); (try clear hk); (try clear hi)))
   go_ret
   exact ⟨by first | rfl | (simp [errW_none, errW_some] <;> rfl) | (simp [*, errW_none, errW_some] <;> rfl), bw⟩
  ·replace c6 := Bool.eq_false_iff.mpr c6
   subst c6
   have H1 : (some false) = some r := by rw [if_neg (show ¬ (false = true) by decide)] at H; exact H
   clear H
   have H := H1
   clear H1
   obtain rfl := Option.some.inj H
   go_enter Try.func3, Try.ntmps3
   go_wp2_with (first | ((with_reducible refine at_fn (f := 7) rfl ?_); refine goesL_ (some 9) rfl rfl Try.func7 (by kernel_rfl) rfl #[.string a0] rfl (by (try simp only [List.map_toArray, List.map_cons, List.map_nil]); first | done | rfl | (simp only [List.length_drop, List.length_take]; rfl)) ?_; (with_reducible refine (spec_CheckRegex.calls k a0 t116 t117 _ A3.out).mono ?_); rintro e w16 ⟨rfl, hb⟩; refine ⟨_, rfl, ?_⟩; have n0_ := Aside0.mk (below_step bw hb); clear HB; have HB := n0_; clear n0_; (try clear hb); (try clear hb2); (try clear hk); (try clear hi)) | ((with_reducible refine gate_dst (N := 3) rfl ?_); refine box_event ?hg (N := 3) ?hd (cs := #[.int .i64 0, .int .i64 0]) (t := 23) ?hr ?_; (case hd => rfl); (case hg => rfl); (case hr => first | (go_simp; done) | (go_simp; rfl)); intro gb118 hg w17 hbox hb; have n0_ := Aside0.mk (below_step bw hb); have n1_ := Aside0.mk (hbox); have n2_ := Aside0.mk ((by rw [hg]; exact (below_size bw) : w.heap.size ≤ gb118)); have n3_ := Aside0.mk ((by rw [hg]; exact (below_size bw) : w.heap.size ≤ gb118)); clear HB; have HB := n0_; have BK118 := n1_; have GW118 := n2_; have GE118 := n3_; clear n0_ n1_ n2_ n3_; clear hb hbox hg; have hcz18_0 : w17.cell? ⟨gb118, 0, none⟩ = some (.int .i64 0) := (blk_cell BK118.out 0).trans rfl; have hcz18_1 : w17.cell? ⟨gb118, 1, none⟩ = some (.int .i64 0) := (blk_cell BK118.out 1).trans rfl; have hfz18_0 := blk_frozen BK118.out 0; have hfz18_1 := blk_frozen BK118.out 1) | ((with_reducible refine at_fn (f := 8) rfl ?_); refine goesL_ (some 11) rfl rfl Try.func8 (by kernel_rfl) rfl #[.string a0] rfl (by (try simp only [List.map_toArray, List.map_cons, List.map_nil]); first | done | rfl | (simp only [List.length_drop, List.length_take]; rfl)) ?_; (with_reducible refine (impl_CheckRegex.calls k a0 t119 t120 _ A4.out).mono ?_); rintro e w19 ⟨rfl, hb⟩; refine ⟨_, rfl, ?_⟩; have n0_ := Aside0.mk (blk_below (g := gb118) (o := .cells #[.int .i64 t116, .int .i64 t117] 23 (0, 0)) (by (with_reducible repeat (first | refine blk_drewN ?_ _ | refine blk_drew ?_ | refine blk_alloc ?_ _)); refine blk_put (cs := #[.int .i64 t116, .int .i64 0]) ?_ 1 _ rfl; (with_reducible repeat (first | refine blk_drewN ?_ _ | refine blk_drew ?_ | refine blk_alloc ?_ _)); refine blk_put (cs := #[.int .i64 0, .int .i64 0]) ?_ 0 _ rfl; (with_reducible repeat (first | refine blk_drewN ?_ _ | refine blk_drew ?_ | refine blk_alloc ?_ _)); exact BK118.out) hb); have n1_ := Aside0.mk (below_step bw hb); clear BK118; clear HB; have BK118 := n0_; have HB := n1_; clear n0_ n1_; (try clear hb); (try clear hb2); (try clear hk); (try clear hi)) | ((with_reducible refine gate_dst (N := 4) rfl ?_); refine box_event ?hg (N := 4) ?hd (cs := #[.int .i64 0, .int .i64 0]) (t := 23) ?hr ?_; (case hd => rfl); (case hg => rfl); (case hr => first | (go_simp; done) | (go_simp; rfl)); intro gb121 hg w20 hbox hb; have n0_ := Aside0.mk (blk_below (g := gb118) (o := .cells #[.int .i64 t116, .int .i64 t117] 23 (0, 0)) (lb BK118) hb); have n1_ := Aside0.mk (below_step bw hb); have n2_ := Aside0.mk (hbox); have n3_ := Aside0.mk ((by rw [hg]; exact (below_size bw) : w.heap.size ≤ gb121)); have n4_ := Aside0.mk ((by rw [hg]; exact (below_size bw) : w.heap.size ≤ gb121)); have n5_ := Aside0.mk ((by rw [hg]; exact Nat.ne_of_lt (blk_lt (g := gb118) (o := .cells #[.int .i64 t116, .int .i64 t117] 23 (0, 0)) (lb BK118)) : gb118 ≠ gb121)); have n6_ := Aside0.mk ((by rw [hg]; exact Nat.ne_of_gt (blk_lt (g := gb118) (o := .cells #[.int .i64 t116, .int .i64 t117] 23 (0, 0)) (lb BK118)) : gb121 ≠ gb118)); clear BK118; clear HB; have BK118 := n0_; have HB := n1_; have BK121 := n2_; have GW121 := n3_; have GE121 := n4_; have NB118_121 := n5_; have NB121_118 := n6_; clear n0_ n1_ n2_ n3_ n4_ n5_ n6_; clear hb hbox hg; have hnb21 := NB121_118.out; have hnc21 := NB118_121.out; have hcz22_0 : w20.cell? ⟨gb121, 0, none⟩ = some (.int .i64 0) := (blk_cell BK121.out 0).trans rfl; have hcz22_1 : w20.cell? ⟨gb121, 1, none⟩ = some (.int .i64 0) := (blk_cell BK121.out 1).trans rfl; have hfz22_0 := blk_frozen BK121.out 0; have hfz22_1 := blk_frozen BK121.out 1; have hcz23_0 : w20.cell? ⟨gb118, 0, none⟩ = some (.int .i64 t116) := (blk_cell BK118.out 0).trans rfl; have hcz23_1 : w20.cell? ⟨gb118, 1, none⟩ = some (.int .i64 t117) := (blk_cell BK118.out 1).trans rfl; have hfz23_0 := blk_frozen BK118.out 0; have hfz23_1 := blk_frozen BK118.out 1) | ((with_reducible refine at_fn (f := 9) rfl ?_); refine goesL_ (some 14) rfl rfl Try.func9 (by kernel_rfl) rfl #[.agg #[.int .i64 t119, .int .i64 t120], .agg #[.int .i64 t116, .int .i64 t117]] rfl (by (try simp only [List.map_toArray, List.map_cons, List.map_nil]); first | done | rfl | (simp only [List.length_drop, List.length_take]; rfl)) ?_; (with_reducible refine (laws_eqRegexRes.calls t119 t120 t116 t117 false _ A5.out).mono ?_); rintro e w24 ⟨rfl, hb⟩; refine ⟨_, rfl, ?_⟩; have n0_ := Aside0.mk (blk_below (g := gb118) (o := .cells #[.int .i64 t116, .int .i64 t117] 23 (0, 0)) (by (with_reducible repeat (first | refine blk_drewN ?_ _ | refine blk_drew ?_ | refine blk_alloc ?_ _)); refine blk_far ?_ NB118_121.out _; (with_reducible repeat (first | refine blk_drewN ?_ _ | refine blk_drew ?_ | refine blk_alloc ?_ _)); refine blk_far ?_ NB118_121.out _; (with_reducible repeat (first | refine blk_drewN ?_ _ | refine blk_drew ?_ | refine blk_alloc ?_ _)); exact BK118.out) hb); have n1_ := Aside0.mk (blk_below (g := gb121) (o := .cells #[.int .i64 t119, .int .i64 t120] 23 (0, 0)) (by (with_reducible repeat (first | refine blk_drewN ?_ _ | refine blk_drew ?_ | refine blk_alloc ?_ _)); refine blk_put (cs := #[.int .i64 t119, .int .i64 0]) ?_ 1 _ rfl; (with_reducible repeat (first | refine blk_drewN ?_ _ | refine blk_drew ?_ | refine blk_alloc ?_ _)); refine blk_put (cs := #[.int .i64 0, .int .i64 0]) ?_ 0 _ rfl; (with_reducible repeat (first | refine blk_drewN ?_ _ | refine blk_drew ?_ | refine blk_alloc ?_ _)); exact BK121.out) hb); have n2_ := Aside0.mk (below_step bw hb); clear BK118; clear BK121; clear HB; have BK118 := n0_; have BK121 := n1_; have HB := n2_; clear n0_ n1_ n2_; (try clear hb); (try clear hb2); (try clear hk); (try clear hi)))
   go_ret
   exact ⟨by first | rfl | (simp [errW_none, errW_some] <;> rfl) | (simp [*, errW_none, errW_some] <;> rfl), bw⟩


end Go.Proofs.Ytimbggkjpdaenaa.Q

namespace Go.Proofs.Ytimbggkjpdaenaa.Q
open Go.RowKit Go.Proofs.YtimbggkjpdaenaaW.PrintWords Go.Proofs.YtimbggkjpdaenaaW.PrintLast
set_option linter.unusedVariables false

/-- The law over lists and numbers. -/
def laws_FnExactCheckRegex.Pure : Prop := ∀ (a0 : ByteArray), a0.size ≤ maxLen → ∃ k, laws_FnExactCheckRegex.f k a0 = some true
end Go.Proofs.Ytimbggkjpdaenaa.Q

namespace Go.Proofs.Ytimbggkjpdaenaa.Q
open Go.RowKit Go.Proofs.YtimbggkjpdaenaaW.PrintWords Go.Proofs.YtimbggkjpdaenaaW.PrintLast
set_option linter.unusedVariables false
set_option linter.unusedSimpArgs false
set_option linter.unusedSectionVars false
theorem Ev.obind {α β : Type} {x : Nat → Option (Except (Int × Int) α)} {f : Nat → α → Option (Except (Int × Int) β)} {a : α} {r : Except (Int × Int) β} (h : Ev x (.ok a)) (k : Ev (fun n => f n a) r) : Ev (fun n => Q.obind (x n) (f n)) r := by
  obtain ⟨K, h⟩ := h
  obtain ⟨K', k⟩ := k
  refine ⟨max K K', fun n hn => ?_⟩
  simp only []
  rw [h n (by omega)]
  exact k n (by omega)
theorem Ev.obind_err {α β : Type} {x : Nat → Option (Except (Int × Int) α)} {f : Nat → α → Option (Except (Int × Int) β)} {e : Int × Int} (h : Ev x (.error e)) : Ev (fun n => Q.obind (x n) (f n)) (.error e) := by
  obtain ⟨K, h⟩ := h
  refine ⟨K, fun n hn => ?_⟩
  simp only []
  rw [h n hn]
  rfl
section
variable {p : ByteArray} (hp : p.size ≤ 200)
include hp
theorem wr1 {i : Int} (h0 : 0 ≤ i) (h1 : i ≤ p.size) : wrap64 (i + 1) = i + 1 := wrap_id _ (by omega) (by omega)
theorem wr2 {i : Int} (h0 : 0 ≤ i) (h1 : i ≤ p.size) : wrap64 (i + 2) = i + 2 := wrap_id _ (by omega) (by omega)
/-- One ch: what the reference says. -/
def chS : Except (Int × Int) (Int × Int) → Int × Int × Bool
  | .ok (c, j) => (c, j, true)
  | .error (_, a) => (0, a, false)
theorem ch_code {i c a : Int} (h : chF p i = .error (c, a)) : c = 2 := by
  unfold chF at h
  split at h
  · split at h
    · cases h; rfl
    · cases h
  · split at h
    · cases h; rfl
    · cases h
theorem ch_spec {i : Int} (h0 : 0 ≤ i) (h1 : i ≤ p.size) : Ev (fun k => spec_l4Ch.f k p i) (chS (chF p i)) := by
  have hw1 := wr1 hp h0 h1
  have hw2 := wr2 hp h0 h1
  refine ⟨1, fun k hk => ?_⟩
  obtain ⟨k, rfl⟩ : ∃ m, k = m + 1 := ⟨k - 1, by omega⟩
  show spec_l4Ch.f (k + 1) p i = some (chS (chF p i))
  unfold spec_l4Ch.f chF
  by_cases e0 : i = p.size
  · rw [if_pos (by omega), if_neg (by omega), if_pos (.inl e0)]
    simp [spec_l4Ch.j0, chS]
  · rw [if_neg (by omega), if_pos h0, if_pos (by omega)]
    by_cases e93 : bt p i = 93
    · rw [if_pos e93, if_neg (by omega), if_pos (.inr (.inl e93))]
      simp [spec_l4Ch.j0, chS]
    · rw [if_neg e93]
      by_cases e45 : bt p i = 45
      · rw [if_neg (by omega), if_pos (.inr (.inr e45)), e45]
        simp [spec_l4Ch.j0, chS]
      · have hb : (bt p i == 45) = false := beq_eq_false_iff_ne.mpr e45
        rw [hb]
        simp only [spec_l4Ch.j0, Bool.false_eq_true, if_false]
        rw [hw1, hw2]
        have hlt : i < (p.size : Int) := by omega
        by_cases e92 : bt p i = 92
        · by_cases e1 : i + 1 = p.size
          · simp only [h0, hlt, e92, e1, if_true, and_self, ge_iff_le, Int.le_refl]; rfl
          · have e2 : ¬ (p.size : Int) ≤ i + 1 := by omega
            have e3 : 0 ≤ i + 1 := by omega
            have e4 : i + 1 < (p.size : Int) := by omega
            simp only [h0, hlt, e92, e1, e2, e3, e4, if_true, if_false, and_self, ge_iff_le]; rfl
        · have e5 : ¬ (i = p.size ∨ bt p i = 93 ∨ bt p i = 45) := by omega
          simp only [h0, hlt, e92, e5, if_true, if_false, and_false]; rfl
def clS : Except (Int × Int) (List Bool × Int) → Int × Int × Int
  | .ok (_, j) => (j + 1, 0, 0)
  | .error (c, a) => (0, c, a)
theorem cls_spec : ∀ (d : Nat) (i n : Int) (s : List Bool), 0 ≤ i → i ≤ p.size → (p.size : Int) - i = d → 0 ≤ n → n ≤ i →
    ∃ q, Ev (fun k => clsF k p i (decide (n = 0)) s) q ∧ Ev (fun k => spec_l4Class.l0 k p i n) (clS q) ∧ (∀ c a, q = .error (c, a) → c ≠ 0) := by
  intro d
  induction d using Nat.strongRecOn with
  | _ d ih =>
  intro i n s h0 h1 hd n0 n1
  have hcs := ch_spec hp h0 h1
  by_cases ee : i = p.size
  · have hch : chF p i = .error (2, i) := by unfold chF; rw [if_neg (by omega), if_pos (.inl ee)]
    refine ⟨.error (2, i), ⟨1, fun k hk => ?_⟩, ⟨1, fun k hk => ?_⟩, fun c a h => by cases h; decide⟩
    · obtain ⟨k, rfl⟩ : ∃ m, k = m + 1 := ⟨k - 1, by omega⟩
      show clsF (k + 1) p i _ s = _
      simp only [clsF]
      rw [if_pos (.inr (.inl ee)), hch]
    · obtain ⟨k, rfl⟩ : ∃ m, k = m + 1 := ⟨k - 1, by omega⟩
      show spec_l4Class.l0 (k + 1) p i n = _
      simp only [spec_l4Class.l0]
      rw [if_neg (by omega), ee]; rfl
  have hlt : i < p.size := by omega
  have hw1 := wr1 hp h0 h1
  by_cases ec : n = 0 ∨ bt p i ≠ 93
  · -- an item
    have hl0 : ∀ k, spec_l4Class.l0 (k + 1) p i n = spec_l4Class.j3 k p i n false := by
      intro k
      simp only [spec_l4Class.l0]
      rw [if_pos hlt, if_pos h0]
      by_cases e93 : bt p i = 93
      · rw [if_pos e93]
        have : n = 0 := by rcases ec with h | h
                           · exact h
                           · exact absurd e93 h
        rw [this]; rfl
      · rw [if_neg e93]
    have hcl : ∀ k, clsF (k + 1) p i (decide (n = 0)) s = (match chF p i with
      | .error x => some (.error x)
      | .ok (lo, j) =>
        if j < p.size ∧ bt p j = 45 then
          match chF p (j + 1) with
          | .error x => some (.error x)
          | .ok (hi, m) => if lo > hi then some (.error (4, i)) else clsF k p m false (setR s lo hi)
        else clsF k p j false (setR s lo lo)) := by
      intro k
      simp only [clsF]
      rw [if_pos (by rcases ec with h | h
                     · exact .inl (by simp [h])
                     · exact .inr (.inr h))]
      rfl
    cases hch : chF p i with
    | error x =>
      obtain ⟨c, a⟩ := x
      have hc2 := ch_code hp hch
      subst hc2
      rw [hch] at hcs
      refine ⟨.error (2, a), Ev.step (fun k => by rw [hcl, hch]) (Ev.now _), Ev.step hl0 (Ev.step (fun k => by simp only [spec_l4Class.j3]; rw [if_neg Bool.false_ne_true]) (Ev.bind hcs ?_)), fun c a h => by cases h; decide⟩
      exact Ev.if_neg (by simp [chS]) (Ev.now _)
    | ok x =>
      obtain ⟨lo, j⟩ := x
      obtain ⟨l0, l1, l2, l3⟩ := chF_ok hch h0 h1
      rw [hch] at hcs
      have hw : wrap64 (n + 1) = n + 1 := wrap_id _ (by omega) (by omega)
      have hdn : decide (n + 1 = 0) = false := decide_eq_false (by omega)
      by_cases ed : j < p.size ∧ bt p j = 45
      · have hcs2 := ch_spec hp (i := j + 1) (by omega) (by omega)
        have hwj : wrap64 (j + 1) = j + 1 := wr1 hp (by omega) l3
        cases hch2 : chF p (j + 1) with
        | error x =>
          obtain ⟨c, a⟩ := x
          have hc2 := ch_code hp hch2
          subst hc2
          rw [hch2] at hcs2
          refine ⟨.error (2, a), Ev.step (fun k => by rw [hcl, hch]; simp only []; rw [if_pos ed, hch2]) (Ev.now _), Ev.step hl0 (Ev.step (fun k => by simp only [spec_l4Class.j3]; rw [if_neg Bool.false_ne_true]) (Ev.bind hcs ?_)), fun c a h => by cases h; decide⟩
          simp only [chS, if_true]
          refine Ev.if_pos ed.1 (Ev.if_pos (show 0 ≤ j by omega) ?_)
          rw [ed.2]
          refine Ev.step (fun k => by simp only [spec_l4Class.j4]; rw [if_pos (show ((45 : Int) == 45) = true by decide), hwj]) (Ev.bind hcs2 ?_)
          exact Ev.if_neg (by simp [chS]) (Ev.now _)
        | ok x =>
          obtain ⟨hi, m⟩ := x
          obtain ⟨q0, q1, q2, q3⟩ := chF_ok hch2 (by omega) (by omega)
          rw [hch2] at hcs2
          by_cases elh : lo > hi
          · refine ⟨.error (4, i), Ev.step (fun k => by rw [hcl, hch]; simp only []; rw [if_pos ed, hch2]; simp only []; rw [if_pos elh]) (Ev.now _), Ev.step hl0 (Ev.step (fun k => by simp only [spec_l4Class.j3]; rw [if_neg Bool.false_ne_true]) (Ev.bind hcs ?_)), fun c a h => by cases h; decide⟩
            simp only [chS, if_true]
            refine Ev.if_pos ed.1 (Ev.if_pos (show 0 ≤ j by omega) ?_)
            rw [ed.2]
            refine Ev.step (fun k => by simp only [spec_l4Class.j4]; rw [if_pos (show ((45 : Int) == 45) = true by decide), hwj]) (Ev.bind hcs2 ?_)
            simp only [chS, if_true]
            exact Ev.if_pos elh (Ev.now _)
          · obtain ⟨q, hq1, hq2, hq3⟩ := ih ((p.size : Int) - m).toNat (by omega) m (n + 1) (setR s lo hi) (by omega) q3 (by omega) (by omega) (by omega)
            rw [hdn] at hq1
            refine ⟨q, Ev.step (fun k => by rw [hcl, hch]; simp only []; rw [if_pos ed, hch2]; simp only []; rw [if_neg elh]) hq1, Ev.step hl0 (Ev.step (fun k => by simp only [spec_l4Class.j3]; rw [if_neg Bool.false_ne_true]) (Ev.bind hcs ?_)), hq3⟩
            simp only [chS, if_true]
            refine Ev.if_pos ed.1 (Ev.if_pos (show 0 ≤ j by omega) ?_)
            rw [ed.2]
            refine Ev.step (fun k => by simp only [spec_l4Class.j4]; rw [if_pos (show ((45 : Int) == 45) = true by decide), hwj]) (Ev.bind hcs2 ?_)
            simp only [chS, if_true]
            refine Ev.if_neg elh ?_
            rw [hw]; exact hq2
      · obtain ⟨q, hq1, hq2, hq3⟩ := ih ((p.size : Int) - j).toNat (by omega) j (n + 1) (setR s lo lo) (by omega) l3 (by omega) (by omega) (by omega)
        rw [hdn] at hq1
        refine ⟨q, Ev.step (fun k => by rw [hcl, hch]; simp only []; rw [if_neg ed]) hq1, Ev.step hl0 (Ev.step (fun k => by simp only [spec_l4Class.j3]; rw [if_neg Bool.false_ne_true]) (Ev.bind hcs ?_)), hq3⟩
        simp only [chS, if_true]
        by_cases ej : j < p.size
        · have hb : (bt p j == 45) = false := beq_eq_false_iff_ne.mpr (fun h => ed ⟨ej, h⟩)
          refine Ev.if_pos ej (Ev.if_pos (show 0 ≤ j by omega) ?_)
          rw [hb]
          refine Ev.step (fun k => by simp only [spec_l4Class.j4]; rw [if_neg Bool.false_ne_true, hw]) hq2
        · refine Ev.if_neg ej ?_
          refine Ev.step (fun k => by simp only [spec_l4Class.j4]; rw [if_neg Bool.false_ne_true, hw]) hq2
  · have hn : ¬ n = 0 := fun h => ec (.inl h)
    have h93 : bt p i = 93 := Classical.not_not.mp fun h => ec (.inr h)
    refine ⟨.ok (s, i), Ev.step (f := fun _ => some (.ok (s, i))) (fun k => ?_) (Ev.now _), Ev.step (f := fun k => spec_l4Class.j3 k p i n true) (fun k => ?_) (Ev.step (f := fun _ => some (i + 1, 0, 0)) (fun k => ?_) (Ev.now _)), fun c a h => by cases h⟩
    · simp only [clsF]
      rw [if_neg (by simp [hn, ee, h93])]
    · simp only [spec_l4Class.l0]
      rw [if_pos hlt, if_pos h0, if_pos h93, decide_eq_true (by omega)]
    · simp only [spec_l4Class.j3, if_true, hw1]
theorem class_spec {i : Int} (h0 : 0 ≤ i) (h1 : i < p.size) : ∃ q, Ev (fun k => claF k p (i + 1)) q ∧ ((∃ s j, q = .ok (s, j) ∧ Ev (fun k => spec_l4Class.f k p i) (j, 0, 0)) ∨ (∃ c a, q = .error (c, a) ∧ c ≠ 0 ∧ Ev (fun k => spec_l4Class.f k p i) (0, c, a))) := by
  have hw1 := wr1 hp h0 (Int.le_of_lt h1)
  have hn : 0 ≤ notI p (i + 1) ∧ notI p (i + 1) ≤ p.size := by
    unfold notI; split
    · rename_i hh; unfold notQ at hh; simp at hh; omega
    · omega
  obtain ⟨q, hq1, hq2, hq3⟩ := cls_spec hp ((p.size : Int) - notI p (i + 1)).toNat (notI p (i + 1)) 0 noB hn.1 hn.2 (by omega) (Int.le_refl _) hn.1
  have hs : Ev (fun k => spec_l4Class.f k p i) (clS q) := by
    unfold spec_l4Class.f
    rw [hw1]
    by_cases e : i + 1 < p.size
    · refine Ev.if_pos e (Ev.if_pos (show 0 ≤ i + 1 by omega) ?_)
      have hnq : notQ p (i + 1) = (bt p (i + 1) == 94) := by unfold notQ; rw [decide_eq_true e]; rfl
      have hw2 := wr1 hp (i := i + 1) (by omega) (by omega)
      refine Ev.step (f := fun k => spec_l4Class.j1 k p (notI p (i + 1))) (fun k => ?_) (Ev.step (fun k => by simp only [spec_l4Class.j1]) hq2)
      simp only [spec_l4Class.j0]
      unfold notI
      rw [hnq, hw2]
      split <;> rfl
    · refine Ev.if_neg e ?_
      have hnq : notQ p (i + 1) = false := by unfold notQ; rw [decide_eq_false e]; rfl
      refine Ev.step (f := fun k => spec_l4Class.j1 k p (notI p (i + 1))) (fun k => ?_) (Ev.step (fun k => by simp only [spec_l4Class.j1]) hq2)
      simp only [spec_l4Class.j0]
      unfold notI
      rw [hnq]
      rfl
  have hc : Ev (fun k => claF k p (i + 1)) (q.map fun x => (if notQ p (i + 1) then x.1.map (!·) else x.1, x.2 + 1)) := by
    obtain ⟨K, hK⟩ := hq1
    refine ⟨K, fun k hk => ?_⟩
    have := hK k hk
    simp only [decide_true] at this
    show (clsF k p (notI p (i + 1)) true noB).map _ = _
    rw [this]; rfl
  refine ⟨_, hc, ?_⟩
  rcases q with ⟨c, a⟩ | ⟨s, j⟩
  · exact .inr ⟨c, a, rfl, hq3 c a rfl, hs⟩
  · exact .inl ⟨_, _, rfl, hs⟩
theorem l4Op_is (c : Int) : spec_l4Op.f c = some (isOp c) := by
  unfold spec_l4Op.f isOp
  by_cases h1 : c = 42
  · simp [h1]
  · by_cases h2 : c = 43
    · simp [h2]
    · simp [h1, h2, beq_eq_false_iff_ne.mpr h1, beq_eq_false_iff_ne.mpr h2]
/-- The reference comes to r from this state. -/
def SL (p : ByteArray) (o : Int) (at_ : Bool) (i : Int) (r : Int × Int) : Prop := Ev (fun k => spec_CheckRegex.l0 k p o at_ i) r
theorem sl_s (k : Nat) (o : Int) (at_ : Bool) (i : Int) (h0 : 0 ≤ i) (h1 : i < p.size) (ho : 0 ≤ o) (ho2 : o ≤ 20) : spec_CheckRegex.l0 (k + 1) p o at_ i =
    (if bt p i = 40 then (if o = 20 then some (3, i) else spec_CheckRegex.l0 k p (o + 1) false (i + 1))
    else if bt p i = 41 then (if o = 0 then some (2, i) else spec_CheckRegex.l0 k p (o - 1) true (i + 1))
    else if bt p i = 124 then spec_CheckRegex.l0 k p o false (i + 1)
    else if isOp (bt p i) = true then (if at_ = true then spec_CheckRegex.l0 k p o at_ (i + 1) else some (2, i))
    else if bt p i = 91 then ((spec_l4Class.f k p i).bind fun b => if b.2.1 = 0 then spec_CheckRegex.l0 k p o true b.1 else some (b.2.1, b.2.2))
    else if bt p i = 93 then some (2, i)
    else if bt p i = 92 then (if i + 1 = p.size then some (2, (p.size : Int)) else spec_CheckRegex.l0 k p o true (i + 2))
    else spec_CheckRegex.l0 k p o true (i + 1)) := by
  have hw1 := wr1 hp h0 (Int.le_of_lt h1)
  have hw2 := wr2 hp h0 (Int.le_of_lt h1)
  have hw3 : wrap64 (o + 1) = o + 1 := wrap_id _ (by omega) (by omega)
  have hw4 : wrap64 (o - 1) = o - 1 := wrap_id _ (by omega) (by omega)
  rw [spec_CheckRegex.l0, if_pos h1, if_pos h0, hw1, hw2, hw3, hw4, l4Op_is hp]
  rfl
theorem sl_end (o : Int) (at_ : Bool) (ho : 0 ≤ o) : SL p o at_ p.size (if o > 0 then (2, (p.size : Int)) else (0, 0)) := by
  refine Ev.step (f := fun _ => some (if o > 0 then (2, (p.size : Int)) else (0, 0))) (fun k => ?_) (Ev.now _)
  rw [spec_CheckRegex.l0, if_neg (by omega)]
  split <;> rfl
/-- Operators behind an atom. -/
theorem ops_spec : ∀ (d : Nat) (j : Int) (x : Rx) (o : Int), 0 ≤ o → o ≤ 20 → 0 ≤ j → j ≤ p.size → (p.size : Int) - j = d →
    ∃ x' j', Ev (fun k => opsF k p j x) (x', j') ∧ j ≤ j' ∧ j' ≤ p.size ∧ (j' < p.size → isOp (bt p j') = false) ∧ ∀ r, SL p o true j' r → SL p o true j r := by
  intro d
  induction d with
  | zero =>
    intro j x o o0 o1 h0 h1 hd
    refine ⟨x, j, Ev.step (f := fun _ => some (x, j)) (fun k => ?_) (Ev.now _), Int.le_refl _, h1, fun h => by omega, fun r h => h⟩
    simp only [opsF]
    rw [if_neg (by omega)]
  | succ d ih =>
    intro j x o o0 o1 h0 h1 hd
    have hlt : j < p.size := by omega
    by_cases hop : isOp (bt p j) = true
    · obtain ⟨x', j', he, a, b, c, hs⟩ := ih (j + 1) (.rep x (bt p j)) o o0 o1 (by omega) (by omega) (by omega)
      refine ⟨x', j', Ev.step (fun k => by simp only [opsF]; rw [if_pos ⟨hlt, hop⟩]) he, by omega, b, c, fun r h => Ev.step (fun k => ?_) (hs r h)⟩
      have hn : bt p j ≠ 40 ∧ bt p j ≠ 41 ∧ bt p j ≠ 124 := by
        refine ⟨fun e => ?_, fun e => ?_, fun e => ?_⟩ <;> (rw [e] at hop; revert hop; decide)
      rw [sl_s hp k o true j h0 hlt o0 o1, if_neg hn.1, if_neg hn.2.1, if_neg hn.2.2, if_pos hop, if_pos rfl]
    · refine ⟨x, j, Ev.step (f := fun _ => some (x, j)) (fun k => ?_) (Ev.now _), Int.le_refl _, h1, fun _ => by simpa using hop, fun r h => h⟩
      simp only [opsF]
      rw [if_neg (fun h => hop h.2)]
def AtomS (p : ByteArray) (i o : Int) (at_ : Bool) : Prop :=
  (∃ c a, Ev (fun k => atomF k p i o) (.error (c, a)) ∧ SL p o at_ i (c, a)) ∨
  (∃ x j, Ev (fun k => atomF k p i o) (.ok (x, j)) ∧ i < j ∧ j ≤ p.size ∧ ∀ r, SL p o true j r → SL p o at_ i r)
def SeqS (p : ByteArray) (i o : Int) (at_ : Bool) : Prop :=
  (∃ c a, (∀ acc, Ev (fun k => seqL k p i o acc) (.error (c, a))) ∧ SL p o at_ i (c, a)) ∨
  (∃ xs j, (∀ acc, Ev (fun k => seqL k p i o acc) (.ok (.seq (acc ++ xs), j))) ∧ i ≤ j ∧ j ≤ p.size ∧ (j < p.size → bt p j = 124 ∨ bt p j = 41) ∧ ∀ r, (∀ b, SL p o b j r) → SL p o at_ i r)
def AltS (p : ByteArray) (i o : Int) : Prop :=
  (∃ c a, (∀ acc, Ev (fun k => altL k p i o acc) (.error (c, a))) ∧ SL p o false i (c, a)) ∨
  (∃ xs j, (∀ acc, Ev (fun k => altL k p i o acc) (.ok (.alt (acc ++ xs), j))) ∧ i ≤ j ∧ j ≤ p.size ∧ (j < p.size → bt p j = 41) ∧ ∀ r, (∀ b, SL p o b j r) → SL p o false i r)
theorem atom_spec (i o : Int) (at_ : Bool) (h0 : 0 ≤ i) (h1 : i < p.size) (o0 : 0 ≤ o) (o1 : o ≤ 20) (hat : at_ = true → isOp (bt p i) = false) (n124 : bt p i ≠ 124) (n41 : bt p i ≠ 41)
    (IH : o < 20 → AltS p (i + 1) (o + 1)) : AtomS p i o at_ := by
  have hsl := fun k b => sl_s hp k o b i h0 h1 o0 o1
  by_cases n40 : bt p i = 40
  · by_cases e20 : o = 20
    · refine .inl ⟨3, i, Ev.step (f := fun _ => some (.error (3, i))) (fun k => by rw [atomF_s, if_pos n40, if_pos e20]) (Ev.now _), Ev.step (f := fun _ => some (3, i)) (fun k => by rw [hsl, if_pos n40, if_pos e20]) (Ev.now _)⟩
    · have ho : o < 20 := by omega
      rcases IH ho with ⟨c, a, ha, hs⟩ | ⟨xs, j, ha, a, b, hj, hs⟩
      · refine .inl ⟨c, a, Ev.step (fun k => by rw [atomF_s, if_pos n40, if_neg e20]) (Ev.obind_err (ha [])), Ev.step (fun k => by rw [hsl, if_pos n40, if_neg e20]) hs⟩
      · by_cases ej : j = p.size
        · refine .inl ⟨2, j, Ev.step (fun k => by rw [atomF_s, if_pos n40, if_neg e20]) (Ev.obind (ha []) (Ev.if_pos ej (Ev.now _))), Ev.step (fun k => by rw [hsl, if_pos n40, if_neg e20]) (hs _ fun b => ?_)⟩
          have := sl_end hp (o + 1) b (by omega)
          rw [if_pos (by omega)] at this
          rw [ej]; exact this
        · have hlt : j < p.size := by omega
          refine .inr ⟨_, j + 1, Ev.step (fun k => by rw [atomF_s, if_pos n40, if_neg e20]) (Ev.obind (ha []) (Ev.if_neg ej (Ev.now _))), by omega, by omega, fun r h => Ev.step (fun k => by rw [hsl, if_pos n40, if_neg e20]) (hs _ fun b => ?_)⟩
          have h41 := hj hlt
          refine Ev.step (fun k => ?_) h
          rw [sl_s hp k (o + 1) b j (by omega) hlt (by omega) (by omega), if_neg (by omega), if_pos h41, if_neg (by omega), show o + 1 - 1 = o by omega]
  · by_cases n91 : bt p i = 91
    · have hop : ¬ isOp (bt p i) = true := by rw [n91]; decide
      obtain ⟨q, hq, h⟩ := class_spec hp h0 h1
      have hA : ∀ k, atomF (k + 1) p i o = obind (claF k p (i + 1)) fun x => some (.ok (.one x.1 0 false, x.2)) := fun k => by rw [atomF_s, if_neg n40, if_pos n91]
      have hS : ∀ k, spec_CheckRegex.l0 (k + 1) p o at_ i = ((spec_l4Class.f k p i).bind fun b => if b.2.1 = 0 then spec_CheckRegex.l0 k p o true b.1 else some (b.2.1, b.2.2)) := fun k => by rw [hsl, if_neg n40, if_neg n41, if_neg n124, if_neg hop, if_pos n91]
      rcases h with ⟨s, j, rfl, hs⟩ | ⟨c, a, rfl, hc, hs⟩
      · obtain ⟨K, hK⟩ := hq
        obtain ⟨a, b, -⟩ := claF_ok (hK K (Nat.le_refl _)) (by omega) (by omega)
        have a' : i + 1 < j := a
        refine .inr ⟨_, j, Ev.step hA (Ev.obind ⟨K, hK⟩ (Ev.now _)), by omega, b, fun r h => Ev.step hS (Ev.bind hs (Ev.if_pos rfl h))⟩
      · refine .inl ⟨c, a, Ev.step hA (Ev.obind_err hq), Ev.step hS (Ev.bind hs (Ev.if_neg hc (Ev.now _)))⟩
    · by_cases n46 : bt p i = 46
      · have hop : ¬ isOp (bt p i) = true := by rw [n46]; decide
        refine .inr ⟨_, i + 1, Ev.step (fun k => by rw [atomF_s, if_neg n40, if_neg n91, if_pos n46]) (Ev.now _), by omega, by omega, fun r h => Ev.step (fun k => ?_) h⟩
        rw [hsl, if_neg n40, if_neg n41, if_neg n124, if_neg hop, if_neg n91, if_neg (by omega), if_neg (by omega)]
      · by_cases hop : isOp (bt p i) = true
        · have hb : at_ = false := by
            cases at_
            · rfl
            · have := hat rfl; rw [hop] at this; cases this
          subst hb
          refine .inl ⟨2, i, Ev.step (fun k => by rw [atomF_s, if_neg n40, if_neg n91, if_neg n46, if_pos (.inl hop)]) (Ev.now _), Ev.step (fun k => ?_) (Ev.now _)⟩
          rw [hsl, if_neg n40, if_neg n41, if_neg n124, if_pos hop, if_neg Bool.false_ne_true]
        · by_cases n93 : bt p i = 93
          · refine .inl ⟨2, i, Ev.step (fun k => by rw [atomF_s, if_neg n40, if_neg n91, if_neg n46, if_pos (.inr n93)]) (Ev.now _), Ev.step (fun k => ?_) (Ev.now _)⟩
            rw [hsl, if_neg n40, if_neg n41, if_neg n124, if_neg hop, if_neg n91, if_pos n93]
          · have hno : ¬ (isOp (bt p i) = true ∨ bt p i = 93) := fun h => h.elim hop n93
            by_cases n92 : bt p i = 92
            · by_cases e1 : i + 1 = p.size
              · refine .inl ⟨2, i + 1, Ev.step (fun k => by rw [atomF_s, if_neg n40, if_neg n91, if_neg n46, if_neg hno, if_pos n92, if_pos e1]) (Ev.now _), Ev.step (fun k => ?_) (Ev.now _)⟩
                rw [hsl, if_neg n40, if_neg n41, if_neg n124, if_neg hop, if_neg n91, if_neg n93, if_pos n92, if_pos e1, e1]
              · refine .inr ⟨_, i + 2, Ev.step (fun k => by rw [atomF_s, if_neg n40, if_neg n91, if_neg n46, if_neg hno, if_pos n92, if_neg e1]) (Ev.now _), by omega, by omega, fun r h => Ev.step (fun k => ?_) h⟩
                rw [hsl, if_neg n40, if_neg n41, if_neg n124, if_neg hop, if_neg n91, if_neg n93, if_pos n92, if_neg e1]
            · refine .inr ⟨_, i + 1, Ev.step (fun k => by rw [atomF_s, if_neg n40, if_neg n91, if_neg n46, if_neg hno, if_neg n92]) (Ev.now _), by omega, by omega, fun r h => Ev.step (fun k => ?_) h⟩
              rw [hsl, if_neg n40, if_neg n41, if_neg n124, if_neg hop, if_neg n91, if_neg n93, if_neg n92]
theorem par_spec : ∀ (d : Nat) (i : Int), 0 ≤ i → i ≤ p.size → (p.size : Int) - i = d → (∀ o at_, 0 ≤ o → o ≤ 20 → (at_ = true → i < p.size → isOp (bt p i) = false) → SeqS p i o at_) ∧ (∀ o, 0 ≤ o → o ≤ 20 → AltS p i o) := by
  intro d
  induction d using Nat.strongRecOn with
  | _ d ih =>
  intro i h0 h1 hd
  have hseq : ∀ o at_, 0 ≤ o → o ≤ 20 → (at_ = true → i < p.size → isOp (bt p i) = false) → SeqS p i o at_ := by
    intro o at_ o0 o1 hat
    by_cases hc : i < p.size ∧ (bt p i ≠ 124 ∧ bt p i ≠ 41)
    · have hS : ∀ k acc, seqL (k + 1) p i o acc = obind (atomF k p i o) fun x => (opsF k p x.2 x.1).bind fun y => seqL k p y.2 o (acc ++ [y.1]) := fun k acc => by rw [seqL_s, if_pos hc]
      rcases atom_spec hp i o at_ h0 hc.1 o0 o1 (fun h => hat h hc.1) hc.2.1 hc.2.2 (fun h20 => (ih ((p.size : Int) - (i + 1)).toNat (by omega) (i + 1) (by omega) (by omega) (by omega)).2 (o + 1) (by omega) (by omega)) with ⟨c, a, ha, hs⟩ | ⟨x, j, ha, a, b, hs⟩
      · exact .inl ⟨c, a, fun acc => Ev.step (fun k => hS k acc) (Ev.obind_err ha), hs⟩
      · obtain ⟨x', j', ho, a2, b2, c2, hs2⟩ := ops_spec hp ((p.size : Int) - j).toNat j x o o0 o1 (by omega) b (by omega)
        rcases (ih ((p.size : Int) - j').toNat (by omega) j' (by omega) b2 (by omega)).1 o true o0 o1 (fun _ h => c2 h) with ⟨c, e, hq, hs3⟩ | ⟨xs, j3, hq, a3, b3, c3, hs3⟩
        · exact .inl ⟨c, e, fun acc => Ev.step (fun k => hS k acc) (Ev.obind ha (Ev.bind ho (hq _))), hs _ (hs2 _ hs3)⟩
        · refine .inr ⟨x' :: xs, j3, fun acc => ?_, by omega, b3, c3, fun r h => hs _ (hs2 _ (hs3 r h))⟩
          have := hq (acc ++ [x'])
          rw [List.append_assoc] at this
          exact Ev.step (fun k => hS k acc) (Ev.obind ha (Ev.bind ho this))
    · refine .inr ⟨[], i, fun acc => ?_, Int.le_refl _, h1, fun hlt => ?_, fun r h => h _⟩
      · rw [List.append_nil]
        exact Ev.step (fun k => by rw [seqL_s, if_neg hc]) (Ev.now _)
      · by_cases e : bt p i = 124
        · exact .inl e
        · by_cases e2 : bt p i = 41
          · exact .inr e2
          · exact absurd ⟨hlt, e, e2⟩ hc
  refine ⟨hseq, fun o o0 o1 => ?_⟩
  rcases hseq o false o0 o1 (fun h => by cases h) with ⟨c, a, hq, hs⟩ | ⟨xs, j, hq, a, b, hj, hs⟩
  · exact .inl ⟨c, a, fun acc => Ev.step (fun k => altL_s k p i o acc) (Ev.obind_err (hq [])), hs⟩
  · by_cases hb : j = p.size ∨ bt p j ≠ 124
    · refine .inr ⟨[.seq xs], j, fun acc => Ev.step (fun k => altL_s k p i o acc) (Ev.obind (hq []) (Ev.if_pos hb (Ev.now _))), a, b, fun hlt => ?_, hs⟩
      rcases hj hlt with h | h
      · rcases hb with h' | h'
        · omega
        · exact absurd h h'
      · exact h
    · have e1 : j < p.size := by
        have : ¬ j = p.size := fun h => hb (.inl h)
        omega
      have e2 : bt p j = 124 := Classical.not_not.mp fun h => hb (.inr h)
      have hbar : ∀ r, SL p o false (j + 1) r → ∀ b, SL p o b j r := fun r h b => Ev.step (fun k => by rw [sl_s hp k o b j (by omega) e1 o0 o1, if_neg (by omega), if_neg (by omega), if_pos e2]) h
      rcases (ih ((p.size : Int) - (j + 1)).toNat (by omega) (j + 1) (by omega) (by omega) (by omega)).2 o o0 o1 with ⟨c, e, ha, hs3⟩ | ⟨ys, j3, ha, a3, b3, c3, hs3⟩
      · exact .inl ⟨c, e, fun acc => Ev.step (fun k => altL_s k p i o acc) (Ev.obind (hq []) (Ev.if_neg hb (ha _))), hs _ (hbar _ hs3)⟩
      · refine .inr ⟨.seq xs :: ys, j3, fun acc => ?_, by omega, b3, c3, fun r h => hs _ (hbar _ (hs3 r h))⟩
        have := ha (acc ++ [.seq xs])
        rw [List.append_assoc] at this
        exact Ev.step (fun k => altL_s k p i o acc) (Ev.obind (hq []) (Ev.if_neg hb this))
end
/-- The program's reading of a pattern and the reference's check tell the same fault. -/
theorem check_spec (p : ByteArray) : ∃ q, Ev (fun k => patR k p) q ∧ Ev (fun k => spec_CheckRegex.f k p) (match q with | .ok _ => (0, 0) | .error x => x) := by
  by_cases hb : 200 < p.size
  · refine ⟨.error (1, 0), ⟨0, fun k _ => ?_⟩, ⟨0, fun k _ => ?_⟩⟩
    · show patR k p = _
      unfold patR; rw [if_pos hb]
    · show spec_CheckRegex.f k p = _
      unfold spec_CheckRegex.f; rw [if_pos (by omega)]
  · have hp : p.size ≤ 200 := by omega
    have hR : ∀ k, patR k p = patF k p := fun k => by unfold patR; rw [if_neg hb]
    have hF : ∀ k, spec_CheckRegex.f k p = spec_CheckRegex.l0 k p 0 false 0 := fun k => by unfold spec_CheckRegex.f; rw [if_neg (by omega)]
    simp only [hR, hF]
    rcases (par_spec hp p.size 0 (Int.le_refl _) (by omega) (by omega)).2 0 (Int.le_refl _) (by omega) with ⟨c, a, ha, hs⟩ | ⟨xs, j, ha, a, b, hj, hs⟩
    · exact ⟨.error (c, a), Ev.obind_err (ha []), hs⟩
    · by_cases e : j < p.size
      · refine ⟨.error (2, j), Ev.obind (ha []) (Ev.if_pos e (Ev.now _)), hs _ fun b => Ev.step (fun k => ?_) (Ev.now _)⟩
        rw [sl_s hp k 0 b j a e (Int.le_refl _) (by omega), if_neg (by have := hj e; omega), if_pos (hj e), if_pos rfl]
      · refine ⟨.ok (.alt ([] ++ xs)), Ev.obind (ha []) (Ev.if_neg e (Ev.now _)), hs _ fun b => ?_⟩
        have := sl_end hp 0 b (Int.le_refl _)
        rw [if_neg (by omega)] at this
        rw [show j = p.size by omega]; exact this
end Go.Proofs.Ytimbggkjpdaenaa.Q

namespace Go.Proofs.Ytimbggkjpdaenaa.Pr
open Q Go.Proofs.YtimbggkjpdaenaaW.PrintWords
theorem FnExactCheckRegex : laws_FnExactCheckRegex.Pure := by
  intro p _
  apply Ev.rounds
  unfold laws_FnExactCheckRegex.f
  by_cases h : (p.size : Int) > 1048576
  · exact Ev.if_pos h (Ev.now _)
  refine Ev.if_neg h ?_
  obtain ⟨q, hi, hs⟩ := check_spec p
  obtain ⟨x, hi2, hs2⟩ : ∃ x : Int × Int, Ev (fun k => impl_CheckRegex.f k p) x ∧ Ev (fun k => spec_CheckRegex.f k p) x := by
    obtain ⟨K, hK⟩ := hi
    rcases q with x | x
    · exact ⟨x, ⟨K, fun k hk => by have h : patR k p = some (.error x) := hK k hk; show (patR k p).map _ = _; rw [h]; rfl⟩, hs⟩
    · exact ⟨(0, 0), ⟨K, fun k hk => by have h : patR k p = some (.ok x) := hK k hk; show (patR k p).map _ = _; rw [h]; rfl⟩, hs⟩
  refine Ev.bind hs2 (Ev.bind hi2 (Ev.bind_some (a := true) ?_ (Ev.if_pos rfl (Ev.now _))))
  unfold laws_eqRegexRes.f
  rw [if_pos rfl, if_pos rfl]
end Go.Proofs.Ytimbggkjpdaenaa.Pr

namespace Go.Proofs.Ytimbggkjpdaenaa.fnExactCheckRegex
open Go.ChangeShapes Go.WideShapes Go.ChangeAt Go.RowKit Go.Proofs.YtimbggkjpdaenaaW.PrintWords Go.Proofs.Ytimbggkjpdaenaa.RowK Go.Proofs.Ytimbggkjpdaenaa.Q
open Go.ChangeMaps (open_string shut_string)
set_option linter.unusedVariables false
theorem own : ownKnob Try.prog.godebug = none := by kernel_rfl
theorem laidOut : laidOutB Try.prog = true := by kernel_rfl
set_option maxRecDepth 100000 in
theorem lifted (os : Os) (started : os.Started) (H : Type) (enc : TypeId × Value → H) :
    ReturnsInHanded {} Try.checked os 3 .any (Rows.fnExactCheckRegexSpec.pre6 enc Try.prog Try.f3 Rows.fnExactCheckRegexRow.domain false) (Rows.fnExactCheckRegexSpec.post enc Try.prog Try.f3 false true false false) := by
  refine returnsInHanded_of_change_sized (C := Try.checked) own started (by kernel_rfl) Try.func3
    (ChangeSpec.witness6 (enc := enc) (C := Try.checked) false ⟨#[], #[.string ByteArray.empty], []⟩ 8 (by kernel_rfl) (by kernel_rfl) (by kernel_rfl) (by kernel_rfl)) ?_
  intro W base args ds gs before hval0 hW hcnd hsz0 _
  have hval : ∀ (j : Nat) t v, Try.f3.params[j]? = some t → args[j]? = some v → Value.okWide Try.prog W .any base t v := hval0
  have hW' := hW
  obtain ⟨p, q, hA0, hV, rfl, hfz, hnd⟩ := hW
  have hA : DataW.TrodAll enc Try.prog W 0 (fun _ => true) true Try.f3.params.toList args.toList ds p := hA0
  rw [Try.params3] at hA hval
  obtain ⟨v0, vs0, d0, ds0, p0, q0, hargs, rfl, rfl, h0, r0⟩ := trodAll_cons hA
  obtain ⟨rfl, rfl, rfl⟩ := trodAll_nil r0
  obtain rfl : args = #[v0] := by cases args; simp_all
  obtain ⟨rfl, rfl⟩ := trodVars_none hV
  obtain ⟨a0, rfl, rfl, rfl, y0⟩ := open_string Try.underlying9 (hval 0 9 v0 rfl rfl) h0
  obtain ⟨k_, hp_⟩ := Pr.FnExactCheckRegex a0 y0
  clear hA0 hval0 hsz0
  have hc_ := Q.laws_FnExactCheckRegex.calls k_ a0 true W  hp_
  refine hc_.mono fun e W' ⟨he, bel0⟩ => ?_
  subst he
  have bel : Below W.heap.size W W' := bel0
  exact ⟨_, rfl, _, _, _, [], _, [], hW', trodAll_mk1 (shut_bool Try.underlying4 _), (trodAll_cons_mk (shut_string Try.underlying9 y0) trodAll_mk0), rfl, bel.frame _, fun h => by cases h⟩
theorem over : Rows.fnExactCheckRegexRow.holds Try.pinned (OpenSpec.ofChange Rows.fnExactCheckRegexSpec) :=
  OpenClaim.holds_of_wide 3 Try.f3 rfl rfl rfl rfl rfl rfl rfl ⟨rfl, rfl, rfl, rfl, rfl⟩ rfl rfl rfl rfl rfl (by kernel_rfl) Try.func3 (by kernel_rfl)
    (of_decide_eq_true (by kernel_rfl)) (by unfold Func.isWrapper; first | (rw [if_pos (by decide +kernel)]; kernel_rfl) | (rw [if_neg (by decide +kernel)]; exact ⟨rfl, rfl⟩))
    (fun os started H enc _ => lifted os started H enc)
end Go.Proofs.Ytimbggkjpdaenaa.fnExactCheckRegex
namespace Go.Proofs.Ytimbggkjpdaenaa
theorem fnExactCheckRegex_holds : Rows.FnExactCheckRegexSaid := fnExactCheckRegex.over
#print axioms fnExactCheckRegex_holds
end Go.Proofs.Ytimbggkjpdaenaa
