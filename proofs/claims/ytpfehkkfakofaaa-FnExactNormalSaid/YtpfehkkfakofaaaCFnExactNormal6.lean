/- FnExactNormal: the row of the law: its arguments opened, its walk, its statement over lists (PrFnExactNormal). No condition. -/
import Derived.Test.YtpfehkkfakofaaaCFnExactNormal5

namespace Go.Proofs.Ytpfehkkfakofaaa.Q
open Go.RowKit Go.Proofs.YtpfehkkfakofaaaW.PrintWords Go.Proofs.YtpfehkkfakofaaaW.PrintLast Go.Proofs.YtpfehkkfakofaaaW.PrintMore
set_option linter.unusedVariables false
set_option linter.unusedSimpArgs false
set_option maxHeartbeats 4000000 in
set_option maxRecDepth 100000 in
theorem same_call (a b : Tr) (va vb : Value) (ok ok' : Nat → Prop) (w : World) (ha : RepT w ok a va) (hb : RepT w ok' b vb) (la : (flatT a).length ≤ 1000) (lb : (flatT b).length ≤ 1000) :
    Calls Try.prog 55 #[va, vb] w fun e w' => e = .returned (.bool (sameN (flatT a) (flatT b))) ∧ Below w.heap.size w w' := by
  have HA := Aside0.mk (nodes_call 1000 a va ok w la (Nat.le_refl _) ha)
  have HB := Aside0.mk (fun (W : World) (k : Below w.heap.size w W) => nodes_call 1000 b vb ok' W lb (Nat.le_refl _) (RepT_move (fun q hq hl => ⟨hq, k.block q hl⟩) _ _ hb))
  obtain ⟨K, hK⟩ := same_impl (flatT a) (flatT b) (by omega)
  have HK := Aside0.mk (hK K (Nat.le_refl _))
  clear ha hb hK
  go_enter Try.func55, Try.ntmps55
  go_wp2_with fail
  refine HA.out.mono ?_
  rintro e W2 ⟨r, rfl, hr, hb2⟩
  have k2 : K0 (Below w.heap.size w W2) := ⟨hb2⟩
  have HR := Aside0.mk hr
  clear hb2 hr HA
  go_wp2_with fail
  refine (HB.out W2 k2.out).mono ?_
  rintro e W3 ⟨r2, rfl, hr2, hb3⟩
  have k3 : K0 (Below w.heap.size w W3) := ⟨k2.out.trans (hb3.mono k2.out.size)⟩
  obtain ⟨A1, c1, rfl, hl1, hC1⟩ := Kd.R_reads (Kd.R_below HR.out hb3)
  obtain ⟨A2, c2, rfl, hl2, hC2⟩ := Kd.R_reads hr2
  have H1 := Aside0.mk hC1
  have H2 := Aside0.mk hC2
  have L1 := Aside0.mk hl1
  have L2 := Aside0.mk hl2
  clear hb3 hr2 HR hC1 hC2 hl1 hl2 HB
  go_wp2_with fail
  refine (impl_Node_80.calls K A1 c1 (flatT a) A2 c2 (flatT b) (sameN (flatT a) (flatT b)) W3 H1.out L1.out H2.out L2.out HK.out).mono ?_
  rintro e W4 ⟨rfl, hd⟩
  have k4 : K0 (Below w.heap.size w W4) := ⟨k3.out.trans (hd.below.mono k3.out.size)⟩
  clear hd
  go_wp2
  go_ret
  exact ⟨rfl, kk⟩
theorem StkT_below {W W' : World} {B : Nat} {st : List Tr} {v : Value} {vs : List Value} (h : StkT W B st v vs) (hb : Below W.heap.size W W') : StkT W' B st v vs :=
  ⟨own_move h.1 (fun b hk => hb.block b (h.1.lt b hk).2), RepTs_move (fun k hk hl => ⟨hk, hb.block k hl⟩) _ _ h.2⟩
theorem norm_end {W : World} {B : Nat} (n : S63) {ks : List Tr} {sv : Value} {svs : List Value} (hS : StkT W B ks sv svs) (hB : B ≤ W.heap.size) : RepT (W.alloc (.cells (nodeV n sv) 65)) (fun b => B ≤ b) (.node n ks) (.pointer (some ⟨W.heap.size, 0, none⟩)) := by
  unfold RepT
  have hg : ∀ b, sv.ownBlock = some b → B ≤ b ∧ b < W.heap.size := fun b hb => hS.1.lt b hb
  exact ⟨W.heap.size, sv, svs, rfl, hB, heap_alloc_new _ _, own_lower (own_move hS.1 (fun b hb => heap_alloc_old _ _ (hg b hb).2)) (Nat.zero_le _), fun b hb => (hg b hb).1, RepTs_move (fun k hk hl => ⟨hk.1, heap_alloc_old _ _ hl⟩) _ _ hS.2⟩
theorem RepT_top {W : World} {ok : Nat → Prop} {t : Tr} {v : Value} (h : RepT W ok t v) : ∃ p, v = .pointer (some ⟨p, 0, none⟩) ∧ W.cell? ⟨p, 0, none⟩ = some (.int .i64 t.top.f0) := by
  cases t with
  | node n ks =>
    unfold RepT at h
    obtain ⟨p, u, us, rfl, h2, h3, -⟩ := h
    exact ⟨p, rfl, node_c0 h3⟩
theorem info47_is : (Try.prog.info? 47).map (fun i => (i.zero, i.size, i.bytes)) = some (some (.pointer none), 1, 8) := by kernel_rfl
set_option maxHeartbeats 16000000 in
set_option maxRecDepth 100000 in
theorem normal_call : ∀ (N : Nat) (t : Tr) (v : Value) (ok : Nat → Prop) (w : World), (flatT t).length ≤ N → N ≤ 1000 → wfT t → RepT w ok t v →
    Calls Try.prog 22 #[v] w fun e w' => ∃ v', e = .returned v' ∧ RepT w' (fun b => w.heap.size ≤ b) (normT t) v' ∧ Below w.heap.size w w' := by
  intro N
  induction N with
  | zero =>
    intro t v ok w hl
    exact absurd (List.eq_nil_of_length_eq_zero (by omega)) (flatT_ne t)
  | succ N IH =>
    intro t v ok w hl hN hw hr
    have HIH := Aside0.mk IH
    cases t with
    | node n ks =>
      unfold RepT at hr
      obtain ⟨a0, u, vs, rfl, h2, h3, h4, h5, h6⟩ := hr
      obtain ⟨A, m, c, rfl⟩ : ∃ A m c, u = .slice A m c := own_sl h4
      have hvl := RepTs_len ks vs h6
      have hml : m = ks.length := by
        rcases h4.2 with ⟨e, h0⟩ | ⟨g, cap, cur, e, _⟩
        · cases e; omega
        · cases e; exact hvl
      subst hml
      have kr : K0 (Below w.heap.size w w) := ⟨Below.refl _ _⟩
      have c0 := clk (node_c0 h3)
      have c7 := clk (node_c7 h3)
      obtain ⟨c1, c2, c3, c4, c5, c6⟩ := node_c1 h3
      have C1 := Aside0.mk c1
      have C2 := Aside0.mk c2
      have C3 := Aside0.mk c3
      have C4 := Aside0.mk c4
      have C5 := Aside0.mk c5
      have C6 := Aside0.mk c6
      have hk3 : ks.length ≤ 3 := by have := hw.1; have := arB_le n.f0; omega
      simp only [flatT, List.length_append, List.length_cons, List.length_nil] at hl
      have HW := Aside0.mk hw
      have H4 := Aside0.mk h4
      have H6 := Aside0.mk h6
      obtain ⟨i0, hi, hz0, hz1, hz2⟩ := info_parts info47_is
      have HI := Aside0.mk hi
      have HZ := Aside0.mk (And.intro hz0 (And.intro hz1 hz2))
      have HS := Aside0.mk (show StkT w w.heap.size (normTs (ks.take 0)) (.slice none 0 0) [] from ⟨World.ownsRow_nil _ _ _ _, by unfold normTs; simp [RepTs]⟩)
      obtain ⟨R, hR⟩ : ∃ R, normT (.node n ks) = R := ⟨_, rfl⟩
      rw [hR]
      simp only [normT] at hR
      clear IH h2 h3 h4 h5 h6 c1 c2 c3 c4 c5 c6 hi hz0 hz1 hz2 hw
      go_enter Try.func22, Try.ntmps22
      go_wp2_with fail
      go_loopw [3, 15] (fun v3 v15 W => ∃ (i : Nat) (svs : List Value), i ≤ ks.length ∧ v15 = .int .i64 i ∧ Aside0 (StkT W w.heap.size (normTs (ks.take i)) v3 svs) ∧ Aside0 (Below w.heap.size w W)) (fun _ v15 _ => ks.length - (intOf v15).toNat)
      case atStart => exact ⟨0, [], by omega, rfl, HS, ⟨kk⟩⟩
      case round =>
        clear HS kr
        obtain ⟨i, svs, hi, rfl, HS, HB⟩ := hrel
        have kW : K0 (Below w.heap.size w wr) := ⟨HB.out⟩
        obtain ⟨A3, m3, c3, rfl⟩ := own_sl HS.out.1
        have hsl := RepTs_len _ _ HS.out.2
        by_cases hlt : i < ks.length
        · obtain ⟨x, hx⟩ : ∃ x, ks[i] = x := ⟨_, rfl⟩
          have hg : ks[i]? = some x := by rw [← hx]; exact List.getElem?_eq_getElem hlt
          obtain ⟨q, hq, hrq⟩ := RepTs_get ks vs i x H6.out hg
          obtain ⟨g, rfl, hc, -⟩ := own_cell H4.out hq
          have hc := clk hc
          have hrx : RepT wr ok x q := RepT_move (fun k hk hl => ⟨hk, HB.out.block k hl⟩) x q hrq
          have hfx := flat_mem ks i x hg
          have hcall := HIH.out x q ok wr (by omega) (by omega) (wf_mem ks i x hg HW.out.2) hrx
          have htk : normTs (ks.take (i + 1)) = normTs (ks.take i) ++ [normT x] := by
            rw [List.take_succ_eq_append_getElem hlt, normTs_app, hx]; rfl
          have hw1 : IntKind.i64.wrap ((i : Int) + 1) = ((i + 1 : Nat) : Int) := by rw [IntKind.wrap_i64]; omega
          rw [normTs_len, List.length_take] at hsl
          clear hrx hrq
          go_wp2_with fail
          refine hcall.mono ?_
          rintro e W2 ⟨r, rfl, hr2, hb2⟩
          obtain ⟨p, rfl, -⟩ := RepT_top hr2
          have HB2 := Aside0.mk (HB.out.trans (hb2.mono HB.out.size))
          have hS2 := StkT_below HS.out hb2
          have hlt2 : ∀ b, (Value.slice A3 m3 c3).ownBlock = some b → b < wr.heap.size := fun b hb => (HS.out.1.lt b hb).2
          have HT := Aside0.mk (RepT_move (ok' := fun b => w.heap.size ≤ b ∧ (Value.slice A3 m3 c3).ownBlock ≠ some b) (fun k hk hl => ⟨⟨by have := HB.out.size; omega, fun e => by have := hlt2 k e; omega⟩, rfl⟩) _ _ hr2)
          have HS2 := Aside0.mk hS2
          have HO := Aside0.mk (hS2.1.alloc (.cells #[.pointer (some ⟨p, 0, none⟩)] 47))
          have hc1 : ∀ i u, ([.pointer (some ⟨p, 0, none⟩)] : List Value)[i]? = some u → (W2.alloc (.cells #[.pointer (some ⟨p, 0, none⟩)] 47)).cell? ((⟨W2.heap.size, 0, none⟩ : Addr).add i) = some u := by
            intro i u hi
            rcases i with _ | i
            · cases hi
              exact cell_of_row _ W2.heap.size 0 _ 47 _ (heap_alloc_new _ _)
            · simp at hi
          have HC1 := Aside0.mk hc1
          have HC2 := Aside0.mk (show ∀ u ∈ ([.pointer (some ⟨p, 0, none⟩)] : List Value), u.oneCell' = true from by simp [Value.oneCell'])
          have HC3 := Aside0.mk (show svs.length + 1 ≤ maxLen from by simp only [maxLen]; omega)
          have HC4 := Aside0.mk (show (svs.length + 1) * 8 ≤ 140737488355328 from by omega)
          have HC5 := Aside0.mk (show w.heap.size ≤ (W2.alloc (.cells #[.pointer (some ⟨p, 0, none⟩)] 47)).heap.size from by rw [sz_al]; have := HB2.out.size; omega)
          have htt : normTs (ks.take i) = (normTs (ks.take i)).take svs.length := (List.take_of_length_le (by rw [normTs_len, List.length_take]; omega)).symm
          clear hb2 hr2 hS2 hcall kW hc1 hlt2 hc
          go_wp2_with (at_builtin; refine wpList_append_at rfl (.tmp 19) (.tmp 22) 57 rfl w.heap.size 47 i0 (.pointer none) 1 8 Try.underlying57 HI.out HZ.out.1 HZ.out.2.1 HZ.out.2.2 rfl (by decide) _ svs.length svs rfl HO.out ⟨W2.heap.size, 0, none⟩ 1 1 [.pointer (some ⟨p, 0, none⟩)] rfl rfl HC1.out HC2.out HC3.out HC4.out HC5.out ?_; intro v5 w5 hown hgr hloc; have HG := Aside0.mk (stk_push (k := svs.length) HS2.out.2 HT.out (fun b hb => hb) (by rw [List.take_length]) (by rw [List.take_length]; exact hown) hgr hloc); have HGR := Aside0.mk (grown_below2 HB2.out hgr (fun b hb => (HS2.out.1.lt b hb).1)); clear hown hgr hloc)
          go_roundw
          case measure => simp only [intOf]; omega
          case rel => exact ⟨i + 1, _, by omega, by rw [Int.natCast_add]; rfl, ⟨by rw [htk]; have := HG.out; rw [← htt] at this; exact this⟩, HGR⟩
        · obtain rfl : i = ks.length := by omega
          rw [List.take_length] at HS hsl
          have HST := HS
          have tr : ∀ W [K0 (Below wr.heap.size wr W)], K0 (Below w.heap.size w W) := fun W k => ⟨HB.out.trans (k.out.mono HB.out.size)⟩
          have kt : K0 (Below wr.heap.size wr wr) := ⟨Below.refl _ _⟩
          have c1 := clk C1.out
          have c2 := clk C2.out
          have c3' := clk C3.out
          have c4 := clk C4.out
          have c5 := clk C5.out
          have c6 := clk C6.out
          obtain ⟨kk2, hks⟩ : ∃ kk2, normTs ks = kk2 := ⟨_, rfl⟩
          have hkl := normTs_len ks
          have hwl := (normTs_wf ks HW.out.2).2
          have ha0 := HW.out.1
          have hm3 : m3 = svs.length := by
            rcases HS.out.1.2 with ⟨e, h0⟩ | ⟨g, cap, cur, e, _⟩
            · cases e; omega
            · cases e; rfl
          subst hm3
          clear HS HI HZ HIH H4 H6 C1 C2 C3 C4 C5 C6
          by_cases h14 : n.f0 = 14
          · have hA : (ks.length : Int) = 2 := by rw [ha0, arB14 (.inl h14)]
            have d14 : (n.f0 == 14) = true := beq_iff_eq.mpr h14
            obtain ⟨a, b, hk0⟩ : ∃ a b, kk2 = [a, b] := by
              have h2 : kk2.length = 2 := by rw [← hks]; omega
              rcases kk2 with _ | ⟨a, _ | ⟨b, _ | ⟨c, l⟩⟩⟩
              · simp at h2
              · simp at h2
              · exact ⟨a, b, rfl⟩
              · simp at h2
            subst hk0
            have hrs := HST.out.2
            rw [hks] at hrs
            unfold RepTs at hrs
            obtain ⟨va, us0, hsv, hra, hrs⟩ := hrs
            unfold RepTs at hrs
            obtain ⟨vb, us1, rfl, hrb, hrs⟩ := hrs
            unfold RepTs at hrs
            subst hrs
            subst hsv
            obtain ⟨pa, rfl, ta⟩ := RepT_top hra
            have ta := clk ta
            have Ha := Aside0.mk hra
            have HIa := Aside0.mk (show ∀ (k : Int) (W : World), Below wr.heap.size wr W → Calls Try.prog 54 #[.pointer (some ⟨pa, 0, none⟩), .int .i64 k] W fun e w' => e = .returned (.bool (isK a k)) ∧ Below W.heap.size W w' from fun k W hk => is_call pa a.top.f0 k W (@ta W ⟨hk⟩))
            obtain ⟨pb, rfl, tb⟩ := RepT_top hrb
            have tb := clk tb
            have Hb := Aside0.mk hrb
            have HIb := Aside0.mk (show ∀ (k : Int) (W : World), Below wr.heap.size wr W → Calls Try.prog 54 #[.pointer (some ⟨pb, 0, none⟩), .int .i64 k] W fun e w' => e = .returned (.bool (isK b k)) ∧ Below W.heap.size W w' from fun k W hk => is_call pb b.top.f0 k W (@tb W ⟨hk⟩))
            have hfl : (flatTs [a, b]).length ≤ 1000 := by rw [← hks]; omega
            simp only [flatTs, List.length_append, List.length_nil] at hfl
            have HSab := Aside0.mk (fun (W : World) (hk : Below wr.heap.size wr W) => same_call a b _ _ _ _ W (RepT_move (fun k h hl => ⟨h, hk.block k hl⟩) _ _ hra) (RepT_move (fun k h hl => ⟨h, hk.block k hl⟩) _ _ hrb) (by omega) (by omega))
            obtain ⟨ga, rfl, ya, -⟩ := own_cell HST.out.1 (i := 0) (u := .pointer (some ⟨pa, 0, none⟩)) rfl
            have ya := clk ya
            obtain ⟨gb, eb, yb, -⟩ := own_cell HST.out.1 (i := 1) (u := .pointer (some ⟨pb, 0, none⟩)) rfl
            cases eb
            have yb := clk yb
            simp only [List.length_cons, List.length_nil, Nat.zero_add, Nat.reduceAdd] at *
            clear hra hrb
            clear ha0 hA
            go_upto_region 9 with (fail)
            refine sq_region (S := fun W' => K0 (Below wr.heap.size wr W')) [(0, false), (1, false), (2, false), (3, false), (4, false), (5, false), (6, false), (7, false)] (by kernel_rfl) (by kernel_rfl) (by exact inferInstance) (fun hS => ?_)
            repeat (first | (refine sq_n ?_ ?_ rfl ?_ ?_ ?_; rotate_left 2; (intro W hW; go_simp; first | done | with_reducible rfl); (simp only [List.setIfInBounds_toArray, List.set_cons_zero, List.set_cons_succ]; try rfl)) | (refine sq_g ?_ ?_ rfl rfl rfl ?_ ?_ ?_; rotate_left 2; (intro W hW; go_simp; first | done | with_reducible rfl); (simp only [List.setIfInBounds_toArray, List.set_cons_zero, List.set_cons_succ]; try rfl)) | (refine sq_f ?_ rfl rfl rfl ?_ ?_; rotate_left; (simp only [List.setIfInBounds_toArray, List.set_cons_zero, List.set_cons_succ]; try rfl)) | (refine sq_u ?_ rfl rfl rfl ?_ ?_; rotate_left; (simp only [List.setIfInBounds_toArray, List.set_cons_zero, List.set_cons_succ]; try rfl)))
            refine sq_done (fun hS => ?_)
            go_wp2_with fail
            refine (HIa.out 1 _ kk).mono ?_
            rintro e U1 ⟨rfl, hb1⟩
            have k1 : K0 (Below wr.heap.size wr U1) := ⟨Below.trans (kk : Below wr.heap.size wr _) (hb1.mono (kk : Below wr.heap.size wr _).size)⟩
            clear hb1
            cases p1 : isK a 1
            case' true =>
              obtain rfl : R = b := by rw [← hR, hks]; simp [normN, h14, p1]
              go_wp2
              go_ret
              exact ⟨_, rfl, RepT_move (fun k hk hl => ⟨hk.1, (kk : Below wr.heap.size wr _).block k hl⟩) _ _ Hb.out, kk⟩
            go_wp2_with fail
            refine (HIb.out 1 _ kk).mono ?_
            rintro e U2 ⟨rfl, hb2⟩
            have k2 : K0 (Below wr.heap.size wr U2) := ⟨Below.trans (kk : Below wr.heap.size wr _) (hb2.mono (kk : Below wr.heap.size wr _).size)⟩
            clear hb2
            cases q1 : isK b 1
            case' true =>
              obtain rfl : R = a := by rw [← hR, hks]; simp [normN, h14, p1, q1]
              go_wp2
              go_ret
              exact ⟨_, rfl, RepT_move (fun k hk hl => ⟨hk.1, (kk : Below wr.heap.size wr _).block k hl⟩) _ _ Ha.out, kk⟩
            go_wp2_with fail
            refine (HIa.out 2 _ kk).mono ?_
            rintro e U3 ⟨rfl, hb3⟩
            have k3 : K0 (Below wr.heap.size wr U3) := ⟨Below.trans (kk : Below wr.heap.size wr _) (hb3.mono (kk : Below wr.heap.size wr _).size)⟩
            clear hb3
            cases p2 : isK a 2
            case' true =>
              obtain rfl : R = a := by rw [← hR, hks]; simp [normN, h14, p1, q1, p2]
              go_wp2
              go_ret
              exact ⟨_, rfl, RepT_move (fun k hk hl => ⟨hk.1, (kk : Below wr.heap.size wr _).block k hl⟩) _ _ Ha.out, kk⟩
            go_wp2_with fail
            refine (HIa.out 3 _ kk).mono ?_
            rintro e U4 ⟨rfl, hb4⟩
            have k4 : K0 (Below wr.heap.size wr U4) := ⟨Below.trans (kk : Below wr.heap.size wr _) (hb4.mono (kk : Below wr.heap.size wr _).size)⟩
            clear hb4
            cases p3 : isK a 3
            case' true =>
              go_wp2_with fail
              refine (HIb.out 3 _ kk).mono ?_
              rintro e U5 ⟨rfl, hb5⟩
              have k5 : K0 (Below wr.heap.size wr U5) := ⟨Below.trans (kk : Below wr.heap.size wr _) (hb5.mono (kk : Below wr.heap.size wr _).size)⟩
              clear hb5
              cases q3 : isK b 3
              case' true =>
                obtain rfl : R = a := by rw [← hR, hks]; simp [normN, h14, p1, q1, p2, p3, q3]
                go_wp2
                go_ret
                exact ⟨_, rfl, RepT_move (fun k hk hl => ⟨hk.1, (kk : Below wr.heap.size wr _).block k hl⟩) _ _ Ha.out, kk⟩
              have hn3 : (isK a 3 && isK b 3) = false := by rw [q3, Bool.and_false]
            case' false =>
              have hn3 : (isK a 3 && isK b 3) = false := by rw [p3, Bool.false_and]
            all_goals (
              go_wp2_with fail
              refine (HIb.out 2 _ kk).mono ?_
              rintro e U6 ⟨rfl, hb6⟩
              have k6 : K0 (Below wr.heap.size wr U6) := ⟨Below.trans (kk : Below wr.heap.size wr _) (hb6.mono (kk : Below wr.heap.size wr _).size)⟩
              clear hb6
              cases q2 : isK b 2
              case' true =>
                obtain rfl : R = b := by rw [← hR, hks]; simp [normN, h14, p1, q1, p2, hn3, q2]
                go_wp2
                go_ret
                exact ⟨_, rfl, RepT_move (fun k hk hl => ⟨hk.1, (kk : Below wr.heap.size wr _).block k hl⟩) _ _ Hb.out, kk⟩
              case' false =>
                obtain rfl : R = .node n (normTs ks) := by rw [← hR, hks]; simp [normN, h14, p1, q1, p2, hn3, q2]
                go_wp2
                go_ret
                rw [← h14]
                exact ⟨_, rfl, norm_end n (StkT_below HST.out kk) (kk : Below w.heap.size w _).size, kk⟩)
          by_cases h15 : n.f0 = 15
          · have hA : (ks.length : Int) = 2 := by rw [ha0, arB14 (.inr h15)]
            have d14 : (n.f0 == 14) = false := beq_eq_false_iff_ne.mpr h14
            have d15 : (n.f0 == 15) = true := beq_iff_eq.mpr h15
            obtain ⟨a, b, hk0⟩ : ∃ a b, kk2 = [a, b] := by
              have h2 : kk2.length = 2 := by rw [← hks]; omega
              rcases kk2 with _ | ⟨a, _ | ⟨b, _ | ⟨c, l⟩⟩⟩
              · simp at h2
              · simp at h2
              · exact ⟨a, b, rfl⟩
              · simp at h2
            subst hk0
            have hrs := HST.out.2
            rw [hks] at hrs
            unfold RepTs at hrs
            obtain ⟨va, us0, hsv, hra, hrs⟩ := hrs
            unfold RepTs at hrs
            obtain ⟨vb, us1, rfl, hrb, hrs⟩ := hrs
            unfold RepTs at hrs
            subst hrs
            subst hsv
            obtain ⟨pa, rfl, ta⟩ := RepT_top hra
            have ta := clk ta
            have Ha := Aside0.mk hra
            have HIa := Aside0.mk (show ∀ (k : Int) (W : World), Below wr.heap.size wr W → Calls Try.prog 54 #[.pointer (some ⟨pa, 0, none⟩), .int .i64 k] W fun e w' => e = .returned (.bool (isK a k)) ∧ Below W.heap.size W w' from fun k W hk => is_call pa a.top.f0 k W (@ta W ⟨hk⟩))
            obtain ⟨pb, rfl, tb⟩ := RepT_top hrb
            have tb := clk tb
            have Hb := Aside0.mk hrb
            have HIb := Aside0.mk (show ∀ (k : Int) (W : World), Below wr.heap.size wr W → Calls Try.prog 54 #[.pointer (some ⟨pb, 0, none⟩), .int .i64 k] W fun e w' => e = .returned (.bool (isK b k)) ∧ Below W.heap.size W w' from fun k W hk => is_call pb b.top.f0 k W (@tb W ⟨hk⟩))
            have hfl : (flatTs [a, b]).length ≤ 1000 := by rw [← hks]; omega
            simp only [flatTs, List.length_append, List.length_nil] at hfl
            have HSab := Aside0.mk (fun (W : World) (hk : Below wr.heap.size wr W) => same_call a b _ _ _ _ W (RepT_move (fun k h hl => ⟨h, hk.block k hl⟩) _ _ hra) (RepT_move (fun k h hl => ⟨h, hk.block k hl⟩) _ _ hrb) (by omega) (by omega))
            obtain ⟨ga, rfl, ya, -⟩ := own_cell HST.out.1 (i := 0) (u := .pointer (some ⟨pa, 0, none⟩)) rfl
            have ya := clk ya
            obtain ⟨gb, eb, yb, -⟩ := own_cell HST.out.1 (i := 1) (u := .pointer (some ⟨pb, 0, none⟩)) rfl
            cases eb
            have yb := clk yb
            simp only [List.length_cons, List.length_nil, Nat.zero_add, Nat.reduceAdd] at *
            clear hra hrb
            clear ha0 hA
            go_upto_region 19 with (fail)
            refine sq_region (S := fun W' => K0 (Below wr.heap.size wr W')) [(0, false), (1, false), (2, false), (3, false), (4, false), (5, false), (6, false), (7, false)] (by kernel_rfl) (by kernel_rfl) (by exact inferInstance) (fun hS => ?_)
            repeat (first | (refine sq_n ?_ ?_ rfl ?_ ?_ ?_; rotate_left 2; (intro W hW; go_simp; first | done | with_reducible rfl); (simp only [List.setIfInBounds_toArray, List.set_cons_zero, List.set_cons_succ]; try rfl)) | (refine sq_g ?_ ?_ rfl rfl rfl ?_ ?_ ?_; rotate_left 2; (intro W hW; go_simp; first | done | with_reducible rfl); (simp only [List.setIfInBounds_toArray, List.set_cons_zero, List.set_cons_succ]; try rfl)) | (refine sq_f ?_ rfl rfl rfl ?_ ?_; rotate_left; (simp only [List.setIfInBounds_toArray, List.set_cons_zero, List.set_cons_succ]; try rfl)) | (refine sq_u ?_ rfl rfl rfl ?_ ?_; rotate_left; (simp only [List.setIfInBounds_toArray, List.set_cons_zero, List.set_cons_succ]; try rfl)))
            refine sq_done (fun hS => ?_)
            go_wp2_with fail
            refine (HIa.out 2 _ kk).mono ?_
            rintro e U7 ⟨rfl, hb7⟩
            have k7 : K0 (Below wr.heap.size wr U7) := ⟨Below.trans (kk : Below wr.heap.size wr _) (hb7.mono (kk : Below wr.heap.size wr _).size)⟩
            clear hb7
            cases p2 : isK a 2
            case' true =>
              obtain rfl : R = b := by rw [← hR, hks]; simp [normN, h15, p2]
              go_wp2
              go_ret
              exact ⟨_, rfl, RepT_move (fun k hk hl => ⟨hk.1, (kk : Below wr.heap.size wr _).block k hl⟩) _ _ Hb.out, kk⟩
            go_wp2_with fail
            refine (HIb.out 2 _ kk).mono ?_
            rintro e U8 ⟨rfl, hb8⟩
            have k8 : K0 (Below wr.heap.size wr U8) := ⟨Below.trans (kk : Below wr.heap.size wr _) (hb8.mono (kk : Below wr.heap.size wr _).size)⟩
            clear hb8
            cases q2 : isK b 2
            case' true =>
              obtain rfl : R = a := by rw [← hR, hks]; simp [normN, h15, p2, q2]
              go_wp2
              go_ret
              exact ⟨_, rfl, RepT_move (fun k hk hl => ⟨hk.1, (kk : Below wr.heap.size wr _).block k hl⟩) _ _ Ha.out, kk⟩
            go_wp2_with fail
            refine (HIa.out 1 _ kk).mono ?_
            rintro e U9 ⟨rfl, hb9⟩
            have k9 : K0 (Below wr.heap.size wr U9) := ⟨Below.trans (kk : Below wr.heap.size wr _) (hb9.mono (kk : Below wr.heap.size wr _).size)⟩
            clear hb9
            cases p1 : isK a 1
            case' true =>
              obtain rfl : R = a := by rw [← hR, hks]; simp [normN, h15, p2, q2, p1]
              go_wp2
              go_ret
              exact ⟨_, rfl, RepT_move (fun k hk hl => ⟨hk.1, (kk : Below wr.heap.size wr _).block k hl⟩) _ _ Ha.out, kk⟩
            go_wp2_with fail
            refine (HSab.out _ kk).mono ?_
            rintro e U10 ⟨rfl, hb10⟩
            have k10 : K0 (Below wr.heap.size wr U10) := ⟨Below.trans (kk : Below wr.heap.size wr _) (hb10.mono (kk : Below wr.heap.size wr _).size)⟩
            clear hb10
            cases z : sameN (flatT a) (flatT b)
            case' true =>
              obtain rfl : R = a := by rw [← hR, hks]; simp [normN, h15, p2, q2, p1, z]
              go_wp2
              go_ret
              exact ⟨_, rfl, RepT_move (fun k hk hl => ⟨hk.1, (kk : Below wr.heap.size wr _).block k hl⟩) _ _ Ha.out, kk⟩
            case' false =>
              obtain rfl : R = .node n (normTs ks) := by rw [← hR, hks]; simp [normN, h15, p2, q2, p1, z]
              go_wp2
              go_ret
              rw [← h15]
              exact ⟨_, rfl, norm_end n (StkT_below HST.out kk) (kk : Below w.heap.size w _).size, kk⟩
          by_cases h16 : n.f0 = 16
          · have hA : (ks.length : Int) = 3 := by rw [ha0, h16]; decide
            have d14 : (n.f0 == 14) = false := beq_eq_false_iff_ne.mpr h14
            have d15 : (n.f0 == 15) = false := beq_eq_false_iff_ne.mpr h15
            have d16 : (n.f0 == 16) = true := beq_iff_eq.mpr h16
            obtain ⟨a, b, c, hk0⟩ : ∃ a b c, kk2 = [a, b, c] := by
              have h2 : kk2.length = 3 := by rw [← hks]; omega
              rcases kk2 with _ | ⟨a, _ | ⟨b, _ | ⟨c, _ | ⟨d, l⟩⟩⟩⟩
              · simp at h2
              · simp at h2
              · simp at h2
              · exact ⟨a, b, c, rfl⟩
              · simp at h2
            subst hk0
            have hrs := HST.out.2
            rw [hks] at hrs
            unfold RepTs at hrs
            obtain ⟨va, us0, hsv, hra, hrs⟩ := hrs
            unfold RepTs at hrs
            obtain ⟨vb, us1, rfl, hrb, hrs⟩ := hrs
            unfold RepTs at hrs
            obtain ⟨vc, us2, rfl, hrc, hrs⟩ := hrs
            unfold RepTs at hrs
            subst hrs
            subst hsv
            obtain ⟨pa, rfl, ta⟩ := RepT_top hra
            have ta := clk ta
            have Ha := Aside0.mk hra
            have HIa := Aside0.mk (show ∀ (k : Int) (W : World), Below wr.heap.size wr W → Calls Try.prog 54 #[.pointer (some ⟨pa, 0, none⟩), .int .i64 k] W fun e w' => e = .returned (.bool (isK a k)) ∧ Below W.heap.size W w' from fun k W hk => is_call pa a.top.f0 k W (@ta W ⟨hk⟩))
            obtain ⟨pb, rfl, tb⟩ := RepT_top hrb
            have tb := clk tb
            have Hb := Aside0.mk hrb
            have HIb := Aside0.mk (show ∀ (k : Int) (W : World), Below wr.heap.size wr W → Calls Try.prog 54 #[.pointer (some ⟨pb, 0, none⟩), .int .i64 k] W fun e w' => e = .returned (.bool (isK b k)) ∧ Below W.heap.size W w' from fun k W hk => is_call pb b.top.f0 k W (@tb W ⟨hk⟩))
            obtain ⟨pc, rfl, tc⟩ := RepT_top hrc
            have tc := clk tc
            have Hc := Aside0.mk hrc
            have HIc := Aside0.mk (show ∀ (k : Int) (W : World), Below wr.heap.size wr W → Calls Try.prog 54 #[.pointer (some ⟨pc, 0, none⟩), .int .i64 k] W fun e w' => e = .returned (.bool (isK c k)) ∧ Below W.heap.size W w' from fun k W hk => is_call pc c.top.f0 k W (@tc W ⟨hk⟩))
            have hfl : (flatTs [a, b, c]).length ≤ 1000 := by rw [← hks]; omega
            simp only [flatTs, List.length_append, List.length_nil] at hfl
            have HSbc := Aside0.mk (fun (W : World) (hk : Below wr.heap.size wr W) => same_call b c _ _ _ _ W (RepT_move (fun k h hl => ⟨h, hk.block k hl⟩) _ _ hrb) (RepT_move (fun k h hl => ⟨h, hk.block k hl⟩) _ _ hrc) (by omega) (by omega))
            obtain ⟨ga, rfl, ya, -⟩ := own_cell HST.out.1 (i := 0) (u := .pointer (some ⟨pa, 0, none⟩)) rfl
            have ya := clk ya
            obtain ⟨gb, eb, yb, -⟩ := own_cell HST.out.1 (i := 1) (u := .pointer (some ⟨pb, 0, none⟩)) rfl
            cases eb
            have yb := clk yb
            obtain ⟨gc, ec, yc, -⟩ := own_cell HST.out.1 (i := 2) (u := .pointer (some ⟨pc, 0, none⟩)) rfl
            cases ec
            have yc := clk yc
            simp only [List.length_cons, List.length_nil, Nat.zero_add, Nat.reduceAdd] at *
            clear hra hrb hrc
            clear ha0 hA
            go_wp2_with fail
            refine (HIa.out 1 _ kk).mono ?_
            rintro e U11 ⟨rfl, hb11⟩
            have k11 : K0 (Below wr.heap.size wr U11) := ⟨Below.trans (kk : Below wr.heap.size wr _) (hb11.mono (kk : Below wr.heap.size wr _).size)⟩
            clear hb11
            cases p1 : isK a 1
            case' true =>
              obtain rfl : R = b := by rw [← hR, hks]; simp [normN, h16, p1]
              go_wp2
              go_ret
              exact ⟨_, rfl, RepT_move (fun k hk hl => ⟨hk.1, (kk : Below wr.heap.size wr _).block k hl⟩) _ _ Hb.out, kk⟩
            go_upto_region 28 with (fail)
            refine sq_region (S := fun W' => K0 (Below wr.heap.size wr W')) [(0, false), (1, false), (2, false), (3, true), (4, false), (5, false), (6, false), (7, false), (8, false), (9, false), (10, false), (11, false), (12, true), (13, false), (14, false)] (by kernel_rfl) (by kernel_rfl) (by exact inferInstance) (fun hS => ?_)
            repeat (first | (refine sq_n ?_ ?_ rfl ?_ ?_ ?_; rotate_left 2; (intro W hW; go_simp; first | done | with_reducible rfl); (simp only [List.setIfInBounds_toArray, List.set_cons_zero, List.set_cons_succ]; try rfl)) | (refine sq_g ?_ ?_ rfl rfl rfl ?_ ?_ ?_; rotate_left 2; (intro W hW; go_simp; first | done | with_reducible rfl); (simp only [List.setIfInBounds_toArray, List.set_cons_zero, List.set_cons_succ]; try rfl)) | (refine sq_f ?_ rfl rfl rfl ?_ ?_; rotate_left; (simp only [List.setIfInBounds_toArray, List.set_cons_zero, List.set_cons_succ]; try rfl)) | (refine sq_u ?_ rfl rfl rfl ?_ ?_; rotate_left; (simp only [List.setIfInBounds_toArray, List.set_cons_zero, List.set_cons_succ]; try rfl)))
            refine sq_1n rfl (fun hS K hK => ?_)
            go_simp
            go_at_call 54
            refine (HIa.out 2 _ kk).mono ?_
            rintro e U12 ⟨rfl, hb12⟩
            have k12 : K0 (Below wr.heap.size wr U12) := ⟨Below.trans (kk : Below wr.heap.size wr _) (hb12.mono (kk : Below wr.heap.size wr _).size)⟩
            clear hb12
            cases p2 : isK a 2
            case' true =>
              refine hK.out _ _ k12 (fun hS => ?_)
              repeat (first | (refine sq_n ?_ ?_ rfl ?_ ?_ ?_; rotate_left 2; (intro W hW; go_simp; first | done | with_reducible rfl); (simp only [List.setIfInBounds_toArray, List.set_cons_zero, List.set_cons_succ]; try rfl)) | (refine sq_g ?_ ?_ rfl rfl rfl ?_ ?_ ?_; rotate_left 2; (intro W hW; go_simp; first | done | with_reducible rfl); (simp only [List.setIfInBounds_toArray, List.set_cons_zero, List.set_cons_succ]; try rfl)) | (refine sq_f ?_ rfl rfl rfl ?_ ?_; rotate_left; (simp only [List.setIfInBounds_toArray, List.set_cons_zero, List.set_cons_succ]; try rfl)) | (refine sq_u ?_ rfl rfl rfl ?_ ?_; rotate_left; (simp only [List.setIfInBounds_toArray, List.set_cons_zero, List.set_cons_succ]; try rfl)))
              refine sq_done (fun hS => ?_)
              go_wp2_with fail
              refine (HIa.out 2 _ kk).mono ?_
              rintro e U13 ⟨rfl, hb13⟩
              have k13 : K0 (Below wr.heap.size wr U13) := ⟨Below.trans (kk : Below wr.heap.size wr _) (hb13.mono (kk : Below wr.heap.size wr _).size)⟩
              clear hb13
              rw [p2]
              obtain rfl : R = c := by rw [← hR, hks]; simp [normN, h16, p1, p2]
              go_wp2
              go_ret
              exact ⟨_, rfl, RepT_move (fun k hk hl => ⟨hk.1, (kk : Below wr.heap.size wr _).block k hl⟩) _ _ Hc.out, kk⟩
            refine hK.out _ _ k12 (fun hS => ?_)
            repeat (first | (refine sq_n ?_ ?_ rfl ?_ ?_ ?_; rotate_left 2; (intro W hW; go_simp; first | done | with_reducible rfl); (simp only [List.setIfInBounds_toArray, List.set_cons_zero, List.set_cons_succ]; try rfl)) | (refine sq_g ?_ ?_ rfl rfl rfl ?_ ?_ ?_; rotate_left 2; (intro W hW; go_simp; first | done | with_reducible rfl); (simp only [List.setIfInBounds_toArray, List.set_cons_zero, List.set_cons_succ]; try rfl)) | (refine sq_f ?_ rfl rfl rfl ?_ ?_; rotate_left; (simp only [List.setIfInBounds_toArray, List.set_cons_zero, List.set_cons_succ]; try rfl)) | (refine sq_u ?_ rfl rfl rfl ?_ ?_; rotate_left; (simp only [List.setIfInBounds_toArray, List.set_cons_zero, List.set_cons_succ]; try rfl)))
            refine sq_1g rfl rfl rfl (fun hS K2 hK2 => ?_)
            go_simp
            go_at_call 55
            refine (HSbc.out _ kk).mono ?_
            rintro e U14 ⟨rfl, hb14⟩
            have k14 : K0 (Below wr.heap.size wr U14) := ⟨Below.trans (kk : Below wr.heap.size wr _) (hb14.mono (kk : Below wr.heap.size wr _).size)⟩
            clear hb14
            refine hK2.out _ _ k14 (fun hS => ?_)
            repeat (first | (refine sq_n ?_ ?_ rfl ?_ ?_ ?_; rotate_left 2; (intro W hW; go_simp; first | done | with_reducible rfl); (simp only [List.setIfInBounds_toArray, List.set_cons_zero, List.set_cons_succ]; try rfl)) | (refine sq_g ?_ ?_ rfl rfl rfl ?_ ?_ ?_; rotate_left 2; (intro W hW; go_simp; first | done | with_reducible rfl); (simp only [List.setIfInBounds_toArray, List.set_cons_zero, List.set_cons_succ]; try rfl)) | (refine sq_f ?_ rfl rfl rfl ?_ ?_; rotate_left; (simp only [List.setIfInBounds_toArray, List.set_cons_zero, List.set_cons_succ]; try rfl)) | (refine sq_u ?_ rfl rfl rfl ?_ ?_; rotate_left; (simp only [List.setIfInBounds_toArray, List.set_cons_zero, List.set_cons_succ]; try rfl)))
            refine sq_done (fun hS => ?_)
            cases z : sameN (flatT b) (flatT c)
            case' true =>
              obtain rfl : R = b := by rw [← hR, hks]; simp [normN, h16, p1, p2, z]
              go_wp2
              go_ret
              exact ⟨_, rfl, RepT_move (fun k hk hl => ⟨hk.1, (kk : Below wr.heap.size wr _).block k hl⟩) _ _ Hb.out, kk⟩
            case' false =>
              go_wp2_with fail
              refine (HIa.out 2 _ kk).mono ?_
              rintro e U15 ⟨rfl, hb15⟩
              have k15 : K0 (Below wr.heap.size wr U15) := ⟨Below.trans (kk : Below wr.heap.size wr _) (hb15.mono (kk : Below wr.heap.size wr _).size)⟩
              clear hb15
              rw [p2]
              obtain rfl : R = .node n (normTs ks) := by rw [← hR, hks]; simp [normN, h16, p1, p2, z]
              go_wp2
              go_ret
              rw [← h16]
              exact ⟨_, rfl, norm_end n (StkT_below HST.out kk) (kk : Below w.heap.size w _).size, kk⟩
          · have d14 : (n.f0 == 14) = false := beq_eq_false_iff_ne.mpr h14
            have d15 : (n.f0 == 15) = false := beq_eq_false_iff_ne.mpr h15
            have d16 : (n.f0 == 16) = false := beq_eq_false_iff_ne.mpr h16
            subst hks
            obtain rfl : R = .node n (normTs ks) := by rw [← hR]; simp [normN, h14, h15, h16]
            have hsvl : svs.length = ks.length := by omega
            have HST2 := Aside0.mk (show StkT wr w.heap.size (normTs ks) (.slice A3 ks.length c3) svs from by have h := HST.out; rw [hsvl] at h; exact h)
            go_wp2
            go_ret
            exact ⟨_, rfl, norm_end n (StkT_below HST2.out kk) (kk : Below w.heap.size w _).size, kk⟩
end Go.Proofs.Ytpfehkkfakofaaa.Q

namespace Go.Proofs.Ytpfehkkfakofaaa.Q
open Go.RowKit Go.Proofs.YtpfehkkfakofaaaW.PrintWords Go.Proofs.YtpfehkkfakofaaaW.PrintLast Go.Proofs.YtpfehkkfakofaaaW.PrintMore
set_option linter.unusedVariables false
set_option linter.unusedSimpArgs false
set_option maxHeartbeats 8000000 in
set_option maxRecDepth 100000 in
theorem normal_impl (A : Option Addr) (c : Nat) (ns : List S63) (w : World) (hr : Kd.C k63 w A ns.length ns) (hc : ns.length ≤ c) :
    Calls Try.prog 8 #[.agg #[.slice A ns.length c]] w fun e w' => ∃ v0_ : Value, e = .returned (.agg #[v0_]) ∧ Kd.R k63 63 w' w.heap.size (fun _ => True) v0_ (normOf ns) ∧ Below w.heap.size w w' := by
  have kx : K0 (w.heap.size ≤ w.heap.size) := ⟨Nat.le_refl _⟩
  have kr : K0 (Below w.heap.size w w) := ⟨Below.refl _ _⟩
  have hB : Below w.heap.size w ((w.alloc (.cells #[.slice A ns.length c] 28)).alloc (.cells #[.slice none 0 0] 28)) := kk
  have hr2 := Kd.C_below hr hB
  have hn := new1 w (.cells #[.slice A ns.length c] 28) (.cells #[.slice none 0 0] 28)
  have HV := Aside0.mk (valid_call A c ns _ hr2 hc)
  have HVT := Aside0.mk (fun t => validT_some (ns := ns) (t := t))
  have hu28 := Try.underlying28
  obtain ⟨R, hR⟩ : ∃ R, normOf ns = R := ⟨_, rfl⟩
  rw [hR]
  clear hr hr2 hc
  go_enter Try.func8, Try.ntmps8
  go_wp2_with fail
  refine HV.out.mono ?_
  generalize (w.alloc (.cells #[.slice A ns.length c] 28)).alloc (.cells #[.slice none 0 0] 28) = wb at *
  rintro e W2 ⟨v, rfl, ht, hb⟩
  have hl : w.heap.size + 1 < wb.heap.size := (Array.getElem?_eq_some_iff.mp hn).1
  have k2 : K0 (Below w.heap.size w W2) := ⟨hB.trans (hb.mono hB.size)⟩
  have h2 : W2.heap[w.heap.size + 1]? = some (.cells #[.slice none 0 0] 28 (0, 0)) := (hb.block _ hl).trans hn
  clear HV kr
  cases hv : validT ns with
  | none =>
    rw [hv] at ht
    obtain rfl : v = .pointer none := ht
    have c2 := bk_cell h2
    have f2 := bk_fr h2 0
    obtain rfl : R = [] := by rw [← hR]; unfold normOf; rw [hv]
    have kg : K0 (w.heap.size ≤ w.heap.size + 1) := ⟨by omega⟩
    clear hb hn
    go_wp2_with fail
    refine bodyPost_ret (results_cell_row rfl _ _ (w.heap.size + 1) 28 _ (0, 0) _ rfl (bk_put h2 _) hu28 rfl (by kernel_rfl)) rfl ⟨_, rfl, ?_, kk⟩
    exact Kd.R_nil _ _ _ _ _
  | some t =>
    rw [hv] at ht
    obtain ⟨hw, hf, hl2, hok⟩ := HVT.out t hv
    obtain rfl : R = flatT (normT t) := by rw [← hR]; unfold normOf; rw [hv]
    clear hR
    have hnw := normT_wf t hw
    have ht : RepT W2 (fun k => wb.heap.size ≤ k) t v := ht
    obtain ⟨a, rfl, -⟩ := RepT_top ht
    have HN := Aside0.mk (normal_call 1000 t _ _ W2 (by rw [hf]; omega) (Nat.le_refl _) hw ht)
    have HLE := Aside0.mk (show (flatT (normT t)).length ≤ 1000 from by have := hnw.2; rw [hf] at this; omega)
    have H2 := Aside0.mk h2
    have HB2 := Aside0.mk k2.out
    have HL := Aside0.mk (show w.heap.size + 1 < W2.heap.size from by have := hb.size; omega)
    clear ht hb hn hnw hok hw hf h2 HVT
    go_wp2_with fail
    refine HN.out.mono ?_
    rintro e W3 ⟨v3, rfl, hr3, hb3⟩
    have k3 : K0 (Below w.heap.size w W3) := ⟨HB2.out.trans (hb3.mono HB2.out.size)⟩
    have HNN := Aside0.mk (nodes_call 1000 (normT t) v3 _ W3 HLE.out (Nat.le_refl _) hr3)
    have h3 : W3.heap[w.heap.size + 1]? = some (.cells #[.slice none 0 0] 28 (0, 0)) := (hb3.block _ HL.out).trans H2.out
    have hl3 : w.heap.size + 1 < W3.heap.size := by have := hb3.size; have := HL.out; omega
    have H3 := Aside0.mk h3
    have HL3 := Aside0.mk hl3
    have HB3 := Aside0.mk k3.out
    clear hr3 hb3 h3 hl3 HN H2 HL k2
    go_wp2_with fail
    refine HNN.out.mono ?_
    rintro e W4 ⟨r4, rfl, hr4, hb4⟩
    have k4 : K0 (Below w.heap.size w W4) := ⟨HB3.out.trans (hb4.mono HB3.out.size)⟩
    have h4 : W4.heap[w.heap.size + 1]? = some (.cells #[.slice none 0 0] 28 (0, 0)) := (hb4.block _ HL3.out).trans H3.out
    obtain ⟨A5, c5, rfl⟩ := Kd.R_slice hr4
    have HR4 := Aside0.mk (Kd.R_bound hr4)
    have kg : K0 (w.heap.size ≤ w.heap.size + 1) := ⟨by omega⟩
    have c4 := bk_cell h4
    have f4 := bk_fr h4 0
    have H4 := Aside0.mk h4
    clear hr4 hb4 h4 HNN H3 k3
    go_wp2_with fail
    refine bodyPost_ret (results_cell_row rfl _ _ (w.heap.size + 1) 28 _ (0, 0) _ rfl (bk_put H4.out _) hu28 rfl (by kernel_rfl)) rfl ⟨_, rfl, ?_, kk⟩
    exact Kd.R_mono (Kd.R_lower (Kd.R_far HR4.out (p := ⟨w.heap.size + 1, 0, none⟩) (fun k hk => by have h5 := hk.2.1; have h6 := HL3.out; show k ≠ w.heap.size + 1; omega) _) HB3.out.size) (fun _ _ => trivial)
end Go.Proofs.Ytpfehkkfakofaaa.Q

namespace Go.Proofs.Ytpfehkkfakofaaa.Q
open Go.RowKit Go.Proofs.YtpfehkkfakofaaaW.PrintWords Go.Proofs.YtpfehkkfakofaaaW.PrintLast Go.Proofs.YtpfehkkfakofaaaW.PrintMore
set_option linter.unusedVariables false
set_option linter.unusedSimpArgs false
theorem flat_drop (n : S63) (ks : List Tr) : (flatT (.node n ks)).drop (flatTs ks).length = [n] := by simp [flatT]
theorem flat_len (n : S63) (ks : List Tr) : (flatT (.node n ks)).length = (flatTs ks).length + 1 := by simp [flatT]
theorem mid_set (pre ts : List Tr) (t : Tr) (y : List S63) (i : Nat) (hi : pre.length = i) : ((pre ++ t :: ts).map flatT).set i y = pre.map flatT ++ y :: ts.map flatT := by
  subst hi
  rw [List.map_append, List.map_cons]
  have e : (pre.map flatT).length = pre.length := List.length_map _
  rw [← e, List.set_append_right _ _ (Nat.le_refl _), Nat.sub_self, List.set_cons_zero]
theorem info26_is : (Try.prog.info? 26).map (fun i => (i.zero, i.size, i.bytes)) = some (some (.slice none 0 0), 1, 24) := by kernel_rfl
/-- What stands ready for the last step: the operator's own row, the operands' rows. -/
theorem norm_spec_end (n : S63) (ks : List Tr) (A1 : Option Addr) (c1 : Nat) (w wr W : World) (P : Nat → Prop) (v : Value) (hF : Kd.F k63 w P A1 1 [n]) (hc : 1 ≤ c1) (hN : Kd.N (Kd.slice 63 k63) 26 wr w.heap.size (fun k_ => P k_ ∨ w.heap.size ≤ k_) v (ks.map flatT)) (hB : Below w.heap.size w wr) (hb : Below wr.heap.size wr W) :
    Kd.FK (Kd.slice 63 k63) W (fun k => P k ∧ k < w.heap.size) [n] [.slice A1 1 c1] ∧ Kd.N (Kd.slice 63 k63) 26 W w.heap.size (fun k_ => P k_ ∨ w.heap.size ≤ k_) v (ks.map flatT) ∧ Below w.heap.size w W :=
  ⟨Kd.FK_slice_mk hc (Kd.F_below (Kd.F_bound hF) (hB.trans (hb.mono hB.size))), Kd.N_below hN hb, hB.trans (hb.mono hB.size)⟩
set_option maxHeartbeats 16000000 in
set_option maxRecDepth 100000 in
theorem specN_call : ∀ (N : Nat) (t : Tr) (P : Nat → Prop) (A : Option Addr) (c : Nat) (w : World), (flatT t).length ≤ N → N ≤ 1000 → wfT t → (∀ y ∈ flatT t, nodeOk y = true) → Kd.V k63 63 w w.heap.size P (.slice A (flatT t).length c) (flatT t) →
    Calls Try.prog 19 #[.slice A (flatT t).length c] w fun e w' => ∃ v', e = .returned v' ∧ Kd.V k63 63 w' w.heap.size (fun b => P b ∨ w.heap.size ≤ b) v' (flatT (normT t)) ∧ Below w.heap.size w w' := by
  intro N
  induction N with
  | zero =>
    intro t P A c w hl
    exact absurd (List.eq_nil_of_length_eq_zero (by omega)) (flatT_ne t)
  | succ N IH =>
    intro t P A c w hl hN hw hok hs
    have HIH := Aside0.mk IH
    cases t with
    | node n ks =>
      have kr : K0 (Below w.heap.size w w) := ⟨Below.refl _ _⟩
      obtain ⟨Kk, hKk⟩ := kids_is n ks hw (by omega)
      have HKids := Aside0.mk (spec_l5Kids.calls Kk P A c (flatT (.node n ks)) (ks.map flatT) w hs (hKk Kk (Nat.le_refl _)))
      obtain ⟨-, hc, hF⟩ := Kd.V_at hs
      have hfl := flat_len n ks
      have hdr := flat_drop n ks
      have hcut := Kd.F_cut hF (m := (flatTs ks).length) (by omega) hc
      rw [hdr] at hcut
      have hC := (Kd.V_reads' hs).2.2
      obtain ⟨ad, rfl, -⟩ := hC.2.2 (by omega)
      rw [if_neg (by omega)] at hcut
      have HTop := Aside0.mk (fun (W : World) (hb : Below w.heap.size w W) => spec_l5Top.calls (some ad) c (flatT (.node n ks)) n.f0 W (Kd.C_below hC hb) hc (top_is (.node n ks) (by omega)))
      have HCut := Aside0.mk hcut
      have HW := Aside0.mk hw
      have HOK := Aside0.mk hok
      have hk3 : ks.length ≤ 3 := by have := hw.1; have := arB_le n.f0; omega
      obtain ⟨L, hR⟩ : ∃ L, flatT (normT (.node n ks)) = L := ⟨_, rfl⟩
      rw [hR]
      simp only [normT] at hR
      obtain ⟨m, hm⟩ : ∃ m, (flatTs ks).length = m := ⟨_, rfl⟩
      rw [hm] at hfl
      have HM := Aside0.mk hm
      have hkl : (ks.map flatT).length = ks.length := List.length_map _
      generalize hv0 : flatT (.node n ks) = v0 at *
      have hq1 : m ≤ c := by omega
      have hq3 : ¬ c = m := by omega
      clear hKk hF hdr hcut hC hs IH hw hok hm
      have hwr : wrap64 (((m + 1 : Nat) : Int) - 1) = (m : Int) := by unfold wrap64; omega
      have hq5 : m + 1 ≤ c := by omega
      have hwr2 : wrap64 (m : Int) = (m : Int) := by unfold wrap64; omega
      have hq2 : (m : Int) ≤ (m : Int) + 1 := by omega
      have hq4 : m + 1 - m = 1 := by omega
      have hmN : m ≤ N := by omega
      rw [hfl] at HKids HTop ⊢
      clear hfl
      go_enter Try.func19, Try.ntmps19
      go_upto_region 2 with (fail)
      clear hwr hq1 hq3 hwr2 hq2 hq4
      go_wp2_with fail
      refine HKids.out.mono ?_
      rintro e W2 ⟨v, rfl, hN2, hb2⟩
      obtain ⟨A4, c4, rfl⟩ := Kd.N_slice hN2
      rw [hkl] at *
      have HB2 := Aside0.mk hb2
      have HN2 := Aside0.mk (show Kd.N (Kd.slice 63 k63) 26 W2 w.heap.size (fun k_ => P k_ ∨ w.heap.size ≤ k_) (.slice A4 ks.length c4) ((normTs (ks.take 0) ++ ks.drop 0).map flatT) from hN2)
      clear hN2 HKids hb2
      go_wp2_with fail
      go_loopw [5] (fun v5 W => ∃ (i : Nat), i ≤ ks.length ∧ v5 = .int .i64 i ∧ Aside0 (Kd.N (Kd.slice 63 k63) 26 W w.heap.size (fun k_ => P k_ ∨ w.heap.size ≤ k_) (.slice A4 ks.length c4) ((normTs (ks.take i) ++ ks.drop i).map flatT)) ∧ Aside0 (Below w.heap.size w W)) (fun v5 _ => ks.length - (intOf v5).toNat)
      case atStart => exact ⟨0, by omega, rfl, HN2, HB2⟩
      case round =>
        clear HN2 HB2 kr
        obtain ⟨i, hi, rfl, HN2, HB⟩ := hrel
        have kW : K0 (Below w.heap.size w wr) := ⟨HB.out⟩
        by_cases hlt : i < ks.length
        · obtain ⟨x, hx⟩ : ∃ x, ks[i] = x := ⟨_, rfl⟩
          have hg : ks[i]? = some x := by rw [← hx]; exact List.getElem?_eq_getElem hlt
          have hpl : (normTs (ks.take i)).length = i := by rw [normTs_len, List.length_take]; omega
          have hsp : normTs (ks.take i) ++ ks.drop i = normTs (ks.take i) ++ x :: ks.drop (i + 1) := by rw [List.drop_eq_getElem_cons hlt, hx]
          have hN2 := HN2.out
          obtain ⟨g, cap, e4, hgB, hgl, -⟩ := Kd.N_form hN2 (by rw [List.length_map, List.length_append, hpl, List.length_drop]; omega)
          injection e4 with e5 e6 e7
          subst e5 e7
          clear e6
          obtain ⟨cc, hcl, hFK, hcc, hfr⟩ := Kd.N_elem hN2 [] (i : Int) (by omega) (by omega)
          have hgd : (((normTs (ks.take i) ++ ks.drop i).map flatT).getD (i : Int).toNat []) = flatT x := by
            rw [hsp, Int.toNat_natCast, List.map_append, List.map_cons]
            have e : ((normTs (ks.take i)).map flatT).length = i := by rw [List.length_map, hpl]
            rw [List.getD_eq_getElem?_getD, List.getElem?_append_right (by omega), e, Nat.sub_self]; rfl
          rw [hgd] at hFK
          obtain ⟨A5, c5, rfl, hl5, hF5⟩ := Kd.FK_slice_open hFK
          have y0 : wr.cell? ⟨g, i, none⟩ = some (.slice A5 (flatT x).length c5) := by
            have := hcc 0 _ rfl
            rw [Int.toNat_natCast, show ((Kd.slice 63 k63)).sz = 1 from rfl, Nat.mul_one, Nat.add_zero] at this
            exact this
          have f0 : wr.frozen? ⟨g, i, none⟩ = false := by
            have := hfr 0
            rw [Int.toNat_natCast, show ((Kd.slice 63 k63)).sz = 1 from rfl, Nat.mul_one, Nat.add_zero] at this
            exact this
          have hfx := flat_mem ks i x hg
          have hsub : ∀ y ∈ flatT x, nodeOk y = true := fun y hy => HOK.out y (by rw [← hv0]; simp only [flatT, List.mem_append]; exact .inl (flat_sub (List.mem_of_getElem? hg) hy))
          have hcall := HIH.out x (fun k => (P k ∨ w.heap.size ≤ k) ∧ k ≠ g) A5 c5 wr (by have := HM.out; omega) (by omega) (wf_mem ks i x hg HW.out.2) hsub (Kd.V_mk hl5 hF5)
          have kt : K0 (Below wr.heap.size wr wr) := ⟨Below.refl _ _⟩
          have y0 := clk y0
          have kN := Aside0.mk hN2
          have HHC := Aside0.mk hcall
          have hw1 : IntKind.i64.wrap ((i : Int) + 1) = ((i + 1 : Nat) : Int) := by rw [IntKind.wrap_i64]; omega
          have HF0 := Aside0.mk (And.intro hcl hcc)
          have HSP := Aside0.mk hsp
          have HPL := Aside0.mk hpl
          have HGL := Aside0.mk hgl
          clear hcall hFK hF5 hcl hcc hfr hgd hsub hsp hN2 HN2 hpl f0
          go_wp2_with fail
          refine HHC.out.mono ?_
          rintro e W2 ⟨r, rfl, hV, hb2⟩
          obtain ⟨A6, c6, rfl⟩ := Kd.V_slice hV
          have HB2 := Aside0.mk (HB.out.trans (hb2.mono HB.out.size))
          have HV := Aside0.mk hV
          have HNN := Aside0.mk (Kd.N_below kN.out hb2)
          have hcc2 : ∀ j u, ([.slice A5 (flatT x).length c5] : List Value)[j]? = some u → W2.cell? ⟨g, (i : Int).toNat * (Kd.slice 63 k63).sz + j, none⟩ = some u := by
            intro j u hj
            have h := HF0.out.2 j u hj
            exact (hb2.cell (World.block_lt_of_cell? wr _ h)).trans h
          have HCC := Aside0.mk hcc2
          have hFK2 : Kd.FK (Kd.slice 63 k63) W2 (fun k => ((P k ∨ w.heap.size ≤ k) ∧ k ≠ g) ∨ wr.heap.size ≤ k) (flatT (normT x)) [.slice A6 (flatT (normT x)).length c6] := Kd.FK_slice_mk (Kd.V_at hV).2.1 (Kd.V_at hV).2.2
          have HFK := Aside0.mk hFK2
          have hxs : (((normTs (ks.take i) ++ ks.drop i).map flatT).set (i : Int).toNat (flatT (normT x))) = ((normTs (ks.take (i + 1)) ++ ks.drop (i + 1)).map flatT) := by
            rw [HSP.out, Int.toNat_natCast, mid_set _ _ _ _ i HPL.out, List.take_succ_eq_append_getElem hlt, hx, normTs_app]
            simp [normTs]
          have HXS := Aside0.mk hxs
          clear hb2 hV kN HHC y0 kW hcc2 hFK2 hxs
          go_wp2_with (refine Kd.N_store (Kd.slice 63 k63) (w0 := w) w.heap.size rfl rfl 26 (.tmp 26) (.tmp 25) rfl 26 (g := g) (n := ks.length) (cap := c4) (o' := i) (i : Int) 0 ((normTs (ks.take i) ++ ks.drop i).map flatT) (flatT (normT x)) (.slice A6 (flatT (normT x)).length c6) [.slice A6 (flatT (normT x)).length c6] [.slice A5 (flatT x).length c5] (fun k_ => P k_ ∨ w.heap.size ≤ k_) (fun k => ((P k ∨ w.heap.size ≤ k) ∧ k ≠ g) ∨ wr.heap.size ≤ k) rfl (by rw [Int.toNat_natCast]; simp [Kd.slice]) rfl rfl (by kernel_rfl) (by simp [Value.oneCell']) HNN.out (by omega) (by omega) rfl HCC.out (by simp [Kd.slice]) HFK.out (fun k hk => by rcases hk with h | h; exact ⟨h.1, h.2⟩; exact ⟨.inr (by have := HB.out.size; omega), by have := HGL.out; omega⟩) HB2.out ?_; intro w7 hN7 hb7 hg7; rw [HXS.out] at hN7; have HG := Aside0.mk (And.intro hN7 hb7); clear hN7 hb7 hg7)
          go_roundw
          case measure => simp only [intOf]; omega
          case rel => exact ⟨i + 1, by omega, by rw [Int.natCast_add]; rfl, ⟨HG.out.1⟩, ⟨HG.out.2⟩⟩
        · obtain rfl : i = ks.length := by omega
          have hNN := HN2.out
          rw [List.take_length, List.drop_length, List.append_nil] at hNN
          have hnl := normTs_len ks
          have hml : ((normTs ks).map flatT).length = ks.length := by rw [List.length_map, hnl]
          have tr : ∀ W [K0 (Below wr.heap.size wr W)], K0 (Below w.heap.size w W) := fun W k => ⟨HB.out.trans (k.out.mono HB.out.size)⟩
          have kt : K0 (Below wr.heap.size wr wr) := ⟨Below.refl _ _⟩
          have HEND := Aside0.mk (fun (W W1 : World) (hb : Below wr.heap.size wr W) (hW : W1 = W) => norm_spec_end n (normTs ks) (some (ad.add (m * 7))) (c - m) w wr W P (.slice A4 ks.length c4) (by have h := HCut.out; rw [HM.out] at h; exact h) (by omega) hNN HB.out hb)
          have HNN := Aside0.mk hNN
          have ha0 := HW.out.1
          have hwn := normTs_wf ks HW.out.2
          have hsz : (flatTs (normTs ks)).length ≤ 1000 := by have := hwn.2; have := HM.out; omega
          have HJL := Aside0.mk hsz
          have HK3 := Aside0.mk (show ((normTs ks).map flatT).length ≤ 3 by omega)
          have hokn : ∀ y ∈ flatTs (normTs ks), nodeOk y = true := fun y hy => HOK.out y (by rw [← hv0]; simp only [flatT, List.mem_append]; exact .inl (normTs_sub ks y hy))
          obtain ⟨kk2, hks⟩ : ∃ kk2, normTs ks = kk2 := ⟨_, rfl⟩
          rw [hks] at hwn hsz hokn hnl
          have HWN := Aside0.mk hwn.1
          have HOKN := Aside0.mk hokn
          clear HN2 hNN hml hwn hokn HIH HCut HOK hv0
          go_wp2_with fail
          refine (HTop.out wr HB.out).mono ?_
          rintro e W0 ⟨rfl, hd⟩
          have k0 : K0 (Below wr.heap.size wr W0) := ⟨hd.below⟩
          clear hd HTop

          by_cases h14 : n.f0 = 14
          · have hA : (ks.length : Int) = 2 := by rw [ha0, arB14 (.inl h14)]
            have d14 : (n.f0 == 14) = true := beq_iff_eq.mpr h14
            obtain ⟨a, b, hk0⟩ : ∃ a b, kk2 = [a, b] := by
              have h2 : kk2.length = 2 := by omega
              rcases kk2 with _ | ⟨a, _ | ⟨b, _ | ⟨c, l⟩⟩⟩
              · simp at h2
              · simp at h2
              · exact ⟨a, b, rfl⟩
              · simp at h2
            subst hk0
            have hNN := HNN.out
            rw [hks] at hNN
            have hwn := HWN.out
            have hokn := HOKN.out
            obtain ⟨wa, wb, -⟩ : wfT a ∧ wfT b ∧ True := hwn
            have oka : ∀ y ∈ flatT a, nodeOk y = true := fun y hy => hokn y (by simp [flatTs, hy])
            have okb : ∀ y ∈ flatT b, nodeOk y = true := fun y hy => hokn y (by simp [flatTs, hy])
            obtain ⟨g, cap, e4, hgB, hgl, -⟩ := Kd.N_form hNN (by simp)
            injection e4 with e5 e6 e7
            subst e5 e7
            clear e6
            obtain ⟨cca, hcla, hFKa, hcca, hfra⟩ := Kd.N_elem hNN [] (0 : Int) (by omega) (by omega)
            rw [show ([a, b].map flatT).getD (0 : Int).toNat [] = flatT a from rfl] at hFKa
            obtain ⟨Aa, ca, rfl, hla, hFa⟩ := Kd.FK_slice_open hFKa
            have ya : wr.cell? ⟨g, 0, none⟩ = some (.slice Aa (flatT a).length ca) := hcca 0 _ rfl
            have ya := clk ya
            have hVa := Kd.V_mk (e := 63) (base := w.heap.size) hla hFa
            have Ha := Aside0.mk hVa
            have HIa := Aside0.mk (show ∀ (k : Int) (W : World), arB k = 0 → Below wr.heap.size wr W → Calls Try.prog 45 #[.slice Aa (flatT a).length ca, .int .i64 k] W fun e w' => e = .returned (.bool (isK a k)) ∧ Below W.heap.size W w' from fun k W hk hb => (spec_l5Is.calls Aa ca (flatT a) k (isK a k) W (Kd.C_below (Kd.V_reads' hVa).2.2 hb) hla (is_is a wa k hk)).mono fun e w' h => ⟨h.1, h.2.below⟩)
            obtain ⟨ccb, hclb, hFKb, hccb, hfrb⟩ := Kd.N_elem hNN [] (1 : Int) (by omega) (by omega)
            rw [show ([a, b].map flatT).getD (1 : Int).toNat [] = flatT b from rfl] at hFKb
            obtain ⟨Ab, cb, rfl, hlb, hFb⟩ := Kd.FK_slice_open hFKb
            have yb : wr.cell? ⟨g, 1, none⟩ = some (.slice Ab (flatT b).length cb) := hccb 0 _ rfl
            have yb := clk yb
            have hVb := Kd.V_mk (e := 63) (base := w.heap.size) hlb hFb
            have Hb := Aside0.mk hVb
            have HIb := Aside0.mk (show ∀ (k : Int) (W : World), arB k = 0 → Below wr.heap.size wr W → Calls Try.prog 45 #[.slice Ab (flatT b).length cb, .int .i64 k] W fun e w' => e = .returned (.bool (isK b k)) ∧ Below W.heap.size W w' from fun k W hk hb => (spec_l5Is.calls Ab cb (flatT b) k (isK b k) W (Kd.C_below (Kd.V_reads' hVb).2.2 hb) hlb (is_is b wb k hk)).mono fun e w' h => ⟨h.1, h.2.below⟩)
            simp only [flatTs, List.length_append, List.length_nil] at hsz
            obtain ⟨Ks, hKs⟩ := same_spec (flatT a) (flatT b) (by omega)
            have HSab := Aside0.mk (fun (W : World) (hb : Below wr.heap.size wr W) => (spec_l5Same.calls Ks Aa ca (flatT a) Ab cb (flatT b) (sameN (flatT a) (flatT b)) W (Kd.C_below (Kd.V_reads' hVa).2.2 hb) hla (Kd.C_below (Kd.V_reads' hVb).2.2 hb) hlb (hKs Ks (Nat.le_refl _))).mono fun e w' h => And.intro h.1 h.2.below)
            clear hKs hNN HNN hokn hFKa hcca hfra hcla hVa hFa hla hFKb hccb hfrb hclb hVb hFb hlb
            have hx0 : 0 < ks.length := by omega
            have hx1 : 1 < ks.length := by omega
            have hz0 : (0 : Int) < (ks.length : Int) := by omega
            have hz1 : (1 : Int) < (ks.length : Int) := by omega
            clear ha0 hA hnl
            go_wp2_with fail
            refine (HIa.out 1 _ (by decide) kk).mono ?_
            rintro e U1 ⟨rfl, hb1⟩
            have k1 : K0 (Below wr.heap.size wr U1) := ⟨Below.trans (kk : Below wr.heap.size wr _) (hb1.mono (kk : Below wr.heap.size wr _).size)⟩
            clear hb1
            cases p1 : isK a 1
            case' true =>
              obtain rfl : L = flatT b := by rw [← hR, hks]; simp [normN, h14, p1]
              go_wp2
              go_ret
              exact ⟨_, rfl, Kd.V_mono (Kd.V_below Hb.out kk) (fun k hk => hk.1), kk⟩
            go_wp2_with fail
            refine (HIb.out 2 _ (by decide) kk).mono ?_
            rintro e U2 ⟨rfl, hb2⟩
            have k2 : K0 (Below wr.heap.size wr U2) := ⟨Below.trans (kk : Below wr.heap.size wr _) (hb2.mono (kk : Below wr.heap.size wr _).size)⟩
            clear hb2
            cases q2 : isK b 2
            case' true =>
              have q1 : isK b 1 = false := isK_excl q2 (by decide)
              have q3 : isK b 3 = false := isK_excl q2 (by decide)
              obtain rfl : L = flatT b := by
                rw [← hR, hks]
                cases p2 : isK a 2
                · simp [normN, h14, p1, q1, p2, q3, q2]
                · rw [← block_same wa wb oka okb p2 q2]; simp [normN, h14, p1, q1, p2]
              go_wp2
              go_ret
              exact ⟨_, rfl, Kd.V_mono (Kd.V_below Hb.out kk) (fun k hk => hk.1), kk⟩
            go_wp2_with fail
            refine (HIb.out 1 _ (by decide) kk).mono ?_
            rintro e U3 ⟨rfl, hb3⟩
            have k3 : K0 (Below wr.heap.size wr U3) := ⟨Below.trans (kk : Below wr.heap.size wr _) (hb3.mono (kk : Below wr.heap.size wr _).size)⟩
            clear hb3
            cases q1 : isK b 1
            case' true =>
              obtain rfl : L = flatT a := by rw [← hR, hks]; simp [normN, h14, p1, q2, q1]
              go_wp2
              go_ret
              exact ⟨_, rfl, Kd.V_mono (Kd.V_below Ha.out kk) (fun k hk => hk.1), kk⟩
            go_wp2_with fail
            refine (HIa.out 2 _ (by decide) kk).mono ?_
            rintro e U4 ⟨rfl, hb4⟩
            have k4 : K0 (Below wr.heap.size wr U4) := ⟨Below.trans (kk : Below wr.heap.size wr _) (hb4.mono (kk : Below wr.heap.size wr _).size)⟩
            clear hb4
            cases p2 : isK a 2
            case' true =>
              obtain rfl : L = flatT a := by rw [← hR, hks]; simp [normN, h14, p1, q2, q1, p2]
              go_wp2
              go_ret
              exact ⟨_, rfl, Kd.V_mono (Kd.V_below Ha.out kk) (fun k hk => hk.1), kk⟩
            go_wp2_with fail
            refine (HIa.out 3 _ (by decide) kk).mono ?_
            rintro e U5 ⟨rfl, hb5⟩
            have k5 : K0 (Below wr.heap.size wr U5) := ⟨Below.trans (kk : Below wr.heap.size wr _) (hb5.mono (kk : Below wr.heap.size wr _).size)⟩
            clear hb5
            cases p3 : isK a 3
            case' true =>
              go_wp2_with fail
              refine (HIb.out 3 _ (by decide) kk).mono ?_
              rintro e U6 ⟨rfl, hb6⟩
              have k6 : K0 (Below wr.heap.size wr U6) := ⟨Below.trans (kk : Below wr.heap.size wr _) (hb6.mono (kk : Below wr.heap.size wr _).size)⟩
              clear hb6
              cases q3 : isK b 3
              case' true =>
                obtain rfl : L = flatT a := by rw [← hR, hks]; simp [normN, h14, p1, q2, q1, p2, p3, q3]
                go_wp2
                go_ret
                exact ⟨_, rfl, Kd.V_mono (Kd.V_below Ha.out kk) (fun k hk => hk.1), kk⟩
              case' false =>
                obtain rfl : L = flatT (.node n (normTs ks)) := by rw [← hR, hks]; simp [normN, h14, p1, q2, q1, p2, p3, q3]
                clear hks
                have HE := Aside0.mk (HEND.out _ _ (kk : Below wr.heap.size wr U6) rfl)
                have hjl := HJL.out
                have hkl3 := HK3.out
                clear HEND
                go_wp2_with (at_builtin; refine Kd.N_append (Kd.slice 63 k63) (w0 := w) w.heap.size rfl (.tmp 126) (.tmp 128) 76 26 (.slice none 0 0) 24 rfl Try.underlying76 info26_is rfl (by decide) (by omega) _ ((normTs ks).map flatT) [n] [.slice (some (ad.add (m * 7))) 1 (c - m)] (fun k_ => P k_ ∨ w.heap.size ≤ k_) (fun k => P k ∧ k < w.heap.size) rfl rfl HE.out.1 (fun k hk => ⟨.inl hk.1, fun e => by have := Kd.N_base HE.out.2.1 k e.symm; omega⟩) (fun k hk => .inr (by have := HE.out.2.2.size; omega)) HE.out.2.1 HE.out.2.2 HE.out.2.2.size (by omega) ?_; intro v7 w7 hN7 hb7 hg7 hat7; obtain ⟨A7, c7, rfl, hl7, hC7⟩ := Kd.N_reads hN7; obtain ⟨n7, hn7⟩ : ∃ n7, ((normTs ks).map flatT ++ [[n]]).length = n7 := ⟨_, rfl⟩; rw [hn7] at hl7 hC7 ⊢; have HN7 := Aside0.mk hn7; have HG := Aside0.mk (And.intro hl7 (And.intro hC7 hb7)); clear hn7 hN7 hl7 hC7 hb7 hg7 hat7)
                obtain ⟨Kj, hKj⟩ := join_is ((normTs ks).map flatT ++ [[n]]) (by rw [List.length_append, List.length_singleton]; omega) (by rw [List.flatten_append, flatTs_map]; simp; omega)
                have hjf : ((normTs ks).map flatT ++ [[n]]).flatten = flatT (.node n (normTs ks)) := by rw [List.flatten_append, flatTs_map]; simp [flatT]
                rw [hjf] at hKj
                have HJ := Aside0.mk (spec_l5Join.calls Kj A7 c7 ((normTs ks).map flatT ++ [[n]]) _ w7 (by rw [HN7.out]; exact HG.out.2.1) (by rw [HN7.out]; exact HG.out.1) (hKj Kj (Nat.le_refl _)))
                rw [HN7.out] at HJ
                clear hKj
                refine HJ.out.mono ?_
                rintro e w8 ⟨v8, rfl, hR8, hb8⟩
                have k8 : K0 (Below w.heap.size w w8) := ⟨HG.out.2.2.trans (hb8.mono HG.out.2.2.size)⟩
                have hs7 := HG.out.2.2.size
                obtain ⟨A8, c8, rfl, hl8, hC8⟩ := Kd.R_reads hR8
                have HV8 := Aside0.mk (Kd.V_mono (Kd.V_mk (e := 63) (base := w.heap.size) hl8 (Kd.R_F (Kd.R_bound hR8))) (ok' := fun b => P b ∨ w.heap.size ≤ b) (fun k hk => .inr (by have := hk.2.1; omega)))
                clear hR8 hb8 hC8 hl8 HJ
                go_wp2
                go_ret
                exact ⟨_, rfl, HV8.out, kk⟩
            case' false =>
              obtain rfl : L = flatT (.node n (normTs ks)) := by rw [← hR, hks]; simp [normN, h14, p1, q2, q1, p2, p3]
              clear hks
              have HE := Aside0.mk (HEND.out _ _ (kk : Below wr.heap.size wr U5) rfl)
              have hjl := HJL.out
              have hkl3 := HK3.out
              clear HEND
              go_wp2_with (at_builtin; refine Kd.N_append (Kd.slice 63 k63) (w0 := w) w.heap.size rfl (.tmp 126) (.tmp 128) 76 26 (.slice none 0 0) 24 rfl Try.underlying76 info26_is rfl (by decide) (by omega) _ ((normTs ks).map flatT) [n] [.slice (some (ad.add (m * 7))) 1 (c - m)] (fun k_ => P k_ ∨ w.heap.size ≤ k_) (fun k => P k ∧ k < w.heap.size) rfl rfl HE.out.1 (fun k hk => ⟨.inl hk.1, fun e => by have := Kd.N_base HE.out.2.1 k e.symm; omega⟩) (fun k hk => .inr (by have := HE.out.2.2.size; omega)) HE.out.2.1 HE.out.2.2 HE.out.2.2.size (by omega) ?_; intro v7 w7 hN7 hb7 hg7 hat7; obtain ⟨A7, c7, rfl, hl7, hC7⟩ := Kd.N_reads hN7; obtain ⟨n7, hn7⟩ : ∃ n7, ((normTs ks).map flatT ++ [[n]]).length = n7 := ⟨_, rfl⟩; rw [hn7] at hl7 hC7 ⊢; have HN7 := Aside0.mk hn7; have HG := Aside0.mk (And.intro hl7 (And.intro hC7 hb7)); clear hn7 hN7 hl7 hC7 hb7 hg7 hat7)
              obtain ⟨Kj, hKj⟩ := join_is ((normTs ks).map flatT ++ [[n]]) (by rw [List.length_append, List.length_singleton]; omega) (by rw [List.flatten_append, flatTs_map]; simp; omega)
              have hjf : ((normTs ks).map flatT ++ [[n]]).flatten = flatT (.node n (normTs ks)) := by rw [List.flatten_append, flatTs_map]; simp [flatT]
              rw [hjf] at hKj
              have HJ := Aside0.mk (spec_l5Join.calls Kj A7 c7 ((normTs ks).map flatT ++ [[n]]) _ w7 (by rw [HN7.out]; exact HG.out.2.1) (by rw [HN7.out]; exact HG.out.1) (hKj Kj (Nat.le_refl _)))
              rw [HN7.out] at HJ
              clear hKj
              refine HJ.out.mono ?_
              rintro e w8 ⟨v8, rfl, hR8, hb8⟩
              have k8 : K0 (Below w.heap.size w w8) := ⟨HG.out.2.2.trans (hb8.mono HG.out.2.2.size)⟩
              have hs7 := HG.out.2.2.size
              obtain ⟨A8, c8, rfl, hl8, hC8⟩ := Kd.R_reads hR8
              have HV8 := Aside0.mk (Kd.V_mono (Kd.V_mk (e := 63) (base := w.heap.size) hl8 (Kd.R_F (Kd.R_bound hR8))) (ok' := fun b => P b ∨ w.heap.size ≤ b) (fun k hk => .inr (by have := hk.2.1; omega)))
              clear hR8 hb8 hC8 hl8 HJ
              go_wp2
              go_ret
              exact ⟨_, rfl, HV8.out, kk⟩
          by_cases h15 : n.f0 = 15
          · have hA : (ks.length : Int) = 2 := by rw [ha0, arB14 (.inr h15)]
            have d14 : (n.f0 == 14) = false := beq_eq_false_iff_ne.mpr h14
            have d15 : (n.f0 == 15) = true := beq_iff_eq.mpr h15
            obtain ⟨a, b, hk0⟩ : ∃ a b, kk2 = [a, b] := by
              have h2 : kk2.length = 2 := by omega
              rcases kk2 with _ | ⟨a, _ | ⟨b, _ | ⟨c, l⟩⟩⟩
              · simp at h2
              · simp at h2
              · exact ⟨a, b, rfl⟩
              · simp at h2
            subst hk0
            have hNN := HNN.out
            rw [hks] at hNN
            have hwn := HWN.out
            have hokn := HOKN.out
            obtain ⟨wa, wb, -⟩ : wfT a ∧ wfT b ∧ True := hwn
            have oka : ∀ y ∈ flatT a, nodeOk y = true := fun y hy => hokn y (by simp [flatTs, hy])
            have okb : ∀ y ∈ flatT b, nodeOk y = true := fun y hy => hokn y (by simp [flatTs, hy])
            obtain ⟨g, cap, e4, hgB, hgl, -⟩ := Kd.N_form hNN (by simp)
            injection e4 with e5 e6 e7
            subst e5 e7
            clear e6
            obtain ⟨cca, hcla, hFKa, hcca, hfra⟩ := Kd.N_elem hNN [] (0 : Int) (by omega) (by omega)
            rw [show ([a, b].map flatT).getD (0 : Int).toNat [] = flatT a from rfl] at hFKa
            obtain ⟨Aa, ca, rfl, hla, hFa⟩ := Kd.FK_slice_open hFKa
            have ya : wr.cell? ⟨g, 0, none⟩ = some (.slice Aa (flatT a).length ca) := hcca 0 _ rfl
            have ya := clk ya
            have hVa := Kd.V_mk (e := 63) (base := w.heap.size) hla hFa
            have Ha := Aside0.mk hVa
            have HIa := Aside0.mk (show ∀ (k : Int) (W : World), arB k = 0 → Below wr.heap.size wr W → Calls Try.prog 45 #[.slice Aa (flatT a).length ca, .int .i64 k] W fun e w' => e = .returned (.bool (isK a k)) ∧ Below W.heap.size W w' from fun k W hk hb => (spec_l5Is.calls Aa ca (flatT a) k (isK a k) W (Kd.C_below (Kd.V_reads' hVa).2.2 hb) hla (is_is a wa k hk)).mono fun e w' h => ⟨h.1, h.2.below⟩)
            obtain ⟨ccb, hclb, hFKb, hccb, hfrb⟩ := Kd.N_elem hNN [] (1 : Int) (by omega) (by omega)
            rw [show ([a, b].map flatT).getD (1 : Int).toNat [] = flatT b from rfl] at hFKb
            obtain ⟨Ab, cb, rfl, hlb, hFb⟩ := Kd.FK_slice_open hFKb
            have yb : wr.cell? ⟨g, 1, none⟩ = some (.slice Ab (flatT b).length cb) := hccb 0 _ rfl
            have yb := clk yb
            have hVb := Kd.V_mk (e := 63) (base := w.heap.size) hlb hFb
            have Hb := Aside0.mk hVb
            have HIb := Aside0.mk (show ∀ (k : Int) (W : World), arB k = 0 → Below wr.heap.size wr W → Calls Try.prog 45 #[.slice Ab (flatT b).length cb, .int .i64 k] W fun e w' => e = .returned (.bool (isK b k)) ∧ Below W.heap.size W w' from fun k W hk hb => (spec_l5Is.calls Ab cb (flatT b) k (isK b k) W (Kd.C_below (Kd.V_reads' hVb).2.2 hb) hlb (is_is b wb k hk)).mono fun e w' h => ⟨h.1, h.2.below⟩)
            simp only [flatTs, List.length_append, List.length_nil] at hsz
            obtain ⟨Ks, hKs⟩ := same_spec (flatT a) (flatT b) (by omega)
            have HSab := Aside0.mk (fun (W : World) (hb : Below wr.heap.size wr W) => (spec_l5Same.calls Ks Aa ca (flatT a) Ab cb (flatT b) (sameN (flatT a) (flatT b)) W (Kd.C_below (Kd.V_reads' hVa).2.2 hb) hla (Kd.C_below (Kd.V_reads' hVb).2.2 hb) hlb (hKs Ks (Nat.le_refl _))).mono fun e w' h => And.intro h.1 h.2.below)
            clear hKs hNN HNN hokn hFKa hcca hfra hcla hVa hFa hla hFKb hccb hfrb hclb hVb hFb hlb
            have hx0 : 0 < ks.length := by omega
            have hx1 : 1 < ks.length := by omega
            have hz0 : (0 : Int) < (ks.length : Int) := by omega
            have hz1 : (1 : Int) < (ks.length : Int) := by omega
            clear ha0 hA hnl
            go_wp2_with fail
            refine (HIa.out 2 _ (by decide) kk).mono ?_
            rintro e U7 ⟨rfl, hb7⟩
            have k7 : K0 (Below wr.heap.size wr U7) := ⟨Below.trans (kk : Below wr.heap.size wr _) (hb7.mono (kk : Below wr.heap.size wr _).size)⟩
            clear hb7
            cases p2 : isK a 2
            case' true =>
              obtain rfl : L = flatT b := by rw [← hR, hks]; simp [normN, h15, p2]
              go_wp2
              go_ret
              exact ⟨_, rfl, Kd.V_mono (Kd.V_below Hb.out kk) (fun k hk => hk.1), kk⟩
            go_upto_region 16 with (fail)
            refine sq_region (S := fun W' => K0 (Below wr.heap.size wr W')) [(0, false), (1, false), (2, false), (3, true), (4, false), (5, false), (6, false), (7, false), (8, true), (9, false), (10, false), (11, false), (12, false), (13, false), (14, false), (15, false), (16, false), (17, true), (18, false)] (by kernel_rfl) (by kernel_rfl) (by exact inferInstance) (fun hS => ?_)
            repeat (first | (refine sq_n ?_ ?_ rfl ?_ ?_ ?_; rotate_left 2; (intro W hW; go_simp; first | done | with_reducible rfl); (simp only [List.setIfInBounds_toArray, List.set_cons_zero, List.set_cons_succ]; try rfl)) | (refine sq_g ?_ ?_ rfl rfl rfl ?_ ?_ ?_; rotate_left 2; (intro W hW; go_simp; first | done | with_reducible rfl); (simp only [List.setIfInBounds_toArray, List.set_cons_zero, List.set_cons_succ]; try rfl)) | (refine sq_f ?_ rfl rfl rfl ?_ ?_; rotate_left; (simp only [List.setIfInBounds_toArray, List.set_cons_zero, List.set_cons_succ]; try rfl)) | (refine sq_u ?_ rfl rfl rfl ?_ ?_; rotate_left; (simp only [List.setIfInBounds_toArray, List.set_cons_zero, List.set_cons_succ]; try rfl)))
            refine sq_1n rfl (fun hS K hK => ?_)
            go_simp
            go_at_call 45
            refine (HIb.out 2 _ (by decide) kk).mono ?_
            rintro e U8 ⟨rfl, hb8⟩
            have k8 : K0 (Below wr.heap.size wr U8) := ⟨Below.trans (kk : Below wr.heap.size wr _) (hb8.mono (kk : Below wr.heap.size wr _).size)⟩
            clear hb8
            cases q2 : isK b 2
            case' true =>
              refine hK.out _ _ k8 (fun hS => ?_)
              repeat (first | (refine sq_n ?_ ?_ rfl ?_ ?_ ?_; rotate_left 2; (intro W hW; go_simp; first | done | with_reducible rfl); (simp only [List.setIfInBounds_toArray, List.set_cons_zero, List.set_cons_succ]; try rfl)) | (refine sq_g ?_ ?_ rfl rfl rfl ?_ ?_ ?_; rotate_left 2; (intro W hW; go_simp; first | done | with_reducible rfl); (simp only [List.setIfInBounds_toArray, List.set_cons_zero, List.set_cons_succ]; try rfl)) | (refine sq_f ?_ rfl rfl rfl ?_ ?_; rotate_left; (simp only [List.setIfInBounds_toArray, List.set_cons_zero, List.set_cons_succ]; try rfl)) | (refine sq_u ?_ rfl rfl rfl ?_ ?_; rotate_left; (simp only [List.setIfInBounds_toArray, List.set_cons_zero, List.set_cons_succ]; try rfl)))
              refine sq_done (fun hS => ?_)
              obtain rfl : L = flatT a := by rw [← hR, hks]; simp [normN, h15, p2, q2]
              go_wp2
              go_ret
              exact ⟨_, rfl, Kd.V_mono (Kd.V_below Ha.out kk) (fun k hk => hk.1), kk⟩
            refine hK.out _ _ k8 (fun hS => ?_)
            repeat (first | (refine sq_n ?_ ?_ rfl ?_ ?_ ?_; rotate_left 2; (intro W hW; go_simp; first | done | with_reducible rfl); (simp only [List.setIfInBounds_toArray, List.set_cons_zero, List.set_cons_succ]; try rfl)) | (refine sq_g ?_ ?_ rfl rfl rfl ?_ ?_ ?_; rotate_left 2; (intro W hW; go_simp; first | done | with_reducible rfl); (simp only [List.setIfInBounds_toArray, List.set_cons_zero, List.set_cons_succ]; try rfl)) | (refine sq_f ?_ rfl rfl rfl ?_ ?_; rotate_left; (simp only [List.setIfInBounds_toArray, List.set_cons_zero, List.set_cons_succ]; try rfl)) | (refine sq_u ?_ rfl rfl rfl ?_ ?_; rotate_left; (simp only [List.setIfInBounds_toArray, List.set_cons_zero, List.set_cons_succ]; try rfl)))
            refine sq_1g rfl rfl rfl (fun hS K2 hK2 => ?_)
            go_simp
            go_at_call 45
            refine (HIa.out 1 _ (by decide) kk).mono ?_
            rintro e U9 ⟨rfl, hb9⟩
            have k9 : K0 (Below wr.heap.size wr U9) := ⟨Below.trans (kk : Below wr.heap.size wr _) (hb9.mono (kk : Below wr.heap.size wr _).size)⟩
            clear hb9
            cases p1 : isK a 1
            case' true =>
              refine hK2.out _ _ k9 (fun hS => ?_)
              repeat (first | (refine sq_n ?_ ?_ rfl ?_ ?_ ?_; rotate_left 2; (intro W hW; go_simp; first | done | with_reducible rfl); (simp only [List.setIfInBounds_toArray, List.set_cons_zero, List.set_cons_succ]; try rfl)) | (refine sq_g ?_ ?_ rfl rfl rfl ?_ ?_ ?_; rotate_left 2; (intro W hW; go_simp; first | done | with_reducible rfl); (simp only [List.setIfInBounds_toArray, List.set_cons_zero, List.set_cons_succ]; try rfl)) | (refine sq_f ?_ rfl rfl rfl ?_ ?_; rotate_left; (simp only [List.setIfInBounds_toArray, List.set_cons_zero, List.set_cons_succ]; try rfl)) | (refine sq_u ?_ rfl rfl rfl ?_ ?_; rotate_left; (simp only [List.setIfInBounds_toArray, List.set_cons_zero, List.set_cons_succ]; try rfl)))
              refine sq_done (fun hS => ?_)
              obtain rfl : L = flatT a := by rw [← hR, hks]; simp [normN, h15, p2, q2, p1]
              go_wp2
              go_ret
              exact ⟨_, rfl, Kd.V_mono (Kd.V_below Ha.out kk) (fun k hk => hk.1), kk⟩
            refine hK2.out _ _ k9 (fun hS => ?_)
            repeat (first | (refine sq_n ?_ ?_ rfl ?_ ?_ ?_; rotate_left 2; (intro W hW; go_simp; first | done | with_reducible rfl); (simp only [List.setIfInBounds_toArray, List.set_cons_zero, List.set_cons_succ]; try rfl)) | (refine sq_g ?_ ?_ rfl rfl rfl ?_ ?_ ?_; rotate_left 2; (intro W hW; go_simp; first | done | with_reducible rfl); (simp only [List.setIfInBounds_toArray, List.set_cons_zero, List.set_cons_succ]; try rfl)) | (refine sq_f ?_ rfl rfl rfl ?_ ?_; rotate_left; (simp only [List.setIfInBounds_toArray, List.set_cons_zero, List.set_cons_succ]; try rfl)) | (refine sq_u ?_ rfl rfl rfl ?_ ?_; rotate_left; (simp only [List.setIfInBounds_toArray, List.set_cons_zero, List.set_cons_succ]; try rfl)))
            refine sq_1g rfl rfl rfl (fun hS K3 hK3 => ?_)
            go_simp
            go_at_call 46
            refine (HSab.out _ kk).mono ?_
            rintro e U10 ⟨rfl, hb10⟩
            have k10 : K0 (Below wr.heap.size wr U10) := ⟨Below.trans (kk : Below wr.heap.size wr _) (hb10.mono (kk : Below wr.heap.size wr _).size)⟩
            clear hb10
            refine hK3.out _ _ k10 (fun hS => ?_)
            repeat (first | (refine sq_n ?_ ?_ rfl ?_ ?_ ?_; rotate_left 2; (intro W hW; go_simp; first | done | with_reducible rfl); (simp only [List.setIfInBounds_toArray, List.set_cons_zero, List.set_cons_succ]; try rfl)) | (refine sq_g ?_ ?_ rfl rfl rfl ?_ ?_ ?_; rotate_left 2; (intro W hW; go_simp; first | done | with_reducible rfl); (simp only [List.setIfInBounds_toArray, List.set_cons_zero, List.set_cons_succ]; try rfl)) | (refine sq_f ?_ rfl rfl rfl ?_ ?_; rotate_left; (simp only [List.setIfInBounds_toArray, List.set_cons_zero, List.set_cons_succ]; try rfl)) | (refine sq_u ?_ rfl rfl rfl ?_ ?_; rotate_left; (simp only [List.setIfInBounds_toArray, List.set_cons_zero, List.set_cons_succ]; try rfl)))
            refine sq_done (fun hS => ?_)
            cases z : sameN (flatT a) (flatT b)
            case' true =>
              obtain rfl : L = flatT a := by rw [← hR, hks]; simp [normN, h15, p2, q2, p1, z]
              go_wp2
              go_ret
              exact ⟨_, rfl, Kd.V_mono (Kd.V_below Ha.out kk) (fun k hk => hk.1), kk⟩
            case' false =>
              obtain rfl : L = flatT (.node n (normTs ks)) := by rw [← hR, hks]; simp [normN, h15, p2, q2, p1, z]
              clear hks
              have HE := Aside0.mk (HEND.out _ _ (kk : Below wr.heap.size wr U10) rfl)
              have hjl := HJL.out
              have hkl3 := HK3.out
              clear HEND
              go_wp2_with (at_builtin; refine Kd.N_append (Kd.slice 63 k63) (w0 := w) w.heap.size rfl (.tmp 126) (.tmp 128) 76 26 (.slice none 0 0) 24 rfl Try.underlying76 info26_is rfl (by decide) (by omega) _ ((normTs ks).map flatT) [n] [.slice (some (ad.add (m * 7))) 1 (c - m)] (fun k_ => P k_ ∨ w.heap.size ≤ k_) (fun k => P k ∧ k < w.heap.size) rfl rfl HE.out.1 (fun k hk => ⟨.inl hk.1, fun e => by have := Kd.N_base HE.out.2.1 k e.symm; omega⟩) (fun k hk => .inr (by have := HE.out.2.2.size; omega)) HE.out.2.1 HE.out.2.2 HE.out.2.2.size (by omega) ?_; intro v7 w7 hN7 hb7 hg7 hat7; obtain ⟨A7, c7, rfl, hl7, hC7⟩ := Kd.N_reads hN7; obtain ⟨n7, hn7⟩ : ∃ n7, ((normTs ks).map flatT ++ [[n]]).length = n7 := ⟨_, rfl⟩; rw [hn7] at hl7 hC7 ⊢; have HN7 := Aside0.mk hn7; have HG := Aside0.mk (And.intro hl7 (And.intro hC7 hb7)); clear hn7 hN7 hl7 hC7 hb7 hg7 hat7)
              obtain ⟨Kj, hKj⟩ := join_is ((normTs ks).map flatT ++ [[n]]) (by rw [List.length_append, List.length_singleton]; omega) (by rw [List.flatten_append, flatTs_map]; simp; omega)
              have hjf : ((normTs ks).map flatT ++ [[n]]).flatten = flatT (.node n (normTs ks)) := by rw [List.flatten_append, flatTs_map]; simp [flatT]
              rw [hjf] at hKj
              have HJ := Aside0.mk (spec_l5Join.calls Kj A7 c7 ((normTs ks).map flatT ++ [[n]]) _ w7 (by rw [HN7.out]; exact HG.out.2.1) (by rw [HN7.out]; exact HG.out.1) (hKj Kj (Nat.le_refl _)))
              rw [HN7.out] at HJ
              clear hKj
              refine HJ.out.mono ?_
              rintro e w8 ⟨v8, rfl, hR8, hb8⟩
              have k8 : K0 (Below w.heap.size w w8) := ⟨HG.out.2.2.trans (hb8.mono HG.out.2.2.size)⟩
              have hs7 := HG.out.2.2.size
              obtain ⟨A8, c8, rfl, hl8, hC8⟩ := Kd.R_reads hR8
              have HV8 := Aside0.mk (Kd.V_mono (Kd.V_mk (e := 63) (base := w.heap.size) hl8 (Kd.R_F (Kd.R_bound hR8))) (ok' := fun b => P b ∨ w.heap.size ≤ b) (fun k hk => .inr (by have := hk.2.1; omega)))
              clear hR8 hb8 hC8 hl8 HJ
              go_wp2
              go_ret
              exact ⟨_, rfl, HV8.out, kk⟩
          by_cases h16 : n.f0 = 16
          · have hA : (ks.length : Int) = 3 := by rw [ha0, h16]; decide
            have d14 : (n.f0 == 14) = false := beq_eq_false_iff_ne.mpr h14
            have d15 : (n.f0 == 15) = false := beq_eq_false_iff_ne.mpr h15
            have d16 : (n.f0 == 16) = true := beq_iff_eq.mpr h16
            obtain ⟨a, b, c_, hk0⟩ : ∃ a b c_, kk2 = [a, b, c_] := by
              have h2 : kk2.length = 3 := by omega
              rcases kk2 with _ | ⟨a, _ | ⟨b, _ | ⟨c_, _ | ⟨d, l⟩⟩⟩⟩
              · simp at h2
              · simp at h2
              · simp at h2
              · exact ⟨a, b, c_, rfl⟩
              · simp at h2
            subst hk0
            have hNN := HNN.out
            rw [hks] at hNN
            have hwn := HWN.out
            have hokn := HOKN.out
            obtain ⟨wa, wb, wc_, -⟩ : wfT a ∧ wfT b ∧ wfT c_ ∧ True := hwn
            have oka : ∀ y ∈ flatT a, nodeOk y = true := fun y hy => hokn y (by simp [flatTs, hy])
            have okb : ∀ y ∈ flatT b, nodeOk y = true := fun y hy => hokn y (by simp [flatTs, hy])
            have okc_ : ∀ y ∈ flatT c_, nodeOk y = true := fun y hy => hokn y (by simp [flatTs, hy])
            obtain ⟨g, cap, e4, hgB, hgl, -⟩ := Kd.N_form hNN (by simp)
            injection e4 with e5 e6 e7
            subst e5 e7
            clear e6
            obtain ⟨cca, hcla, hFKa, hcca, hfra⟩ := Kd.N_elem hNN [] (0 : Int) (by omega) (by omega)
            rw [show ([a, b, c_].map flatT).getD (0 : Int).toNat [] = flatT a from rfl] at hFKa
            obtain ⟨Aa, ca, rfl, hla, hFa⟩ := Kd.FK_slice_open hFKa
            have ya : wr.cell? ⟨g, 0, none⟩ = some (.slice Aa (flatT a).length ca) := hcca 0 _ rfl
            have ya := clk ya
            have hVa := Kd.V_mk (e := 63) (base := w.heap.size) hla hFa
            have Ha := Aside0.mk hVa
            have HIa := Aside0.mk (show ∀ (k : Int) (W : World), arB k = 0 → Below wr.heap.size wr W → Calls Try.prog 45 #[.slice Aa (flatT a).length ca, .int .i64 k] W fun e w' => e = .returned (.bool (isK a k)) ∧ Below W.heap.size W w' from fun k W hk hb => (spec_l5Is.calls Aa ca (flatT a) k (isK a k) W (Kd.C_below (Kd.V_reads' hVa).2.2 hb) hla (is_is a wa k hk)).mono fun e w' h => ⟨h.1, h.2.below⟩)
            obtain ⟨ccb, hclb, hFKb, hccb, hfrb⟩ := Kd.N_elem hNN [] (1 : Int) (by omega) (by omega)
            rw [show ([a, b, c_].map flatT).getD (1 : Int).toNat [] = flatT b from rfl] at hFKb
            obtain ⟨Ab, cb, rfl, hlb, hFb⟩ := Kd.FK_slice_open hFKb
            have yb : wr.cell? ⟨g, 1, none⟩ = some (.slice Ab (flatT b).length cb) := hccb 0 _ rfl
            have yb := clk yb
            have hVb := Kd.V_mk (e := 63) (base := w.heap.size) hlb hFb
            have Hb := Aside0.mk hVb
            have HIb := Aside0.mk (show ∀ (k : Int) (W : World), arB k = 0 → Below wr.heap.size wr W → Calls Try.prog 45 #[.slice Ab (flatT b).length cb, .int .i64 k] W fun e w' => e = .returned (.bool (isK b k)) ∧ Below W.heap.size W w' from fun k W hk hb => (spec_l5Is.calls Ab cb (flatT b) k (isK b k) W (Kd.C_below (Kd.V_reads' hVb).2.2 hb) hlb (is_is b wb k hk)).mono fun e w' h => ⟨h.1, h.2.below⟩)
            obtain ⟨ccc_, hclc_, hFKc_, hccc_, hfrc_⟩ := Kd.N_elem hNN [] (2 : Int) (by omega) (by omega)
            rw [show ([a, b, c_].map flatT).getD (2 : Int).toNat [] = flatT c_ from rfl] at hFKc_
            obtain ⟨Ac_, cc_, rfl, hlc_, hFc_⟩ := Kd.FK_slice_open hFKc_
            have yc_ : wr.cell? ⟨g, 2, none⟩ = some (.slice Ac_ (flatT c_).length cc_) := hccc_ 0 _ rfl
            have yc_ := clk yc_
            have hVc_ := Kd.V_mk (e := 63) (base := w.heap.size) hlc_ hFc_
            have Hc_ := Aside0.mk hVc_
            have HIc_ := Aside0.mk (show ∀ (k : Int) (W : World), arB k = 0 → Below wr.heap.size wr W → Calls Try.prog 45 #[.slice Ac_ (flatT c_).length cc_, .int .i64 k] W fun e w' => e = .returned (.bool (isK c_ k)) ∧ Below W.heap.size W w' from fun k W hk hb => (spec_l5Is.calls Ac_ cc_ (flatT c_) k (isK c_ k) W (Kd.C_below (Kd.V_reads' hVc_).2.2 hb) hlc_ (is_is c_ wc_ k hk)).mono fun e w' h => ⟨h.1, h.2.below⟩)
            simp only [flatTs, List.length_append, List.length_nil] at hsz
            obtain ⟨Ks, hKs⟩ := same_spec (flatT b) (flatT c_) (by omega)
            have HSbc_ := Aside0.mk (fun (W : World) (hb : Below wr.heap.size wr W) => (spec_l5Same.calls Ks Ab cb (flatT b) Ac_ cc_ (flatT c_) (sameN (flatT b) (flatT c_)) W (Kd.C_below (Kd.V_reads' hVb).2.2 hb) hlb (Kd.C_below (Kd.V_reads' hVc_).2.2 hb) hlc_ (hKs Ks (Nat.le_refl _))).mono fun e w' h => And.intro h.1 h.2.below)
            clear hKs hNN HNN hokn hFKa hcca hfra hcla hVa hFa hla hFKb hccb hfrb hclb hVb hFb hlb hFKc_ hccc_ hfrc_ hclc_ hVc_ hFc_ hlc_
            have hx0 : 0 < ks.length := by omega
            have hx1 : 1 < ks.length := by omega
            have hz0 : (0 : Int) < (ks.length : Int) := by omega
            have hz1 : (1 : Int) < (ks.length : Int) := by omega
            have hx2 : 2 < ks.length := by omega
            have hz2 : (2 : Int) < (ks.length : Int) := by omega
            clear ha0 hA hnl
            go_wp2_with fail
            refine (HIa.out 1 _ (by decide) kk).mono ?_
            rintro e U11 ⟨rfl, hb11⟩
            have k11 : K0 (Below wr.heap.size wr U11) := ⟨Below.trans (kk : Below wr.heap.size wr _) (hb11.mono (kk : Below wr.heap.size wr _).size)⟩
            clear hb11
            cases p1 : isK a 1
            case' true =>
              obtain rfl : L = flatT b := by rw [← hR, hks]; simp [normN, h16, p1]
              go_wp2
              go_ret
              exact ⟨_, rfl, Kd.V_mono (Kd.V_below Hb.out kk) (fun k hk => hk.1), kk⟩
            go_wp2_with fail
            refine (HIa.out 2 _ (by decide) kk).mono ?_
            rintro e U12 ⟨rfl, hb12⟩
            have k12 : K0 (Below wr.heap.size wr U12) := ⟨Below.trans (kk : Below wr.heap.size wr _) (hb12.mono (kk : Below wr.heap.size wr _).size)⟩
            clear hb12
            cases p2 : isK a 2
            case' true =>
              obtain rfl : L = flatT c_ := by rw [← hR, hks]; simp [normN, h16, p1, p2]
              go_wp2
              go_ret
              exact ⟨_, rfl, Kd.V_mono (Kd.V_below Hc_.out kk) (fun k hk => hk.1), kk⟩
            go_upto_region 23 with (fail)
            refine sq_region (S := fun W' => K0 (Below wr.heap.size wr W')) [(0, false), (1, false), (2, false), (3, false), (4, false), (5, false), (6, true)] (by kernel_rfl) (by kernel_rfl) (by exact inferInstance) (fun hS => ?_)
            repeat (first | (refine sq_n ?_ ?_ rfl ?_ ?_ ?_; rotate_left 2; (intro W hW; go_simp; first | done | with_reducible rfl); (simp only [List.setIfInBounds_toArray, List.set_cons_zero, List.set_cons_succ]; try rfl)) | (refine sq_g ?_ ?_ rfl rfl rfl ?_ ?_ ?_; rotate_left 2; (intro W hW; go_simp; first | done | with_reducible rfl); (simp only [List.setIfInBounds_toArray, List.set_cons_zero, List.set_cons_succ]; try rfl)) | (refine sq_f ?_ rfl rfl rfl ?_ ?_; rotate_left; (simp only [List.setIfInBounds_toArray, List.set_cons_zero, List.set_cons_succ]; try rfl)) | (refine sq_u ?_ rfl rfl rfl ?_ ?_; rotate_left; (simp only [List.setIfInBounds_toArray, List.set_cons_zero, List.set_cons_succ]; try rfl)))
            refine sq_1n rfl (fun hS K hK => ?_)
            go_simp
            go_at_call 46
            refine (HSbc_.out _ kk).mono ?_
            rintro e U13 ⟨rfl, hb13⟩
            have k13 : K0 (Below wr.heap.size wr U13) := ⟨Below.trans (kk : Below wr.heap.size wr _) (hb13.mono (kk : Below wr.heap.size wr _).size)⟩
            clear hb13
            refine hK.out _ _ k13 (fun hS => ?_)
            repeat (first | (refine sq_n ?_ ?_ rfl ?_ ?_ ?_; rotate_left 2; (intro W hW; go_simp; first | done | with_reducible rfl); (simp only [List.setIfInBounds_toArray, List.set_cons_zero, List.set_cons_succ]; try rfl)) | (refine sq_g ?_ ?_ rfl rfl rfl ?_ ?_ ?_; rotate_left 2; (intro W hW; go_simp; first | done | with_reducible rfl); (simp only [List.setIfInBounds_toArray, List.set_cons_zero, List.set_cons_succ]; try rfl)) | (refine sq_f ?_ rfl rfl rfl ?_ ?_; rotate_left; (simp only [List.setIfInBounds_toArray, List.set_cons_zero, List.set_cons_succ]; try rfl)) | (refine sq_u ?_ rfl rfl rfl ?_ ?_; rotate_left; (simp only [List.setIfInBounds_toArray, List.set_cons_zero, List.set_cons_succ]; try rfl)))
            refine sq_done (fun hS => ?_)
            cases z : sameN (flatT b) (flatT c_)
            case' true =>
              obtain rfl : L = flatT b := by rw [← hR, hks]; simp [normN, h16, p1, p2, z]
              go_wp2
              go_ret
              exact ⟨_, rfl, Kd.V_mono (Kd.V_below Hb.out kk) (fun k hk => hk.1), kk⟩
            case' false =>
              obtain rfl : L = flatT (.node n (normTs ks)) := by rw [← hR, hks]; simp [normN, h16, p1, p2, z]
              clear hks
              have HE := Aside0.mk (HEND.out _ _ (kk : Below wr.heap.size wr U13) rfl)
              have hjl := HJL.out
              have hkl3 := HK3.out
              clear HEND
              go_wp2_with (at_builtin; refine Kd.N_append (Kd.slice 63 k63) (w0 := w) w.heap.size rfl (.tmp 126) (.tmp 128) 76 26 (.slice none 0 0) 24 rfl Try.underlying76 info26_is rfl (by decide) (by omega) _ ((normTs ks).map flatT) [n] [.slice (some (ad.add (m * 7))) 1 (c - m)] (fun k_ => P k_ ∨ w.heap.size ≤ k_) (fun k => P k ∧ k < w.heap.size) rfl rfl HE.out.1 (fun k hk => ⟨.inl hk.1, fun e => by have := Kd.N_base HE.out.2.1 k e.symm; omega⟩) (fun k hk => .inr (by have := HE.out.2.2.size; omega)) HE.out.2.1 HE.out.2.2 HE.out.2.2.size (by omega) ?_; intro v7 w7 hN7 hb7 hg7 hat7; obtain ⟨A7, c7, rfl, hl7, hC7⟩ := Kd.N_reads hN7; obtain ⟨n7, hn7⟩ : ∃ n7, ((normTs ks).map flatT ++ [[n]]).length = n7 := ⟨_, rfl⟩; rw [hn7] at hl7 hC7 ⊢; have HN7 := Aside0.mk hn7; have HG := Aside0.mk (And.intro hl7 (And.intro hC7 hb7)); clear hn7 hN7 hl7 hC7 hb7 hg7 hat7)
              obtain ⟨Kj, hKj⟩ := join_is ((normTs ks).map flatT ++ [[n]]) (by rw [List.length_append, List.length_singleton]; omega) (by rw [List.flatten_append, flatTs_map]; simp; omega)
              have hjf : ((normTs ks).map flatT ++ [[n]]).flatten = flatT (.node n (normTs ks)) := by rw [List.flatten_append, flatTs_map]; simp [flatT]
              rw [hjf] at hKj
              have HJ := Aside0.mk (spec_l5Join.calls Kj A7 c7 ((normTs ks).map flatT ++ [[n]]) _ w7 (by rw [HN7.out]; exact HG.out.2.1) (by rw [HN7.out]; exact HG.out.1) (hKj Kj (Nat.le_refl _)))
              rw [HN7.out] at HJ
              clear hKj
              refine HJ.out.mono ?_
              rintro e w8 ⟨v8, rfl, hR8, hb8⟩
              have k8 : K0 (Below w.heap.size w w8) := ⟨HG.out.2.2.trans (hb8.mono HG.out.2.2.size)⟩
              have hs7 := HG.out.2.2.size
              obtain ⟨A8, c8, rfl, hl8, hC8⟩ := Kd.R_reads hR8
              have HV8 := Aside0.mk (Kd.V_mono (Kd.V_mk (e := 63) (base := w.heap.size) hl8 (Kd.R_F (Kd.R_bound hR8))) (ok' := fun b => P b ∨ w.heap.size ≤ b) (fun k hk => .inr (by have := hk.2.1; omega)))
              clear hR8 hb8 hC8 hl8 HJ
              go_wp2
              go_ret
              exact ⟨_, rfl, HV8.out, kk⟩
          · have d14 : (n.f0 == 14) = false := beq_eq_false_iff_ne.mpr h14
            have d15 : (n.f0 == 15) = false := beq_eq_false_iff_ne.mpr h15
            have d16 : (n.f0 == 16) = false := beq_eq_false_iff_ne.mpr h16
            obtain rfl : L = flatT (.node n (normTs ks)) := by rw [← hR]; simp [normN, h14, h15, h16]
            clear hks
            have HE := Aside0.mk (HEND.out _ _ (kk : Below wr.heap.size wr W0) rfl)
            have hjl := HJL.out
            have hkl3 := HK3.out
            clear HEND
            go_wp2_with (at_builtin; refine Kd.N_append (Kd.slice 63 k63) (w0 := w) w.heap.size rfl (.tmp 126) (.tmp 128) 76 26 (.slice none 0 0) 24 rfl Try.underlying76 info26_is rfl (by decide) (by omega) _ ((normTs ks).map flatT) [n] [.slice (some (ad.add (m * 7))) 1 (c - m)] (fun k_ => P k_ ∨ w.heap.size ≤ k_) (fun k => P k ∧ k < w.heap.size) rfl rfl HE.out.1 (fun k hk => ⟨.inl hk.1, fun e => by have := Kd.N_base HE.out.2.1 k e.symm; omega⟩) (fun k hk => .inr (by have := HE.out.2.2.size; omega)) HE.out.2.1 HE.out.2.2 HE.out.2.2.size (by omega) ?_; intro v7 w7 hN7 hb7 hg7 hat7; obtain ⟨A7, c7, rfl, hl7, hC7⟩ := Kd.N_reads hN7; obtain ⟨n7, hn7⟩ : ∃ n7, ((normTs ks).map flatT ++ [[n]]).length = n7 := ⟨_, rfl⟩; rw [hn7] at hl7 hC7 ⊢; have HN7 := Aside0.mk hn7; have HG := Aside0.mk (And.intro hl7 (And.intro hC7 hb7)); clear hn7 hN7 hl7 hC7 hb7 hg7 hat7)
            obtain ⟨Kj, hKj⟩ := join_is ((normTs ks).map flatT ++ [[n]]) (by rw [List.length_append, List.length_singleton]; omega) (by rw [List.flatten_append, flatTs_map]; simp; omega)
            have hjf : ((normTs ks).map flatT ++ [[n]]).flatten = flatT (.node n (normTs ks)) := by rw [List.flatten_append, flatTs_map]; simp [flatT]
            rw [hjf] at hKj
            have HJ := Aside0.mk (spec_l5Join.calls Kj A7 c7 ((normTs ks).map flatT ++ [[n]]) _ w7 (by rw [HN7.out]; exact HG.out.2.1) (by rw [HN7.out]; exact HG.out.1) (hKj Kj (Nat.le_refl _)))
            rw [HN7.out] at HJ
            clear hKj
            refine HJ.out.mono ?_
            rintro e w8 ⟨v8, rfl, hR8, hb8⟩
            have k8 : K0 (Below w.heap.size w w8) := ⟨HG.out.2.2.trans (hb8.mono HG.out.2.2.size)⟩
            have hs7 := HG.out.2.2.size
            obtain ⟨A8, c8, rfl, hl8, hC8⟩ := Kd.R_reads hR8
            have HV8 := Aside0.mk (Kd.V_mono (Kd.V_mk (e := 63) (base := w.heap.size) hl8 (Kd.R_F (Kd.R_bound hR8))) (ok' := fun b => P b ∨ w.heap.size ≤ b) (fun k hk => .inr (by have := hk.2.1; omega)))
            clear hR8 hb8 hC8 hl8 HJ
            go_wp2
            go_ret
            exact ⟨_, rfl, HV8.out, kk⟩
end Go.Proofs.Ytpfehkkfakofaaa.Q

namespace Go.Proofs.Ytpfehkkfakofaaa.Q
open Go.RowKit Go.Proofs.YtpfehkkfakofaaaW.PrintWords Go.Proofs.YtpfehkkfakofaaaW.PrintLast Go.Proofs.YtpfehkkfakofaaaW.PrintMore
set_option linter.unusedVariables false
set_option linter.unusedSimpArgs false
theorem info63_is : (Try.prog.info? 63).map (fun i => (i.zero, i.size, i.bytes)) = some (some (.agg #[(.int .i64 0), (.string ⟨#[]⟩), (.bool false), (.string ⟨#[]⟩), (.int .u64 0), (.int .u64 0), (.int .i64 0)]), 7, 72) := by kernel_rfl
set_option maxHeartbeats 8000000 in
set_option maxRecDepth 100000 in
theorem normal_spec (A : Option Addr) (c : Nat) (ns : List S63) (w : World) (hr : Kd.C k63 w A ns.length ns) (hc : ns.length ≤ c) :
    Calls Try.prog 6 #[.agg #[.slice A ns.length c]] w fun e w' => ∃ v0_ : Value, e = .returned (.agg #[v0_]) ∧ Kd.R k63 63 w' w.heap.size (fun _ => True) v0_ (normOf ns) ∧ Below w.heap.size w w' := by
  have kx : K0 (w.heap.size ≤ w.heap.size) := ⟨Nat.le_refl _⟩
  have kr : K0 (Below w.heap.size w w) := ⟨Below.refl _ _⟩
  have hB : Below w.heap.size w ((w.alloc (.cells #[.slice A ns.length c] 28)).alloc (.cells #[.slice none 0 0] 28)) := kk
  have hr2 := Kd.C_below hr hB
  have hn := new1 w (.cells #[.slice A ns.length c] 28) (.cells #[.slice none 0 0] 28)
  have hx : ((w.alloc (.cells #[.slice A ns.length c] 28)).alloc (.cells #[.slice none 0 0] 28)).heap[w.heap.size]? = some (.cells #[.slice A ns.length c] 28 (0, 0)) := by
    rw [heap_alloc_old _ _ (by rw [sz_al]; omega)]; exact heap_alloc_new _ _
  obtain ⟨K, hK⟩ := spec_filter_is ns
  have HV := Aside0.mk (spec_ValidFilter.calls K A c ns (validT ns).isSome _ hr2 hc (hK K (Nat.le_refl _)))
  have HVT := Aside0.mk (fun t => validT_some (ns := ns) (t := t))
  have HR := Aside0.mk (And.intro hr hc)
  have hu28 := Try.underlying28
  obtain ⟨R, hR⟩ : ∃ R, normOf ns = R := ⟨_, rfl⟩
  rw [hR]
  clear hr hr2 hc hK
  go_enter Try.func6, Try.ntmps6
  go_wp2_with fail
  refine HV.out.mono ?_
  generalize (w.alloc (.cells #[.slice A ns.length c] 28)).alloc (.cells #[.slice none 0 0] 28) = wb at *
  rintro e W2 ⟨rfl, hb⟩
  have hl : w.heap.size + 1 < wb.heap.size := (Array.getElem?_eq_some_iff.mp hn).1
  have k2 : K0 (Below w.heap.size w W2) := ⟨hB.trans (hb.mono hB.size)⟩
  have h2 : W2.heap[w.heap.size + 1]? = some (.cells #[.slice none 0 0] 28 (0, 0)) := (hb.block _ hl).trans hn
  have h1 : W2.heap[w.heap.size]? = some (.cells #[.slice A ns.length c] 28 (0, 0)) := (hb.block _ (by omega)).trans hx
  clear HV kr
  cases hv : validT ns with
  | none =>
    have c2 := bk_cell h2
    have f2 := bk_fr h2 0
    obtain rfl : R = [] := by rw [← hR]; unfold normOf; rw [hv]
    have kg : K0 (w.heap.size ≤ w.heap.size + 1) := ⟨by omega⟩
    rw [Option.isSome_none]
    clear hb hn hx h1
    go_wp2_with fail
    refine bodyPost_ret (results_cell_row rfl _ _ (w.heap.size + 1) 28 _ (0, 0) _ rfl (bk_put h2 _) hu28 rfl (by kernel_rfl)) rfl ⟨_, rfl, ?_, kk⟩
    exact Kd.R_nil _ _ _ _ _
  | some t =>
    obtain ⟨hw, hf, hl2, hok⟩ := HVT.out t hv
    obtain rfl : R = flatT (normT t) := by rw [← hR]; unfold normOf; rw [hv]
    clear hR
    rw [Option.isSome_some]
    have hnw := normT_wf t hw
    have HLE := Aside0.mk (show (flatT (normT t)).length ≤ 1000 from by have := hnw.2; rw [hf] at this; omega)
    have H2 := Aside0.mk h2
    have HB2 := Aside0.mk k2.out
    have hs2 := hb.size
    have HL := Aside0.mk (show w.heap.size + 1 < W2.heap.size from by omega)
    have c1 := clk (bk_cell h1)
    have kt : K0 (Below W2.heap.size W2 W2) := ⟨Below.refl _ _⟩
    have hC2 := Kd.C_below HR.out.1 k2.out
    have hB5 : Below w.heap.size w (W2.alloc (.cells #[] 63)) := kk
    have hV5 : Kd.V k63 63 (W2.alloc (.cells #[] 63)) (W2.alloc (.cells #[] 63)).heap.size (fun k => k < (W2.alloc (.cells #[] 63)).heap.size) (.slice A (flatT t).length c) (flatT t) := by
      rw [hf]; exact Kd.V_mk HR.out.2 (Kd.C_F k63_heap (Kd.C_alloc hC2 _))
    have HN := Aside0.mk (specN_call 1000 t _ A c _ (by rw [hf]; omega) (Nat.le_refl _) hw (by rw [hf]; exact hok) hV5)
    rw [hf] at HN
    have HO := Aside0.mk (show Kd.R k63 63 (W2.alloc (.cells #[] 63)) W2.heap.size (fun _ => True) (.slice (some ⟨W2.heap.size, 0, none⟩) 0 0) [] from ⟨fun _ _ => trivial, [], ⟨rfl, .inr ⟨W2.heap.size, 0, _, rfl, Nat.le_refl _, heap_alloc_new _ _, Nat.le_refl _, by decide, rfl, rfl⟩⟩, by constructor <;> simp⟩)
    clear hb hn hx h1 hnw hok hw h2 HVT hV5 hC2 k2 hf HR
    have HSZ := Aside0.mk (sz_al W2 (.cells #[] 63))
    have HBA := Aside0.mk (show Below W2.heap.size W2 (W2.alloc (.cells #[] 63)) from kk)
    have HB5 := Aside0.mk hB5
    go_wp2_with fail
    refine HN.out.mono ?_
    generalize W2.alloc (.cells #[] 63) = W5 at *
    rintro e W3 ⟨v3, rfl, hV3, hb3⟩
    obtain ⟨A6, c6, rfl⟩ := Kd.V_slice hV3
    have HC6 := Aside0.mk (Kd.V_reads' hV3).2.2
    have HO3 := Aside0.mk (Kd.R_below HO.out hb3)
    have HB3 := Aside0.mk (HBA.out.trans (hb3.mono HBA.out.size))
    clear hV3 hb3 HO HN c1 kt HBA HSZ hB5
    have LE := HLE.out
    go_wp2_with (at_builtin; refine Kd.R_append_rows k63 (w0 := W2) W2.heap.size rfl (.tmp 7) (.tmp 10) 26 63 (.agg #[(.int .i64 0), (.string ⟨#[]⟩), (.bool false), (.string ⟨#[]⟩), (.int .u64 0), (.int .u64 0), (.int .i64 0)]) 72 rfl Try.underlying26 info63_is rfl (by decide) (by omega) _ [] (flatT (normT t)) A6 (flatT (normT t)).length c6 (fun _ => True) (fun _ => False) rfl rfl HO3.out HC6.out (fun _ _ h => h) (fun _ h => h.elim) (fun _ _ => trivial) HB3.out HB3.out.size (by simp; omega) ?_; intro v5 w5 ho hb hg5 hat; rw [List.nil_append] at ho; obtain ⟨A7, c7, rfl⟩ := Kd.R_slice ho; have h5 := (hb.block _ HL.out).trans H2.out; have c5 := bk_cell h5; have f5 := bk_fr h5 0; have H5 := Aside0.mk h5; have HG := Aside0.mk (And.intro ho hb); clear ho hb hg5 hat h5)
    have k5 : K0 (Below w.heap.size w w5) := ⟨HB2.out.trans (HG.out.2.mono HB2.out.size)⟩
    have kg : K0 (w.heap.size ≤ w.heap.size + 1) := ⟨by omega⟩
    refine bodyPost_ret (results_cell_row rfl _ _ (w.heap.size + 1) 28 _ (0, 0) _ rfl (bk_put H5.out _) hu28 rfl (by kernel_rfl)) rfl ⟨_, rfl, ?_, kk⟩
    exact Kd.R_mono (Kd.R_lower (Kd.R_far (Kd.R_bound HG.out.1) (p := ⟨w.heap.size + 1, 0, none⟩) (fun k hk => by have h5 := hk.2.1; have h6 := HL.out; show k ≠ w.heap.size + 1; omega) _) HB2.out.size) (fun _ _ => trivial)
end Go.Proofs.Ytpfehkkfakofaaa.Q

namespace Go.Proofs.Ytpfehkkfakofaaa.Q
open Go.RowKit Go.Proofs.YtpfehkkfakofaaaW.PrintWords Go.Proofs.YtpfehkkfakofaaaW.PrintLast Go.Proofs.YtpfehkkfakofaaaW.PrintMore
noncomputable def impl_Normal.f (l0_0 : List S63) : Option (List S63) := some (normOf l0_0)
theorem impl_Normal.calls (A0_0 : Option Addr) (c0_0 : Nat) (l0_0 : List (S63)) (r : List (S63)) (w : World) (hr0_0 : Kd.C k63 w A0_0 l0_0.length l0_0) (hc0_0 : l0_0.length ≤ c0_0) (h : impl_Normal.f l0_0 = some r) :
    Calls Try.prog 8 #[.agg #[.slice A0_0 l0_0.length c0_0]] w fun e w' => ∃ v0_ : Value, e = .returned (.agg #[v0_]) ∧ Kd.R k63 63 w' w.heap.size (fun _ => True) v0_ r ∧ Below w.heap.size w w' := by
  obtain rfl := Option.some.inj h
  exact normal_impl A0_0 c0_0 l0_0 w hr0_0 hc0_0
noncomputable def spec_Normal.f (l0_0 : List S63) : Option (List S63) := some (normOf l0_0)
theorem spec_Normal.calls (A0_0 : Option Addr) (c0_0 : Nat) (l0_0 : List (S63)) (r : List (S63)) (w : World) (hr0_0 : Kd.C k63 w A0_0 l0_0.length l0_0) (hc0_0 : l0_0.length ≤ c0_0) (h : spec_Normal.f l0_0 = some r) :
    Calls Try.prog 6 #[.agg #[.slice A0_0 l0_0.length c0_0]] w fun e w' => ∃ v0_ : Value, e = .returned (.agg #[v0_]) ∧ Kd.R k63 63 w' w.heap.size (fun _ => True) v0_ r ∧ Below w.heap.size w w' := by
  obtain rfl := Option.some.inj h
  exact normal_spec A0_0 c0_0 l0_0 w hr0_0 hc0_0
end Go.Proofs.Ytpfehkkfakofaaa.Q

namespace Go.Proofs.Ytpfehkkfakofaaa.Q
open Go.RowKit Go.Proofs.YtpfehkkfakofaaaW.PrintWords Go.Proofs.YtpfehkkfakofaaaW.PrintLast Go.Proofs.YtpfehkkfakofaaaW.PrintMore
set_option linter.unusedVariables false
set_option linter.unusedSimpArgs false

/-! ### laws_FnExactNormal: function 3 -/
noncomputable def laws_FnExactNormal.j0 : Nat → Bool → List (S72) → List (S63) → List (S63) → Option (Bool)
 | 0, _, _, _, _ => none
 | k + 1, x42, x300000, x308000, x316000 => if x42 = true then (some false) else ((laws_markFilter.f k x316000 1).bind fun bt324 => ((laws_heldFilter.f k bt324.2 1).bind fun t326 => (if t326 < 0 then (some false) else (if t326 = bt324.1 then ((laws_toFilter.f k x300000).bind fun t327 => ((impl_Normal.f t327).bind fun t330 => ((laws_eqFilter.f k t330 x308000).bind fun t334 => (if t334 = true then (some true) else (some false))))) else (some false)))))
noncomputable def laws_FnExactNormal.f (k : Nat) (l0_0 : List (S72)) : Option (Bool) := (laws_szFilter.f k l0_0 1048576).bind fun t300 => (if t300 < 0 then (some true) else ((laws_toFilter.f k l0_0).bind fun t301 => ((spec_Normal.f t301).bind fun t304 => ((laws_toFilter.f k l0_0).bind fun t308 => ((impl_Normal.f t308).bind fun t312 => ((laws_eqFilter.f k t312 t304).bind fun t316 => (if t316 = true then ((laws_toFilter.f k l0_0).bind fun t317 => ((laws_eqFilter.f k t308 t317).bind fun t320 => (if t320 = true then ((laws_markFilter.f k t308 1).bind fun bt321 => (if bt321.1 < 0 then (laws_FnExactNormal.j0 k true l0_0 t304 t312) else ((laws_eqFilter.f k t312 t304).bind fun t323 => (laws_FnExactNormal.j0 k (!t323) l0_0 t304 t312)))) else (some false)))) else (some false))))))))
set_option maxHeartbeats 8000000 in
set_option maxRecDepth 100000 in
theorem laws_FnExactNormal.calls (k : Nat) (A0_0 : Option Addr) (c0_0 : Nat) (l0_0 : List (S72)) (r : Bool) (w : World) (hr0_0 : Kd.C k72 w A0_0 l0_0.length l0_0) (hc0_0 : l0_0.length ≤ c0_0) (h : laws_FnExactNormal.f k l0_0 = some r) :
  Calls Try.prog 3 #[.agg #[.slice A0_0 l0_0.length c0_0]] w fun e w' => e = .returned (.bool r) ∧ Below w.heap.size w w' := by
 have hu24 := Try.underlying24
 have hu28 := Try.underlying28
 have HR0_0 := Aside0.mk hr0_0
 have HC0_0 := Aside0.mk hc0_0
 clear hr0_0 hc0_0
 have HB := Aside0.mk (Below.refl w.heap.size w)
 have H : ((laws_szFilter.f k l0_0 1048576).bind fun t300 => (if t300 < 0 then (some true) else ((laws_toFilter.f k l0_0).bind fun t301 => ((spec_Normal.f t301).bind fun t304 => ((laws_toFilter.f k l0_0).bind fun t308 => ((impl_Normal.f t308).bind fun t312 => ((laws_eqFilter.f k t312 t304).bind fun t316 => (if t316 = true then ((laws_toFilter.f k l0_0).bind fun t317 => ((laws_eqFilter.f k t308 t317).bind fun t320 => (if t320 = true then ((laws_markFilter.f k t308 1).bind fun bt321 => (if bt321.1 < 0 then (laws_FnExactNormal.j0 k true l0_0 t304 t312) else ((laws_eqFilter.f k t312 t304).bind fun t323 => (laws_FnExactNormal.j0 k (!t323) l0_0 t304 t312)))) else (some false)))) else (some false))))))))) = some r := h
 clear h
 replace H := Option.bind_eq_some_iff.mp H
 obtain ⟨t300, A20, H⟩ := H
 replace H : (if t300 < 0 then (some true) else ((laws_toFilter.f k l0_0).bind fun t301 => ((spec_Normal.f t301).bind fun t304 => ((laws_toFilter.f k l0_0).bind fun t308 => ((impl_Normal.f t308).bind fun t312 => ((laws_eqFilter.f k t312 t304).bind fun t316 => (if t316 = true then ((laws_toFilter.f k l0_0).bind fun t317 => ((laws_eqFilter.f k t308 t317).bind fun t320 => (if t320 = true then ((laws_markFilter.f k t308 1).bind fun bt321 => (if bt321.1 < 0 then (laws_FnExactNormal.j0 k true l0_0 t304 t312) else ((laws_eqFilter.f k t312 t304).bind fun t323 => (laws_FnExactNormal.j0 k (!t323) l0_0 t304 t312)))) else (some false)))) else (some false)))))))) = some r := H
 have A2 := Aside0.mk A20
 clear A20
 by_cases c3 : t300 < 0
 ·rw [if_pos c3] at H
  have c3b0 : decide (t300 < 0) = true := decide_eq_true c3
  clear c3
  obtain rfl := Option.some.inj H
  go_enter Try.func3, Try.ntmps3
  go_wp2_with (first | ((with_reducible refine gate_dst (N := 1) rfl ?_); refine box_event ?hg (N := 1) ?hd (cs := #[.slice A0_0 l0_0.length c0_0]) (t := 24) ?hr ?_; (case hd => rfl); (case hg => rfl); (case hr => first | (go_simp; done) | (go_simp; rfl)); intro gb299 hg w4 hbox hb; have n0_ := Aside0.mk (below_step bw hb); have n1_ := Aside0.mk (hbox); have n2_ := Aside0.mk ((by rw [hg]; exact (below_size bw) : w.heap.size ≤ gb299)); have n3_ := Aside0.mk ((by rw [hg]; exact (below_size bw) : w.heap.size ≤ gb299)); clear HB; have HB := n0_; have BK299 := n1_; have GW299 := n2_; have GE299 := n3_; clear n0_ n1_ n2_ n3_; clear hb hbox hg; have hcz5_0 : w4.cell? ⟨gb299, 0, none⟩ = some (.slice A0_0 l0_0.length c0_0) := (blk_cell BK299.out 0).trans rfl; have hfz5_0 := blk_frozen BK299.out 0) | ((with_reducible refine at_fn (f := 5) rfl ?_); refine goesL_ (some 13) rfl rfl Try.func5 (by kernel_rfl) rfl #[.agg #[.slice A0_0 l0_0.length c0_0], .int .i64 1048576] rfl (by (try simp only [List.map_toArray, List.map_cons, List.map_nil]); first | done | rfl | (simp only [List.length_drop, List.length_take]; rfl)) ?_; (with_reducible refine (laws_szFilter.calls k _ _ l0_0 1048576 t300 _ ?side1 ?side2 A2.out).mono ?_); (case side1 => repeat (first | exact (Kd.C_below HR0_0.out HB.out) | (with_reducible refine Kd.C_alloc ?_ _) | (with_reducible refine Kd.C_drewN ?_ _) | (with_reducible refine Kd.C_drew ?_))); (case side2 => exact HC0_0.out); rintro e w6 ⟨rfl, hb⟩; refine ⟨_, rfl, ?_⟩; have n0_ := Aside0.mk (blk_below (g := gb299) (o := .cells #[.slice A0_0 l0_0.length c0_0] 24 (0, 0)) (lb BK299) hb); have n1_ := Aside0.mk (below_step bw hb); clear BK299; clear HB; have BK299 := n0_; have HB := n1_; clear n0_ n1_; (try clear hb); (try clear hb2); (try clear hk); (try clear hi)))
  go_ret
  exact ⟨by first | rfl | (simp [errW_none, errW_some] <;> rfl) | (simp [*, errW_none, errW_some] <;> rfl), bw⟩
 ·rw [if_neg c3] at H
  have c3b0 : decide (t300 < 0) = false := decide_eq_false c3
  clear c3
  replace H := Option.bind_eq_some_iff.mp H
  obtain ⟨t301, A70, H⟩ := H
  replace H : ((spec_Normal.f t301).bind fun t304 => ((laws_toFilter.f k l0_0).bind fun t308 => ((impl_Normal.f t308).bind fun t312 => ((laws_eqFilter.f k t312 t304).bind fun t316 => (if t316 = true then ((laws_toFilter.f k l0_0).bind fun t317 => ((laws_eqFilter.f k t308 t317).bind fun t320 => (if t320 = true then ((laws_markFilter.f k t308 1).bind fun bt321 => (if bt321.1 < 0 then (laws_FnExactNormal.j0 k true l0_0 t304 t312) else ((laws_eqFilter.f k t312 t304).bind fun t323 => (laws_FnExactNormal.j0 k (!t323) l0_0 t304 t312)))) else (some false)))) else (some false)))))) = some r := H
  have A7 := Aside0.mk A70
  clear A70
  replace H := Option.bind_eq_some_iff.mp H
  obtain ⟨t304, A80, H⟩ := H
  replace H : ((laws_toFilter.f k l0_0).bind fun t308 => ((impl_Normal.f t308).bind fun t312 => ((laws_eqFilter.f k t312 t304).bind fun t316 => (if t316 = true then ((laws_toFilter.f k l0_0).bind fun t317 => ((laws_eqFilter.f k t308 t317).bind fun t320 => (if t320 = true then ((laws_markFilter.f k t308 1).bind fun bt321 => (if bt321.1 < 0 then (laws_FnExactNormal.j0 k true l0_0 t304 t312) else ((laws_eqFilter.f k t312 t304).bind fun t323 => (laws_FnExactNormal.j0 k (!t323) l0_0 t304 t312)))) else (some false)))) else (some false))))) = some r := H
  have A8 := Aside0.mk A80
  clear A80
  replace H := Option.bind_eq_some_iff.mp H
  obtain ⟨t308, A90, H⟩ := H
  replace H : ((impl_Normal.f t308).bind fun t312 => ((laws_eqFilter.f k t312 t304).bind fun t316 => (if t316 = true then ((laws_toFilter.f k l0_0).bind fun t317 => ((laws_eqFilter.f k t308 t317).bind fun t320 => (if t320 = true then ((laws_markFilter.f k t308 1).bind fun bt321 => (if bt321.1 < 0 then (laws_FnExactNormal.j0 k true l0_0 t304 t312) else ((laws_eqFilter.f k t312 t304).bind fun t323 => (laws_FnExactNormal.j0 k (!t323) l0_0 t304 t312)))) else (some false)))) else (some false)))) = some r := H
  have A9 := Aside0.mk A90
  clear A90
  replace H := Option.bind_eq_some_iff.mp H
  obtain ⟨t312, A100, H⟩ := H
  replace H : ((laws_eqFilter.f k t312 t304).bind fun t316 => (if t316 = true then ((laws_toFilter.f k l0_0).bind fun t317 => ((laws_eqFilter.f k t308 t317).bind fun t320 => (if t320 = true then ((laws_markFilter.f k t308 1).bind fun bt321 => (if bt321.1 < 0 then (laws_FnExactNormal.j0 k true l0_0 t304 t312) else ((laws_eqFilter.f k t312 t304).bind fun t323 => (laws_FnExactNormal.j0 k (!t323) l0_0 t304 t312)))) else (some false)))) else (some false))) = some r := H
  have A10 := Aside0.mk A100
  clear A100
  replace H := Option.bind_eq_some_iff.mp H
  obtain ⟨t316, A110, H⟩ := H
  replace H : (if t316 = true then ((laws_toFilter.f k l0_0).bind fun t317 => ((laws_eqFilter.f k t308 t317).bind fun t320 => (if t320 = true then ((laws_markFilter.f k t308 1).bind fun bt321 => (if bt321.1 < 0 then (laws_FnExactNormal.j0 k true l0_0 t304 t312) else ((laws_eqFilter.f k t312 t304).bind fun t323 => (laws_FnExactNormal.j0 k (!t323) l0_0 t304 t312)))) else (some false)))) else (some false)) = some r := H
  have A11 := Aside0.mk A110
  clear A110
  by_cases c12 : t316 = true
  ·subst c12
   have H1 : ((laws_toFilter.f k l0_0).bind fun t317 => ((laws_eqFilter.f k t308 t317).bind fun t320 => (if t320 = true then ((laws_markFilter.f k t308 1).bind fun bt321 => (if bt321.1 < 0 then (laws_FnExactNormal.j0 k true l0_0 t304 t312) else ((laws_eqFilter.f k t312 t304).bind fun t323 => (laws_FnExactNormal.j0 k (!t323) l0_0 t304 t312)))) else (some false)))) = some r := by rw [if_pos rfl] at H; exact H
   clear H
   have H := H1
   clear H1
   replace H := Option.bind_eq_some_iff.mp H
   obtain ⟨t317, A130, H⟩ := H
   replace H : ((laws_eqFilter.f k t308 t317).bind fun t320 => (if t320 = true then ((laws_markFilter.f k t308 1).bind fun bt321 => (if bt321.1 < 0 then (laws_FnExactNormal.j0 k true l0_0 t304 t312) else ((laws_eqFilter.f k t312 t304).bind fun t323 => (laws_FnExactNormal.j0 k (!t323) l0_0 t304 t312)))) else (some false))) = some r := H
   have A13 := Aside0.mk A130
   clear A130
   replace H := Option.bind_eq_some_iff.mp H
   obtain ⟨t320, A140, H⟩ := H
   replace H : (if t320 = true then ((laws_markFilter.f k t308 1).bind fun bt321 => (if bt321.1 < 0 then (laws_FnExactNormal.j0 k true l0_0 t304 t312) else ((laws_eqFilter.f k t312 t304).bind fun t323 => (laws_FnExactNormal.j0 k (!t323) l0_0 t304 t312)))) else (some false)) = some r := H
   have A14 := Aside0.mk A140
   clear A140
   by_cases c15 : t320 = true
   ·subst c15
    have H1 : ((laws_markFilter.f k t308 1).bind fun bt321 => (if bt321.1 < 0 then (laws_FnExactNormal.j0 k true l0_0 t304 t312) else ((laws_eqFilter.f k t312 t304).bind fun t323 => (laws_FnExactNormal.j0 k (!t323) l0_0 t304 t312)))) = some r := by rw [if_pos rfl] at H; exact H
    clear H
    have H := H1
    clear H1
    replace H := Option.bind_eq_some_iff.mp H
    obtain ⟨⟨t321, t322⟩, A160, H⟩ := H
    replace H : (if t321 < 0 then (laws_FnExactNormal.j0 k true l0_0 t304 t312) else ((laws_eqFilter.f k t312 t304).bind fun t323 => (laws_FnExactNormal.j0 k (!t323) l0_0 t304 t312))) = some r := H
    have A16 := Aside0.mk A160
    clear A160
    have HC17 := Aside0.mk H
    clear H
    go_enter Try.func3, Try.ntmps3
    try go_wp2_with (first | ((with_reducible refine gate_dst (N := 1) rfl ?_); refine box_event ?hg (N := 1) ?hd (cs := #[.slice A0_0 l0_0.length c0_0]) (t := 24) ?hr ?_; (case hd => rfl); (case hg => rfl); (case hr => first | (go_simp; done) | (go_simp; rfl)); intro gb299 hg w18 hbox hb; have n0_ := Aside0.mk (below_step bw hb); have n1_ := Aside0.mk (hbox); have n2_ := Aside0.mk ((by rw [hg]; exact (below_size bw) : w.heap.size ≤ gb299)); have n3_ := Aside0.mk ((by rw [hg]; exact (below_size bw) : w.heap.size ≤ gb299)); clear HB; have HB := n0_; have BK299 := n1_; have GW299 := n2_; have GE299 := n3_; clear n0_ n1_ n2_ n3_; clear hb hbox hg; have hcz19_0 : w18.cell? ⟨gb299, 0, none⟩ = some (.slice A0_0 l0_0.length c0_0) := (blk_cell BK299.out 0).trans rfl; have hfz19_0 := blk_frozen BK299.out 0) | ((with_reducible refine at_fn (f := 5) rfl ?_); refine goesL_ (some 13) rfl rfl Try.func5 (by kernel_rfl) rfl #[.agg #[.slice A0_0 l0_0.length c0_0], .int .i64 1048576] rfl (by (try simp only [List.map_toArray, List.map_cons, List.map_nil]); first | done | rfl | (simp only [List.length_drop, List.length_take]; rfl)) ?_; (with_reducible refine (laws_szFilter.calls k _ _ l0_0 1048576 t300 _ ?side1 ?side2 A2.out).mono ?_); (case side1 => repeat (first | exact (Kd.C_below HR0_0.out HB.out) | (with_reducible refine Kd.C_alloc ?_ _) | (with_reducible refine Kd.C_drewN ?_ _) | (with_reducible refine Kd.C_drew ?_))); (case side2 => exact HC0_0.out); rintro e w20 ⟨rfl, hb⟩; refine ⟨_, rfl, ?_⟩; have n0_ := Aside0.mk (blk_below (g := gb299) (o := .cells #[.slice A0_0 l0_0.length c0_0] 24 (0, 0)) (lb BK299) hb); have n1_ := Aside0.mk (below_step bw hb); clear BK299; clear HB; have BK299 := n0_; have HB := n1_; clear n0_ n1_; (try clear hb); (try clear hb2); (try clear hk); (try clear hi); have hcz21_0 : w20.cell? ⟨gb299, 0, none⟩ = some (.slice A0_0 l0_0.length c0_0) := (blk_cell BK299.out 0).trans rfl; have hfz21_0 := blk_frozen BK299.out 0) | ((with_reducible refine at_fn (f := 7) rfl ?_); refine goesL_ (some 17) rfl rfl Try.func7 (by kernel_rfl) rfl #[.agg #[.slice A0_0 l0_0.length c0_0]] rfl (by (try simp only [List.map_toArray, List.map_cons, List.map_nil]); first | done | rfl | (simp only [List.length_drop, List.length_take]; rfl)) ?_; (with_reducible refine (laws_toFilter.calls k _ _ l0_0 t301 _ ?side1 ?side2 A7.out).mono ?_); (case side1 => repeat (first | exact (Kd.C_below HR0_0.out HB.out) | (with_reducible refine Kd.C_alloc ?_ _) | (with_reducible refine Kd.C_drewN ?_ _) | (with_reducible refine Kd.C_drew ?_))); (case side2 => exact HC0_0.out); rintro e w22 ⟨v302, rfl, ho0, hb⟩; refine ⟨_, rfl, ?_⟩; have n0_ := Aside0.mk (Kd.R_lower ho0 (below_size bw)); have n1_ := Aside0.mk (blk_below (g := gb299) (o := .cells #[.slice A0_0 l0_0.length c0_0] 24 (0, 0)) (lb BK299) hb); have n2_ := Aside0.mk (below_step bw hb); clear BK299; clear HB; have HO303 := n0_; have BK299 := n1_; have HB := n2_; clear n0_ n1_ n2_; (try clear hb); (try clear hb2); (try clear hk); (try clear hi); (try clear ho0); obtain ⟨Ao23, co23, eo23⟩ := Kd.R_slice HO303.out; subst eo23) | ((with_reducible refine at_fn (f := 6) rfl ?_); refine goesL_ (some 18) rfl rfl Try.func6 (by kernel_rfl) rfl #[.agg #[.slice Ao23 t301.length co23]] rfl (by (try simp only [List.map_toArray, List.map_cons, List.map_nil]); first | done | rfl | (simp only [List.length_drop, List.length_take]; rfl)) ?_; (with_reducible refine (spec_Normal.calls _ _ t301 t304 _ ?side1 ?side2 A8.out).mono ?_); (case side1 => repeat (first | exact (Kd.R_reads' HO303.out).2.2 | (with_reducible refine Kd.C_alloc ?_ _) | (with_reducible refine Kd.C_drewN ?_ _) | (with_reducible refine Kd.C_drew ?_))); (case side2 => exact (Kd.R_reads' HO303.out).2.1); rintro e w24 ⟨v305, rfl, ho0, hb⟩; refine ⟨_, rfl, ?_⟩; have n0_ := Aside0.mk (Kd.R_elder' (lf HO303) (Kd.R_base ho0) hb); have n1_ := Aside0.mk (Kd.R_lower (Kd.R_new' ho0 (Kd.R_lt (lf HO303))) (below_size bw)); have n2_ := Aside0.mk (blk_below (g := gb299) (o := .cells #[.slice A0_0 l0_0.length c0_0] 24 (0, 0)) (lb BK299) hb); have n3_ := Aside0.mk (below_step bw hb); clear HO303; clear BK299; clear HB; have HO303 := n0_; have HO306 := n1_; have BK299 := n2_; have HB := n3_; clear n0_ n1_ n2_ n3_; (try clear hb); (try clear hb2); (try clear hk); (try clear hi); (try clear ho0)) | ((with_reducible refine gate_dst (N := 4) rfl ?_); refine box_event ?hg (N := 4) ?hd (cs := #[.slice none 0 0]) (t := 28) ?hr ?_; (case hd => rfl); (case hg => rfl); (case hr => first | (go_simp; done) | (go_simp; rfl)); intro gb307 hg w25 hbox hb; have n0_ := Aside0.mk (Kd.R_below (lf HO303) hb); have n1_ := Aside0.mk (Kd.R_below (lf HO306) hb); have n2_ := Aside0.mk (blk_below (g := gb299) (o := .cells #[.slice A0_0 l0_0.length c0_0] 24 (0, 0)) (lb BK299) hb); have n3_ := Aside0.mk (below_step bw hb); have n4_ := Aside0.mk (hbox); have n5_ := Aside0.mk ((by rw [hg]; exact (below_size bw) : w.heap.size ≤ gb307)); have n6_ := Aside0.mk ((by rw [hg]; exact (below_size bw) : w.heap.size ≤ gb307)); have n7_ := Aside0.mk ((by rw [hg]; exact Nat.ne_of_lt (blk_lt (g := gb299) (o := .cells #[.slice A0_0 l0_0.length c0_0] 24 (0, 0)) (lb BK299)) : gb299 ≠ gb307)); have n8_ := Aside0.mk ((by rw [hg]; exact Nat.ne_of_gt (blk_lt (g := gb299) (o := .cells #[.slice A0_0 l0_0.length c0_0] 24 (0, 0)) (lb BK299)) : gb307 ≠ gb299)); clear HO303; clear HO306; clear BK299; clear HB; have HO303 := n0_; have HO306 := n1_; have BK299 := n2_; have HB := n3_; have BK307 := n4_; have GW307 := n5_; have GE307 := n6_; have NB299_307 := n7_; have NB307_299 := n8_; clear n0_ n1_ n2_ n3_ n4_ n5_ n6_ n7_ n8_; clear hb hbox hg; obtain ⟨Ao26, co26, eo26⟩ := Kd.R_slice HO306.out; subst eo26; have hnb27 := NB307_299.out; have hnc27 := NB299_307.out; have hcz28_0 : w25.cell? ⟨gb307, 0, none⟩ = some (.slice none 0 0) := (blk_cell BK307.out 0).trans rfl; have hfz28_0 := blk_frozen BK307.out 0; have hcz29_0 : w25.cell? ⟨gb299, 0, none⟩ = some (.slice A0_0 l0_0.length c0_0) := (blk_cell BK299.out 0).trans rfl; have hfz29_0 := blk_frozen BK299.out 0) | ((with_reducible refine at_fn (f := 7) rfl ?_); refine goesL_ (some 20) rfl rfl Try.func7 (by kernel_rfl) rfl #[.agg #[.slice A0_0 l0_0.length c0_0]] rfl (by (try simp only [List.map_toArray, List.map_cons, List.map_nil]); first | done | rfl | (simp only [List.length_drop, List.length_take]; rfl)) ?_; (with_reducible refine (laws_toFilter.calls k _ _ l0_0 t308 _ ?side1 ?side2 A9.out).mono ?_); (case side1 => exact Kd.C_below HR0_0.out bw); (case side2 => exact HC0_0.out); rintro e w30 ⟨v309, rfl, ho0, hb⟩; refine ⟨_, rfl, ?_⟩; have n0_ := Aside0.mk (Kd.R_elder' (by (with_reducible repeat (first | apply Kd.R_alloc | apply Kd.R_drewN | apply Kd.R_drew)); exact (Kd.R_mono (Kd.R_far (p := ⟨gb307, 0, none⟩) (Kd.R_types HO303.out BK307.out (by decide)) (fun _ hk => hk.2) (.slice Ao26 t304.length co26)) (fun _ h_ => h_.1))) (Kd.R_base ho0) hb); have n1_ := Aside0.mk (Kd.R_elder' (by (with_reducible repeat (first | apply Kd.R_alloc | apply Kd.R_drewN | apply Kd.R_drew)); exact (Kd.R_mono (Kd.R_far (p := ⟨gb307, 0, none⟩) (Kd.R_types HO306.out BK307.out (by decide)) (fun _ hk => hk.2) (.slice Ao26 t304.length co26)) (fun _ h_ => h_.1))) (Kd.R_base ho0) hb); have n2_ := Aside0.mk (Kd.R_lower (Kd.R_new' (Kd.R_new' ho0 (Kd.R_lt (by (with_reducible repeat (first | apply Kd.R_alloc | apply Kd.R_drewN | apply Kd.R_drew)); exact (Kd.R_mono (Kd.R_far (p := ⟨gb307, 0, none⟩) (Kd.R_types HO303.out BK307.out (by decide)) (fun _ hk => hk.2) (.slice Ao26 t304.length co26)) (fun _ h_ => h_.1))))) (Kd.R_lt (by (with_reducible repeat (first | apply Kd.R_alloc | apply Kd.R_drewN | apply Kd.R_drew)); exact (Kd.R_mono (Kd.R_far (p := ⟨gb307, 0, none⟩) (Kd.R_types HO306.out BK307.out (by decide)) (fun _ hk => hk.2) (.slice Ao26 t304.length co26)) (fun _ h_ => h_.1))))) (below_size bw)); have n3_ := Aside0.mk (blk_below (g := gb299) (o := .cells #[.slice A0_0 l0_0.length c0_0] 24 (0, 0)) (by (with_reducible repeat (first | refine blk_drewN ?_ _ | refine blk_drew ?_ | refine blk_alloc ?_ _)); refine blk_far ?_ NB299_307.out _; (with_reducible repeat (first | refine blk_drewN ?_ _ | refine blk_drew ?_ | refine blk_alloc ?_ _)); exact BK299.out) hb); have n4_ := Aside0.mk (blk_below (g := gb307) (o := .cells #[.slice Ao26 t304.length co26] 28 (0, 0)) (by (with_reducible repeat (first | refine blk_drewN ?_ _ | refine blk_drew ?_ | refine blk_alloc ?_ _)); refine blk_put (cs := #[.slice none 0 0]) ?_ 0 _ rfl; (with_reducible repeat (first | refine blk_drewN ?_ _ | refine blk_drew ?_ | refine blk_alloc ?_ _)); exact BK307.out) hb); have n5_ := Aside0.mk (below_step bw hb); clear HO303; clear HO306; clear BK299; clear BK307; clear HB; have HO303 := n0_; have HO306 := n1_; have HO310 := n2_; have BK299 := n3_; have BK307 := n4_; have HB := n5_; clear n0_ n1_ n2_ n3_ n4_ n5_; (try clear hb); (try clear hb2); (try clear hk); (try clear hi); (try clear ho0)) | ((with_reducible refine gate_dst (N := 5) rfl ?_); refine box_event ?hg (N := 5) ?hd (cs := #[.slice none 0 0]) (t := 28) ?hr ?_; (case hd => rfl); (case hg => rfl); (case hr => first | (go_simp; done) | (go_simp; rfl)); intro gb311 hg w31 hbox hb; have n0_ := Aside0.mk (Kd.R_below (lf HO303) hb); have n1_ := Aside0.mk (Kd.R_below (lf HO306) hb); have n2_ := Aside0.mk (Kd.R_below (lf HO310) hb); have n3_ := Aside0.mk (blk_below (g := gb299) (o := .cells #[.slice A0_0 l0_0.length c0_0] 24 (0, 0)) (lb BK299) hb); have n4_ := Aside0.mk (blk_below (g := gb307) (o := .cells #[.slice Ao26 t304.length co26] 28 (0, 0)) (lb BK307) hb); have n5_ := Aside0.mk (below_step bw hb); have n6_ := Aside0.mk (hbox); have n7_ := Aside0.mk ((by rw [hg]; exact (below_size bw) : w.heap.size ≤ gb311)); have n8_ := Aside0.mk ((by rw [hg]; exact (below_size bw) : w.heap.size ≤ gb311)); have n9_ := Aside0.mk ((by rw [hg]; exact Nat.ne_of_lt (blk_lt (g := gb299) (o := .cells #[.slice A0_0 l0_0.length c0_0] 24 (0, 0)) (lb BK299)) : gb299 ≠ gb311)); have n10_ := Aside0.mk ((by rw [hg]; exact Nat.ne_of_gt (blk_lt (g := gb299) (o := .cells #[.slice A0_0 l0_0.length c0_0] 24 (0, 0)) (lb BK299)) : gb311 ≠ gb299)); have n11_ := Aside0.mk ((by rw [hg]; exact Nat.ne_of_lt (blk_lt (g := gb307) (o := .cells #[.slice Ao26 t304.length co26] 28 (0, 0)) (lb BK307)) : gb307 ≠ gb311)); have n12_ := Aside0.mk ((by rw [hg]; exact Nat.ne_of_gt (blk_lt (g := gb307) (o := .cells #[.slice Ao26 t304.length co26] 28 (0, 0)) (lb BK307)) : gb311 ≠ gb307)); clear HO303; clear HO306; clear HO310; clear BK299; clear BK307; clear HB; have HO303 := n0_; have HO306 := n1_; have HO310 := n2_; have BK299 := n3_; have BK307 := n4_; have HB := n5_; have BK311 := n6_; have GW311 := n7_; have GE311 := n8_; have NB299_311 := n9_; have NB311_299 := n10_; have NB307_311 := n11_; have NB311_307 := n12_; clear n0_ n1_ n2_ n3_ n4_ n5_ n6_ n7_ n8_ n9_ n10_ n11_ n12_; clear hb hbox hg; obtain ⟨Ao32, co32, eo32⟩ := Kd.R_slice HO310.out; subst eo32; have hnb33 := NB311_299.out; have hnc33 := NB299_311.out; have hnb34 := NB311_307.out; have hnc34 := NB307_311.out; have hcz35_0 : w31.cell? ⟨gb311, 0, none⟩ = some (.slice none 0 0) := (blk_cell BK311.out 0).trans rfl; have hfz35_0 := blk_frozen BK311.out 0) | ((with_reducible refine at_fn (f := 8) rfl ?_); refine goesL_ (some 22) rfl rfl Try.func8 (by kernel_rfl) rfl #[.agg #[.slice Ao32 t308.length co32]] rfl (by (try simp only [List.map_toArray, List.map_cons, List.map_nil]); first | done | rfl | (simp only [List.length_drop, List.length_take]; rfl)) ?_; (with_reducible refine (impl_Normal.calls _ _ t308 t312 _ ?side1 ?side2 A10.out).mono ?_); (case side1 => refine (Kd.R_reads' (e := 63) (base := w.heap.size) (ok := fun k_ => ((True ∧ some k_ ≠ (.slice Ao23 t301.length co23 : Value).ownBlock) ∧ some k_ ≠ (.slice Ao26 t304.length co26 : Value).ownBlock)) (n := t308.length) (c := co32) ?_).2.2; exact (by (with_reducible repeat (first | apply Kd.R_alloc | apply Kd.R_drewN | apply Kd.R_drew)); exact (Kd.R_mono (Kd.R_far (p := ⟨gb311, 0, none⟩) (Kd.R_types HO310.out BK311.out (by decide)) (fun _ hk => hk.2) (.slice Ao32 t308.length co32)) (fun _ h_ => h_.1)))); (case side2 => exact (Kd.R_reads' HO310.out).2.1); rintro e w36 ⟨v313, rfl, ho0, hb⟩; refine ⟨_, rfl, ?_⟩; have n0_ := Aside0.mk (Kd.R_elder' (by (with_reducible repeat (first | apply Kd.R_alloc | apply Kd.R_drewN | apply Kd.R_drew)); exact (Kd.R_mono (Kd.R_far (p := ⟨gb311, 0, none⟩) (Kd.R_types HO303.out BK311.out (by decide)) (fun _ hk => hk.2) (.slice Ao32 t308.length co32)) (fun _ h_ => h_.1))) (Kd.R_base ho0) hb); have n1_ := Aside0.mk (Kd.R_elder' (by (with_reducible repeat (first | apply Kd.R_alloc | apply Kd.R_drewN | apply Kd.R_drew)); exact (Kd.R_mono (Kd.R_far (p := ⟨gb311, 0, none⟩) (Kd.R_types HO306.out BK311.out (by decide)) (fun _ hk => hk.2) (.slice Ao32 t308.length co32)) (fun _ h_ => h_.1))) (Kd.R_base ho0) hb); have n2_ := Aside0.mk (Kd.R_elder' (by (with_reducible repeat (first | apply Kd.R_alloc | apply Kd.R_drewN | apply Kd.R_drew)); exact (Kd.R_mono (Kd.R_far (p := ⟨gb311, 0, none⟩) (Kd.R_types HO310.out BK311.out (by decide)) (fun _ hk => hk.2) (.slice Ao32 t308.length co32)) (fun _ h_ => h_.1))) (Kd.R_base ho0) hb); have n3_ := Aside0.mk (Kd.R_lower (Kd.R_new' (Kd.R_new' (Kd.R_new' ho0 (Kd.R_lt (by (with_reducible repeat (first | apply Kd.R_alloc | apply Kd.R_drewN | apply Kd.R_drew)); exact (Kd.R_mono (Kd.R_far (p := ⟨gb311, 0, none⟩) (Kd.R_types HO303.out BK311.out (by decide)) (fun _ hk => hk.2) (.slice Ao32 t308.length co32)) (fun _ h_ => h_.1))))) (Kd.R_lt (by (with_reducible repeat (first | apply Kd.R_alloc | apply Kd.R_drewN | apply Kd.R_drew)); exact (Kd.R_mono (Kd.R_far (p := ⟨gb311, 0, none⟩) (Kd.R_types HO306.out BK311.out (by decide)) (fun _ hk => hk.2) (.slice Ao32 t308.length co32)) (fun _ h_ => h_.1))))) (Kd.R_lt (by (with_reducible repeat (first | apply Kd.R_alloc | apply Kd.R_drewN | apply Kd.R_drew)); exact (Kd.R_mono (Kd.R_far (p := ⟨gb311, 0, none⟩) (Kd.R_types HO310.out BK311.out (by decide)) (fun _ hk => hk.2) (.slice Ao32 t308.length co32)) (fun _ h_ => h_.1))))) (below_size bw)); have n4_ := Aside0.mk (blk_below (g := gb299) (o := .cells #[.slice A0_0 l0_0.length c0_0] 24 (0, 0)) (by (with_reducible repeat (first | refine blk_drewN ?_ _ | refine blk_drew ?_ | refine blk_alloc ?_ _)); refine blk_far ?_ NB299_311.out _; (with_reducible repeat (first | refine blk_drewN ?_ _ | refine blk_drew ?_ | refine blk_alloc ?_ _)); exact BK299.out) hb); have n5_ := Aside0.mk (blk_below (g := gb307) (o := .cells #[.slice Ao26 t304.length co26] 28 (0, 0)) (by (with_reducible repeat (first | refine blk_drewN ?_ _ | refine blk_drew ?_ | refine blk_alloc ?_ _)); refine blk_far ?_ NB307_311.out _; (with_reducible repeat (first | refine blk_drewN ?_ _ | refine blk_drew ?_ | refine blk_alloc ?_ _)); exact BK307.out) hb); have n6_ := Aside0.mk (blk_below (g := gb311) (o := .cells #[.slice Ao32 t308.length co32] 28 (0, 0)) (by (with_reducible repeat (first | refine blk_drewN ?_ _ | refine blk_drew ?_ | refine blk_alloc ?_ _)); refine blk_put (cs := #[.slice none 0 0]) ?_ 0 _ rfl; (with_reducible repeat (first | refine blk_drewN ?_ _ | refine blk_drew ?_ | refine blk_alloc ?_ _)); exact BK311.out) hb); have n7_ := Aside0.mk (below_step bw hb); clear HO303; clear HO306; clear HO310; clear BK299; clear BK307; clear BK311; clear HB; have HO303 := n0_; have HO306 := n1_; have HO310 := n2_; have HO314 := n3_; have BK299 := n4_; have BK307 := n5_; have BK311 := n6_; have HB := n7_; clear n0_ n1_ n2_ n3_ n4_ n5_ n6_ n7_; (try clear hb); (try clear hb2); (try clear hk); (try clear hi); (try clear ho0)) | ((with_reducible refine gate_dst (N := 6) rfl ?_); refine box_event ?hg (N := 6) ?hd (cs := #[.slice none 0 0]) (t := 28) ?hr ?_; (case hd => rfl); (case hg => rfl); (case hr => first | (go_simp; done) | (go_simp; rfl)); intro gb315 hg w37 hbox hb; have n0_ := Aside0.mk (Kd.R_below (lf HO303) hb); have n1_ := Aside0.mk (Kd.R_below (lf HO306) hb); have n2_ := Aside0.mk (Kd.R_below (lf HO310) hb); have n3_ := Aside0.mk (Kd.R_below (lf HO314) hb); have n4_ := Aside0.mk (blk_below (g := gb299) (o := .cells #[.slice A0_0 l0_0.length c0_0] 24 (0, 0)) (lb BK299) hb); have n5_ := Aside0.mk (blk_below (g := gb307) (o := .cells #[.slice Ao26 t304.length co26] 28 (0, 0)) (lb BK307) hb); have n6_ := Aside0.mk (blk_below (g := gb311) (o := .cells #[.slice Ao32 t308.length co32] 28 (0, 0)) (lb BK311) hb); have n7_ := Aside0.mk (below_step bw hb); have n8_ := Aside0.mk (hbox); have n9_ := Aside0.mk ((by rw [hg]; exact (below_size bw) : w.heap.size ≤ gb315)); have n10_ := Aside0.mk ((by rw [hg]; exact (below_size bw) : w.heap.size ≤ gb315)); have n11_ := Aside0.mk ((by rw [hg]; exact Nat.ne_of_lt (blk_lt (g := gb299) (o := .cells #[.slice A0_0 l0_0.length c0_0] 24 (0, 0)) (lb BK299)) : gb299 ≠ gb315)); have n12_ := Aside0.mk ((by rw [hg]; exact Nat.ne_of_gt (blk_lt (g := gb299) (o := .cells #[.slice A0_0 l0_0.length c0_0] 24 (0, 0)) (lb BK299)) : gb315 ≠ gb299)); have n13_ := Aside0.mk ((by rw [hg]; exact Nat.ne_of_lt (blk_lt (g := gb307) (o := .cells #[.slice Ao26 t304.length co26] 28 (0, 0)) (lb BK307)) : gb307 ≠ gb315)); have n14_ := Aside0.mk ((by rw [hg]; exact Nat.ne_of_gt (blk_lt (g := gb307) (o := .cells #[.slice Ao26 t304.length co26] 28 (0, 0)) (lb BK307)) : gb315 ≠ gb307)); have n15_ := Aside0.mk ((by rw [hg]; exact Nat.ne_of_lt (blk_lt (g := gb311) (o := .cells #[.slice Ao32 t308.length co32] 28 (0, 0)) (lb BK311)) : gb311 ≠ gb315)); have n16_ := Aside0.mk ((by rw [hg]; exact Nat.ne_of_gt (blk_lt (g := gb311) (o := .cells #[.slice Ao32 t308.length co32] 28 (0, 0)) (lb BK311)) : gb315 ≠ gb311)); clear HO303; clear HO306; clear HO310; clear HO314; clear BK299; clear BK307; clear BK311; clear HB; have HO303 := n0_; have HO306 := n1_; have HO310 := n2_; have HO314 := n3_; have BK299 := n4_; have BK307 := n5_; have BK311 := n6_; have HB := n7_; have BK315 := n8_; have GW315 := n9_; have GE315 := n10_; have NB299_315 := n11_; have NB315_299 := n12_; have NB307_315 := n13_; have NB315_307 := n14_; have NB311_315 := n15_; have NB315_311 := n16_; clear n0_ n1_ n2_ n3_ n4_ n5_ n6_ n7_ n8_ n9_ n10_ n11_ n12_ n13_ n14_ n15_ n16_; clear hb hbox hg; obtain ⟨Ao38, co38, eo38⟩ := Kd.R_slice HO314.out; subst eo38; have hnb39 := NB315_299.out; have hnc39 := NB299_315.out; have hnb40 := NB315_307.out; have hnc40 := NB307_315.out; have hnb41 := NB315_311.out; have hnc41 := NB311_315.out; have hcz42_0 : w37.cell? ⟨gb315, 0, none⟩ = some (.slice none 0 0) := (blk_cell BK315.out 0).trans rfl; have hfz42_0 := blk_frozen BK315.out 0; have hcz43_0 : w37.cell? ⟨gb307, 0, none⟩ = some (.slice Ao26 t304.length co26) := (blk_cell BK307.out 0).trans rfl; have hfz43_0 := blk_frozen BK307.out 0) | ((with_reducible refine at_fn (f := 9) rfl ?_); refine goesL_ (some 25) rfl rfl Try.func9 (by kernel_rfl) rfl #[.agg #[.slice Ao38 t312.length co38], .agg #[.slice Ao26 t304.length co26]] rfl (by (try simp only [List.map_toArray, List.map_cons, List.map_nil]); first | done | rfl | (simp only [List.length_drop, List.length_take]; rfl)) ?_; (with_reducible refine (laws_eqFilter.calls k _ _ t312 _ _ t304 true _ ?side1 ?side2 ?side3 ?side4 A11.out).mono ?_); (case side1 => refine (Kd.R_reads' (e := 63) (base := w.heap.size) (ok := fun k_ => (((True ∧ some k_ ≠ (.slice Ao23 t301.length co23 : Value).ownBlock) ∧ some k_ ≠ (.slice Ao26 t304.length co26 : Value).ownBlock) ∧ some k_ ≠ (.slice Ao32 t308.length co32 : Value).ownBlock)) (n := t312.length) (c := co38) ?_).2.2; exact (by (with_reducible repeat (first | apply Kd.R_alloc | apply Kd.R_drewN | apply Kd.R_drew)); exact (Kd.R_mono (Kd.R_far (p := ⟨gb315, 0, none⟩) (Kd.R_types HO314.out BK315.out (by decide)) (fun _ hk => hk.2) (.slice Ao38 t312.length co38)) (fun _ h_ => h_.1)))); (case side2 => exact (Kd.R_reads' HO314.out).2.1); (case side3 => refine (Kd.R_reads' (e := 63) (base := w.heap.size) (ok := fun k_ => (((True ∧ some k_ ≠ (.slice Ao23 t301.length co23 : Value).ownBlock) ∧ some k_ ≠ (.slice Ao32 t308.length co32 : Value).ownBlock) ∧ some k_ ≠ (.slice Ao38 t312.length co38 : Value).ownBlock)) (n := t304.length) (c := co26) ?_).2.2; exact (by (with_reducible repeat (first | apply Kd.R_alloc | apply Kd.R_drewN | apply Kd.R_drew)); exact (Kd.R_mono (Kd.R_far (p := ⟨gb315, 0, none⟩) (Kd.R_types HO306.out BK315.out (by decide)) (fun _ hk => hk.2) (.slice Ao38 t312.length co38)) (fun _ h_ => h_.1)))); (case side4 => exact (Kd.R_reads' HO306.out).2.1); rintro e w44 ⟨rfl, hb⟩; refine ⟨_, rfl, ?_⟩; have n0_ := Aside0.mk (Kd.R_below (by (with_reducible repeat (first | apply Kd.R_alloc | apply Kd.R_drewN | apply Kd.R_drew)); exact (Kd.R_mono (Kd.R_far (p := ⟨gb315, 0, none⟩) (Kd.R_types HO303.out BK315.out (by decide)) (fun _ hk => hk.2) (.slice Ao38 t312.length co38)) (fun _ h_ => h_.1))) hb); have n1_ := Aside0.mk (Kd.R_below (by (with_reducible repeat (first | apply Kd.R_alloc | apply Kd.R_drewN | apply Kd.R_drew)); exact (Kd.R_mono (Kd.R_far (p := ⟨gb315, 0, none⟩) (Kd.R_types HO306.out BK315.out (by decide)) (fun _ hk => hk.2) (.slice Ao38 t312.length co38)) (fun _ h_ => h_.1))) hb); have n2_ := Aside0.mk (Kd.R_below (by (with_reducible repeat (first | apply Kd.R_alloc | apply Kd.R_drewN | apply Kd.R_drew)); exact (Kd.R_mono (Kd.R_far (p := ⟨gb315, 0, none⟩) (Kd.R_types HO310.out BK315.out (by decide)) (fun _ hk => hk.2) (.slice Ao38 t312.length co38)) (fun _ h_ => h_.1))) hb); have n3_ := Aside0.mk (Kd.R_below (by (with_reducible repeat (first | apply Kd.R_alloc | apply Kd.R_drewN | apply Kd.R_drew)); exact (Kd.R_mono (Kd.R_far (p := ⟨gb315, 0, none⟩) (Kd.R_types HO314.out BK315.out (by decide)) (fun _ hk => hk.2) (.slice Ao38 t312.length co38)) (fun _ h_ => h_.1))) hb); have n4_ := Aside0.mk (blk_below (g := gb299) (o := .cells #[.slice A0_0 l0_0.length c0_0] 24 (0, 0)) (by (with_reducible repeat (first | refine blk_drewN ?_ _ | refine blk_drew ?_ | refine blk_alloc ?_ _)); refine blk_far ?_ NB299_315.out _; (with_reducible repeat (first | refine blk_drewN ?_ _ | refine blk_drew ?_ | refine blk_alloc ?_ _)); exact BK299.out) hb); have n5_ := Aside0.mk (blk_below (g := gb307) (o := .cells #[.slice Ao26 t304.length co26] 28 (0, 0)) (by (with_reducible repeat (first | refine blk_drewN ?_ _ | refine blk_drew ?_ | refine blk_alloc ?_ _)); refine blk_far ?_ NB307_315.out _; (with_reducible repeat (first | refine blk_drewN ?_ _ | refine blk_drew ?_ | refine blk_alloc ?_ _)); exact BK307.out) hb); have n6_ := Aside0.mk (blk_below (g := gb311) (o := .cells #[.slice Ao32 t308.length co32] 28 (0, 0)) (by (with_reducible repeat (first | refine blk_drewN ?_ _ | refine blk_drew ?_ | refine blk_alloc ?_ _)); refine blk_far ?_ NB311_315.out _; (with_reducible repeat (first | refine blk_drewN ?_ _ | refine blk_drew ?_ | refine blk_alloc ?_ _)); exact BK311.out) hb); have n7_ := Aside0.mk (blk_below (g := gb315) (o := .cells #[.slice Ao38 t312.length co38] 28 (0, 0)) (by (with_reducible repeat (first | refine blk_drewN ?_ _ | refine blk_drew ?_ | refine blk_alloc ?_ _)); refine blk_put (cs := #[.slice none 0 0]) ?_ 0 _ rfl; (with_reducible repeat (first | refine blk_drewN ?_ _ | refine blk_drew ?_ | refine blk_alloc ?_ _)); exact BK315.out) hb); have n8_ := Aside0.mk (below_step bw hb); clear HO303; clear HO306; clear HO310; clear HO314; clear BK299; clear BK307; clear BK311; clear BK315; clear HB; have HO303 := n0_; have HO306 := n1_; have HO310 := n2_; have HO314 := n3_; have BK299 := n4_; have BK307 := n5_; have BK311 := n6_; have BK315 := n7_; have HB := n8_; clear n0_ n1_ n2_ n3_ n4_ n5_ n6_ n7_ n8_; (try clear hb); (try clear hb2); (try clear hk); (try clear hi)))
    have n0_ := Aside0.mk (Kd.R_drew HO303.out)
    have n1_ := Aside0.mk (Kd.R_drew HO306.out)
    have n2_ := Aside0.mk (Kd.R_drew HO310.out)
    have n3_ := Aside0.mk (Kd.R_drew HO314.out)
    have n4_ := Aside0.mk (blk_drew BK299.out)
    have n5_ := Aside0.mk (blk_drew BK307.out)
    have n6_ := Aside0.mk (blk_drew BK311.out)
    have n7_ := Aside0.mk (blk_drew BK315.out)
    have n8_ := Aside0.mk (below_drew1 HB.out)
    clear HO303
    clear HO306
    clear HO310
    clear HO314
    clear BK299
    clear BK307
    clear BK311
    clear BK315
    clear HB
    have HO303 := n0_
    have HO306 := n1_
    have HO310 := n2_
    have HO314 := n3_
    have BK299 := n4_
    have BK307 := n5_
    have BK311 := n6_
    have BK315 := n7_
    have HB := n8_
    clear n0_ n1_ n2_ n3_ n4_ n5_ n6_ n7_ n8_
    refine start_ (n := 5) (S := fun w' => w'.cell? ⟨gb311, 0, none⟩ = some (.slice Ao32 t308.length co32) ∧ w'.cell? ⟨gb299, 0, none⟩ = some (.slice A0_0 l0_0.length c0_0)) (ds := []) #[false, false, false, false, false] (by kernel_rfl) rfl rfl ⟨(blk_cell BK311.out 0).trans rfl, (blk_cell BK299.out 0).trans rfl⟩ (fun hHeld => ?_)
    generalize w44.drew = w45 at HO303 HO306 HO310 HO314 BK299 BK307 BK311 BK315 HB hHeld ⊢
    refine take_ (i := 0) (N := some 27) (v := ?_) (a' := ?_) #[true, false, false, false, false] rfl rfl (by kernel_rfl) (fun _ _ _ h => h) (Or.inl ⟨by rfl, ?_⟩) hHeld ?_ ?_
    rotate_left
    ·rintro w' ⟨s0, s1⟩
     go_simp
     with_reducible rfl
    rotate_left
    ·simp only [Act.put, List.setIfInBounds_toArray, List.set_cons_zero, List.set_cons_succ, i64_w, i32_w]
     rfl
    refine take_ (i := 1) (N := some 28) (v := ?_) (a' := ?_) #[true, true, false, false, false] rfl rfl (by kernel_rfl) (fun _ _ _ h => h) (Or.inl ⟨by rfl, ?_⟩) hHeld ?_ ?_
    rotate_left
    ·rintro w' ⟨s0, s1⟩
     go_simp
     with_reducible rfl
    rotate_left
    ·simp only [Act.put, List.setIfInBounds_toArray, List.set_cons_zero, List.set_cons_succ, i64_w, i32_w]
     rfl
    refine one_ (i := 2) (N := some 29) #[true, true, true, false, false] rfl rfl (by kernel_rfl) (by decide) (fun K hK => ?_)
    refine goes_ Try.func7 (by kernel_rfl) rfl #[.agg #[.slice A0_0 l0_0.length c0_0]] (by rfl) rfl rfl (by (try simp only [List.map_toArray, List.map_cons, List.map_nil]); first | done | rfl | (simp only [List.length_drop, List.length_take]; rfl)) ?_
    with_reducible refine (laws_toFilter.calls k _ _ l0_0 t317 _ ?side1 ?side2 A13.out).mono ?_
    (case side1 => repeat (first | exact (Kd.C_below HR0_0.out HB.out) | (with_reducible refine Kd.C_alloc ?_ _) | (with_reducible refine Kd.C_drewN ?_ _) | (with_reducible refine Kd.C_drew ?_)))
    (case side2 => exact HC0_0.out)
    rintro e w46 ⟨v318, rfl, ho0, hb⟩
    refine ⟨_, rfl, ?_⟩
    have n0_ := Aside0.mk (Kd.R_elder' (lf HO303) (Kd.R_base ho0) hb)
    have n1_ := Aside0.mk (Kd.R_elder' (lf HO306) (Kd.R_base ho0) hb)
    have n2_ := Aside0.mk (Kd.R_elder' (lf HO310) (Kd.R_base ho0) hb)
    have n3_ := Aside0.mk (Kd.R_elder' (lf HO314) (Kd.R_base ho0) hb)
    have n4_ := Aside0.mk (Kd.R_lower (Kd.R_new' (Kd.R_new' (Kd.R_new' (Kd.R_new' ho0 (Kd.R_lt (lf HO303))) (Kd.R_lt (lf HO306))) (Kd.R_lt (lf HO310))) (Kd.R_lt (lf HO314))) (below_size bw))
    have n5_ := Aside0.mk (blk_below (g := gb299) (o := .cells #[.slice A0_0 l0_0.length c0_0] 24 (0, 0)) (lb BK299) hb)
    have n6_ := Aside0.mk (blk_below (g := gb307) (o := .cells #[.slice Ao26 t304.length co26] 28 (0, 0)) (lb BK307) hb)
    have n7_ := Aside0.mk (blk_below (g := gb311) (o := .cells #[.slice Ao32 t308.length co32] 28 (0, 0)) (lb BK311) hb)
    have n8_ := Aside0.mk (blk_below (g := gb315) (o := .cells #[.slice Ao38 t312.length co38] 28 (0, 0)) (lb BK315) hb)
    have n9_ := Aside0.mk (below_step bw hb)
    clear HO303
    clear HO306
    clear HO310
    clear HO314
    clear BK299
    clear BK307
    clear BK311
    clear BK315
    clear HB
    have HO303 := n0_
    have HO306 := n1_
    have HO310 := n2_
    have HO314 := n3_
    have HO319 := n4_
    have BK299 := n5_
    have BK307 := n6_
    have BK311 := n7_
    have BK315 := n8_
    have HB := n9_
    clear n0_ n1_ n2_ n3_ n4_ n5_ n6_ n7_ n8_ n9_
    (try clear hb)
    (try clear hb2)
    (try clear hk)
    (try clear hi)
    (try clear ho0)
    obtain ⟨Ao47, co47, eo47⟩ := Kd.R_slice HO319.out
    (first | subst eo47 | (injection eo47 with f1_ f2_ f3_; have f4_ := f1_.symm; have f5_ := f3_.symm; clear f1_ f2_ f3_; subst f4_; subst f5_))
    refine hK.out _ _ ⟨(blk_cell BK311.out 0).trans rfl, (blk_cell BK299.out 0).trans rfl⟩ (fun hHeld => ?_)
    clear hK K
    refine norm_ (a' := ?_) ?_ ?_
    rotate_left
    ·show Act.put _ (some 29) _ = _
     simp only [Act.put, List.setIfInBounds_toArray, List.set_cons_zero, List.set_cons_succ, i64_w, i32_w]
     rfl
    refine one_ (i := 3) (N := some 30) #[true, true, true, true, false] rfl rfl (by kernel_rfl) (by decide) (fun K hK => ?_)
    refine goes_ Try.func9 (by kernel_rfl) rfl #[.agg #[.slice Ao32 t308.length co32], .agg #[.slice Ao47 t317.length co47]] (by rfl) rfl rfl (by (try simp only [List.map_toArray, List.map_cons, List.map_nil]); first | done | rfl | (simp only [List.length_drop, List.length_take]; rfl)) ?_
    with_reducible refine (laws_eqFilter.calls k _ _ t308 _ _ t317 true _ ?side1 ?side2 ?side3 ?side4 A14.out).mono ?_
    (case side1 => repeat (first | exact (Kd.R_reads' HO310.out).2.2 | (with_reducible refine Kd.C_alloc ?_ _) | (with_reducible refine Kd.C_drewN ?_ _) | (with_reducible refine Kd.C_drew ?_)))
    (case side2 => exact (Kd.R_reads' HO310.out).2.1)
    (case side3 => repeat (first | exact (Kd.R_reads' HO319.out).2.2 | (with_reducible refine Kd.C_alloc ?_ _) | (with_reducible refine Kd.C_drewN ?_ _) | (with_reducible refine Kd.C_drew ?_)))
    (case side4 => exact (Kd.R_reads' HO319.out).2.1)
    rintro e w48 ⟨rfl, hb⟩
    refine ⟨_, rfl, ?_⟩
    have n0_ := Aside0.mk (Kd.R_below (lf HO303) hb)
    have n1_ := Aside0.mk (Kd.R_below (lf HO306) hb)
    have n2_ := Aside0.mk (Kd.R_below (lf HO310) hb)
    have n3_ := Aside0.mk (Kd.R_below (lf HO314) hb)
    have n4_ := Aside0.mk (Kd.R_below (lf HO319) hb)
    have n5_ := Aside0.mk (blk_below (g := gb299) (o := .cells #[.slice A0_0 l0_0.length c0_0] 24 (0, 0)) (lb BK299) hb)
    have n6_ := Aside0.mk (blk_below (g := gb307) (o := .cells #[.slice Ao26 t304.length co26] 28 (0, 0)) (lb BK307) hb)
    have n7_ := Aside0.mk (blk_below (g := gb311) (o := .cells #[.slice Ao32 t308.length co32] 28 (0, 0)) (lb BK311) hb)
    have n8_ := Aside0.mk (blk_below (g := gb315) (o := .cells #[.slice Ao38 t312.length co38] 28 (0, 0)) (lb BK315) hb)
    have n9_ := Aside0.mk (below_step bw hb)
    clear HO303
    clear HO306
    clear HO310
    clear HO314
    clear HO319
    clear BK299
    clear BK307
    clear BK311
    clear BK315
    clear HB
    have HO303 := n0_
    have HO306 := n1_
    have HO310 := n2_
    have HO314 := n3_
    have HO319 := n4_
    have BK299 := n5_
    have BK307 := n6_
    have BK311 := n7_
    have BK315 := n8_
    have HB := n9_
    clear n0_ n1_ n2_ n3_ n4_ n5_ n6_ n7_ n8_ n9_
    (try clear hb)
    (try clear hb2)
    (try clear hk)
    (try clear hi)
    refine hK.out _ _ ⟨(blk_cell BK311.out 0).trans rfl, (blk_cell BK299.out 0).trans rfl⟩ (fun hHeld => ?_)
    clear hK K
    refine norm_ (a' := ?_) ?_ ?_
    rotate_left
    ·show Act.put _ (some 30) _ = _
     simp only [Act.put, List.setIfInBounds_toArray, List.set_cons_zero, List.set_cons_succ, i64_w, i32_w]
     rfl
    refine pure_ (i := 4) (N := some 31) (v := ?_) (a' := ?_) #[true, true, true, true, true] rfl rfl (by kernel_rfl) (fun _ _ _ h => h) (Or.inl ⟨by rfl, ?_⟩) ?_ ?_
    rotate_left
    ·intro w'
     go_simp
     with_reducible rfl
    rotate_left
    ·simp only [Act.put, List.setIfInBounds_toArray, List.set_cons_zero, List.set_cons_succ, i64_w, i32_w]
     rfl
    refine done_ (by kernel_rfl) ?_
    have hcz49_0 : w48.cell? ⟨gb311, 0, none⟩ = some (.slice Ao32 t308.length co32) := (blk_cell BK311.out 0).trans rfl
    have hfz49_0 := blk_frozen BK311.out 0
    go_upto_region 14 with (first | ((with_reducible refine at_fn (f := 10) rfl ?_); refine goesL_ (some 34) rfl rfl Try.func10 (by kernel_rfl) rfl #[.agg #[.slice Ao32 t308.length co32], .int .i64 1] rfl (by (try simp only [List.map_toArray, List.map_cons, List.map_nil]); first | done | rfl | (simp only [List.length_drop, List.length_take]; rfl)) ?_; (with_reducible refine (laws_markFilter.calls k (fun k_ => some k_ = (.slice Ao32 t308.length co32 : Value).ownBlock) (.slice Ao32 t308.length co32) t308 1 t321 t322 w _ ?side1 ?side2 A16.out).mono ?_); (case side1 => repeat (first | (with_reducible first | exact HB.out | apply below_alloc | apply pw_below_drewN | apply below_drew1 | refine below_set ?_ GE299.out | refine below_set ?_ GE307.out | refine below_set ?_ GE311.out | refine below_set ?_ GE315.out) | exact HB.out)); (case side2 => exact Kd.R_tight rfl HO310.out); rintro e w50 ⟨rfl, hy0, hb, hkp⟩; refine ⟨_, rfl, ?_⟩; have n0_ := Aside0.mk (blk_kept (lb BK299) hkp (fun hs_ => (fun e_ => (Kd.R_ne HO310.out BK299.out (by decide)) e_) hs_)); have n1_ := Aside0.mk (Kd.R_mono (ok' := fun k_ => some k_ ≠ (.slice Ao26 t304.length co26 : Value).ownBlock ∧ some k_ ≠ (.slice Ao32 t308.length co32 : Value).ownBlock ∧ some k_ ≠ (.slice Ao38 t312.length co38 : Value).ownBlock ∧ some k_ ≠ (.slice Ao47 t317.length co47 : Value).ownBlock) (Kd.R_keptB (HO303.out) hkp (fun k_ hk_ hs_ => (hk_.1.1.2) hs_)) (fun k_ hk_ => ⟨hk_.1.1.1.1.2, hk_.1.1.1.2, hk_.1.1.2, hk_.1.2⟩)); have n2_ := Aside0.mk (Kd.R_mono (ok' := fun k_ => some k_ ≠ (.slice Ao23 t301.length co23 : Value).ownBlock ∧ some k_ ≠ (.slice Ao32 t308.length co32 : Value).ownBlock ∧ some k_ ≠ (.slice Ao38 t312.length co38 : Value).ownBlock ∧ some k_ ≠ (.slice Ao47 t317.length co47 : Value).ownBlock) (Kd.R_keptB (HO306.out) hkp (fun k_ hk_ hs_ => (hk_.1.1.2) hs_)) (fun k_ hk_ => ⟨hk_.1.1.1.1.2, hk_.1.1.1.2, hk_.1.1.2, hk_.1.2⟩)); have n3_ := Aside0.mk (blk_kept (lb BK307) hkp (fun hs_ => (fun e_ => (Kd.R_ne HO310.out BK307.out (by decide)) e_) hs_)); have n4_ := Aside0.mk (Kd.R_reok rfl hy0 (fun k_ e_ => HO310.out.1 k_ e_)); have n5_ := Aside0.mk (blk_kept (lb BK311) hkp (fun hs_ => (fun e_ => (Kd.R_ne HO310.out BK311.out (by decide)) e_) hs_)); have n6_ := Aside0.mk (Kd.R_mono (ok' := fun k_ => some k_ ≠ (.slice Ao23 t301.length co23 : Value).ownBlock ∧ some k_ ≠ (.slice Ao26 t304.length co26 : Value).ownBlock ∧ some k_ ≠ (.slice Ao32 t308.length co32 : Value).ownBlock ∧ some k_ ≠ (.slice Ao47 t317.length co47 : Value).ownBlock) (Kd.R_keptB (HO314.out) hkp (fun k_ hk_ hs_ => (hk_.1.2) hs_)) (fun k_ hk_ => ⟨hk_.1.1.1.1.2, hk_.1.1.1.2, hk_.1.1.2, hk_.1.2⟩)); have n7_ := Aside0.mk (blk_kept (lb BK315) hkp (fun hs_ => (fun e_ => (Kd.R_ne HO310.out BK315.out (by decide)) e_) hs_)); have n8_ := Aside0.mk (Kd.R_mono (ok' := fun k_ => some k_ ≠ (.slice Ao23 t301.length co23 : Value).ownBlock ∧ some k_ ≠ (.slice Ao26 t304.length co26 : Value).ownBlock ∧ some k_ ≠ (.slice Ao32 t308.length co32 : Value).ownBlock ∧ some k_ ≠ (.slice Ao38 t312.length co38 : Value).ownBlock) (Kd.R_keptB (HO319.out) hkp (fun k_ hk_ hs_ => (hk_.1.2) hs_)) (fun k_ hk_ => ⟨hk_.1.1.1.1.2, hk_.1.1.1.2, hk_.1.1.2, hk_.1.2⟩)); have n9_ := Aside0.mk (hb); clear BK299; clear HO303; clear HO306; clear BK307; clear HO310; clear BK311; clear HO314; clear BK315; clear HO319; clear HB; have BK299 := n0_; have HO303 := n1_; have HO306 := n2_; have BK307 := n3_; have HO310 := n4_; have BK311 := n5_; have HO314 := n6_; have BK315 := n7_; have HO319 := n8_; have HB := n9_; clear n0_ n1_ n2_ n3_ n4_ n5_ n6_ n7_ n8_ n9_; (try clear hb); (try clear hkp); (try clear hy0)))
    (try simp only [Act.put, List.setIfInBounds_toArray, List.set_cons_zero, List.set_cons_succ])
    go_cut [42] (fun v42 wc => ∃ (kq : Nat) (x42_16 : Bool), v42 = .bool x42_16 ∧ Aside0 (laws_FnExactNormal.j0 kq x42_16 l0_0 t304 t312 = some r) ∧ Aside0 (kq ≤ k) ∧ Aside0 (Kd.R k63 63 wc w.heap.size (fun k_ => some k_ ≠ ((.slice Ao32 t308.length co32) : Value).ownBlock ∧ some k_ ≠ ((.slice Ao38 t312.length co38) : Value).ownBlock) (.slice Ao26 t304.length co26) t304) ∧ Aside0 (Kd.R k63 63 wc w.heap.size (fun k_ => some k_ ≠ ((.slice Ao26 t304.length co26) : Value).ownBlock ∧ some k_ ≠ ((.slice Ao38 t312.length co38) : Value).ownBlock) (.slice Ao32 t308.length co32) t322) ∧ Aside0 (Kd.R k63 63 wc w.heap.size (fun k_ => some k_ ≠ ((.slice Ao26 t304.length co26) : Value).ownBlock ∧ some k_ ≠ ((.slice Ao32 t308.length co32) : Value).ownBlock) (.slice Ao38 t312.length co38) t312) ∧ Aside0 (wc.heap[gb299]? = some (.cells #[(.slice A0_0 l0_0.length c0_0)] 24 (0, 0))) ∧ Aside0 (wc.heap[gb307]? = some (.cells #[(.slice Ao26 t304.length co26)] 28 (0, 0))) ∧ Aside0 (wc.heap[gb311]? = some (.cells #[(.slice Ao32 t308.length co32)] 28 (0, 0))) ∧ Aside0 (wc.heap[gb315]? = some (.cells #[(.slice Ao38 t312.length co38)] 28 (0, 0))) ∧ Aside0 (Below w.heap.size w wc))
    case first =>
     have H := HC17.out
     clear HC17
     by_cases c51 : t321 < 0
     ·rw [if_pos c51] at H
      have c51b0 : decide (t321 < 0) = true := decide_eq_true c51
      clear c51
      (first | rw [c51b0] | (simp only [i64_w, i32_w]; rw [c51b0]) | skip)
      have H' := Aside0.mk H
      clear H
      go_wp2
      go_meet
      case rel => exact ⟨_, (true), (by first | rfl | (simp; done) | (simp [*]; done)), H', ⟨by first | omega | exact Nat.le_refl _⟩, ⟨by (with_reducible repeat (first | apply Kd.R_alloc | apply Kd.R_drewN | apply Kd.R_drew)); exact Kd.R_mono HO306.out (fun _ hk => ⟨hk.2.1, hk.2.2.1⟩)⟩, ⟨by (with_reducible repeat (first | apply Kd.R_alloc | apply Kd.R_drewN | apply Kd.R_drew)); exact Kd.R_mono HO310.out (fun _ hk => ⟨hk.1.1.2, hk.1.2⟩)⟩, ⟨by (with_reducible repeat (first | apply Kd.R_alloc | apply Kd.R_drewN | apply Kd.R_drew)); exact Kd.R_mono HO314.out (fun _ hk => ⟨hk.2.1, hk.2.2.1⟩)⟩, ⟨lb BK299⟩, ⟨lb BK307⟩, ⟨lb BK311⟩, ⟨lb BK315⟩, ⟨bw⟩⟩
     ·rw [if_neg c51] at H
      have c51b0 : decide (t321 < 0) = false := decide_eq_false c51
      clear c51
      (first | rw [c51b0] | (simp only [i64_w, i32_w]; rw [c51b0]) | skip)
      replace H := Option.bind_eq_some_iff.mp H
      obtain ⟨t323, A520, H⟩ := H
      replace H : (laws_FnExactNormal.j0 k (!t323) l0_0 t304 t312) = some r := H
      have A52 := Aside0.mk A520
      clear A520
      have H' := Aside0.mk H
      clear H
      have hnb53 := NB315_299.out
      have hnc53 := NB299_315.out
      have hnb54 := NB315_307.out
      have hnc54 := NB307_315.out
      have hnb55 := NB315_311.out
      have hnc55 := NB311_315.out
      have hcz56_0 : w50.cell? ⟨gb315, 0, none⟩ = some (.slice Ao38 t312.length co38) := (blk_cell BK315.out 0).trans rfl
      have hfz56_0 := blk_frozen BK315.out 0
      have hnb57 := NB307_299.out
      have hnc57 := NB299_307.out
      have hnb58 := NB307_311.out
      have hnc58 := NB311_307.out
      have hcz59_0 : w50.cell? ⟨gb307, 0, none⟩ = some (.slice Ao26 t304.length co26) := (blk_cell BK307.out 0).trans rfl
      have hfz59_0 := blk_frozen BK307.out 0
      go_wp2_with (first | (go_at_call 9; (with_reducible refine (laws_eqFilter.calls k _ _ t312 _ _ t304 t323 _ ?side1 ?side2 ?side3 ?side4 A52.out).mono ?_); (case side1 => repeat (first | exact (Kd.R_reads' HO314.out).2.2 | (with_reducible refine Kd.C_alloc ?_ _) | (with_reducible refine Kd.C_drewN ?_ _) | (with_reducible refine Kd.C_drew ?_))); (case side2 => exact (Kd.R_reads' HO314.out).2.1); (case side3 => repeat (first | exact (Kd.R_reads' HO306.out).2.2 | (with_reducible refine Kd.C_alloc ?_ _) | (with_reducible refine Kd.C_drewN ?_ _) | (with_reducible refine Kd.C_drew ?_))); (case side4 => exact (Kd.R_reads' HO306.out).2.1); rintro e w60 ⟨rfl, hb⟩; have n0_ := Aside0.mk (Kd.R_below (lf HO303) hb); have n1_ := Aside0.mk (Kd.R_below (lf HO306) hb); have n2_ := Aside0.mk (Kd.R_below (lf HO310) hb); have n3_ := Aside0.mk (Kd.R_below (lf HO314) hb); have n4_ := Aside0.mk (Kd.R_below (lf HO319) hb); have n5_ := Aside0.mk (blk_below (g := gb299) (o := .cells #[.slice A0_0 l0_0.length c0_0] 24 (0, 0)) (lb BK299) hb); have n6_ := Aside0.mk (blk_below (g := gb307) (o := .cells #[.slice Ao26 t304.length co26] 28 (0, 0)) (lb BK307) hb); have n7_ := Aside0.mk (blk_below (g := gb311) (o := .cells #[.slice Ao32 t308.length co32] 28 (0, 0)) (lb BK311) hb); have n8_ := Aside0.mk (blk_below (g := gb315) (o := .cells #[.slice Ao38 t312.length co38] 28 (0, 0)) (lb BK315) hb); have n9_ := Aside0.mk (below_step bw hb); clear HO303; clear HO306; clear HO310; clear HO314; clear HO319; clear BK299; clear BK307; clear BK311; clear BK315; clear HB; have HO303 := n0_; have HO306 := n1_; have HO310 := n2_; have HO314 := n3_; have HO319 := n4_; have BK299 := n5_; have BK307 := n6_; have BK311 := n7_; have BK315 := n8_; have HB := n9_; clear n0_ n1_ n2_ n3_ n4_ n5_ n6_ n7_ n8_ n9_; (try clear hb); (try clear hb2); (try clear hk); (try clear hi)))
      go_meet
      case rel => exact ⟨_, (!t323), (by first | rfl | (simp; done) | (simp [*]; done)), H', ⟨by first | omega | exact Nat.le_refl _⟩, ⟨by (with_reducible repeat (first | apply Kd.R_alloc | apply Kd.R_drewN | apply Kd.R_drew)); exact Kd.R_mono HO306.out (fun _ hk => ⟨hk.2.1, hk.2.2.1⟩)⟩, ⟨by (with_reducible repeat (first | apply Kd.R_alloc | apply Kd.R_drewN | apply Kd.R_drew)); exact Kd.R_mono HO310.out (fun _ hk => ⟨hk.1.1.2, hk.1.2⟩)⟩, ⟨by (with_reducible repeat (first | apply Kd.R_alloc | apply Kd.R_drewN | apply Kd.R_drew)); exact Kd.R_mono HO314.out (fun _ hk => ⟨hk.2.1, hk.2.2.1⟩)⟩, ⟨lb BK299⟩, ⟨lb BK307⟩, ⟨lb BK311⟩, ⟨lb BK315⟩, ⟨bw⟩⟩
    case rest =>
     clear HC17
     try clear c1
     try clear c2
     try clear p2
     try clear c3
     try clear c3b0
     try clear c4
     try clear c5
     try clear c6
     try clear c7
     try clear c8
     try clear c9
     try clear c10
     try clear c12
     try clear c15
     try clear c27
     try clear c33
     try clear c34
     try clear c39
     try clear c40
     try clear c41
     try clear c51
     try clear c51b0
     try clear c53
     try clear c54
     try clear c55
     try clear c57
     try clear c58
     try clear hcz19_0
     try clear hcz21_0
     try clear hcz28_0
     try clear hcz29_0
     try clear hcz35_0
     try clear hcz42_0
     try clear hcz43_0
     try clear hcz49_0
     try clear hcz56_0
     try clear hcz59_0
     try clear hcz5_0
     try clear hfz19_0
     try clear hfz21_0
     try clear hfz28_0
     try clear hfz29_0
     try clear hfz35_0
     try clear hfz42_0
     try clear hfz43_0
     try clear hfz49_0
     try clear hfz56_0
     try clear hfz59_0
     try clear hfz5_0
     obtain ⟨kq, x42_16, rfl, HA, HJ16, HO_308000, HO_312000, HO_316000, BK299, BK307, BK311, BK315, HB⟩ := hcut
     have hl312000_16 := (Kd.R_reads' HO_312000.out).1
     rw [hl312000_16] at HO_312000
     (try simp only [hl312000_16])
     (try simp only [hl312000_16] at BK299)
     (try simp only [hl312000_16] at BK307)
     (try simp only [hl312000_16] at BK311)
     (try simp only [hl312000_16] at BK315)
     (try simp only [hl312000_16] at HO_308000)
     (try simp only [hl312000_16] at HO_316000)
     cases kq with
     | zero => exact absurd HA.out (by simp [laws_FnExactNormal.j0])
     | succ kj16 =>
      have H := HA.out
      clear HA
      simp only [laws_FnExactNormal.j0] at H
      by_cases c61 : x42_16 = true
      ·subst c61
       have H1 : (some false) = some r := by rw [if_pos rfl] at H; exact H
       clear H
       have H := H1
       clear H1
       obtain rfl := Option.some.inj H
       go_wp2
       go_ret
       exact ⟨by first | rfl | (simp [errW_none, errW_some] <;> rfl) | (simp [*, errW_none, errW_some] <;> rfl), bw⟩
      ·replace c61 := Bool.eq_false_iff.mpr c61
       subst c61
       have H1 : ((laws_markFilter.f kj16 t312 1).bind fun bt324 => ((laws_heldFilter.f kj16 bt324.2 1).bind fun t326 => (if t326 < 0 then (some false) else (if t326 = bt324.1 then ((laws_toFilter.f kj16 l0_0).bind fun t327 => ((impl_Normal.f t327).bind fun t330 => ((laws_eqFilter.f kj16 t330 t304).bind fun t334 => (if t334 = true then (some true) else (some false))))) else (some false))))) = some r := by rw [if_neg (show ¬ (false = true) by decide)] at H; exact H
       clear H
       have H := H1
       clear H1
       replace H := Option.bind_eq_some_iff.mp H
       obtain ⟨⟨t324, t325⟩, A620, H⟩ := H
       replace H : ((laws_heldFilter.f kj16 t325 1).bind fun t326 => (if t326 < 0 then (some false) else (if t326 = t324 then ((laws_toFilter.f kj16 l0_0).bind fun t327 => ((impl_Normal.f t327).bind fun t330 => ((laws_eqFilter.f kj16 t330 t304).bind fun t334 => (if t334 = true then (some true) else (some false))))) else (some false)))) = some r := H
       have A62 := Aside0.mk A620
       clear A620
       replace H := Option.bind_eq_some_iff.mp H
       obtain ⟨t326, A630, H⟩ := H
       replace H : (if t326 < 0 then (some false) else (if t326 = t324 then ((laws_toFilter.f kj16 l0_0).bind fun t327 => ((impl_Normal.f t327).bind fun t330 => ((laws_eqFilter.f kj16 t330 t304).bind fun t334 => (if t334 = true then (some true) else (some false))))) else (some false))) = some r := H
       have A63 := Aside0.mk A630
       clear A630
       by_cases c64 : t326 < 0
       ·rw [if_pos c64] at H
        have c64b0 : decide (t326 < 0) = true := decide_eq_true c64
        clear c64
        obtain rfl := Option.some.inj H
        have hnb65 := NB315_299.out
        have hnc65 := NB299_315.out
        have hnb66 := NB315_307.out
        have hnc66 := NB307_315.out
        have hnb67 := NB315_311.out
        have hnc67 := NB311_315.out
        have hcz68_0 : wc.cell? ⟨gb315, 0, none⟩ = some (.slice Ao38 t312.length co38) := (blk_cell BK315.out 0).trans rfl
        have hfz68_0 := blk_frozen BK315.out 0
        go_wp2_with (first | ((with_reducible refine at_fn (f := 10) rfl ?_); refine goesL_ (some 45) rfl rfl Try.func10 (by kernel_rfl) rfl #[.agg #[.slice Ao38 t312.length co38], .int .i64 1] rfl (by (try simp only [List.map_toArray, List.map_cons, List.map_nil]); first | done | rfl | (simp only [List.length_drop, List.length_take]; rfl)) ?_; (with_reducible refine (laws_markFilter.calls kj16 (fun k_ => some k_ = (.slice Ao38 t312.length co38 : Value).ownBlock) (.slice Ao38 t312.length co38) t312 1 t324 t325 w _ ?side1 ?side2 A62.out).mono ?_); (case side1 => repeat (first | (with_reducible first | exact HB.out | apply below_alloc | apply pw_below_drewN | apply below_drew1 | refine below_set ?_ GE299.out | refine below_set ?_ GE307.out | refine below_set ?_ GE311.out | refine below_set ?_ GE315.out) | exact HB.out)); (case side2 => exact Kd.R_tight rfl HO_316000.out); rintro e w69 ⟨rfl, hy0, hb, hkp⟩; refine ⟨_, rfl, ?_⟩; have n0_ := Aside0.mk (Kd.R_mono (ok' := fun k_ => some k_ ≠ (.slice Ao32 t322.length co32 : Value).ownBlock ∧ some k_ ≠ (.slice Ao38 t312.length co38 : Value).ownBlock) (Kd.R_keptB (HO_308000.out) hkp (fun k_ hk_ hs_ => (hk_.2) hs_)) (fun k_ hk_ => ⟨hk_.1.1, hk_.1.2⟩)); have n1_ := Aside0.mk (Kd.R_mono (ok' := fun k_ => some k_ ≠ (.slice Ao26 t304.length co26 : Value).ownBlock ∧ some k_ ≠ (.slice Ao38 t312.length co38 : Value).ownBlock) (Kd.R_keptB (HO_312000.out) hkp (fun k_ hk_ hs_ => (hk_.2) hs_)) (fun k_ hk_ => ⟨hk_.1.1, hk_.1.2⟩)); have n2_ := Aside0.mk (Kd.R_reok rfl hy0 (fun k_ e_ => HO_316000.out.1 k_ e_)); have n3_ := Aside0.mk (blk_kept (lb BK299) hkp (fun hs_ => (fun e_ => (Kd.R_ne HO_316000.out BK299.out (by decide)) e_) hs_)); have n4_ := Aside0.mk (blk_kept (lb BK307) hkp (fun hs_ => (fun e_ => (Kd.R_ne HO_316000.out BK307.out (by decide)) e_) hs_)); have n5_ := Aside0.mk (blk_kept (lb BK311) hkp (fun hs_ => (fun e_ => (Kd.R_ne HO_316000.out BK311.out (by decide)) e_) hs_)); have n6_ := Aside0.mk (blk_kept (lb BK315) hkp (fun hs_ => (fun e_ => (Kd.R_ne HO_316000.out BK315.out (by decide)) e_) hs_)); have n7_ := Aside0.mk (hb); clear HO_308000; clear HO_312000; clear HO_316000; clear BK299; clear BK307; clear BK311; clear BK315; clear HB; have HO_308000 := n0_; have HO_312000 := n1_; have HO_316000 := n2_; have BK299 := n3_; have BK307 := n4_; have BK311 := n5_; have BK315 := n6_; have HB := n7_; clear n0_ n1_ n2_ n3_ n4_ n5_ n6_ n7_; (try clear hb); (try clear hkp); (try clear hy0); have hcz70_0 : w69.cell? ⟨gb315, 0, none⟩ = some (.slice Ao38 t312.length co38) := (blk_cell BK315.out 0).trans rfl; have hfz70_0 := blk_frozen BK315.out 0) | ((with_reducible refine at_fn (f := 11) rfl ?_); refine goesL_ (some 48) rfl rfl Try.func11 (by kernel_rfl) rfl #[.agg #[.slice Ao38 t325.length co38], .int .i64 1] rfl (by (try simp only [List.map_toArray, List.map_cons, List.map_nil]); first | done | (rw [show t325.length = t312.length from (Kd.R_reads' HO_316000.out).1.symm] <;> rfl) | rfl | (simp only [List.length_drop, List.length_take]; rfl)) ?_; (with_reducible refine (laws_heldFilter.calls kj16 _ _ t325 1 t326 _ ?side1 ?side2 A63.out).mono ?_); (case side1 => repeat (first | exact (Kd.R_reads' HO_316000.out).2.2 | (with_reducible refine Kd.C_alloc ?_ _) | (with_reducible refine Kd.C_drewN ?_ _) | (with_reducible refine Kd.C_drew ?_))); (case side2 => rw [show t325.length = t312.length from (Kd.R_reads' HO_316000.out).1.symm]; exact (Kd.R_reads' HO_316000.out).2.1); rintro e w71 ⟨rfl, hb⟩; refine ⟨_, rfl, ?_⟩; have n0_ := Aside0.mk (Kd.R_below (lf HO_308000) hb); have n1_ := Aside0.mk (Kd.R_below (lf HO_312000) hb); have n2_ := Aside0.mk (Kd.R_below (lf HO_316000) hb); have n3_ := Aside0.mk (blk_below (g := gb299) (o := .cells #[.slice A0_0 l0_0.length c0_0] 24 (0, 0)) (lb BK299) hb); have n4_ := Aside0.mk (blk_below (g := gb307) (o := .cells #[.slice Ao26 t304.length co26] 28 (0, 0)) (lb BK307) hb); have n5_ := Aside0.mk (blk_below (g := gb311) (o := .cells #[.slice Ao32 t322.length co32] 28 (0, 0)) (lb BK311) hb); have n6_ := Aside0.mk (blk_below (g := gb315) (o := .cells #[.slice Ao38 t312.length co38] 28 (0, 0)) (lb BK315) hb); have n7_ := Aside0.mk (below_step bw hb); clear HO_308000; clear HO_312000; clear HO_316000; clear BK299; clear BK307; clear BK311; clear BK315; clear HB; have HO_308000 := n0_; have HO_312000 := n1_; have HO_316000 := n2_; have BK299 := n3_; have BK307 := n4_; have BK311 := n5_; have BK315 := n6_; have HB := n7_; clear n0_ n1_ n2_ n3_ n4_ n5_ n6_ n7_; (try clear hb); (try clear hb2); (try clear hk); (try clear hi)))
        go_ret
        exact ⟨by first | rfl | (simp [errW_none, errW_some] <;> rfl) | (simp [*, errW_none, errW_some] <;> rfl), bw⟩
       ·rw [if_neg c64] at H
        have c64b0 : decide (t326 < 0) = false := decide_eq_false c64
        clear c64
        by_cases c72 : t326 = t324
        ·rw [if_pos c72] at H
         have c72b0 : (t326 == t324) = true := beq_iff_eq.mpr c72
         have c72b1 : (t326 != t324) = false := bne_eq_false_iff_eq.mpr c72
         clear c72
         replace H := Option.bind_eq_some_iff.mp H
         obtain ⟨t327, A730, H⟩ := H
         replace H : ((impl_Normal.f t327).bind fun t330 => ((laws_eqFilter.f kj16 t330 t304).bind fun t334 => (if t334 = true then (some true) else (some false)))) = some r := H
         have A73 := Aside0.mk A730
         clear A730
         replace H := Option.bind_eq_some_iff.mp H
         obtain ⟨t330, A740, H⟩ := H
         replace H : ((laws_eqFilter.f kj16 t330 t304).bind fun t334 => (if t334 = true then (some true) else (some false))) = some r := H
         have A74 := Aside0.mk A740
         clear A740
         replace H := Option.bind_eq_some_iff.mp H
         obtain ⟨t334, A750, H⟩ := H
         replace H : (if t334 = true then (some true) else (some false)) = some r := H
         have A75 := Aside0.mk A750
         clear A750
         by_cases c76 : t334 = true
         ·subst c76
          have H1 : (some true) = some r := by rw [if_pos rfl] at H; exact H
          clear H
          have H := H1
          clear H1
          obtain rfl := Option.some.inj H
          have hnb77 := NB315_299.out
          have hnc77 := NB299_315.out
          have hnb78 := NB315_307.out
          have hnc78 := NB307_315.out
          have hnb79 := NB315_311.out
          have hnc79 := NB311_315.out
          have hcz80_0 : wc.cell? ⟨gb315, 0, none⟩ = some (.slice Ao38 t312.length co38) := (blk_cell BK315.out 0).trans rfl
          have hfz80_0 := blk_frozen BK315.out 0
          go_wp2_with (first | ((with_reducible refine at_fn (f := 10) rfl ?_); refine goesL_ (some 45) rfl rfl Try.func10 (by kernel_rfl) rfl #[.agg #[.slice Ao38 t312.length co38], .int .i64 1] rfl (by (try simp only [List.map_toArray, List.map_cons, List.map_nil]); first | done | rfl | (simp only [List.length_drop, List.length_take]; rfl)) ?_; (with_reducible refine (laws_markFilter.calls kj16 (fun k_ => some k_ = (.slice Ao38 t312.length co38 : Value).ownBlock) (.slice Ao38 t312.length co38) t312 1 t324 t325 w _ ?side1 ?side2 A62.out).mono ?_); (case side1 => repeat (first | (with_reducible first | exact HB.out | apply below_alloc | apply pw_below_drewN | apply below_drew1 | refine below_set ?_ GE299.out | refine below_set ?_ GE307.out | refine below_set ?_ GE311.out | refine below_set ?_ GE315.out) | exact HB.out)); (case side2 => exact Kd.R_tight rfl HO_316000.out); rintro e w81 ⟨rfl, hy0, hb, hkp⟩; refine ⟨_, rfl, ?_⟩; have n0_ := Aside0.mk (Kd.R_mono (ok' := fun k_ => some k_ ≠ (.slice Ao32 t322.length co32 : Value).ownBlock ∧ some k_ ≠ (.slice Ao38 t312.length co38 : Value).ownBlock) (Kd.R_keptB (HO_308000.out) hkp (fun k_ hk_ hs_ => (hk_.2) hs_)) (fun k_ hk_ => ⟨hk_.1.1, hk_.1.2⟩)); have n1_ := Aside0.mk (Kd.R_mono (ok' := fun k_ => some k_ ≠ (.slice Ao26 t304.length co26 : Value).ownBlock ∧ some k_ ≠ (.slice Ao38 t312.length co38 : Value).ownBlock) (Kd.R_keptB (HO_312000.out) hkp (fun k_ hk_ hs_ => (hk_.2) hs_)) (fun k_ hk_ => ⟨hk_.1.1, hk_.1.2⟩)); have n2_ := Aside0.mk (Kd.R_reok rfl hy0 (fun k_ e_ => HO_316000.out.1 k_ e_)); have n3_ := Aside0.mk (blk_kept (lb BK299) hkp (fun hs_ => (fun e_ => (Kd.R_ne HO_316000.out BK299.out (by decide)) e_) hs_)); have n4_ := Aside0.mk (blk_kept (lb BK307) hkp (fun hs_ => (fun e_ => (Kd.R_ne HO_316000.out BK307.out (by decide)) e_) hs_)); have n5_ := Aside0.mk (blk_kept (lb BK311) hkp (fun hs_ => (fun e_ => (Kd.R_ne HO_316000.out BK311.out (by decide)) e_) hs_)); have n6_ := Aside0.mk (blk_kept (lb BK315) hkp (fun hs_ => (fun e_ => (Kd.R_ne HO_316000.out BK315.out (by decide)) e_) hs_)); have n7_ := Aside0.mk (hb); clear HO_308000; clear HO_312000; clear HO_316000; clear BK299; clear BK307; clear BK311; clear BK315; clear HB; have HO_308000 := n0_; have HO_312000 := n1_; have HO_316000 := n2_; have BK299 := n3_; have BK307 := n4_; have BK311 := n5_; have BK315 := n6_; have HB := n7_; clear n0_ n1_ n2_ n3_ n4_ n5_ n6_ n7_; (try clear hb); (try clear hkp); (try clear hy0); have hcz82_0 : w81.cell? ⟨gb315, 0, none⟩ = some (.slice Ao38 t312.length co38) := (blk_cell BK315.out 0).trans rfl; have hfz82_0 := blk_frozen BK315.out 0) | ((with_reducible refine at_fn (f := 11) rfl ?_); refine goesL_ (some 48) rfl rfl Try.func11 (by kernel_rfl) rfl #[.agg #[.slice Ao38 t325.length co38], .int .i64 1] rfl (by (try simp only [List.map_toArray, List.map_cons, List.map_nil]); first | done | (rw [show t325.length = t312.length from (Kd.R_reads' HO_316000.out).1.symm] <;> rfl) | rfl | (simp only [List.length_drop, List.length_take]; rfl)) ?_; (with_reducible refine (laws_heldFilter.calls kj16 _ _ t325 1 t326 _ ?side1 ?side2 A63.out).mono ?_); (case side1 => repeat (first | exact (Kd.R_reads' HO_316000.out).2.2 | (with_reducible refine Kd.C_alloc ?_ _) | (with_reducible refine Kd.C_drewN ?_ _) | (with_reducible refine Kd.C_drew ?_))); (case side2 => rw [show t325.length = t312.length from (Kd.R_reads' HO_316000.out).1.symm]; exact (Kd.R_reads' HO_316000.out).2.1); rintro e w83 ⟨rfl, hb⟩; refine ⟨_, rfl, ?_⟩; have n0_ := Aside0.mk (Kd.R_below (lf HO_308000) hb); have n1_ := Aside0.mk (Kd.R_below (lf HO_312000) hb); have n2_ := Aside0.mk (Kd.R_below (lf HO_316000) hb); have n3_ := Aside0.mk (blk_below (g := gb299) (o := .cells #[.slice A0_0 l0_0.length c0_0] 24 (0, 0)) (lb BK299) hb); have n4_ := Aside0.mk (blk_below (g := gb307) (o := .cells #[.slice Ao26 t304.length co26] 28 (0, 0)) (lb BK307) hb); have n5_ := Aside0.mk (blk_below (g := gb311) (o := .cells #[.slice Ao32 t322.length co32] 28 (0, 0)) (lb BK311) hb); have n6_ := Aside0.mk (blk_below (g := gb315) (o := .cells #[.slice Ao38 t312.length co38] 28 (0, 0)) (lb BK315) hb); have n7_ := Aside0.mk (below_step bw hb); clear HO_308000; clear HO_312000; clear HO_316000; clear BK299; clear BK307; clear BK311; clear BK315; clear HB; have HO_308000 := n0_; have HO_312000 := n1_; have HO_316000 := n2_; have BK299 := n3_; have BK307 := n4_; have BK311 := n5_; have BK315 := n6_; have HB := n7_; clear n0_ n1_ n2_ n3_ n4_ n5_ n6_ n7_; (try clear hb); (try clear hb2); (try clear hk); (try clear hi); have hnb84 := NB299_307.out; have hnc84 := NB307_299.out; have hnb85 := NB299_311.out; have hnc85 := NB311_299.out; have hcz86_0 : w83.cell? ⟨gb299, 0, none⟩ = some (.slice A0_0 l0_0.length c0_0) := (blk_cell BK299.out 0).trans rfl; have hfz86_0 := blk_frozen BK299.out 0) | ((with_reducible refine at_fn (f := 7) rfl ?_); refine goesL_ (some 55) rfl rfl Try.func7 (by kernel_rfl) rfl #[.agg #[.slice A0_0 l0_0.length c0_0]] rfl (by (try simp only [List.map_toArray, List.map_cons, List.map_nil]); first | done | rfl | (simp only [List.length_drop, List.length_take]; rfl)) ?_; (with_reducible refine (laws_toFilter.calls kj16 _ _ l0_0 t327 _ ?side1 ?side2 A73.out).mono ?_); (case side1 => repeat (first | exact (Kd.C_below HR0_0.out HB.out) | (with_reducible refine Kd.C_alloc ?_ _) | (with_reducible refine Kd.C_drewN ?_ _) | (with_reducible refine Kd.C_drew ?_))); (case side2 => exact HC0_0.out); rintro e w87 ⟨v328, rfl, ho0, hb⟩; refine ⟨_, rfl, ?_⟩; have n0_ := Aside0.mk (Kd.R_elder' (lf HO_308000) (Kd.R_base ho0) hb); have n1_ := Aside0.mk (Kd.R_elder' (lf HO_312000) (Kd.R_base ho0) hb); have n2_ := Aside0.mk (Kd.R_elder' (lf HO_316000) (Kd.R_base ho0) hb); have n3_ := Aside0.mk (Kd.R_lower (Kd.R_new' (Kd.R_new' (Kd.R_new' ho0 (Kd.R_lt (lf HO_308000))) (Kd.R_lt (lf HO_312000))) (Kd.R_lt (lf HO_316000))) (below_size bw)); have n4_ := Aside0.mk (blk_below (g := gb299) (o := .cells #[.slice A0_0 l0_0.length c0_0] 24 (0, 0)) (lb BK299) hb); have n5_ := Aside0.mk (blk_below (g := gb307) (o := .cells #[.slice Ao26 t304.length co26] 28 (0, 0)) (lb BK307) hb); have n6_ := Aside0.mk (blk_below (g := gb311) (o := .cells #[.slice Ao32 t322.length co32] 28 (0, 0)) (lb BK311) hb); have n7_ := Aside0.mk (blk_below (g := gb315) (o := .cells #[.slice Ao38 t312.length co38] 28 (0, 0)) (lb BK315) hb); have n8_ := Aside0.mk (below_step bw hb); clear HO_308000; clear HO_312000; clear HO_316000; clear BK299; clear BK307; clear BK311; clear BK315; clear HB; have HO_308000 := n0_; have HO_312000 := n1_; have HO_316000 := n2_; have HO329 := n3_; have BK299 := n4_; have BK307 := n5_; have BK311 := n6_; have BK315 := n7_; have HB := n8_; clear n0_ n1_ n2_ n3_ n4_ n5_ n6_ n7_ n8_; (try clear hb); (try clear hb2); (try clear hk); (try clear hi); (try clear ho0); obtain ⟨Ao88, co88, eo88⟩ := Kd.R_slice HO329.out; subst eo88) | ((with_reducible refine at_fn (f := 8) rfl ?_); refine goesL_ (some 56) rfl rfl Try.func8 (by kernel_rfl) rfl #[.agg #[.slice Ao88 t327.length co88]] rfl (by (try simp only [List.map_toArray, List.map_cons, List.map_nil]); first | done | rfl | (simp only [List.length_drop, List.length_take]; rfl)) ?_; (with_reducible refine (impl_Normal.calls _ _ t327 t330 _ ?side1 ?side2 A74.out).mono ?_); (case side1 => repeat (first | exact (Kd.R_reads' HO329.out).2.2 | (with_reducible refine Kd.C_alloc ?_ _) | (with_reducible refine Kd.C_drewN ?_ _) | (with_reducible refine Kd.C_drew ?_))); (case side2 => exact (Kd.R_reads' HO329.out).2.1); rintro e w89 ⟨v331, rfl, ho0, hb⟩; refine ⟨_, rfl, ?_⟩; have n0_ := Aside0.mk (Kd.R_elder' (lf HO_308000) (Kd.R_base ho0) hb); have n1_ := Aside0.mk (Kd.R_elder' (lf HO_312000) (Kd.R_base ho0) hb); have n2_ := Aside0.mk (Kd.R_elder' (lf HO_316000) (Kd.R_base ho0) hb); have n3_ := Aside0.mk (Kd.R_elder' (lf HO329) (Kd.R_base ho0) hb); have n4_ := Aside0.mk (Kd.R_lower (Kd.R_new' (Kd.R_new' (Kd.R_new' (Kd.R_new' ho0 (Kd.R_lt (lf HO_308000))) (Kd.R_lt (lf HO_312000))) (Kd.R_lt (lf HO_316000))) (Kd.R_lt (lf HO329))) (below_size bw)); have n5_ := Aside0.mk (blk_below (g := gb299) (o := .cells #[.slice A0_0 l0_0.length c0_0] 24 (0, 0)) (lb BK299) hb); have n6_ := Aside0.mk (blk_below (g := gb307) (o := .cells #[.slice Ao26 t304.length co26] 28 (0, 0)) (lb BK307) hb); have n7_ := Aside0.mk (blk_below (g := gb311) (o := .cells #[.slice Ao32 t322.length co32] 28 (0, 0)) (lb BK311) hb); have n8_ := Aside0.mk (blk_below (g := gb315) (o := .cells #[.slice Ao38 t312.length co38] 28 (0, 0)) (lb BK315) hb); have n9_ := Aside0.mk (below_step bw hb); clear HO_308000; clear HO_312000; clear HO_316000; clear HO329; clear BK299; clear BK307; clear BK311; clear BK315; clear HB; have HO_308000 := n0_; have HO_312000 := n1_; have HO_316000 := n2_; have HO329 := n3_; have HO332 := n4_; have BK299 := n5_; have BK307 := n6_; have BK311 := n7_; have BK315 := n8_; have HB := n9_; clear n0_ n1_ n2_ n3_ n4_ n5_ n6_ n7_ n8_ n9_; (try clear hb); (try clear hb2); (try clear hk); (try clear hi); (try clear ho0)) | ((with_reducible refine gate_dst (N := 10) rfl ?_); refine box_event ?hg (N := 10) ?hd (cs := #[.slice none 0 0]) (t := 28) ?hr ?_; (case hd => rfl); (case hg => rfl); (case hr => first | (go_simp; done) | (go_simp; rfl)); intro gb333 hg w90 hbox hb; have n0_ := Aside0.mk (Kd.R_below (lf HO_308000) hb); have n1_ := Aside0.mk (Kd.R_below (lf HO_312000) hb); have n2_ := Aside0.mk (Kd.R_below (lf HO_316000) hb); have n3_ := Aside0.mk (Kd.R_below (lf HO329) hb); have n4_ := Aside0.mk (Kd.R_below (lf HO332) hb); have n5_ := Aside0.mk (blk_below (g := gb299) (o := .cells #[.slice A0_0 l0_0.length c0_0] 24 (0, 0)) (lb BK299) hb); have n6_ := Aside0.mk (blk_below (g := gb307) (o := .cells #[.slice Ao26 t304.length co26] 28 (0, 0)) (lb BK307) hb); have n7_ := Aside0.mk (blk_below (g := gb311) (o := .cells #[.slice Ao32 t322.length co32] 28 (0, 0)) (lb BK311) hb); have n8_ := Aside0.mk (blk_below (g := gb315) (o := .cells #[.slice Ao38 t312.length co38] 28 (0, 0)) (lb BK315) hb); have n9_ := Aside0.mk (below_step bw hb); have n10_ := Aside0.mk (hbox); have n11_ := Aside0.mk ((by rw [hg]; exact (below_size bw) : w.heap.size ≤ gb333)); have n12_ := Aside0.mk ((by rw [hg]; exact (below_size bw) : w.heap.size ≤ gb333)); have n13_ := Aside0.mk ((by rw [hg]; exact Nat.ne_of_lt (blk_lt (g := gb299) (o := .cells #[.slice A0_0 l0_0.length c0_0] 24 (0, 0)) (lb BK299)) : gb299 ≠ gb333)); have n14_ := Aside0.mk ((by rw [hg]; exact Nat.ne_of_gt (blk_lt (g := gb299) (o := .cells #[.slice A0_0 l0_0.length c0_0] 24 (0, 0)) (lb BK299)) : gb333 ≠ gb299)); have n15_ := Aside0.mk ((by rw [hg]; exact Nat.ne_of_lt (blk_lt (g := gb307) (o := .cells #[.slice Ao26 t304.length co26] 28 (0, 0)) (lb BK307)) : gb307 ≠ gb333)); have n16_ := Aside0.mk ((by rw [hg]; exact Nat.ne_of_gt (blk_lt (g := gb307) (o := .cells #[.slice Ao26 t304.length co26] 28 (0, 0)) (lb BK307)) : gb333 ≠ gb307)); have n17_ := Aside0.mk ((by rw [hg]; exact Nat.ne_of_lt (blk_lt (g := gb311) (o := .cells #[.slice Ao32 t322.length co32] 28 (0, 0)) (lb BK311)) : gb311 ≠ gb333)); have n18_ := Aside0.mk ((by rw [hg]; exact Nat.ne_of_gt (blk_lt (g := gb311) (o := .cells #[.slice Ao32 t322.length co32] 28 (0, 0)) (lb BK311)) : gb333 ≠ gb311)); have n19_ := Aside0.mk ((by rw [hg]; exact Nat.ne_of_lt (blk_lt (g := gb315) (o := .cells #[.slice Ao38 t312.length co38] 28 (0, 0)) (lb BK315)) : gb315 ≠ gb333)); have n20_ := Aside0.mk ((by rw [hg]; exact Nat.ne_of_gt (blk_lt (g := gb315) (o := .cells #[.slice Ao38 t312.length co38] 28 (0, 0)) (lb BK315)) : gb333 ≠ gb315)); clear HO_308000; clear HO_312000; clear HO_316000; clear HO329; clear HO332; clear BK299; clear BK307; clear BK311; clear BK315; clear HB; have HO_308000 := n0_; have HO_312000 := n1_; have HO_316000 := n2_; have HO329 := n3_; have HO332 := n4_; have BK299 := n5_; have BK307 := n6_; have BK311 := n7_; have BK315 := n8_; have HB := n9_; have BK333 := n10_; have GW333 := n11_; have GE333 := n12_; have NB299_333 := n13_; have NB333_299 := n14_; have NB307_333 := n15_; have NB333_307 := n16_; have NB311_333 := n17_; have NB333_311 := n18_; have NB315_333 := n19_; have NB333_315 := n20_; clear n0_ n1_ n2_ n3_ n4_ n5_ n6_ n7_ n8_ n9_ n10_ n11_ n12_ n13_ n14_ n15_ n16_ n17_ n18_ n19_ n20_; clear hb hbox hg; obtain ⟨Ao91, co91, eo91⟩ := Kd.R_slice HO332.out; subst eo91; have hnb92 := NB333_299.out; have hnc92 := NB299_333.out; have hnb93 := NB333_307.out; have hnc93 := NB307_333.out; have hnb94 := NB333_311.out; have hnc94 := NB311_333.out; have hnb95 := NB333_315.out; have hnc95 := NB315_333.out; have hcz96_0 : w90.cell? ⟨gb333, 0, none⟩ = some (.slice none 0 0) := (blk_cell BK333.out 0).trans rfl; have hfz96_0 := blk_frozen BK333.out 0; have hnb97 := NB307_311.out; have hnc97 := NB311_307.out; have hcz98_0 : w90.cell? ⟨gb307, 0, none⟩ = some (.slice Ao26 t304.length co26) := (blk_cell BK307.out 0).trans rfl; have hfz98_0 := blk_frozen BK307.out 0) | ((with_reducible refine at_fn (f := 9) rfl ?_); refine goesL_ (some 59) rfl rfl Try.func9 (by kernel_rfl) rfl #[.agg #[.slice Ao91 t330.length co91], .agg #[.slice Ao26 t304.length co26]] rfl (by (try simp only [List.map_toArray, List.map_cons, List.map_nil]); first | done | rfl | (simp only [List.length_drop, List.length_take]; rfl)) ?_; (with_reducible refine (laws_eqFilter.calls kj16 _ _ t330 _ _ t304 true _ ?side1 ?side2 ?side3 ?side4 A75.out).mono ?_); (case side1 => refine (Kd.R_reads' (e := 63) (base := w.heap.size) (ok := fun k_ => ((((True ∧ some k_ ≠ (.slice Ao26 t304.length co26 : Value).ownBlock) ∧ some k_ ≠ (.slice Ao32 t322.length co32 : Value).ownBlock) ∧ some k_ ≠ (.slice Ao38 t312.length co38 : Value).ownBlock) ∧ some k_ ≠ (.slice Ao88 t327.length co88 : Value).ownBlock)) (n := t330.length) (c := co91) ?_).2.2; exact (by (with_reducible repeat (first | apply Kd.R_alloc | apply Kd.R_drewN | apply Kd.R_drew)); exact (Kd.R_mono (Kd.R_far (p := ⟨gb333, 0, none⟩) (Kd.R_types HO332.out BK333.out (by decide)) (fun _ hk => hk.2) (.slice Ao91 t330.length co91)) (fun _ h_ => h_.1)))); (case side2 => exact (Kd.R_reads' HO332.out).2.1); (case side3 => refine (Kd.R_reads' (e := 63) (base := w.heap.size) (ok := fun k_ => (((some k_ ≠ (.slice Ao32 t322.length co32 : Value).ownBlock ∧ some k_ ≠ (.slice Ao38 t312.length co38 : Value).ownBlock) ∧ some k_ ≠ (.slice Ao88 t327.length co88 : Value).ownBlock) ∧ some k_ ≠ (.slice Ao91 t330.length co91 : Value).ownBlock)) (n := t304.length) (c := co26) ?_).2.2; exact (by (with_reducible repeat (first | apply Kd.R_alloc | apply Kd.R_drewN | apply Kd.R_drew)); exact (Kd.R_mono (Kd.R_far (p := ⟨gb333, 0, none⟩) (Kd.R_types HO_308000.out BK333.out (by decide)) (fun _ hk => hk.2) (.slice Ao91 t330.length co91)) (fun _ h_ => h_.1)))); (case side4 => exact (Kd.R_reads' HO_308000.out).2.1); rintro e w99 ⟨rfl, hb⟩; refine ⟨_, rfl, ?_⟩; have n0_ := Aside0.mk (Kd.R_below (by (with_reducible repeat (first | apply Kd.R_alloc | apply Kd.R_drewN | apply Kd.R_drew)); exact (Kd.R_mono (Kd.R_far (p := ⟨gb333, 0, none⟩) (Kd.R_types HO_308000.out BK333.out (by decide)) (fun _ hk => hk.2) (.slice Ao91 t330.length co91)) (fun _ h_ => h_.1))) hb); have n1_ := Aside0.mk (Kd.R_below (by (with_reducible repeat (first | apply Kd.R_alloc | apply Kd.R_drewN | apply Kd.R_drew)); exact (Kd.R_mono (Kd.R_far (p := ⟨gb333, 0, none⟩) (Kd.R_types HO_312000.out BK333.out (by decide)) (fun _ hk => hk.2) (.slice Ao91 t330.length co91)) (fun _ h_ => h_.1))) hb); have n2_ := Aside0.mk (Kd.R_below (by (with_reducible repeat (first | apply Kd.R_alloc | apply Kd.R_drewN | apply Kd.R_drew)); exact (Kd.R_mono (Kd.R_far (p := ⟨gb333, 0, none⟩) (Kd.R_types HO_316000.out BK333.out (by decide)) (fun _ hk => hk.2) (.slice Ao91 t330.length co91)) (fun _ h_ => h_.1))) hb); have n3_ := Aside0.mk (Kd.R_below (by (with_reducible repeat (first | apply Kd.R_alloc | apply Kd.R_drewN | apply Kd.R_drew)); exact (Kd.R_mono (Kd.R_far (p := ⟨gb333, 0, none⟩) (Kd.R_types HO329.out BK333.out (by decide)) (fun _ hk => hk.2) (.slice Ao91 t330.length co91)) (fun _ h_ => h_.1))) hb); have n4_ := Aside0.mk (Kd.R_below (by (with_reducible repeat (first | apply Kd.R_alloc | apply Kd.R_drewN | apply Kd.R_drew)); exact (Kd.R_mono (Kd.R_far (p := ⟨gb333, 0, none⟩) (Kd.R_types HO332.out BK333.out (by decide)) (fun _ hk => hk.2) (.slice Ao91 t330.length co91)) (fun _ h_ => h_.1))) hb); have n5_ := Aside0.mk (blk_below (g := gb299) (o := .cells #[.slice A0_0 l0_0.length c0_0] 24 (0, 0)) (by (with_reducible repeat (first | refine blk_drewN ?_ _ | refine blk_drew ?_ | refine blk_alloc ?_ _)); refine blk_far ?_ NB299_333.out _; (with_reducible repeat (first | refine blk_drewN ?_ _ | refine blk_drew ?_ | refine blk_alloc ?_ _)); exact BK299.out) hb); have n6_ := Aside0.mk (blk_below (g := gb307) (o := .cells #[.slice Ao26 t304.length co26] 28 (0, 0)) (by (with_reducible repeat (first | refine blk_drewN ?_ _ | refine blk_drew ?_ | refine blk_alloc ?_ _)); refine blk_far ?_ NB307_333.out _; (with_reducible repeat (first | refine blk_drewN ?_ _ | refine blk_drew ?_ | refine blk_alloc ?_ _)); exact BK307.out) hb); have n7_ := Aside0.mk (blk_below (g := gb311) (o := .cells #[.slice Ao32 t322.length co32] 28 (0, 0)) (by (with_reducible repeat (first | refine blk_drewN ?_ _ | refine blk_drew ?_ | refine blk_alloc ?_ _)); refine blk_far ?_ NB311_333.out _; (with_reducible repeat (first | refine blk_drewN ?_ _ | refine blk_drew ?_ | refine blk_alloc ?_ _)); exact BK311.out) hb); have n8_ := Aside0.mk (blk_below (g := gb315) (o := .cells #[.slice Ao38 t312.length co38] 28 (0, 0)) (by (with_reducible repeat (first | refine blk_drewN ?_ _ | refine blk_drew ?_ | refine blk_alloc ?_ _)); refine blk_far ?_ NB315_333.out _; (with_reducible repeat (first | refine blk_drewN ?_ _ | refine blk_drew ?_ | refine blk_alloc ?_ _)); exact BK315.out) hb); have n9_ := Aside0.mk (blk_below (g := gb333) (o := .cells #[.slice Ao91 t330.length co91] 28 (0, 0)) (by (with_reducible repeat (first | refine blk_drewN ?_ _ | refine blk_drew ?_ | refine blk_alloc ?_ _)); refine blk_put (cs := #[.slice none 0 0]) ?_ 0 _ rfl; (with_reducible repeat (first | refine blk_drewN ?_ _ | refine blk_drew ?_ | refine blk_alloc ?_ _)); exact BK333.out) hb); have n10_ := Aside0.mk (below_step bw hb); clear HO_308000; clear HO_312000; clear HO_316000; clear HO329; clear HO332; clear BK299; clear BK307; clear BK311; clear BK315; clear BK333; clear HB; have HO_308000 := n0_; have HO_312000 := n1_; have HO_316000 := n2_; have HO329 := n3_; have HO332 := n4_; have BK299 := n5_; have BK307 := n6_; have BK311 := n7_; have BK315 := n8_; have BK333 := n9_; have HB := n10_; clear n0_ n1_ n2_ n3_ n4_ n5_ n6_ n7_ n8_ n9_ n10_; (try clear hb); (try clear hb2); (try clear hk); (try clear hi)))
          go_ret
          exact ⟨by first | rfl | (simp [errW_none, errW_some] <;> rfl) | (simp [*, errW_none, errW_some] <;> rfl), bw⟩
         ·replace c76 := Bool.eq_false_iff.mpr c76
          subst c76
          have H1 : (some false) = some r := by rw [if_neg (show ¬ (false = true) by decide)] at H; exact H
          clear H
          have H := H1
          clear H1
          obtain rfl := Option.some.inj H
          have hnb100 := NB315_299.out
          have hnc100 := NB299_315.out
          have hnb101 := NB315_307.out
          have hnc101 := NB307_315.out
          have hnb102 := NB315_311.out
          have hnc102 := NB311_315.out
          have hcz103_0 : wc.cell? ⟨gb315, 0, none⟩ = some (.slice Ao38 t312.length co38) := (blk_cell BK315.out 0).trans rfl
          have hfz103_0 := blk_frozen BK315.out 0
          go_wp2_with (first | ((with_reducible refine at_fn (f := 10) rfl ?_); refine goesL_ (some 45) rfl rfl Try.func10 (by kernel_rfl) rfl #[.agg #[.slice Ao38 t312.length co38], .int .i64 1] rfl (by (try simp only [List.map_toArray, List.map_cons, List.map_nil]); first | done | rfl | (simp only [List.length_drop, List.length_take]; rfl)) ?_; (with_reducible refine (laws_markFilter.calls kj16 (fun k_ => some k_ = (.slice Ao38 t312.length co38 : Value).ownBlock) (.slice Ao38 t312.length co38) t312 1 t324 t325 w _ ?side1 ?side2 A62.out).mono ?_); (case side1 => repeat (first | (with_reducible first | exact HB.out | apply below_alloc | apply pw_below_drewN | apply below_drew1 | refine below_set ?_ GE299.out | refine below_set ?_ GE307.out | refine below_set ?_ GE311.out | refine below_set ?_ GE315.out) | exact HB.out)); (case side2 => exact Kd.R_tight rfl HO_316000.out); rintro e w104 ⟨rfl, hy0, hb, hkp⟩; refine ⟨_, rfl, ?_⟩; have n0_ := Aside0.mk (Kd.R_mono (ok' := fun k_ => some k_ ≠ (.slice Ao32 t322.length co32 : Value).ownBlock ∧ some k_ ≠ (.slice Ao38 t312.length co38 : Value).ownBlock) (Kd.R_keptB (HO_308000.out) hkp (fun k_ hk_ hs_ => (hk_.2) hs_)) (fun k_ hk_ => ⟨hk_.1.1, hk_.1.2⟩)); have n1_ := Aside0.mk (Kd.R_mono (ok' := fun k_ => some k_ ≠ (.slice Ao26 t304.length co26 : Value).ownBlock ∧ some k_ ≠ (.slice Ao38 t312.length co38 : Value).ownBlock) (Kd.R_keptB (HO_312000.out) hkp (fun k_ hk_ hs_ => (hk_.2) hs_)) (fun k_ hk_ => ⟨hk_.1.1, hk_.1.2⟩)); have n2_ := Aside0.mk (Kd.R_reok rfl hy0 (fun k_ e_ => HO_316000.out.1 k_ e_)); have n3_ := Aside0.mk (blk_kept (lb BK299) hkp (fun hs_ => (fun e_ => (Kd.R_ne HO_316000.out BK299.out (by decide)) e_) hs_)); have n4_ := Aside0.mk (blk_kept (lb BK307) hkp (fun hs_ => (fun e_ => (Kd.R_ne HO_316000.out BK307.out (by decide)) e_) hs_)); have n5_ := Aside0.mk (blk_kept (lb BK311) hkp (fun hs_ => (fun e_ => (Kd.R_ne HO_316000.out BK311.out (by decide)) e_) hs_)); have n6_ := Aside0.mk (blk_kept (lb BK315) hkp (fun hs_ => (fun e_ => (Kd.R_ne HO_316000.out BK315.out (by decide)) e_) hs_)); have n7_ := Aside0.mk (hb); clear HO_308000; clear HO_312000; clear HO_316000; clear BK299; clear BK307; clear BK311; clear BK315; clear HB; have HO_308000 := n0_; have HO_312000 := n1_; have HO_316000 := n2_; have BK299 := n3_; have BK307 := n4_; have BK311 := n5_; have BK315 := n6_; have HB := n7_; clear n0_ n1_ n2_ n3_ n4_ n5_ n6_ n7_; (try clear hb); (try clear hkp); (try clear hy0); have hcz105_0 : w104.cell? ⟨gb315, 0, none⟩ = some (.slice Ao38 t312.length co38) := (blk_cell BK315.out 0).trans rfl; have hfz105_0 := blk_frozen BK315.out 0) | ((with_reducible refine at_fn (f := 11) rfl ?_); refine goesL_ (some 48) rfl rfl Try.func11 (by kernel_rfl) rfl #[.agg #[.slice Ao38 t325.length co38], .int .i64 1] rfl (by (try simp only [List.map_toArray, List.map_cons, List.map_nil]); first | done | (rw [show t325.length = t312.length from (Kd.R_reads' HO_316000.out).1.symm] <;> rfl) | rfl | (simp only [List.length_drop, List.length_take]; rfl)) ?_; (with_reducible refine (laws_heldFilter.calls kj16 _ _ t325 1 t326 _ ?side1 ?side2 A63.out).mono ?_); (case side1 => repeat (first | exact (Kd.R_reads' HO_316000.out).2.2 | (with_reducible refine Kd.C_alloc ?_ _) | (with_reducible refine Kd.C_drewN ?_ _) | (with_reducible refine Kd.C_drew ?_))); (case side2 => rw [show t325.length = t312.length from (Kd.R_reads' HO_316000.out).1.symm]; exact (Kd.R_reads' HO_316000.out).2.1); rintro e w106 ⟨rfl, hb⟩; refine ⟨_, rfl, ?_⟩; have n0_ := Aside0.mk (Kd.R_below (lf HO_308000) hb); have n1_ := Aside0.mk (Kd.R_below (lf HO_312000) hb); have n2_ := Aside0.mk (Kd.R_below (lf HO_316000) hb); have n3_ := Aside0.mk (blk_below (g := gb299) (o := .cells #[.slice A0_0 l0_0.length c0_0] 24 (0, 0)) (lb BK299) hb); have n4_ := Aside0.mk (blk_below (g := gb307) (o := .cells #[.slice Ao26 t304.length co26] 28 (0, 0)) (lb BK307) hb); have n5_ := Aside0.mk (blk_below (g := gb311) (o := .cells #[.slice Ao32 t322.length co32] 28 (0, 0)) (lb BK311) hb); have n6_ := Aside0.mk (blk_below (g := gb315) (o := .cells #[.slice Ao38 t312.length co38] 28 (0, 0)) (lb BK315) hb); have n7_ := Aside0.mk (below_step bw hb); clear HO_308000; clear HO_312000; clear HO_316000; clear BK299; clear BK307; clear BK311; clear BK315; clear HB; have HO_308000 := n0_; have HO_312000 := n1_; have HO_316000 := n2_; have BK299 := n3_; have BK307 := n4_; have BK311 := n5_; have BK315 := n6_; have HB := n7_; clear n0_ n1_ n2_ n3_ n4_ n5_ n6_ n7_; (try clear hb); (try clear hb2); (try clear hk); (try clear hi); have hnb107 := NB299_307.out; have hnc107 := NB307_299.out; have hnb108 := NB299_311.out; have hnc108 := NB311_299.out; have hcz109_0 : w106.cell? ⟨gb299, 0, none⟩ = some (.slice A0_0 l0_0.length c0_0) := (blk_cell BK299.out 0).trans rfl; have hfz109_0 := blk_frozen BK299.out 0) | ((with_reducible refine at_fn (f := 7) rfl ?_); refine goesL_ (some 55) rfl rfl Try.func7 (by kernel_rfl) rfl #[.agg #[.slice A0_0 l0_0.length c0_0]] rfl (by (try simp only [List.map_toArray, List.map_cons, List.map_nil]); first | done | rfl | (simp only [List.length_drop, List.length_take]; rfl)) ?_; (with_reducible refine (laws_toFilter.calls kj16 _ _ l0_0 t327 _ ?side1 ?side2 A73.out).mono ?_); (case side1 => repeat (first | exact (Kd.C_below HR0_0.out HB.out) | (with_reducible refine Kd.C_alloc ?_ _) | (with_reducible refine Kd.C_drewN ?_ _) | (with_reducible refine Kd.C_drew ?_))); (case side2 => exact HC0_0.out); rintro e w110 ⟨v328, rfl, ho0, hb⟩; refine ⟨_, rfl, ?_⟩; have n0_ := Aside0.mk (Kd.R_elder' (lf HO_308000) (Kd.R_base ho0) hb); have n1_ := Aside0.mk (Kd.R_elder' (lf HO_312000) (Kd.R_base ho0) hb); have n2_ := Aside0.mk (Kd.R_elder' (lf HO_316000) (Kd.R_base ho0) hb); have n3_ := Aside0.mk (Kd.R_lower (Kd.R_new' (Kd.R_new' (Kd.R_new' ho0 (Kd.R_lt (lf HO_308000))) (Kd.R_lt (lf HO_312000))) (Kd.R_lt (lf HO_316000))) (below_size bw)); have n4_ := Aside0.mk (blk_below (g := gb299) (o := .cells #[.slice A0_0 l0_0.length c0_0] 24 (0, 0)) (lb BK299) hb); have n5_ := Aside0.mk (blk_below (g := gb307) (o := .cells #[.slice Ao26 t304.length co26] 28 (0, 0)) (lb BK307) hb); have n6_ := Aside0.mk (blk_below (g := gb311) (o := .cells #[.slice Ao32 t322.length co32] 28 (0, 0)) (lb BK311) hb); have n7_ := Aside0.mk (blk_below (g := gb315) (o := .cells #[.slice Ao38 t312.length co38] 28 (0, 0)) (lb BK315) hb); have n8_ := Aside0.mk (below_step bw hb); clear HO_308000; clear HO_312000; clear HO_316000; clear BK299; clear BK307; clear BK311; clear BK315; clear HB; have HO_308000 := n0_; have HO_312000 := n1_; have HO_316000 := n2_; have HO329 := n3_; have BK299 := n4_; have BK307 := n5_; have BK311 := n6_; have BK315 := n7_; have HB := n8_; clear n0_ n1_ n2_ n3_ n4_ n5_ n6_ n7_ n8_; (try clear hb); (try clear hb2); (try clear hk); (try clear hi); (try clear ho0); obtain ⟨Ao111, co111, eo111⟩ := Kd.R_slice HO329.out; subst eo111) | ((with_reducible refine at_fn (f := 8) rfl ?_); refine goesL_ (some 56) rfl rfl Try.func8 (by kernel_rfl) rfl #[.agg #[.slice Ao111 t327.length co111]] rfl (by (try simp only [List.map_toArray, List.map_cons, List.map_nil]); first | done | rfl | (simp only [List.length_drop, List.length_take]; rfl)) ?_; (with_reducible refine (impl_Normal.calls _ _ t327 t330 _ ?side1 ?side2 A74.out).mono ?_); (case side1 => repeat (first | exact (Kd.R_reads' HO329.out).2.2 | (with_reducible refine Kd.C_alloc ?_ _) | (with_reducible refine Kd.C_drewN ?_ _) | (with_reducible refine Kd.C_drew ?_))); (case side2 => exact (Kd.R_reads' HO329.out).2.1); rintro e w112 ⟨v331, rfl, ho0, hb⟩; refine ⟨_, rfl, ?_⟩; have n0_ := Aside0.mk (Kd.R_elder' (lf HO_308000) (Kd.R_base ho0) hb); have n1_ := Aside0.mk (Kd.R_elder' (lf HO_312000) (Kd.R_base ho0) hb); have n2_ := Aside0.mk (Kd.R_elder' (lf HO_316000) (Kd.R_base ho0) hb); have n3_ := Aside0.mk (Kd.R_elder' (lf HO329) (Kd.R_base ho0) hb); have n4_ := Aside0.mk (Kd.R_lower (Kd.R_new' (Kd.R_new' (Kd.R_new' (Kd.R_new' ho0 (Kd.R_lt (lf HO_308000))) (Kd.R_lt (lf HO_312000))) (Kd.R_lt (lf HO_316000))) (Kd.R_lt (lf HO329))) (below_size bw)); have n5_ := Aside0.mk (blk_below (g := gb299) (o := .cells #[.slice A0_0 l0_0.length c0_0] 24 (0, 0)) (lb BK299) hb); have n6_ := Aside0.mk (blk_below (g := gb307) (o := .cells #[.slice Ao26 t304.length co26] 28 (0, 0)) (lb BK307) hb); have n7_ := Aside0.mk (blk_below (g := gb311) (o := .cells #[.slice Ao32 t322.length co32] 28 (0, 0)) (lb BK311) hb); have n8_ := Aside0.mk (blk_below (g := gb315) (o := .cells #[.slice Ao38 t312.length co38] 28 (0, 0)) (lb BK315) hb); have n9_ := Aside0.mk (below_step bw hb); clear HO_308000; clear HO_312000; clear HO_316000; clear HO329; clear BK299; clear BK307; clear BK311; clear BK315; clear HB; have HO_308000 := n0_; have HO_312000 := n1_; have HO_316000 := n2_; have HO329 := n3_; have HO332 := n4_; have BK299 := n5_; have BK307 := n6_; have BK311 := n7_; have BK315 := n8_; have HB := n9_; clear n0_ n1_ n2_ n3_ n4_ n5_ n6_ n7_ n8_ n9_; (try clear hb); (try clear hb2); (try clear hk); (try clear hi); (try clear ho0)) | ((with_reducible refine gate_dst (N := 10) rfl ?_); refine box_event ?hg (N := 10) ?hd (cs := #[.slice none 0 0]) (t := 28) ?hr ?_; (case hd => rfl); (case hg => rfl); (case hr => first | (go_simp; done) | (go_simp; rfl)); intro gb333 hg w113 hbox hb; have n0_ := Aside0.mk (Kd.R_below (lf HO_308000) hb); have n1_ := Aside0.mk (Kd.R_below (lf HO_312000) hb); have n2_ := Aside0.mk (Kd.R_below (lf HO_316000) hb); have n3_ := Aside0.mk (Kd.R_below (lf HO329) hb); have n4_ := Aside0.mk (Kd.R_below (lf HO332) hb); have n5_ := Aside0.mk (blk_below (g := gb299) (o := .cells #[.slice A0_0 l0_0.length c0_0] 24 (0, 0)) (lb BK299) hb); have n6_ := Aside0.mk (blk_below (g := gb307) (o := .cells #[.slice Ao26 t304.length co26] 28 (0, 0)) (lb BK307) hb); have n7_ := Aside0.mk (blk_below (g := gb311) (o := .cells #[.slice Ao32 t322.length co32] 28 (0, 0)) (lb BK311) hb); have n8_ := Aside0.mk (blk_below (g := gb315) (o := .cells #[.slice Ao38 t312.length co38] 28 (0, 0)) (lb BK315) hb); have n9_ := Aside0.mk (below_step bw hb); have n10_ := Aside0.mk (hbox); have n11_ := Aside0.mk ((by rw [hg]; exact (below_size bw) : w.heap.size ≤ gb333)); have n12_ := Aside0.mk ((by rw [hg]; exact (below_size bw) : w.heap.size ≤ gb333)); have n13_ := Aside0.mk ((by rw [hg]; exact Nat.ne_of_lt (blk_lt (g := gb299) (o := .cells #[.slice A0_0 l0_0.length c0_0] 24 (0, 0)) (lb BK299)) : gb299 ≠ gb333)); have n14_ := Aside0.mk ((by rw [hg]; exact Nat.ne_of_gt (blk_lt (g := gb299) (o := .cells #[.slice A0_0 l0_0.length c0_0] 24 (0, 0)) (lb BK299)) : gb333 ≠ gb299)); have n15_ := Aside0.mk ((by rw [hg]; exact Nat.ne_of_lt (blk_lt (g := gb307) (o := .cells #[.slice Ao26 t304.length co26] 28 (0, 0)) (lb BK307)) : gb307 ≠ gb333)); have n16_ := Aside0.mk ((by rw [hg]; exact Nat.ne_of_gt (blk_lt (g := gb307) (o := .cells #[.slice Ao26 t304.length co26] 28 (0, 0)) (lb BK307)) : gb333 ≠ gb307)); have n17_ := Aside0.mk ((by rw [hg]; exact Nat.ne_of_lt (blk_lt (g := gb311) (o := .cells #[.slice Ao32 t322.length co32] 28 (0, 0)) (lb BK311)) : gb311 ≠ gb333)); have n18_ := Aside0.mk ((by rw [hg]; exact Nat.ne_of_gt (blk_lt (g := gb311) (o := .cells #[.slice Ao32 t322.length co32] 28 (0, 0)) (lb BK311)) : gb333 ≠ gb311)); have n19_ := Aside0.mk ((by rw [hg]; exact Nat.ne_of_lt (blk_lt (g := gb315) (o := .cells #[.slice Ao38 t312.length co38] 28 (0, 0)) (lb BK315)) : gb315 ≠ gb333)); have n20_ := Aside0.mk ((by rw [hg]; exact Nat.ne_of_gt (blk_lt (g := gb315) (o := .cells #[.slice Ao38 t312.length co38] 28 (0, 0)) (lb BK315)) : gb333 ≠ gb315)); clear HO_308000; clear HO_312000; clear HO_316000; clear HO329; clear HO332; clear BK299; clear BK307; clear BK311; clear BK315; clear HB; have HO_308000 := n0_; have HO_312000 := n1_; have HO_316000 := n2_; have HO329 := n3_; have HO332 := n4_; have BK299 := n5_; have BK307 := n6_; have BK311 := n7_; have BK315 := n8_; have HB := n9_; have BK333 := n10_; have GW333 := n11_; have GE333 := n12_; have NB299_333 := n13_; have NB333_299 := n14_; have NB307_333 := n15_; have NB333_307 := n16_; have NB311_333 := n17_; have NB333_311 := n18_; have NB315_333 := n19_; have NB333_315 := n20_; clear n0_ n1_ n2_ n3_ n4_ n5_ n6_ n7_ n8_ n9_ n10_ n11_ n12_ n13_ n14_ n15_ n16_ n17_ n18_ n19_ n20_; clear hb hbox hg; obtain ⟨Ao114, co114, eo114⟩ := Kd.R_slice HO332.out; subst eo114; have hnb115 := NB333_299.out; have hnc115 := NB299_333.out; have hnb116 := NB333_307.out; have hnc116 := NB307_333.out; have hnb117 := NB333_311.out; have hnc117 := NB311_333.out; have hnb118 := NB333_315.out; have hnc118 := NB315_333.out; have hcz119_0 : w113.cell? ⟨gb333, 0, none⟩ = some (.slice none 0 0) := (blk_cell BK333.out 0).trans rfl; have hfz119_0 := blk_frozen BK333.out 0; have hnb120 := NB307_311.out; have hnc120 := NB311_307.out; have hcz121_0 : w113.cell? ⟨gb307, 0, none⟩ = some (.slice Ao26 t304.length co26) := (blk_cell BK307.out 0).trans rfl; have hfz121_0 := blk_frozen BK307.out 0) | ((with_reducible refine at_fn (f := 9) rfl ?_); refine goesL_ (some 59) rfl rfl Try.func9 (by kernel_rfl) rfl #[.agg #[.slice Ao114 t330.length co114], .agg #[.slice Ao26 t304.length co26]] rfl (by (try simp only [List.map_toArray, List.map_cons, List.map_nil]); first | done | rfl | (simp only [List.length_drop, List.length_take]; rfl)) ?_; (with_reducible refine (laws_eqFilter.calls kj16 _ _ t330 _ _ t304 false _ ?side1 ?side2 ?side3 ?side4 A75.out).mono ?_); (case side1 => refine (Kd.R_reads' (e := 63) (base := w.heap.size) (ok := fun k_ => ((((True ∧ some k_ ≠ (.slice Ao26 t304.length co26 : Value).ownBlock) ∧ some k_ ≠ (.slice Ao32 t322.length co32 : Value).ownBlock) ∧ some k_ ≠ (.slice Ao38 t312.length co38 : Value).ownBlock) ∧ some k_ ≠ (.slice Ao111 t327.length co111 : Value).ownBlock)) (n := t330.length) (c := co114) ?_).2.2; exact (by (with_reducible repeat (first | apply Kd.R_alloc | apply Kd.R_drewN | apply Kd.R_drew)); exact (Kd.R_mono (Kd.R_far (p := ⟨gb333, 0, none⟩) (Kd.R_types HO332.out BK333.out (by decide)) (fun _ hk => hk.2) (.slice Ao114 t330.length co114)) (fun _ h_ => h_.1)))); (case side2 => exact (Kd.R_reads' HO332.out).2.1); (case side3 => refine (Kd.R_reads' (e := 63) (base := w.heap.size) (ok := fun k_ => (((some k_ ≠ (.slice Ao32 t322.length co32 : Value).ownBlock ∧ some k_ ≠ (.slice Ao38 t312.length co38 : Value).ownBlock) ∧ some k_ ≠ (.slice Ao111 t327.length co111 : Value).ownBlock) ∧ some k_ ≠ (.slice Ao114 t330.length co114 : Value).ownBlock)) (n := t304.length) (c := co26) ?_).2.2; exact (by (with_reducible repeat (first | apply Kd.R_alloc | apply Kd.R_drewN | apply Kd.R_drew)); exact (Kd.R_mono (Kd.R_far (p := ⟨gb333, 0, none⟩) (Kd.R_types HO_308000.out BK333.out (by decide)) (fun _ hk => hk.2) (.slice Ao114 t330.length co114)) (fun _ h_ => h_.1)))); (case side4 => exact (Kd.R_reads' HO_308000.out).2.1); rintro e w122 ⟨rfl, hb⟩; refine ⟨_, rfl, ?_⟩; have n0_ := Aside0.mk (Kd.R_below (by (with_reducible repeat (first | apply Kd.R_alloc | apply Kd.R_drewN | apply Kd.R_drew)); exact (Kd.R_mono (Kd.R_far (p := ⟨gb333, 0, none⟩) (Kd.R_types HO_308000.out BK333.out (by decide)) (fun _ hk => hk.2) (.slice Ao114 t330.length co114)) (fun _ h_ => h_.1))) hb); have n1_ := Aside0.mk (Kd.R_below (by (with_reducible repeat (first | apply Kd.R_alloc | apply Kd.R_drewN | apply Kd.R_drew)); exact (Kd.R_mono (Kd.R_far (p := ⟨gb333, 0, none⟩) (Kd.R_types HO_312000.out BK333.out (by decide)) (fun _ hk => hk.2) (.slice Ao114 t330.length co114)) (fun _ h_ => h_.1))) hb); have n2_ := Aside0.mk (Kd.R_below (by (with_reducible repeat (first | apply Kd.R_alloc | apply Kd.R_drewN | apply Kd.R_drew)); exact (Kd.R_mono (Kd.R_far (p := ⟨gb333, 0, none⟩) (Kd.R_types HO_316000.out BK333.out (by decide)) (fun _ hk => hk.2) (.slice Ao114 t330.length co114)) (fun _ h_ => h_.1))) hb); have n3_ := Aside0.mk (Kd.R_below (by (with_reducible repeat (first | apply Kd.R_alloc | apply Kd.R_drewN | apply Kd.R_drew)); exact (Kd.R_mono (Kd.R_far (p := ⟨gb333, 0, none⟩) (Kd.R_types HO329.out BK333.out (by decide)) (fun _ hk => hk.2) (.slice Ao114 t330.length co114)) (fun _ h_ => h_.1))) hb); have n4_ := Aside0.mk (Kd.R_below (by (with_reducible repeat (first | apply Kd.R_alloc | apply Kd.R_drewN | apply Kd.R_drew)); exact (Kd.R_mono (Kd.R_far (p := ⟨gb333, 0, none⟩) (Kd.R_types HO332.out BK333.out (by decide)) (fun _ hk => hk.2) (.slice Ao114 t330.length co114)) (fun _ h_ => h_.1))) hb); have n5_ := Aside0.mk (blk_below (g := gb299) (o := .cells #[.slice A0_0 l0_0.length c0_0] 24 (0, 0)) (by (with_reducible repeat (first | refine blk_drewN ?_ _ | refine blk_drew ?_ | refine blk_alloc ?_ _)); refine blk_far ?_ NB299_333.out _; (with_reducible repeat (first | refine blk_drewN ?_ _ | refine blk_drew ?_ | refine blk_alloc ?_ _)); exact BK299.out) hb); have n6_ := Aside0.mk (blk_below (g := gb307) (o := .cells #[.slice Ao26 t304.length co26] 28 (0, 0)) (by (with_reducible repeat (first | refine blk_drewN ?_ _ | refine blk_drew ?_ | refine blk_alloc ?_ _)); refine blk_far ?_ NB307_333.out _; (with_reducible repeat (first | refine blk_drewN ?_ _ | refine blk_drew ?_ | refine blk_alloc ?_ _)); exact BK307.out) hb); have n7_ := Aside0.mk (blk_below (g := gb311) (o := .cells #[.slice Ao32 t322.length co32] 28 (0, 0)) (by (with_reducible repeat (first | refine blk_drewN ?_ _ | refine blk_drew ?_ | refine blk_alloc ?_ _)); refine blk_far ?_ NB311_333.out _; (with_reducible repeat (first | refine blk_drewN ?_ _ | refine blk_drew ?_ | refine blk_alloc ?_ _)); exact BK311.out) hb); have n8_ := Aside0.mk (blk_below (g := gb315) (o := .cells #[.slice Ao38 t312.length co38] 28 (0, 0)) (by (with_reducible repeat (first | refine blk_drewN ?_ _ | refine blk_drew ?_ | refine blk_alloc ?_ _)); refine blk_far ?_ NB315_333.out _; (with_reducible repeat (first | refine blk_drewN ?_ _ | refine blk_drew ?_ | refine blk_alloc ?_ _)); exact BK315.out) hb); have n9_ := Aside0.mk (blk_below (g := gb333) (o := .cells #[.slice Ao114 t330.length co114] 28 (0, 0)) (by (with_reducible repeat (first | refine blk_drewN ?_ _ | refine blk_drew ?_ | refine blk_alloc ?_ _)); refine blk_put (cs := #[.slice none 0 0]) ?_ 0 _ rfl; (with_reducible repeat (first | refine blk_drewN ?_ _ | refine blk_drew ?_ | refine blk_alloc ?_ _)); exact BK333.out) hb); have n10_ := Aside0.mk (below_step bw hb); clear HO_308000; clear HO_312000; clear HO_316000; clear HO329; clear HO332; clear BK299; clear BK307; clear BK311; clear BK315; clear BK333; clear HB; have HO_308000 := n0_; have HO_312000 := n1_; have HO_316000 := n2_; have HO329 := n3_; have HO332 := n4_; have BK299 := n5_; have BK307 := n6_; have BK311 := n7_; have BK315 := n8_; have BK333 := n9_; have HB := n10_; clear n0_ n1_ n2_ n3_ n4_ n5_ n6_ n7_ n8_ n9_ n10_; (try clear hb); (try clear hb2); (try clear hk); (try clear hi)))
          go_ret
          exact ⟨by first | rfl | (simp [errW_none, errW_some] <;> rfl) | (simp [*, errW_none, errW_some] <;> rfl), bw⟩
        ·rw [if_neg c72] at H
         have c72b0 : (t326 == t324) = false := beq_eq_false_iff_ne.mpr c72
         have c72b1 : (t326 != t324) = true := bne_iff_ne.mpr c72
         obtain rfl := Option.some.inj H
         have hnb123 := NB315_299.out
         have hnc123 := NB299_315.out
         have hnb124 := NB315_307.out
         have hnc124 := NB307_315.out
         have hnb125 := NB315_311.out
         have hnc125 := NB311_315.out
         have hcz126_0 : wc.cell? ⟨gb315, 0, none⟩ = some (.slice Ao38 t312.length co38) := (blk_cell BK315.out 0).trans rfl
         have hfz126_0 := blk_frozen BK315.out 0
         go_wp2_with (first | ((with_reducible refine at_fn (f := 10) rfl ?_); refine goesL_ (some 45) rfl rfl Try.func10 (by kernel_rfl) rfl #[.agg #[.slice Ao38 t312.length co38], .int .i64 1] rfl (by (try simp only [List.map_toArray, List.map_cons, List.map_nil]); first | done | rfl | (simp only [List.length_drop, List.length_take]; rfl)) ?_; (with_reducible refine (laws_markFilter.calls kj16 (fun k_ => some k_ = (.slice Ao38 t312.length co38 : Value).ownBlock) (.slice Ao38 t312.length co38) t312 1 t324 t325 w _ ?side1 ?side2 A62.out).mono ?_); (case side1 => repeat (first | (with_reducible first | exact HB.out | apply below_alloc | apply pw_below_drewN | apply below_drew1 | refine below_set ?_ GE299.out | refine below_set ?_ GE307.out | refine below_set ?_ GE311.out | refine below_set ?_ GE315.out) | exact HB.out)); (case side2 => exact Kd.R_tight rfl HO_316000.out); rintro e w127 ⟨rfl, hy0, hb, hkp⟩; refine ⟨_, rfl, ?_⟩; have n0_ := Aside0.mk (Kd.R_mono (ok' := fun k_ => some k_ ≠ (.slice Ao32 t322.length co32 : Value).ownBlock ∧ some k_ ≠ (.slice Ao38 t312.length co38 : Value).ownBlock) (Kd.R_keptB (HO_308000.out) hkp (fun k_ hk_ hs_ => (hk_.2) hs_)) (fun k_ hk_ => ⟨hk_.1.1, hk_.1.2⟩)); have n1_ := Aside0.mk (Kd.R_mono (ok' := fun k_ => some k_ ≠ (.slice Ao26 t304.length co26 : Value).ownBlock ∧ some k_ ≠ (.slice Ao38 t312.length co38 : Value).ownBlock) (Kd.R_keptB (HO_312000.out) hkp (fun k_ hk_ hs_ => (hk_.2) hs_)) (fun k_ hk_ => ⟨hk_.1.1, hk_.1.2⟩)); have n2_ := Aside0.mk (Kd.R_reok rfl hy0 (fun k_ e_ => HO_316000.out.1 k_ e_)); have n3_ := Aside0.mk (blk_kept (lb BK299) hkp (fun hs_ => (fun e_ => (Kd.R_ne HO_316000.out BK299.out (by decide)) e_) hs_)); have n4_ := Aside0.mk (blk_kept (lb BK307) hkp (fun hs_ => (fun e_ => (Kd.R_ne HO_316000.out BK307.out (by decide)) e_) hs_)); have n5_ := Aside0.mk (blk_kept (lb BK311) hkp (fun hs_ => (fun e_ => (Kd.R_ne HO_316000.out BK311.out (by decide)) e_) hs_)); have n6_ := Aside0.mk (blk_kept (lb BK315) hkp (fun hs_ => (fun e_ => (Kd.R_ne HO_316000.out BK315.out (by decide)) e_) hs_)); have n7_ := Aside0.mk (hb); clear HO_308000; clear HO_312000; clear HO_316000; clear BK299; clear BK307; clear BK311; clear BK315; clear HB; have HO_308000 := n0_; have HO_312000 := n1_; have HO_316000 := n2_; have BK299 := n3_; have BK307 := n4_; have BK311 := n5_; have BK315 := n6_; have HB := n7_; clear n0_ n1_ n2_ n3_ n4_ n5_ n6_ n7_; (try clear hb); (try clear hkp); (try clear hy0); have hcz128_0 : w127.cell? ⟨gb315, 0, none⟩ = some (.slice Ao38 t312.length co38) := (blk_cell BK315.out 0).trans rfl; have hfz128_0 := blk_frozen BK315.out 0) | ((with_reducible refine at_fn (f := 11) rfl ?_); refine goesL_ (some 48) rfl rfl Try.func11 (by kernel_rfl) rfl #[.agg #[.slice Ao38 t325.length co38], .int .i64 1] rfl (by (try simp only [List.map_toArray, List.map_cons, List.map_nil]); first | done | (rw [show t325.length = t312.length from (Kd.R_reads' HO_316000.out).1.symm] <;> rfl) | rfl | (simp only [List.length_drop, List.length_take]; rfl)) ?_; (with_reducible refine (laws_heldFilter.calls kj16 _ _ t325 1 t326 _ ?side1 ?side2 A63.out).mono ?_); (case side1 => repeat (first | exact (Kd.R_reads' HO_316000.out).2.2 | (with_reducible refine Kd.C_alloc ?_ _) | (with_reducible refine Kd.C_drewN ?_ _) | (with_reducible refine Kd.C_drew ?_))); (case side2 => rw [show t325.length = t312.length from (Kd.R_reads' HO_316000.out).1.symm]; exact (Kd.R_reads' HO_316000.out).2.1); rintro e w129 ⟨rfl, hb⟩; refine ⟨_, rfl, ?_⟩; have n0_ := Aside0.mk (Kd.R_below (lf HO_308000) hb); have n1_ := Aside0.mk (Kd.R_below (lf HO_312000) hb); have n2_ := Aside0.mk (Kd.R_below (lf HO_316000) hb); have n3_ := Aside0.mk (blk_below (g := gb299) (o := .cells #[.slice A0_0 l0_0.length c0_0] 24 (0, 0)) (lb BK299) hb); have n4_ := Aside0.mk (blk_below (g := gb307) (o := .cells #[.slice Ao26 t304.length co26] 28 (0, 0)) (lb BK307) hb); have n5_ := Aside0.mk (blk_below (g := gb311) (o := .cells #[.slice Ao32 t322.length co32] 28 (0, 0)) (lb BK311) hb); have n6_ := Aside0.mk (blk_below (g := gb315) (o := .cells #[.slice Ao38 t312.length co38] 28 (0, 0)) (lb BK315) hb); have n7_ := Aside0.mk (below_step bw hb); clear HO_308000; clear HO_312000; clear HO_316000; clear BK299; clear BK307; clear BK311; clear BK315; clear HB; have HO_308000 := n0_; have HO_312000 := n1_; have HO_316000 := n2_; have BK299 := n3_; have BK307 := n4_; have BK311 := n5_; have BK315 := n6_; have HB := n7_; clear n0_ n1_ n2_ n3_ n4_ n5_ n6_ n7_; (try clear hb); (try clear hb2); (try clear hk); (try clear hi)))
         go_ret
         exact ⟨by first | rfl | (simp [errW_none, errW_some] <;> rfl) | (simp [*, errW_none, errW_some] <;> rfl), bw⟩
   ·replace c15 := Bool.eq_false_iff.mpr c15
    subst c15
    have H1 : (some false) = some r := by rw [if_neg (show ¬ (false = true) by decide)] at H; exact H
    clear H
    have H := H1
    clear H1
    obtain rfl := Option.some.inj H
    go_enter Try.func3, Try.ntmps3
    try go_wp2_with (first | ((with_reducible refine gate_dst (N := 1) rfl ?_); refine box_event ?hg (N := 1) ?hd (cs := #[.slice A0_0 l0_0.length c0_0]) (t := 24) ?hr ?_; (case hd => rfl); (case hg => rfl); (case hr => first | (go_simp; done) | (go_simp; rfl)); intro gb299 hg w130 hbox hb; have n0_ := Aside0.mk (below_step bw hb); have n1_ := Aside0.mk (hbox); have n2_ := Aside0.mk ((by rw [hg]; exact (below_size bw) : w.heap.size ≤ gb299)); have n3_ := Aside0.mk ((by rw [hg]; exact (below_size bw) : w.heap.size ≤ gb299)); clear HB; have HB := n0_; have BK299 := n1_; have GW299 := n2_; have GE299 := n3_; clear n0_ n1_ n2_ n3_; clear hb hbox hg; have hcz131_0 : w130.cell? ⟨gb299, 0, none⟩ = some (.slice A0_0 l0_0.length c0_0) := (blk_cell BK299.out 0).trans rfl; have hfz131_0 := blk_frozen BK299.out 0) | ((with_reducible refine at_fn (f := 5) rfl ?_); refine goesL_ (some 13) rfl rfl Try.func5 (by kernel_rfl) rfl #[.agg #[.slice A0_0 l0_0.length c0_0], .int .i64 1048576] rfl (by (try simp only [List.map_toArray, List.map_cons, List.map_nil]); first | done | rfl | (simp only [List.length_drop, List.length_take]; rfl)) ?_; (with_reducible refine (laws_szFilter.calls k _ _ l0_0 1048576 t300 _ ?side1 ?side2 A2.out).mono ?_); (case side1 => repeat (first | exact (Kd.C_below HR0_0.out HB.out) | (with_reducible refine Kd.C_alloc ?_ _) | (with_reducible refine Kd.C_drewN ?_ _) | (with_reducible refine Kd.C_drew ?_))); (case side2 => exact HC0_0.out); rintro e w132 ⟨rfl, hb⟩; refine ⟨_, rfl, ?_⟩; have n0_ := Aside0.mk (blk_below (g := gb299) (o := .cells #[.slice A0_0 l0_0.length c0_0] 24 (0, 0)) (lb BK299) hb); have n1_ := Aside0.mk (below_step bw hb); clear BK299; clear HB; have BK299 := n0_; have HB := n1_; clear n0_ n1_; (try clear hb); (try clear hb2); (try clear hk); (try clear hi); have hcz133_0 : w132.cell? ⟨gb299, 0, none⟩ = some (.slice A0_0 l0_0.length c0_0) := (blk_cell BK299.out 0).trans rfl; have hfz133_0 := blk_frozen BK299.out 0) | ((with_reducible refine at_fn (f := 7) rfl ?_); refine goesL_ (some 17) rfl rfl Try.func7 (by kernel_rfl) rfl #[.agg #[.slice A0_0 l0_0.length c0_0]] rfl (by (try simp only [List.map_toArray, List.map_cons, List.map_nil]); first | done | rfl | (simp only [List.length_drop, List.length_take]; rfl)) ?_; (with_reducible refine (laws_toFilter.calls k _ _ l0_0 t301 _ ?side1 ?side2 A7.out).mono ?_); (case side1 => repeat (first | exact (Kd.C_below HR0_0.out HB.out) | (with_reducible refine Kd.C_alloc ?_ _) | (with_reducible refine Kd.C_drewN ?_ _) | (with_reducible refine Kd.C_drew ?_))); (case side2 => exact HC0_0.out); rintro e w134 ⟨v302, rfl, ho0, hb⟩; refine ⟨_, rfl, ?_⟩; have n0_ := Aside0.mk (Kd.R_lower ho0 (below_size bw)); have n1_ := Aside0.mk (blk_below (g := gb299) (o := .cells #[.slice A0_0 l0_0.length c0_0] 24 (0, 0)) (lb BK299) hb); have n2_ := Aside0.mk (below_step bw hb); clear BK299; clear HB; have HO303 := n0_; have BK299 := n1_; have HB := n2_; clear n0_ n1_ n2_; (try clear hb); (try clear hb2); (try clear hk); (try clear hi); (try clear ho0); obtain ⟨Ao135, co135, eo135⟩ := Kd.R_slice HO303.out; subst eo135) | ((with_reducible refine at_fn (f := 6) rfl ?_); refine goesL_ (some 18) rfl rfl Try.func6 (by kernel_rfl) rfl #[.agg #[.slice Ao135 t301.length co135]] rfl (by (try simp only [List.map_toArray, List.map_cons, List.map_nil]); first | done | rfl | (simp only [List.length_drop, List.length_take]; rfl)) ?_; (with_reducible refine (spec_Normal.calls _ _ t301 t304 _ ?side1 ?side2 A8.out).mono ?_); (case side1 => repeat (first | exact (Kd.R_reads' HO303.out).2.2 | (with_reducible refine Kd.C_alloc ?_ _) | (with_reducible refine Kd.C_drewN ?_ _) | (with_reducible refine Kd.C_drew ?_))); (case side2 => exact (Kd.R_reads' HO303.out).2.1); rintro e w136 ⟨v305, rfl, ho0, hb⟩; refine ⟨_, rfl, ?_⟩; have n0_ := Aside0.mk (Kd.R_elder' (lf HO303) (Kd.R_base ho0) hb); have n1_ := Aside0.mk (Kd.R_lower (Kd.R_new' ho0 (Kd.R_lt (lf HO303))) (below_size bw)); have n2_ := Aside0.mk (blk_below (g := gb299) (o := .cells #[.slice A0_0 l0_0.length c0_0] 24 (0, 0)) (lb BK299) hb); have n3_ := Aside0.mk (below_step bw hb); clear HO303; clear BK299; clear HB; have HO303 := n0_; have HO306 := n1_; have BK299 := n2_; have HB := n3_; clear n0_ n1_ n2_ n3_; (try clear hb); (try clear hb2); (try clear hk); (try clear hi); (try clear ho0)) | ((with_reducible refine gate_dst (N := 4) rfl ?_); refine box_event ?hg (N := 4) ?hd (cs := #[.slice none 0 0]) (t := 28) ?hr ?_; (case hd => rfl); (case hg => rfl); (case hr => first | (go_simp; done) | (go_simp; rfl)); intro gb307 hg w137 hbox hb; have n0_ := Aside0.mk (Kd.R_below (lf HO303) hb); have n1_ := Aside0.mk (Kd.R_below (lf HO306) hb); have n2_ := Aside0.mk (blk_below (g := gb299) (o := .cells #[.slice A0_0 l0_0.length c0_0] 24 (0, 0)) (lb BK299) hb); have n3_ := Aside0.mk (below_step bw hb); have n4_ := Aside0.mk (hbox); have n5_ := Aside0.mk ((by rw [hg]; exact (below_size bw) : w.heap.size ≤ gb307)); have n6_ := Aside0.mk ((by rw [hg]; exact (below_size bw) : w.heap.size ≤ gb307)); have n7_ := Aside0.mk ((by rw [hg]; exact Nat.ne_of_lt (blk_lt (g := gb299) (o := .cells #[.slice A0_0 l0_0.length c0_0] 24 (0, 0)) (lb BK299)) : gb299 ≠ gb307)); have n8_ := Aside0.mk ((by rw [hg]; exact Nat.ne_of_gt (blk_lt (g := gb299) (o := .cells #[.slice A0_0 l0_0.length c0_0] 24 (0, 0)) (lb BK299)) : gb307 ≠ gb299)); clear HO303; clear HO306; clear BK299; clear HB; have HO303 := n0_; have HO306 := n1_; have BK299 := n2_; have HB := n3_; have BK307 := n4_; have GW307 := n5_; have GE307 := n6_; have NB299_307 := n7_; have NB307_299 := n8_; clear n0_ n1_ n2_ n3_ n4_ n5_ n6_ n7_ n8_; clear hb hbox hg; obtain ⟨Ao138, co138, eo138⟩ := Kd.R_slice HO306.out; subst eo138; have hnb139 := NB307_299.out; have hnc139 := NB299_307.out; have hcz140_0 : w137.cell? ⟨gb307, 0, none⟩ = some (.slice none 0 0) := (blk_cell BK307.out 0).trans rfl; have hfz140_0 := blk_frozen BK307.out 0; have hcz141_0 : w137.cell? ⟨gb299, 0, none⟩ = some (.slice A0_0 l0_0.length c0_0) := (blk_cell BK299.out 0).trans rfl; have hfz141_0 := blk_frozen BK299.out 0) | ((with_reducible refine at_fn (f := 7) rfl ?_); refine goesL_ (some 20) rfl rfl Try.func7 (by kernel_rfl) rfl #[.agg #[.slice A0_0 l0_0.length c0_0]] rfl (by (try simp only [List.map_toArray, List.map_cons, List.map_nil]); first | done | rfl | (simp only [List.length_drop, List.length_take]; rfl)) ?_; (with_reducible refine (laws_toFilter.calls k _ _ l0_0 t308 _ ?side1 ?side2 A9.out).mono ?_); (case side1 => exact Kd.C_below HR0_0.out bw); (case side2 => exact HC0_0.out); rintro e w142 ⟨v309, rfl, ho0, hb⟩; refine ⟨_, rfl, ?_⟩; have n0_ := Aside0.mk (Kd.R_elder' (by (with_reducible repeat (first | apply Kd.R_alloc | apply Kd.R_drewN | apply Kd.R_drew)); exact (Kd.R_mono (Kd.R_far (p := ⟨gb307, 0, none⟩) (Kd.R_types HO303.out BK307.out (by decide)) (fun _ hk => hk.2) (.slice Ao138 t304.length co138)) (fun _ h_ => h_.1))) (Kd.R_base ho0) hb); have n1_ := Aside0.mk (Kd.R_elder' (by (with_reducible repeat (first | apply Kd.R_alloc | apply Kd.R_drewN | apply Kd.R_drew)); exact (Kd.R_mono (Kd.R_far (p := ⟨gb307, 0, none⟩) (Kd.R_types HO306.out BK307.out (by decide)) (fun _ hk => hk.2) (.slice Ao138 t304.length co138)) (fun _ h_ => h_.1))) (Kd.R_base ho0) hb); have n2_ := Aside0.mk (Kd.R_lower (Kd.R_new' (Kd.R_new' ho0 (Kd.R_lt (by (with_reducible repeat (first | apply Kd.R_alloc | apply Kd.R_drewN | apply Kd.R_drew)); exact (Kd.R_mono (Kd.R_far (p := ⟨gb307, 0, none⟩) (Kd.R_types HO303.out BK307.out (by decide)) (fun _ hk => hk.2) (.slice Ao138 t304.length co138)) (fun _ h_ => h_.1))))) (Kd.R_lt (by (with_reducible repeat (first | apply Kd.R_alloc | apply Kd.R_drewN | apply Kd.R_drew)); exact (Kd.R_mono (Kd.R_far (p := ⟨gb307, 0, none⟩) (Kd.R_types HO306.out BK307.out (by decide)) (fun _ hk => hk.2) (.slice Ao138 t304.length co138)) (fun _ h_ => h_.1))))) (below_size bw)); have n3_ := Aside0.mk (blk_below (g := gb299) (o := .cells #[.slice A0_0 l0_0.length c0_0] 24 (0, 0)) (by (with_reducible repeat (first | refine blk_drewN ?_ _ | refine blk_drew ?_ | refine blk_alloc ?_ _)); refine blk_far ?_ NB299_307.out _; (with_reducible repeat (first | refine blk_drewN ?_ _ | refine blk_drew ?_ | refine blk_alloc ?_ _)); exact BK299.out) hb); have n4_ := Aside0.mk (blk_below (g := gb307) (o := .cells #[.slice Ao138 t304.length co138] 28 (0, 0)) (by (with_reducible repeat (first | refine blk_drewN ?_ _ | refine blk_drew ?_ | refine blk_alloc ?_ _)); refine blk_put (cs := #[.slice none 0 0]) ?_ 0 _ rfl; (with_reducible repeat (first | refine blk_drewN ?_ _ | refine blk_drew ?_ | refine blk_alloc ?_ _)); exact BK307.out) hb); have n5_ := Aside0.mk (below_step bw hb); clear HO303; clear HO306; clear BK299; clear BK307; clear HB; have HO303 := n0_; have HO306 := n1_; have HO310 := n2_; have BK299 := n3_; have BK307 := n4_; have HB := n5_; clear n0_ n1_ n2_ n3_ n4_ n5_; (try clear hb); (try clear hb2); (try clear hk); (try clear hi); (try clear ho0)) | ((with_reducible refine gate_dst (N := 5) rfl ?_); refine box_event ?hg (N := 5) ?hd (cs := #[.slice none 0 0]) (t := 28) ?hr ?_; (case hd => rfl); (case hg => rfl); (case hr => first | (go_simp; done) | (go_simp; rfl)); intro gb311 hg w143 hbox hb; have n0_ := Aside0.mk (Kd.R_below (lf HO303) hb); have n1_ := Aside0.mk (Kd.R_below (lf HO306) hb); have n2_ := Aside0.mk (Kd.R_below (lf HO310) hb); have n3_ := Aside0.mk (blk_below (g := gb299) (o := .cells #[.slice A0_0 l0_0.length c0_0] 24 (0, 0)) (lb BK299) hb); have n4_ := Aside0.mk (blk_below (g := gb307) (o := .cells #[.slice Ao138 t304.length co138] 28 (0, 0)) (lb BK307) hb); have n5_ := Aside0.mk (below_step bw hb); have n6_ := Aside0.mk (hbox); have n7_ := Aside0.mk ((by rw [hg]; exact (below_size bw) : w.heap.size ≤ gb311)); have n8_ := Aside0.mk ((by rw [hg]; exact (below_size bw) : w.heap.size ≤ gb311)); have n9_ := Aside0.mk ((by rw [hg]; exact Nat.ne_of_lt (blk_lt (g := gb299) (o := .cells #[.slice A0_0 l0_0.length c0_0] 24 (0, 0)) (lb BK299)) : gb299 ≠ gb311)); have n10_ := Aside0.mk ((by rw [hg]; exact Nat.ne_of_gt (blk_lt (g := gb299) (o := .cells #[.slice A0_0 l0_0.length c0_0] 24 (0, 0)) (lb BK299)) : gb311 ≠ gb299)); have n11_ := Aside0.mk ((by rw [hg]; exact Nat.ne_of_lt (blk_lt (g := gb307) (o := .cells #[.slice Ao138 t304.length co138] 28 (0, 0)) (lb BK307)) : gb307 ≠ gb311)); have n12_ := Aside0.mk ((by rw [hg]; exact Nat.ne_of_gt (blk_lt (g := gb307) (o := .cells #[.slice Ao138 t304.length co138] 28 (0, 0)) (lb BK307)) : gb311 ≠ gb307)); clear HO303; clear HO306; clear HO310; clear BK299; clear BK307; clear HB; have HO303 := n0_; have HO306 := n1_; have HO310 := n2_; have BK299 := n3_; have BK307 := n4_; have HB := n5_; have BK311 := n6_; have GW311 := n7_; have GE311 := n8_; have NB299_311 := n9_; have NB311_299 := n10_; have NB307_311 := n11_; have NB311_307 := n12_; clear n0_ n1_ n2_ n3_ n4_ n5_ n6_ n7_ n8_ n9_ n10_ n11_ n12_; clear hb hbox hg; obtain ⟨Ao144, co144, eo144⟩ := Kd.R_slice HO310.out; subst eo144; have hnb145 := NB311_299.out; have hnc145 := NB299_311.out; have hnb146 := NB311_307.out; have hnc146 := NB307_311.out; have hcz147_0 : w143.cell? ⟨gb311, 0, none⟩ = some (.slice none 0 0) := (blk_cell BK311.out 0).trans rfl; have hfz147_0 := blk_frozen BK311.out 0) | ((with_reducible refine at_fn (f := 8) rfl ?_); refine goesL_ (some 22) rfl rfl Try.func8 (by kernel_rfl) rfl #[.agg #[.slice Ao144 t308.length co144]] rfl (by (try simp only [List.map_toArray, List.map_cons, List.map_nil]); first | done | rfl | (simp only [List.length_drop, List.length_take]; rfl)) ?_; (with_reducible refine (impl_Normal.calls _ _ t308 t312 _ ?side1 ?side2 A10.out).mono ?_); (case side1 => refine (Kd.R_reads' (e := 63) (base := w.heap.size) (ok := fun k_ => ((True ∧ some k_ ≠ (.slice Ao135 t301.length co135 : Value).ownBlock) ∧ some k_ ≠ (.slice Ao138 t304.length co138 : Value).ownBlock)) (n := t308.length) (c := co144) ?_).2.2; exact (by (with_reducible repeat (first | apply Kd.R_alloc | apply Kd.R_drewN | apply Kd.R_drew)); exact (Kd.R_mono (Kd.R_far (p := ⟨gb311, 0, none⟩) (Kd.R_types HO310.out BK311.out (by decide)) (fun _ hk => hk.2) (.slice Ao144 t308.length co144)) (fun _ h_ => h_.1)))); (case side2 => exact (Kd.R_reads' HO310.out).2.1); rintro e w148 ⟨v313, rfl, ho0, hb⟩; refine ⟨_, rfl, ?_⟩; have n0_ := Aside0.mk (Kd.R_elder' (by (with_reducible repeat (first | apply Kd.R_alloc | apply Kd.R_drewN | apply Kd.R_drew)); exact (Kd.R_mono (Kd.R_far (p := ⟨gb311, 0, none⟩) (Kd.R_types HO303.out BK311.out (by decide)) (fun _ hk => hk.2) (.slice Ao144 t308.length co144)) (fun _ h_ => h_.1))) (Kd.R_base ho0) hb); have n1_ := Aside0.mk (Kd.R_elder' (by (with_reducible repeat (first | apply Kd.R_alloc | apply Kd.R_drewN | apply Kd.R_drew)); exact (Kd.R_mono (Kd.R_far (p := ⟨gb311, 0, none⟩) (Kd.R_types HO306.out BK311.out (by decide)) (fun _ hk => hk.2) (.slice Ao144 t308.length co144)) (fun _ h_ => h_.1))) (Kd.R_base ho0) hb); have n2_ := Aside0.mk (Kd.R_elder' (by (with_reducible repeat (first | apply Kd.R_alloc | apply Kd.R_drewN | apply Kd.R_drew)); exact (Kd.R_mono (Kd.R_far (p := ⟨gb311, 0, none⟩) (Kd.R_types HO310.out BK311.out (by decide)) (fun _ hk => hk.2) (.slice Ao144 t308.length co144)) (fun _ h_ => h_.1))) (Kd.R_base ho0) hb); have n3_ := Aside0.mk (Kd.R_lower (Kd.R_new' (Kd.R_new' (Kd.R_new' ho0 (Kd.R_lt (by (with_reducible repeat (first | apply Kd.R_alloc | apply Kd.R_drewN | apply Kd.R_drew)); exact (Kd.R_mono (Kd.R_far (p := ⟨gb311, 0, none⟩) (Kd.R_types HO303.out BK311.out (by decide)) (fun _ hk => hk.2) (.slice Ao144 t308.length co144)) (fun _ h_ => h_.1))))) (Kd.R_lt (by (with_reducible repeat (first | apply Kd.R_alloc | apply Kd.R_drewN | apply Kd.R_drew)); exact (Kd.R_mono (Kd.R_far (p := ⟨gb311, 0, none⟩) (Kd.R_types HO306.out BK311.out (by decide)) (fun _ hk => hk.2) (.slice Ao144 t308.length co144)) (fun _ h_ => h_.1))))) (Kd.R_lt (by (with_reducible repeat (first | apply Kd.R_alloc | apply Kd.R_drewN | apply Kd.R_drew)); exact (Kd.R_mono (Kd.R_far (p := ⟨gb311, 0, none⟩) (Kd.R_types HO310.out BK311.out (by decide)) (fun _ hk => hk.2) (.slice Ao144 t308.length co144)) (fun _ h_ => h_.1))))) (below_size bw)); have n4_ := Aside0.mk (blk_below (g := gb299) (o := .cells #[.slice A0_0 l0_0.length c0_0] 24 (0, 0)) (by (with_reducible repeat (first | refine blk_drewN ?_ _ | refine blk_drew ?_ | refine blk_alloc ?_ _)); refine blk_far ?_ NB299_311.out _; (with_reducible repeat (first | refine blk_drewN ?_ _ | refine blk_drew ?_ | refine blk_alloc ?_ _)); exact BK299.out) hb); have n5_ := Aside0.mk (blk_below (g := gb307) (o := .cells #[.slice Ao138 t304.length co138] 28 (0, 0)) (by (with_reducible repeat (first | refine blk_drewN ?_ _ | refine blk_drew ?_ | refine blk_alloc ?_ _)); refine blk_far ?_ NB307_311.out _; (with_reducible repeat (first | refine blk_drewN ?_ _ | refine blk_drew ?_ | refine blk_alloc ?_ _)); exact BK307.out) hb); have n6_ := Aside0.mk (blk_below (g := gb311) (o := .cells #[.slice Ao144 t308.length co144] 28 (0, 0)) (by (with_reducible repeat (first | refine blk_drewN ?_ _ | refine blk_drew ?_ | refine blk_alloc ?_ _)); refine blk_put (cs := #[.slice none 0 0]) ?_ 0 _ rfl; (with_reducible repeat (first | refine blk_drewN ?_ _ | refine blk_drew ?_ | refine blk_alloc ?_ _)); exact BK311.out) hb); have n7_ := Aside0.mk (below_step bw hb); clear HO303; clear HO306; clear HO310; clear BK299; clear BK307; clear BK311; clear HB; have HO303 := n0_; have HO306 := n1_; have HO310 := n2_; have HO314 := n3_; have BK299 := n4_; have BK307 := n5_; have BK311 := n6_; have HB := n7_; clear n0_ n1_ n2_ n3_ n4_ n5_ n6_ n7_; (try clear hb); (try clear hb2); (try clear hk); (try clear hi); (try clear ho0)) | ((with_reducible refine gate_dst (N := 6) rfl ?_); refine box_event ?hg (N := 6) ?hd (cs := #[.slice none 0 0]) (t := 28) ?hr ?_; (case hd => rfl); (case hg => rfl); (case hr => first | (go_simp; done) | (go_simp; rfl)); intro gb315 hg w149 hbox hb; have n0_ := Aside0.mk (Kd.R_below (lf HO303) hb); have n1_ := Aside0.mk (Kd.R_below (lf HO306) hb); have n2_ := Aside0.mk (Kd.R_below (lf HO310) hb); have n3_ := Aside0.mk (Kd.R_below (lf HO314) hb); have n4_ := Aside0.mk (blk_below (g := gb299) (o := .cells #[.slice A0_0 l0_0.length c0_0] 24 (0, 0)) (lb BK299) hb); have n5_ := Aside0.mk (blk_below (g := gb307) (o := .cells #[.slice Ao138 t304.length co138] 28 (0, 0)) (lb BK307) hb); have n6_ := Aside0.mk (blk_below (g := gb311) (o := .cells #[.slice Ao144 t308.length co144] 28 (0, 0)) (lb BK311) hb); have n7_ := Aside0.mk (below_step bw hb); have n8_ := Aside0.mk (hbox); have n9_ := Aside0.mk ((by rw [hg]; exact (below_size bw) : w.heap.size ≤ gb315)); have n10_ := Aside0.mk ((by rw [hg]; exact (below_size bw) : w.heap.size ≤ gb315)); have n11_ := Aside0.mk ((by rw [hg]; exact Nat.ne_of_lt (blk_lt (g := gb299) (o := .cells #[.slice A0_0 l0_0.length c0_0] 24 (0, 0)) (lb BK299)) : gb299 ≠ gb315)); have n12_ := Aside0.mk ((by rw [hg]; exact Nat.ne_of_gt (blk_lt (g := gb299) (o := .cells #[.slice A0_0 l0_0.length c0_0] 24 (0, 0)) (lb BK299)) : gb315 ≠ gb299)); have n13_ := Aside0.mk ((by rw [hg]; exact Nat.ne_of_lt (blk_lt (g := gb307) (o := .cells #[.slice Ao138 t304.length co138] 28 (0, 0)) (lb BK307)) : gb307 ≠ gb315)); have n14_ := Aside0.mk ((by rw [hg]; exact Nat.ne_of_gt (blk_lt (g := gb307) (o := .cells #[.slice Ao138 t304.length co138] 28 (0, 0)) (lb BK307)) : gb315 ≠ gb307)); have n15_ := Aside0.mk ((by rw [hg]; exact Nat.ne_of_lt (blk_lt (g := gb311) (o := .cells #[.slice Ao144 t308.length co144] 28 (0, 0)) (lb BK311)) : gb311 ≠ gb315)); have n16_ := Aside0.mk ((by rw [hg]; exact Nat.ne_of_gt (blk_lt (g := gb311) (o := .cells #[.slice Ao144 t308.length co144] 28 (0, 0)) (lb BK311)) : gb315 ≠ gb311)); clear HO303; clear HO306; clear HO310; clear HO314; clear BK299; clear BK307; clear BK311; clear HB; have HO303 := n0_; have HO306 := n1_; have HO310 := n2_; have HO314 := n3_; have BK299 := n4_; have BK307 := n5_; have BK311 := n6_; have HB := n7_; have BK315 := n8_; have GW315 := n9_; have GE315 := n10_; have NB299_315 := n11_; have NB315_299 := n12_; have NB307_315 := n13_; have NB315_307 := n14_; have NB311_315 := n15_; have NB315_311 := n16_; clear n0_ n1_ n2_ n3_ n4_ n5_ n6_ n7_ n8_ n9_ n10_ n11_ n12_ n13_ n14_ n15_ n16_; clear hb hbox hg; obtain ⟨Ao150, co150, eo150⟩ := Kd.R_slice HO314.out; subst eo150; have hnb151 := NB315_299.out; have hnc151 := NB299_315.out; have hnb152 := NB315_307.out; have hnc152 := NB307_315.out; have hnb153 := NB315_311.out; have hnc153 := NB311_315.out; have hcz154_0 : w149.cell? ⟨gb315, 0, none⟩ = some (.slice none 0 0) := (blk_cell BK315.out 0).trans rfl; have hfz154_0 := blk_frozen BK315.out 0; have hcz155_0 : w149.cell? ⟨gb307, 0, none⟩ = some (.slice Ao138 t304.length co138) := (blk_cell BK307.out 0).trans rfl; have hfz155_0 := blk_frozen BK307.out 0) | ((with_reducible refine at_fn (f := 9) rfl ?_); refine goesL_ (some 25) rfl rfl Try.func9 (by kernel_rfl) rfl #[.agg #[.slice Ao150 t312.length co150], .agg #[.slice Ao138 t304.length co138]] rfl (by (try simp only [List.map_toArray, List.map_cons, List.map_nil]); first | done | rfl | (simp only [List.length_drop, List.length_take]; rfl)) ?_; (with_reducible refine (laws_eqFilter.calls k _ _ t312 _ _ t304 true _ ?side1 ?side2 ?side3 ?side4 A11.out).mono ?_); (case side1 => refine (Kd.R_reads' (e := 63) (base := w.heap.size) (ok := fun k_ => (((True ∧ some k_ ≠ (.slice Ao135 t301.length co135 : Value).ownBlock) ∧ some k_ ≠ (.slice Ao138 t304.length co138 : Value).ownBlock) ∧ some k_ ≠ (.slice Ao144 t308.length co144 : Value).ownBlock)) (n := t312.length) (c := co150) ?_).2.2; exact (by (with_reducible repeat (first | apply Kd.R_alloc | apply Kd.R_drewN | apply Kd.R_drew)); exact (Kd.R_mono (Kd.R_far (p := ⟨gb315, 0, none⟩) (Kd.R_types HO314.out BK315.out (by decide)) (fun _ hk => hk.2) (.slice Ao150 t312.length co150)) (fun _ h_ => h_.1)))); (case side2 => exact (Kd.R_reads' HO314.out).2.1); (case side3 => refine (Kd.R_reads' (e := 63) (base := w.heap.size) (ok := fun k_ => (((True ∧ some k_ ≠ (.slice Ao135 t301.length co135 : Value).ownBlock) ∧ some k_ ≠ (.slice Ao144 t308.length co144 : Value).ownBlock) ∧ some k_ ≠ (.slice Ao150 t312.length co150 : Value).ownBlock)) (n := t304.length) (c := co138) ?_).2.2; exact (by (with_reducible repeat (first | apply Kd.R_alloc | apply Kd.R_drewN | apply Kd.R_drew)); exact (Kd.R_mono (Kd.R_far (p := ⟨gb315, 0, none⟩) (Kd.R_types HO306.out BK315.out (by decide)) (fun _ hk => hk.2) (.slice Ao150 t312.length co150)) (fun _ h_ => h_.1)))); (case side4 => exact (Kd.R_reads' HO306.out).2.1); rintro e w156 ⟨rfl, hb⟩; refine ⟨_, rfl, ?_⟩; have n0_ := Aside0.mk (Kd.R_below (by (with_reducible repeat (first | apply Kd.R_alloc | apply Kd.R_drewN | apply Kd.R_drew)); exact (Kd.R_mono (Kd.R_far (p := ⟨gb315, 0, none⟩) (Kd.R_types HO303.out BK315.out (by decide)) (fun _ hk => hk.2) (.slice Ao150 t312.length co150)) (fun _ h_ => h_.1))) hb); have n1_ := Aside0.mk (Kd.R_below (by (with_reducible repeat (first | apply Kd.R_alloc | apply Kd.R_drewN | apply Kd.R_drew)); exact (Kd.R_mono (Kd.R_far (p := ⟨gb315, 0, none⟩) (Kd.R_types HO306.out BK315.out (by decide)) (fun _ hk => hk.2) (.slice Ao150 t312.length co150)) (fun _ h_ => h_.1))) hb); have n2_ := Aside0.mk (Kd.R_below (by (with_reducible repeat (first | apply Kd.R_alloc | apply Kd.R_drewN | apply Kd.R_drew)); exact (Kd.R_mono (Kd.R_far (p := ⟨gb315, 0, none⟩) (Kd.R_types HO310.out BK315.out (by decide)) (fun _ hk => hk.2) (.slice Ao150 t312.length co150)) (fun _ h_ => h_.1))) hb); have n3_ := Aside0.mk (Kd.R_below (by (with_reducible repeat (first | apply Kd.R_alloc | apply Kd.R_drewN | apply Kd.R_drew)); exact (Kd.R_mono (Kd.R_far (p := ⟨gb315, 0, none⟩) (Kd.R_types HO314.out BK315.out (by decide)) (fun _ hk => hk.2) (.slice Ao150 t312.length co150)) (fun _ h_ => h_.1))) hb); have n4_ := Aside0.mk (blk_below (g := gb299) (o := .cells #[.slice A0_0 l0_0.length c0_0] 24 (0, 0)) (by (with_reducible repeat (first | refine blk_drewN ?_ _ | refine blk_drew ?_ | refine blk_alloc ?_ _)); refine blk_far ?_ NB299_315.out _; (with_reducible repeat (first | refine blk_drewN ?_ _ | refine blk_drew ?_ | refine blk_alloc ?_ _)); exact BK299.out) hb); have n5_ := Aside0.mk (blk_below (g := gb307) (o := .cells #[.slice Ao138 t304.length co138] 28 (0, 0)) (by (with_reducible repeat (first | refine blk_drewN ?_ _ | refine blk_drew ?_ | refine blk_alloc ?_ _)); refine blk_far ?_ NB307_315.out _; (with_reducible repeat (first | refine blk_drewN ?_ _ | refine blk_drew ?_ | refine blk_alloc ?_ _)); exact BK307.out) hb); have n6_ := Aside0.mk (blk_below (g := gb311) (o := .cells #[.slice Ao144 t308.length co144] 28 (0, 0)) (by (with_reducible repeat (first | refine blk_drewN ?_ _ | refine blk_drew ?_ | refine blk_alloc ?_ _)); refine blk_far ?_ NB311_315.out _; (with_reducible repeat (first | refine blk_drewN ?_ _ | refine blk_drew ?_ | refine blk_alloc ?_ _)); exact BK311.out) hb); have n7_ := Aside0.mk (blk_below (g := gb315) (o := .cells #[.slice Ao150 t312.length co150] 28 (0, 0)) (by (with_reducible repeat (first | refine blk_drewN ?_ _ | refine blk_drew ?_ | refine blk_alloc ?_ _)); refine blk_put (cs := #[.slice none 0 0]) ?_ 0 _ rfl; (with_reducible repeat (first | refine blk_drewN ?_ _ | refine blk_drew ?_ | refine blk_alloc ?_ _)); exact BK315.out) hb); have n8_ := Aside0.mk (below_step bw hb); clear HO303; clear HO306; clear HO310; clear HO314; clear BK299; clear BK307; clear BK311; clear BK315; clear HB; have HO303 := n0_; have HO306 := n1_; have HO310 := n2_; have HO314 := n3_; have BK299 := n4_; have BK307 := n5_; have BK311 := n6_; have BK315 := n7_; have HB := n8_; clear n0_ n1_ n2_ n3_ n4_ n5_ n6_ n7_ n8_; (try clear hb); (try clear hb2); (try clear hk); (try clear hi)))
    have n0_ := Aside0.mk (Kd.R_drew HO303.out)
    have n1_ := Aside0.mk (Kd.R_drew HO306.out)
    have n2_ := Aside0.mk (Kd.R_drew HO310.out)
    have n3_ := Aside0.mk (Kd.R_drew HO314.out)
    have n4_ := Aside0.mk (blk_drew BK299.out)
    have n5_ := Aside0.mk (blk_drew BK307.out)
    have n6_ := Aside0.mk (blk_drew BK311.out)
    have n7_ := Aside0.mk (blk_drew BK315.out)
    have n8_ := Aside0.mk (below_drew1 HB.out)
    clear HO303
    clear HO306
    clear HO310
    clear HO314
    clear BK299
    clear BK307
    clear BK311
    clear BK315
    clear HB
    have HO303 := n0_
    have HO306 := n1_
    have HO310 := n2_
    have HO314 := n3_
    have BK299 := n4_
    have BK307 := n5_
    have BK311 := n6_
    have BK315 := n7_
    have HB := n8_
    clear n0_ n1_ n2_ n3_ n4_ n5_ n6_ n7_ n8_
    refine start_ (n := 5) (S := fun w' => w'.cell? ⟨gb311, 0, none⟩ = some (.slice Ao144 t308.length co144) ∧ w'.cell? ⟨gb299, 0, none⟩ = some (.slice A0_0 l0_0.length c0_0)) (ds := []) #[false, false, false, false, false] (by kernel_rfl) rfl rfl ⟨(blk_cell BK311.out 0).trans rfl, (blk_cell BK299.out 0).trans rfl⟩ (fun hHeld => ?_)
    generalize w156.drew = w157 at HO303 HO306 HO310 HO314 BK299 BK307 BK311 BK315 HB hHeld ⊢
    refine take_ (i := 0) (N := some 27) (v := ?_) (a' := ?_) #[true, false, false, false, false] rfl rfl (by kernel_rfl) (fun _ _ _ h => h) (Or.inl ⟨by rfl, ?_⟩) hHeld ?_ ?_
    rotate_left
    ·rintro w' ⟨s0, s1⟩
     go_simp
     with_reducible rfl
    rotate_left
    ·simp only [Act.put, List.setIfInBounds_toArray, List.set_cons_zero, List.set_cons_succ, i64_w, i32_w]
     rfl
    refine take_ (i := 1) (N := some 28) (v := ?_) (a' := ?_) #[true, true, false, false, false] rfl rfl (by kernel_rfl) (fun _ _ _ h => h) (Or.inl ⟨by rfl, ?_⟩) hHeld ?_ ?_
    rotate_left
    ·rintro w' ⟨s0, s1⟩
     go_simp
     with_reducible rfl
    rotate_left
    ·simp only [Act.put, List.setIfInBounds_toArray, List.set_cons_zero, List.set_cons_succ, i64_w, i32_w]
     rfl
    refine one_ (i := 2) (N := some 29) #[true, true, true, false, false] rfl rfl (by kernel_rfl) (by decide) (fun K hK => ?_)
    refine goes_ Try.func7 (by kernel_rfl) rfl #[.agg #[.slice A0_0 l0_0.length c0_0]] (by rfl) rfl rfl (by (try simp only [List.map_toArray, List.map_cons, List.map_nil]); first | done | rfl | (simp only [List.length_drop, List.length_take]; rfl)) ?_
    with_reducible refine (laws_toFilter.calls k _ _ l0_0 t317 _ ?side1 ?side2 A13.out).mono ?_
    (case side1 => repeat (first | exact (Kd.C_below HR0_0.out HB.out) | (with_reducible refine Kd.C_alloc ?_ _) | (with_reducible refine Kd.C_drewN ?_ _) | (with_reducible refine Kd.C_drew ?_)))
    (case side2 => exact HC0_0.out)
    rintro e w158 ⟨v318, rfl, ho0, hb⟩
    refine ⟨_, rfl, ?_⟩
    have n0_ := Aside0.mk (Kd.R_elder' (lf HO303) (Kd.R_base ho0) hb)
    have n1_ := Aside0.mk (Kd.R_elder' (lf HO306) (Kd.R_base ho0) hb)
    have n2_ := Aside0.mk (Kd.R_elder' (lf HO310) (Kd.R_base ho0) hb)
    have n3_ := Aside0.mk (Kd.R_elder' (lf HO314) (Kd.R_base ho0) hb)
    have n4_ := Aside0.mk (Kd.R_lower (Kd.R_new' (Kd.R_new' (Kd.R_new' (Kd.R_new' ho0 (Kd.R_lt (lf HO303))) (Kd.R_lt (lf HO306))) (Kd.R_lt (lf HO310))) (Kd.R_lt (lf HO314))) (below_size bw))
    have n5_ := Aside0.mk (blk_below (g := gb299) (o := .cells #[.slice A0_0 l0_0.length c0_0] 24 (0, 0)) (lb BK299) hb)
    have n6_ := Aside0.mk (blk_below (g := gb307) (o := .cells #[.slice Ao138 t304.length co138] 28 (0, 0)) (lb BK307) hb)
    have n7_ := Aside0.mk (blk_below (g := gb311) (o := .cells #[.slice Ao144 t308.length co144] 28 (0, 0)) (lb BK311) hb)
    have n8_ := Aside0.mk (blk_below (g := gb315) (o := .cells #[.slice Ao150 t312.length co150] 28 (0, 0)) (lb BK315) hb)
    have n9_ := Aside0.mk (below_step bw hb)
    clear HO303
    clear HO306
    clear HO310
    clear HO314
    clear BK299
    clear BK307
    clear BK311
    clear BK315
    clear HB
    have HO303 := n0_
    have HO306 := n1_
    have HO310 := n2_
    have HO314 := n3_
    have HO319 := n4_
    have BK299 := n5_
    have BK307 := n6_
    have BK311 := n7_
    have BK315 := n8_
    have HB := n9_
    clear n0_ n1_ n2_ n3_ n4_ n5_ n6_ n7_ n8_ n9_
    (try clear hb)
    (try clear hb2)
    (try clear hk)
    (try clear hi)
    (try clear ho0)
    obtain ⟨Ao159, co159, eo159⟩ := Kd.R_slice HO319.out
    (first | subst eo159 | (injection eo159 with f1_ f2_ f3_; have f4_ := f1_.symm; have f5_ := f3_.symm; clear f1_ f2_ f3_; subst f4_; subst f5_))
    refine hK.out _ _ ⟨(blk_cell BK311.out 0).trans rfl, (blk_cell BK299.out 0).trans rfl⟩ (fun hHeld => ?_)
    clear hK K
    refine norm_ (a' := ?_) ?_ ?_
    rotate_left
    ·show Act.put _ (some 29) _ = _
     simp only [Act.put, List.setIfInBounds_toArray, List.set_cons_zero, List.set_cons_succ, i64_w, i32_w]
     rfl
    refine one_ (i := 3) (N := some 30) #[true, true, true, true, false] rfl rfl (by kernel_rfl) (by decide) (fun K hK => ?_)
    refine goes_ Try.func9 (by kernel_rfl) rfl #[.agg #[.slice Ao144 t308.length co144], .agg #[.slice Ao159 t317.length co159]] (by rfl) rfl rfl (by (try simp only [List.map_toArray, List.map_cons, List.map_nil]); first | done | rfl | (simp only [List.length_drop, List.length_take]; rfl)) ?_
    with_reducible refine (laws_eqFilter.calls k _ _ t308 _ _ t317 false _ ?side1 ?side2 ?side3 ?side4 A14.out).mono ?_
    (case side1 => repeat (first | exact (Kd.R_reads' HO310.out).2.2 | (with_reducible refine Kd.C_alloc ?_ _) | (with_reducible refine Kd.C_drewN ?_ _) | (with_reducible refine Kd.C_drew ?_)))
    (case side2 => exact (Kd.R_reads' HO310.out).2.1)
    (case side3 => repeat (first | exact (Kd.R_reads' HO319.out).2.2 | (with_reducible refine Kd.C_alloc ?_ _) | (with_reducible refine Kd.C_drewN ?_ _) | (with_reducible refine Kd.C_drew ?_)))
    (case side4 => exact (Kd.R_reads' HO319.out).2.1)
    rintro e w160 ⟨rfl, hb⟩
    refine ⟨_, rfl, ?_⟩
    have n0_ := Aside0.mk (Kd.R_below (lf HO303) hb)
    have n1_ := Aside0.mk (Kd.R_below (lf HO306) hb)
    have n2_ := Aside0.mk (Kd.R_below (lf HO310) hb)
    have n3_ := Aside0.mk (Kd.R_below (lf HO314) hb)
    have n4_ := Aside0.mk (Kd.R_below (lf HO319) hb)
    have n5_ := Aside0.mk (blk_below (g := gb299) (o := .cells #[.slice A0_0 l0_0.length c0_0] 24 (0, 0)) (lb BK299) hb)
    have n6_ := Aside0.mk (blk_below (g := gb307) (o := .cells #[.slice Ao138 t304.length co138] 28 (0, 0)) (lb BK307) hb)
    have n7_ := Aside0.mk (blk_below (g := gb311) (o := .cells #[.slice Ao144 t308.length co144] 28 (0, 0)) (lb BK311) hb)
    have n8_ := Aside0.mk (blk_below (g := gb315) (o := .cells #[.slice Ao150 t312.length co150] 28 (0, 0)) (lb BK315) hb)
    have n9_ := Aside0.mk (below_step bw hb)
    clear HO303
    clear HO306
    clear HO310
    clear HO314
    clear HO319
    clear BK299
    clear BK307
    clear BK311
    clear BK315
    clear HB
    have HO303 := n0_
    have HO306 := n1_
    have HO310 := n2_
    have HO314 := n3_
    have HO319 := n4_
    have BK299 := n5_
    have BK307 := n6_
    have BK311 := n7_
    have BK315 := n8_
    have HB := n9_
    clear n0_ n1_ n2_ n3_ n4_ n5_ n6_ n7_ n8_ n9_
    (try clear hb)
    (try clear hb2)
    (try clear hk)
    (try clear hi)
    refine hK.out _ _ ⟨(blk_cell BK311.out 0).trans rfl, (blk_cell BK299.out 0).trans rfl⟩ (fun hHeld => ?_)
    clear hK K
    refine norm_ (a' := ?_) ?_ ?_
    rotate_left
    ·show Act.put _ (some 30) _ = _
     simp only [Act.put, List.setIfInBounds_toArray, List.set_cons_zero, List.set_cons_succ, i64_w, i32_w]
     rfl
    refine pure_ (i := 4) (N := some 31) (v := ?_) (a' := ?_) #[true, true, true, true, true] rfl rfl (by kernel_rfl) (fun _ _ _ h => h) (Or.inl ⟨by rfl, ?_⟩) ?_ ?_
    rotate_left
    ·intro w'
     go_simp
     with_reducible rfl
    rotate_left
    ·simp only [Act.put, List.setIfInBounds_toArray, List.set_cons_zero, List.set_cons_succ, i64_w, i32_w]
     rfl
    refine done_ (by kernel_rfl) ?_
    try go_wp2
    go_ret
    exact ⟨by first | rfl | (simp [errW_none, errW_some] <;> rfl) | (simp [*, errW_none, errW_some] <;> rfl), bw⟩
  ·replace c12 := Bool.eq_false_iff.mpr c12
   subst c12
   have H1 : (some false) = some r := by rw [if_neg (show ¬ (false = true) by decide)] at H; exact H
   clear H
   have H := H1
   clear H1
   obtain rfl := Option.some.inj H
   go_enter Try.func3, Try.ntmps3
   go_wp2_with (first | ((with_reducible refine gate_dst (N := 1) rfl ?_); refine box_event ?hg (N := 1) ?hd (cs := #[.slice A0_0 l0_0.length c0_0]) (t := 24) ?hr ?_; (case hd => rfl); (case hg => rfl); (case hr => first | (go_simp; done) | (go_simp; rfl)); intro gb299 hg w161 hbox hb; have n0_ := Aside0.mk (below_step bw hb); have n1_ := Aside0.mk (hbox); have n2_ := Aside0.mk ((by rw [hg]; exact (below_size bw) : w.heap.size ≤ gb299)); have n3_ := Aside0.mk ((by rw [hg]; exact (below_size bw) : w.heap.size ≤ gb299)); clear HB; have HB := n0_; have BK299 := n1_; have GW299 := n2_; have GE299 := n3_; clear n0_ n1_ n2_ n3_; clear hb hbox hg; have hcz162_0 : w161.cell? ⟨gb299, 0, none⟩ = some (.slice A0_0 l0_0.length c0_0) := (blk_cell BK299.out 0).trans rfl; have hfz162_0 := blk_frozen BK299.out 0) | ((with_reducible refine at_fn (f := 5) rfl ?_); refine goesL_ (some 13) rfl rfl Try.func5 (by kernel_rfl) rfl #[.agg #[.slice A0_0 l0_0.length c0_0], .int .i64 1048576] rfl (by (try simp only [List.map_toArray, List.map_cons, List.map_nil]); first | done | rfl | (simp only [List.length_drop, List.length_take]; rfl)) ?_; (with_reducible refine (laws_szFilter.calls k _ _ l0_0 1048576 t300 _ ?side1 ?side2 A2.out).mono ?_); (case side1 => repeat (first | exact (Kd.C_below HR0_0.out HB.out) | (with_reducible refine Kd.C_alloc ?_ _) | (with_reducible refine Kd.C_drewN ?_ _) | (with_reducible refine Kd.C_drew ?_))); (case side2 => exact HC0_0.out); rintro e w163 ⟨rfl, hb⟩; refine ⟨_, rfl, ?_⟩; have n0_ := Aside0.mk (blk_below (g := gb299) (o := .cells #[.slice A0_0 l0_0.length c0_0] 24 (0, 0)) (lb BK299) hb); have n1_ := Aside0.mk (below_step bw hb); clear BK299; clear HB; have BK299 := n0_; have HB := n1_; clear n0_ n1_; (try clear hb); (try clear hb2); (try clear hk); (try clear hi); have hcz164_0 : w163.cell? ⟨gb299, 0, none⟩ = some (.slice A0_0 l0_0.length c0_0) := (blk_cell BK299.out 0).trans rfl; have hfz164_0 := blk_frozen BK299.out 0) | ((with_reducible refine at_fn (f := 7) rfl ?_); refine goesL_ (some 17) rfl rfl Try.func7 (by kernel_rfl) rfl #[.agg #[.slice A0_0 l0_0.length c0_0]] rfl (by (try simp only [List.map_toArray, List.map_cons, List.map_nil]); first | done | rfl | (simp only [List.length_drop, List.length_take]; rfl)) ?_; (with_reducible refine (laws_toFilter.calls k _ _ l0_0 t301 _ ?side1 ?side2 A7.out).mono ?_); (case side1 => repeat (first | exact (Kd.C_below HR0_0.out HB.out) | (with_reducible refine Kd.C_alloc ?_ _) | (with_reducible refine Kd.C_drewN ?_ _) | (with_reducible refine Kd.C_drew ?_))); (case side2 => exact HC0_0.out); rintro e w165 ⟨v302, rfl, ho0, hb⟩; refine ⟨_, rfl, ?_⟩; have n0_ := Aside0.mk (Kd.R_lower ho0 (below_size bw)); have n1_ := Aside0.mk (blk_below (g := gb299) (o := .cells #[.slice A0_0 l0_0.length c0_0] 24 (0, 0)) (lb BK299) hb); have n2_ := Aside0.mk (below_step bw hb); clear BK299; clear HB; have HO303 := n0_; have BK299 := n1_; have HB := n2_; clear n0_ n1_ n2_; (try clear hb); (try clear hb2); (try clear hk); (try clear hi); (try clear ho0); obtain ⟨Ao166, co166, eo166⟩ := Kd.R_slice HO303.out; subst eo166) | ((with_reducible refine at_fn (f := 6) rfl ?_); refine goesL_ (some 18) rfl rfl Try.func6 (by kernel_rfl) rfl #[.agg #[.slice Ao166 t301.length co166]] rfl (by (try simp only [List.map_toArray, List.map_cons, List.map_nil]); first | done | rfl | (simp only [List.length_drop, List.length_take]; rfl)) ?_; (with_reducible refine (spec_Normal.calls _ _ t301 t304 _ ?side1 ?side2 A8.out).mono ?_); (case side1 => repeat (first | exact (Kd.R_reads' HO303.out).2.2 | (with_reducible refine Kd.C_alloc ?_ _) | (with_reducible refine Kd.C_drewN ?_ _) | (with_reducible refine Kd.C_drew ?_))); (case side2 => exact (Kd.R_reads' HO303.out).2.1); rintro e w167 ⟨v305, rfl, ho0, hb⟩; refine ⟨_, rfl, ?_⟩; have n0_ := Aside0.mk (Kd.R_elder' (lf HO303) (Kd.R_base ho0) hb); have n1_ := Aside0.mk (Kd.R_lower (Kd.R_new' ho0 (Kd.R_lt (lf HO303))) (below_size bw)); have n2_ := Aside0.mk (blk_below (g := gb299) (o := .cells #[.slice A0_0 l0_0.length c0_0] 24 (0, 0)) (lb BK299) hb); have n3_ := Aside0.mk (below_step bw hb); clear HO303; clear BK299; clear HB; have HO303 := n0_; have HO306 := n1_; have BK299 := n2_; have HB := n3_; clear n0_ n1_ n2_ n3_; (try clear hb); (try clear hb2); (try clear hk); (try clear hi); (try clear ho0)) | ((with_reducible refine gate_dst (N := 4) rfl ?_); refine box_event ?hg (N := 4) ?hd (cs := #[.slice none 0 0]) (t := 28) ?hr ?_; (case hd => rfl); (case hg => rfl); (case hr => first | (go_simp; done) | (go_simp; rfl)); intro gb307 hg w168 hbox hb; have n0_ := Aside0.mk (Kd.R_below (lf HO303) hb); have n1_ := Aside0.mk (Kd.R_below (lf HO306) hb); have n2_ := Aside0.mk (blk_below (g := gb299) (o := .cells #[.slice A0_0 l0_0.length c0_0] 24 (0, 0)) (lb BK299) hb); have n3_ := Aside0.mk (below_step bw hb); have n4_ := Aside0.mk (hbox); have n5_ := Aside0.mk ((by rw [hg]; exact (below_size bw) : w.heap.size ≤ gb307)); have n6_ := Aside0.mk ((by rw [hg]; exact (below_size bw) : w.heap.size ≤ gb307)); have n7_ := Aside0.mk ((by rw [hg]; exact Nat.ne_of_lt (blk_lt (g := gb299) (o := .cells #[.slice A0_0 l0_0.length c0_0] 24 (0, 0)) (lb BK299)) : gb299 ≠ gb307)); have n8_ := Aside0.mk ((by rw [hg]; exact Nat.ne_of_gt (blk_lt (g := gb299) (o := .cells #[.slice A0_0 l0_0.length c0_0] 24 (0, 0)) (lb BK299)) : gb307 ≠ gb299)); clear HO303; clear HO306; clear BK299; clear HB; have HO303 := n0_; have HO306 := n1_; have BK299 := n2_; have HB := n3_; have BK307 := n4_; have GW307 := n5_; have GE307 := n6_; have NB299_307 := n7_; have NB307_299 := n8_; clear n0_ n1_ n2_ n3_ n4_ n5_ n6_ n7_ n8_; clear hb hbox hg; obtain ⟨Ao169, co169, eo169⟩ := Kd.R_slice HO306.out; subst eo169; have hnb170 := NB307_299.out; have hnc170 := NB299_307.out; have hcz171_0 : w168.cell? ⟨gb307, 0, none⟩ = some (.slice none 0 0) := (blk_cell BK307.out 0).trans rfl; have hfz171_0 := blk_frozen BK307.out 0; have hcz172_0 : w168.cell? ⟨gb299, 0, none⟩ = some (.slice A0_0 l0_0.length c0_0) := (blk_cell BK299.out 0).trans rfl; have hfz172_0 := blk_frozen BK299.out 0) | ((with_reducible refine at_fn (f := 7) rfl ?_); refine goesL_ (some 20) rfl rfl Try.func7 (by kernel_rfl) rfl #[.agg #[.slice A0_0 l0_0.length c0_0]] rfl (by (try simp only [List.map_toArray, List.map_cons, List.map_nil]); first | done | rfl | (simp only [List.length_drop, List.length_take]; rfl)) ?_; (with_reducible refine (laws_toFilter.calls k _ _ l0_0 t308 _ ?side1 ?side2 A9.out).mono ?_); (case side1 => exact Kd.C_below HR0_0.out bw); (case side2 => exact HC0_0.out); rintro e w173 ⟨v309, rfl, ho0, hb⟩; refine ⟨_, rfl, ?_⟩; have n0_ := Aside0.mk (Kd.R_elder' (by (with_reducible repeat (first | apply Kd.R_alloc | apply Kd.R_drewN | apply Kd.R_drew)); exact (Kd.R_mono (Kd.R_far (p := ⟨gb307, 0, none⟩) (Kd.R_types HO303.out BK307.out (by decide)) (fun _ hk => hk.2) (.slice Ao169 t304.length co169)) (fun _ h_ => h_.1))) (Kd.R_base ho0) hb); have n1_ := Aside0.mk (Kd.R_elder' (by (with_reducible repeat (first | apply Kd.R_alloc | apply Kd.R_drewN | apply Kd.R_drew)); exact (Kd.R_mono (Kd.R_far (p := ⟨gb307, 0, none⟩) (Kd.R_types HO306.out BK307.out (by decide)) (fun _ hk => hk.2) (.slice Ao169 t304.length co169)) (fun _ h_ => h_.1))) (Kd.R_base ho0) hb); have n2_ := Aside0.mk (Kd.R_lower (Kd.R_new' (Kd.R_new' ho0 (Kd.R_lt (by (with_reducible repeat (first | apply Kd.R_alloc | apply Kd.R_drewN | apply Kd.R_drew)); exact (Kd.R_mono (Kd.R_far (p := ⟨gb307, 0, none⟩) (Kd.R_types HO303.out BK307.out (by decide)) (fun _ hk => hk.2) (.slice Ao169 t304.length co169)) (fun _ h_ => h_.1))))) (Kd.R_lt (by (with_reducible repeat (first | apply Kd.R_alloc | apply Kd.R_drewN | apply Kd.R_drew)); exact (Kd.R_mono (Kd.R_far (p := ⟨gb307, 0, none⟩) (Kd.R_types HO306.out BK307.out (by decide)) (fun _ hk => hk.2) (.slice Ao169 t304.length co169)) (fun _ h_ => h_.1))))) (below_size bw)); have n3_ := Aside0.mk (blk_below (g := gb299) (o := .cells #[.slice A0_0 l0_0.length c0_0] 24 (0, 0)) (by (with_reducible repeat (first | refine blk_drewN ?_ _ | refine blk_drew ?_ | refine blk_alloc ?_ _)); refine blk_far ?_ NB299_307.out _; (with_reducible repeat (first | refine blk_drewN ?_ _ | refine blk_drew ?_ | refine blk_alloc ?_ _)); exact BK299.out) hb); have n4_ := Aside0.mk (blk_below (g := gb307) (o := .cells #[.slice Ao169 t304.length co169] 28 (0, 0)) (by (with_reducible repeat (first | refine blk_drewN ?_ _ | refine blk_drew ?_ | refine blk_alloc ?_ _)); refine blk_put (cs := #[.slice none 0 0]) ?_ 0 _ rfl; (with_reducible repeat (first | refine blk_drewN ?_ _ | refine blk_drew ?_ | refine blk_alloc ?_ _)); exact BK307.out) hb); have n5_ := Aside0.mk (below_step bw hb); clear HO303; clear HO306; clear BK299; clear BK307; clear HB; have HO303 := n0_; have HO306 := n1_; have HO310 := n2_; have BK299 := n3_; have BK307 := n4_; have HB := n5_; clear n0_ n1_ n2_ n3_ n4_ n5_; (try clear hb); (try clear hb2); (try clear hk); (try clear hi); (try clear ho0)) | ((with_reducible refine gate_dst (N := 5) rfl ?_); refine box_event ?hg (N := 5) ?hd (cs := #[.slice none 0 0]) (t := 28) ?hr ?_; (case hd => rfl); (case hg => rfl); (case hr => first | (go_simp; done) | (go_simp; rfl)); intro gb311 hg w174 hbox hb; have n0_ := Aside0.mk (Kd.R_below (lf HO303) hb); have n1_ := Aside0.mk (Kd.R_below (lf HO306) hb); have n2_ := Aside0.mk (Kd.R_below (lf HO310) hb); have n3_ := Aside0.mk (blk_below (g := gb299) (o := .cells #[.slice A0_0 l0_0.length c0_0] 24 (0, 0)) (lb BK299) hb); have n4_ := Aside0.mk (blk_below (g := gb307) (o := .cells #[.slice Ao169 t304.length co169] 28 (0, 0)) (lb BK307) hb); have n5_ := Aside0.mk (below_step bw hb); have n6_ := Aside0.mk (hbox); have n7_ := Aside0.mk ((by rw [hg]; exact (below_size bw) : w.heap.size ≤ gb311)); have n8_ := Aside0.mk ((by rw [hg]; exact (below_size bw) : w.heap.size ≤ gb311)); have n9_ := Aside0.mk ((by rw [hg]; exact Nat.ne_of_lt (blk_lt (g := gb299) (o := .cells #[.slice A0_0 l0_0.length c0_0] 24 (0, 0)) (lb BK299)) : gb299 ≠ gb311)); have n10_ := Aside0.mk ((by rw [hg]; exact Nat.ne_of_gt (blk_lt (g := gb299) (o := .cells #[.slice A0_0 l0_0.length c0_0] 24 (0, 0)) (lb BK299)) : gb311 ≠ gb299)); have n11_ := Aside0.mk ((by rw [hg]; exact Nat.ne_of_lt (blk_lt (g := gb307) (o := .cells #[.slice Ao169 t304.length co169] 28 (0, 0)) (lb BK307)) : gb307 ≠ gb311)); have n12_ := Aside0.mk ((by rw [hg]; exact Nat.ne_of_gt (blk_lt (g := gb307) (o := .cells #[.slice Ao169 t304.length co169] 28 (0, 0)) (lb BK307)) : gb311 ≠ gb307)); clear HO303; clear HO306; clear HO310; clear BK299; clear BK307; clear HB; have HO303 := n0_; have HO306 := n1_; have HO310 := n2_; have BK299 := n3_; have BK307 := n4_; have HB := n5_; have BK311 := n6_; have GW311 := n7_; have GE311 := n8_; have NB299_311 := n9_; have NB311_299 := n10_; have NB307_311 := n11_; have NB311_307 := n12_; clear n0_ n1_ n2_ n3_ n4_ n5_ n6_ n7_ n8_ n9_ n10_ n11_ n12_; clear hb hbox hg; obtain ⟨Ao175, co175, eo175⟩ := Kd.R_slice HO310.out; subst eo175; have hnb176 := NB311_299.out; have hnc176 := NB299_311.out; have hnb177 := NB311_307.out; have hnc177 := NB307_311.out; have hcz178_0 : w174.cell? ⟨gb311, 0, none⟩ = some (.slice none 0 0) := (blk_cell BK311.out 0).trans rfl; have hfz178_0 := blk_frozen BK311.out 0) | ((with_reducible refine at_fn (f := 8) rfl ?_); refine goesL_ (some 22) rfl rfl Try.func8 (by kernel_rfl) rfl #[.agg #[.slice Ao175 t308.length co175]] rfl (by (try simp only [List.map_toArray, List.map_cons, List.map_nil]); first | done | rfl | (simp only [List.length_drop, List.length_take]; rfl)) ?_; (with_reducible refine (impl_Normal.calls _ _ t308 t312 _ ?side1 ?side2 A10.out).mono ?_); (case side1 => refine (Kd.R_reads' (e := 63) (base := w.heap.size) (ok := fun k_ => ((True ∧ some k_ ≠ (.slice Ao166 t301.length co166 : Value).ownBlock) ∧ some k_ ≠ (.slice Ao169 t304.length co169 : Value).ownBlock)) (n := t308.length) (c := co175) ?_).2.2; exact (by (with_reducible repeat (first | apply Kd.R_alloc | apply Kd.R_drewN | apply Kd.R_drew)); exact (Kd.R_mono (Kd.R_far (p := ⟨gb311, 0, none⟩) (Kd.R_types HO310.out BK311.out (by decide)) (fun _ hk => hk.2) (.slice Ao175 t308.length co175)) (fun _ h_ => h_.1)))); (case side2 => exact (Kd.R_reads' HO310.out).2.1); rintro e w179 ⟨v313, rfl, ho0, hb⟩; refine ⟨_, rfl, ?_⟩; have n0_ := Aside0.mk (Kd.R_elder' (by (with_reducible repeat (first | apply Kd.R_alloc | apply Kd.R_drewN | apply Kd.R_drew)); exact (Kd.R_mono (Kd.R_far (p := ⟨gb311, 0, none⟩) (Kd.R_types HO303.out BK311.out (by decide)) (fun _ hk => hk.2) (.slice Ao175 t308.length co175)) (fun _ h_ => h_.1))) (Kd.R_base ho0) hb); have n1_ := Aside0.mk (Kd.R_elder' (by (with_reducible repeat (first | apply Kd.R_alloc | apply Kd.R_drewN | apply Kd.R_drew)); exact (Kd.R_mono (Kd.R_far (p := ⟨gb311, 0, none⟩) (Kd.R_types HO306.out BK311.out (by decide)) (fun _ hk => hk.2) (.slice Ao175 t308.length co175)) (fun _ h_ => h_.1))) (Kd.R_base ho0) hb); have n2_ := Aside0.mk (Kd.R_elder' (by (with_reducible repeat (first | apply Kd.R_alloc | apply Kd.R_drewN | apply Kd.R_drew)); exact (Kd.R_mono (Kd.R_far (p := ⟨gb311, 0, none⟩) (Kd.R_types HO310.out BK311.out (by decide)) (fun _ hk => hk.2) (.slice Ao175 t308.length co175)) (fun _ h_ => h_.1))) (Kd.R_base ho0) hb); have n3_ := Aside0.mk (Kd.R_lower (Kd.R_new' (Kd.R_new' (Kd.R_new' ho0 (Kd.R_lt (by (with_reducible repeat (first | apply Kd.R_alloc | apply Kd.R_drewN | apply Kd.R_drew)); exact (Kd.R_mono (Kd.R_far (p := ⟨gb311, 0, none⟩) (Kd.R_types HO303.out BK311.out (by decide)) (fun _ hk => hk.2) (.slice Ao175 t308.length co175)) (fun _ h_ => h_.1))))) (Kd.R_lt (by (with_reducible repeat (first | apply Kd.R_alloc | apply Kd.R_drewN | apply Kd.R_drew)); exact (Kd.R_mono (Kd.R_far (p := ⟨gb311, 0, none⟩) (Kd.R_types HO306.out BK311.out (by decide)) (fun _ hk => hk.2) (.slice Ao175 t308.length co175)) (fun _ h_ => h_.1))))) (Kd.R_lt (by (with_reducible repeat (first | apply Kd.R_alloc | apply Kd.R_drewN | apply Kd.R_drew)); exact (Kd.R_mono (Kd.R_far (p := ⟨gb311, 0, none⟩) (Kd.R_types HO310.out BK311.out (by decide)) (fun _ hk => hk.2) (.slice Ao175 t308.length co175)) (fun _ h_ => h_.1))))) (below_size bw)); have n4_ := Aside0.mk (blk_below (g := gb299) (o := .cells #[.slice A0_0 l0_0.length c0_0] 24 (0, 0)) (by (with_reducible repeat (first | refine blk_drewN ?_ _ | refine blk_drew ?_ | refine blk_alloc ?_ _)); refine blk_far ?_ NB299_311.out _; (with_reducible repeat (first | refine blk_drewN ?_ _ | refine blk_drew ?_ | refine blk_alloc ?_ _)); exact BK299.out) hb); have n5_ := Aside0.mk (blk_below (g := gb307) (o := .cells #[.slice Ao169 t304.length co169] 28 (0, 0)) (by (with_reducible repeat (first | refine blk_drewN ?_ _ | refine blk_drew ?_ | refine blk_alloc ?_ _)); refine blk_far ?_ NB307_311.out _; (with_reducible repeat (first | refine blk_drewN ?_ _ | refine blk_drew ?_ | refine blk_alloc ?_ _)); exact BK307.out) hb); have n6_ := Aside0.mk (blk_below (g := gb311) (o := .cells #[.slice Ao175 t308.length co175] 28 (0, 0)) (by (with_reducible repeat (first | refine blk_drewN ?_ _ | refine blk_drew ?_ | refine blk_alloc ?_ _)); refine blk_put (cs := #[.slice none 0 0]) ?_ 0 _ rfl; (with_reducible repeat (first | refine blk_drewN ?_ _ | refine blk_drew ?_ | refine blk_alloc ?_ _)); exact BK311.out) hb); have n7_ := Aside0.mk (below_step bw hb); clear HO303; clear HO306; clear HO310; clear BK299; clear BK307; clear BK311; clear HB; have HO303 := n0_; have HO306 := n1_; have HO310 := n2_; have HO314 := n3_; have BK299 := n4_; have BK307 := n5_; have BK311 := n6_; have HB := n7_; clear n0_ n1_ n2_ n3_ n4_ n5_ n6_ n7_; (try clear hb); (try clear hb2); (try clear hk); (try clear hi); (try clear ho0)) | ((with_reducible refine gate_dst (N := 6) rfl ?_); refine box_event ?hg (N := 6) ?hd (cs := #[.slice none 0 0]) (t := 28) ?hr ?_; (case hd => rfl); (case hg => rfl); (case hr => first | (go_simp; done) | (go_simp; rfl)); intro gb315 hg w180 hbox hb; have n0_ := Aside0.mk (Kd.R_below (lf HO303) hb); have n1_ := Aside0.mk (Kd.R_below (lf HO306) hb); have n2_ := Aside0.mk (Kd.R_below (lf HO310) hb); have n3_ := Aside0.mk (Kd.R_below (lf HO314) hb); have n4_ := Aside0.mk (blk_below (g := gb299) (o := .cells #[.slice A0_0 l0_0.length c0_0] 24 (0, 0)) (lb BK299) hb); have n5_ := Aside0.mk (blk_below (g := gb307) (o := .cells #[.slice Ao169 t304.length co169] 28 (0, 0)) (lb BK307) hb); have n6_ := Aside0.mk (blk_below (g := gb311) (o := .cells #[.slice Ao175 t308.length co175] 28 (0, 0)) (lb BK311) hb); have n7_ := Aside0.mk (below_step bw hb); have n8_ := Aside0.mk (hbox); have n9_ := Aside0.mk ((by rw [hg]; exact (below_size bw) : w.heap.size ≤ gb315)); have n10_ := Aside0.mk ((by rw [hg]; exact (below_size bw) : w.heap.size ≤ gb315)); have n11_ := Aside0.mk ((by rw [hg]; exact Nat.ne_of_lt (blk_lt (g := gb299) (o := .cells #[.slice A0_0 l0_0.length c0_0] 24 (0, 0)) (lb BK299)) : gb299 ≠ gb315)); have n12_ := Aside0.mk ((by rw [hg]; exact Nat.ne_of_gt (blk_lt (g := gb299) (o := .cells #[.slice A0_0 l0_0.length c0_0] 24 (0, 0)) (lb BK299)) : gb315 ≠ gb299)); have n13_ := Aside0.mk ((by rw [hg]; exact Nat.ne_of_lt (blk_lt (g := gb307) (o := .cells #[.slice Ao169 t304.length co169] 28 (0, 0)) (lb BK307)) : gb307 ≠ gb315)); have n14_ := Aside0.mk ((by rw [hg]; exact Nat.ne_of_gt (blk_lt (g := gb307) (o := .cells #[.slice Ao169 t304.length co169] 28 (0, 0)) (lb BK307)) : gb315 ≠ gb307)); have n15_ := Aside0.mk ((by rw [hg]; exact Nat.ne_of_lt (blk_lt (g := gb311) (o := .cells #[.slice Ao175 t308.length co175] 28 (0, 0)) (lb BK311)) : gb311 ≠ gb315)); have n16_ := Aside0.mk ((by rw [hg]; exact Nat.ne_of_gt (blk_lt (g := gb311) (o := .cells #[.slice Ao175 t308.length co175] 28 (0, 0)) (lb BK311)) : gb315 ≠ gb311)); clear HO303; clear HO306; clear HO310; clear HO314; clear BK299; clear BK307; clear BK311; clear HB; have HO303 := n0_; have HO306 := n1_; have HO310 := n2_; have HO314 := n3_; have BK299 := n4_; have BK307 := n5_; have BK311 := n6_; have HB := n7_; have BK315 := n8_; have GW315 := n9_; have GE315 := n10_; have NB299_315 := n11_; have NB315_299 := n12_; have NB307_315 := n13_; have NB315_307 := n14_; have NB311_315 := n15_; have NB315_311 := n16_; clear n0_ n1_ n2_ n3_ n4_ n5_ n6_ n7_ n8_ n9_ n10_ n11_ n12_ n13_ n14_ n15_ n16_; clear hb hbox hg; obtain ⟨Ao181, co181, eo181⟩ := Kd.R_slice HO314.out; subst eo181; have hnb182 := NB315_299.out; have hnc182 := NB299_315.out; have hnb183 := NB315_307.out; have hnc183 := NB307_315.out; have hnb184 := NB315_311.out; have hnc184 := NB311_315.out; have hcz185_0 : w180.cell? ⟨gb315, 0, none⟩ = some (.slice none 0 0) := (blk_cell BK315.out 0).trans rfl; have hfz185_0 := blk_frozen BK315.out 0; have hcz186_0 : w180.cell? ⟨gb307, 0, none⟩ = some (.slice Ao169 t304.length co169) := (blk_cell BK307.out 0).trans rfl; have hfz186_0 := blk_frozen BK307.out 0) | ((with_reducible refine at_fn (f := 9) rfl ?_); refine goesL_ (some 25) rfl rfl Try.func9 (by kernel_rfl) rfl #[.agg #[.slice Ao181 t312.length co181], .agg #[.slice Ao169 t304.length co169]] rfl (by (try simp only [List.map_toArray, List.map_cons, List.map_nil]); first | done | rfl | (simp only [List.length_drop, List.length_take]; rfl)) ?_; (with_reducible refine (laws_eqFilter.calls k _ _ t312 _ _ t304 false _ ?side1 ?side2 ?side3 ?side4 A11.out).mono ?_); (case side1 => refine (Kd.R_reads' (e := 63) (base := w.heap.size) (ok := fun k_ => (((True ∧ some k_ ≠ (.slice Ao166 t301.length co166 : Value).ownBlock) ∧ some k_ ≠ (.slice Ao169 t304.length co169 : Value).ownBlock) ∧ some k_ ≠ (.slice Ao175 t308.length co175 : Value).ownBlock)) (n := t312.length) (c := co181) ?_).2.2; exact (by (with_reducible repeat (first | apply Kd.R_alloc | apply Kd.R_drewN | apply Kd.R_drew)); exact (Kd.R_mono (Kd.R_far (p := ⟨gb315, 0, none⟩) (Kd.R_types HO314.out BK315.out (by decide)) (fun _ hk => hk.2) (.slice Ao181 t312.length co181)) (fun _ h_ => h_.1)))); (case side2 => exact (Kd.R_reads' HO314.out).2.1); (case side3 => refine (Kd.R_reads' (e := 63) (base := w.heap.size) (ok := fun k_ => (((True ∧ some k_ ≠ (.slice Ao166 t301.length co166 : Value).ownBlock) ∧ some k_ ≠ (.slice Ao175 t308.length co175 : Value).ownBlock) ∧ some k_ ≠ (.slice Ao181 t312.length co181 : Value).ownBlock)) (n := t304.length) (c := co169) ?_).2.2; exact (by (with_reducible repeat (first | apply Kd.R_alloc | apply Kd.R_drewN | apply Kd.R_drew)); exact (Kd.R_mono (Kd.R_far (p := ⟨gb315, 0, none⟩) (Kd.R_types HO306.out BK315.out (by decide)) (fun _ hk => hk.2) (.slice Ao181 t312.length co181)) (fun _ h_ => h_.1)))); (case side4 => exact (Kd.R_reads' HO306.out).2.1); rintro e w187 ⟨rfl, hb⟩; refine ⟨_, rfl, ?_⟩; have n0_ := Aside0.mk (Kd.R_below (by (with_reducible repeat (first | apply Kd.R_alloc | apply Kd.R_drewN | apply Kd.R_drew)); exact (Kd.R_mono (Kd.R_far (p := ⟨gb315, 0, none⟩) (Kd.R_types HO303.out BK315.out (by decide)) (fun _ hk => hk.2) (.slice Ao181 t312.length co181)) (fun _ h_ => h_.1))) hb); have n1_ := Aside0.mk (Kd.R_below (by (with_reducible repeat (first | apply Kd.R_alloc | apply Kd.R_drewN | apply Kd.R_drew)); exact (Kd.R_mono (Kd.R_far (p := ⟨gb315, 0, none⟩) (Kd.R_types HO306.out BK315.out (by decide)) (fun _ hk => hk.2) (.slice Ao181 t312.length co181)) (fun _ h_ => h_.1))) hb); have n2_ := Aside0.mk (Kd.R_below (by (with_reducible repeat (first | apply Kd.R_alloc | apply Kd.R_drewN | apply Kd.R_drew)); exact (Kd.R_mono (Kd.R_far (p := ⟨gb315, 0, none⟩) (Kd.R_types HO310.out BK315.out (by decide)) (fun _ hk => hk.2) (.slice Ao181 t312.length co181)) (fun _ h_ => h_.1))) hb); have n3_ := Aside0.mk (Kd.R_below (by (with_reducible repeat (first | apply Kd.R_alloc | apply Kd.R_drewN | apply Kd.R_drew)); exact (Kd.R_mono (Kd.R_far (p := ⟨gb315, 0, none⟩) (Kd.R_types HO314.out BK315.out (by decide)) (fun _ hk => hk.2) (.slice Ao181 t312.length co181)) (fun _ h_ => h_.1))) hb); have n4_ := Aside0.mk (blk_below (g := gb299) (o := .cells #[.slice A0_0 l0_0.length c0_0] 24 (0, 0)) (by (with_reducible repeat (first | refine blk_drewN ?_ _ | refine blk_drew ?_ | refine blk_alloc ?_ _)); refine blk_far ?_ NB299_315.out _; (with_reducible repeat (first | refine blk_drewN ?_ _ | refine blk_drew ?_ | refine blk_alloc ?_ _)); exact BK299.out) hb); have n5_ := Aside0.mk (blk_below (g := gb307) (o := .cells #[.slice Ao169 t304.length co169] 28 (0, 0)) (by (with_reducible repeat (first | refine blk_drewN ?_ _ | refine blk_drew ?_ | refine blk_alloc ?_ _)); refine blk_far ?_ NB307_315.out _; (with_reducible repeat (first | refine blk_drewN ?_ _ | refine blk_drew ?_ | refine blk_alloc ?_ _)); exact BK307.out) hb); have n6_ := Aside0.mk (blk_below (g := gb311) (o := .cells #[.slice Ao175 t308.length co175] 28 (0, 0)) (by (with_reducible repeat (first | refine blk_drewN ?_ _ | refine blk_drew ?_ | refine blk_alloc ?_ _)); refine blk_far ?_ NB311_315.out _; (with_reducible repeat (first | refine blk_drewN ?_ _ | refine blk_drew ?_ | refine blk_alloc ?_ _)); exact BK311.out) hb); have n7_ := Aside0.mk (blk_below (g := gb315) (o := .cells #[.slice Ao181 t312.length co181] 28 (0, 0)) (by (with_reducible repeat (first | refine blk_drewN ?_ _ | refine blk_drew ?_ | refine blk_alloc ?_ _)); refine blk_put (cs := #[.slice none 0 0]) ?_ 0 _ rfl; (with_reducible repeat (first | refine blk_drewN ?_ _ | refine blk_drew ?_ | refine blk_alloc ?_ _)); exact BK315.out) hb); have n8_ := Aside0.mk (below_step bw hb); clear HO303; clear HO306; clear HO310; clear HO314; clear BK299; clear BK307; clear BK311; clear BK315; clear HB; have HO303 := n0_; have HO306 := n1_; have HO310 := n2_; have HO314 := n3_; have BK299 := n4_; have BK307 := n5_; have BK311 := n6_; have BK315 := n7_; have HB := n8_; clear n0_ n1_ n2_ n3_ n4_ n5_ n6_ n7_ n8_; (try clear hb); (try clear hb2); (try clear hk); (try clear hi)))
   go_ret
   exact ⟨by first | rfl | (simp [errW_none, errW_some] <;> rfl) | (simp [*, errW_none, errW_some] <;> rfl), bw⟩

end Go.Proofs.Ytpfehkkfakofaaa.Q

namespace Go.Proofs.Ytpfehkkfakofaaa.Q
open Go.RowKit Go.Proofs.YtpfehkkfakofaaaW.PrintWords Go.Proofs.YtpfehkkfakofaaaW.PrintLast
set_option linter.unusedVariables false

/-- The law over lists and numbers. -/
def laws_FnExactNormal.Pure : Prop := ∀ (l0_0 : List (S72)), (l0_0.length ≤ maxLen ∧ ∀ x_ ∈ l0_0, ok72 x_) → ∃ k, laws_FnExactNormal.f k l0_0 = some true
end Go.Proofs.Ytpfehkkfakofaaa.Q

namespace Go.Proofs.Ytpfehkkfakofaaa.Q
open Go.RowKit Go.Proofs.YtpfehkkfakofaaaW.PrintWords Go.Proofs.YtpfehkkfakofaaaW.PrintLast
set_option linter.unusedVariables false
set_option linter.unusedSimpArgs false
def cvM (x : S72) : S63 := ⟨x.f0, x.f1, x.f2, x.f3, x.f4, x.f5, x.f6⟩
theorem szM_ok (x : S72) (n : Int) (hx : ok72 x) (h0 : 0 ≤ n) (h1 : n ≤ 1048576) : ∃ t, Ev (fun k => laws_szNode.f x.f0 x.f1 x.f2 x.f3 x.f4 x.f5 x.f6 n) t ∧ (t < 0 ∨ (0 ≤ t ∧ t ≤ n ∧ True)) := by
  obtain ⟨-, s1, -, s3, -⟩ := hx
  simp only [maxLen] at s1 s3
  unfold laws_szNode.f
  rw [wrap_id _ (by omega) (by omega)]
  by_cases h : n - (x.f1.size : Int) < 0
  · exact ⟨-1, Ev.of_all fun k => if_pos h, .inl (by omega)⟩
  · rw [if_neg h, wrap_id _ (by omega) (by omega)]
    by_cases h2 : n - (x.f1.size : Int) - (x.f3.size : Int) < 0
    · exact ⟨-1, Ev.of_all fun k => if_pos h2, .inl (by omega)⟩
    · exact ⟨_, Ev.of_all fun k => if_neg h2, .inr ⟨by omega, by omega, trivial⟩⟩
theorem szFilter_ok (xs : List S72) (n : Int) (hl : xs.length ≤ maxLen) (hok : ∀ x ∈ xs, ok72 x) (h0 : 0 ≤ n) (h1 : n ≤ 1048576) :
    ∃ t, Ev (fun k => laws_szFilter.f k xs n) t ∧ (t < 0 ∨ (0 ≤ t ∧ t ≤ n ∧ xs.length ≤ 1048576)) := by
  simp only [maxLen] at hl
  unfold laws_szFilter.f laws_szNodeS.f
  rw [wrap_id _ (by omega) (by omega)]
  by_cases h : n - (xs.length : Int) < 0
  · exact ⟨-1, Ev.bind (Ev.if_pos h (Ev.now (-1))) (Ev.if_pos (by omega) (Ev.now _)), .inl (by omega)⟩
  · obtain ⟨t, ht, h2⟩ := sz_all xs z72 (fun _ => True) (fun k x n => laws_szNode.f x.f0 x.f1 x.f2 x.f3 x.f4 x.f5 x.f6 n) (fun k n i => laws_szNodeS.l0 k xs n i) (by omega)
      (fun k n i hi => by simp only [laws_szNodeS.l0]; rw [if_pos (by omega), if_pos (by omega), wrap_nat _ (by omega)]; rfl)
      (fun k n => by simp only [laws_szNodeS.l0]; rw [if_neg (by omega)]) (fun x hx n h0 h1 => szM_ok x n (hok x hx) h0 h1) xs [] (n - xs.length) rfl (by omega) (by omega)
    rcases h2 with h2 | ⟨h2, h3, h4⟩
    · exact ⟨-1, Ev.bind (Ev.if_neg h ht) (Ev.if_pos h2 (Ev.now _)), .inl (by omega)⟩
    · exact ⟨t, Ev.bind (Ev.if_neg h ht) (Ev.if_neg (by omega) (Ev.now _)), .inr ⟨h2, by omega, by omega⟩⟩
theorem toFilter_is (xs : List S72) (hl : xs.length ≤ 1048576) : Ev (fun k => laws_toFilter.f k xs) (xs.map cvM) := by
  unfold laws_toFilter.f laws_toNodeS.f
  simp only [Int.toNat_natCast]
  have h := to_all xs z72 z63 (fun k x => laws_toNode.f x.f0 x.f1 x.f2 x.f3 x.f4 x.f5 x.f6) (fun t => (⟨t.1, t.2.1, t.2.2.1, t.2.2.2.1, t.2.2.2.2.1, t.2.2.2.2.2.1, t.2.2.2.2.2.2⟩ : S63)) cvM (fun k ys i => laws_toNodeS.l0 k xs ys i) (by omega)
    (fun k ys i hi hj => by
      simp only [laws_toNodeS.l0]; rw [if_pos (by omega), if_pos (by omega), wrap_nat _ (by omega)]
      have hj' : (i : Int) < (ys.length : Int) := by omega
      simp only [Int.toNat_natCast, hj', if_true]; rfl)
    (fun k ys => by simp only [laws_toNodeS.l0]; rw [if_neg (by omega)])
    (fun x hx => ⟨_, Ev.of_all fun k => by unfold laws_toNode.f; rfl, rfl⟩) xs [] rfl
  exact Ev.bind (Ev.if_pos (by omega) (Ev.if_pos (by omega) (by simpa using h))) (Ev.now _)
theorem eqFilter_refl (xs : List S63) (hb : xs.length < 4611686018427387904) : Ev (fun k => laws_eqFilter.f k xs xs) true := by
  have h := all_loop xs z63 (fun _ => true) (fun k x => laws_eqNode.f x.f0 x.f1 x.f2 x.f3 x.f4 x.f5 x.f6 x.f0 x.f1 x.f2 x.f3 x.f4 x.f5 x.f6) (fun k i => laws_eqNodeS.l0 k xs xs i) (fun _ => some true) true hb
    (fun k i hi => by simp only [laws_eqNodeS.l0]; rw [if_pos (by omega), if_pos (by omega), if_pos (by omega), wrap_nat _ (by omega)]; rfl)
    (fun k => by simp only [laws_eqNodeS.l0]; rw [if_neg (by omega)])
    (fun x hx => Ev.of_all fun k => by unfold laws_eqNode.f; simp) (Ev.now _) xs [] rfl
  rw [show (xs.all (fun _ => true) && true) = true from by simp] at h
  exact Ev.bind (Ev.if_pos rfl h) (Ev.if_pos rfl (Ev.now _))
end Go.Proofs.Ytpfehkkfakofaaa.Q

namespace Go.Proofs.Ytpfehkkfakofaaa.Q
open Go.RowKit Go.Proofs.YtpfehkkfakofaaaW.PrintWords Go.Proofs.YtpfehkkfakofaaaW.PrintLast
set_option linter.unusedVariables false
set_option linter.unusedSimpArgs false
theorem strOne (x : Int) : (strOfNums [x]).size = 1 := by first | rfl | simp [strOfNums]
theorem markText_loop : ∀ (f : Nat) (x : Int) (s : ByteArray), 0 ≤ x → x ≤ 9223372036854775807 → x < 10 ^ f → s.size + f < 1000 → ∃ t, Ev (fun k => laws_markText.l0 k x s) t
  | 0, x, s, h0, hm, h1, hs => by
    have h2 : x = 0 := by simp at h1; omega
    subst h2
    exact ⟨_, Ev.shift 1 fun k => by simp only [laws_markText.l0]; rw [if_neg (by omega), if_pos (by omega)]⟩
  | f + 1, x, s, h0, hm, h1, hs => by
    by_cases h2 : x > 0
    · have hx : wrap64 (Int.tdiv x 10) = x / 10 := by
        rw [Int.tdiv_eq_ediv_of_nonneg h0]
        exact wrap_id _ (by omega) (by omega)
      obtain ⟨t, ht⟩ := markText_loop f (x / 10) (strOfNums [(wrap64 (48 + (Int.tmod x 10))) % 256] ++ s) (by omega) (by omega) (by rw [Int.pow_succ] at h1; omega) (by rw [ByteArray.size_append, strOne]; omega)
      refine ⟨t, Ev.round (fun k => ?_) ht⟩
      simp only [laws_markText.l0]; rw [if_pos h2]; simp only [Option.bind_some]; rw [if_pos (by rw [strOne]; omega), hx]
    · exact ⟨_, Ev.shift 1 fun k => by simp only [laws_markText.l0]; rw [if_neg h2, if_pos (by omega)]⟩
theorem markText_ev (x : Int) (h0 : 0 ≤ x) (h1 : x < 1000000000000) : ∃ t, Ev (fun k => laws_markText.f k x) t := by
  unfold laws_markText.f
  by_cases h : x ≤ 0
  · exact ⟨_, Ev.if_pos h (Ev.now _)⟩
  · obtain ⟨t, ht⟩ := markText_loop 12 x ⟨#[]⟩ h0 (by omega) (by omega) (by decide)
    exact ⟨t, Ev.if_neg h ht⟩
noncomputable def mText (x : Int) : ByteArray := if h : 0 ≤ x ∧ x < 1000000000000 then Classical.choose (markText_ev x h.1 h.2) else ⟨#[]⟩
theorem mText_ev (x : Int) (h0 : 0 ≤ x) (h1 : x < 1000000000000) : Ev (fun k => laws_markText.f k x) (mText x) := by
  unfold mText
  rw [dif_pos ⟨h0, h1⟩]
  exact Classical.choose_spec (markText_ev x h0 h1)
noncomputable def mNode (x : Int) : S63 := ⟨x, mText (x + 1), (Int.tmod (x + 1 + 1) 3 == 0), mText (x + 1 + 1 + 1), IntKind.u64.wrap (x + 1 + 1 + 1 + 1), IntKind.u64.wrap (x + 1 + 1 + 1 + 1 + 1), x + 1 + 1 + 1 + 1 + 1 + 1⟩
noncomputable def mNodes : Nat → Int → List S63
  | 0, _ => []
  | d + 1, x => mNode x :: mNodes d (x + 1 + 1 + 1 + 1 + 1 + 1 + 1)
theorem mNodes_len : ∀ (d : Nat) (x : Int), (mNodes d x).length = d
  | 0, _ => rfl
  | d + 1, x => by simp [mNodes, mNodes_len d]
theorem mark_loop : ∀ (rest pre : List S63) (x : Int), 0 ≤ x → x + 7 * rest.length < 1000000000 → pre.length + rest.length < 1000000000 → Ev (fun k => laws_markNodeS.l0 k (pre ++ rest) x (pre.length : Int)) (x + 7 * rest.length, pre ++ mNodes rest.length x)
  | [], pre, x, h0, h1, h2 => Ev.shift 1 fun k => by
    simp only [laws_markNodeS.l0]; rw [if_neg (by simp)]; simp [mNodes]
  | y :: rest, pre, x, h0, h1, h2 => by
    have hl : ((y :: rest).length : Int) = (rest.length : Int) + 1 := by simp
    have hl2 : (y :: rest).length = rest.length + 1 := by simp
    rw [hl] at h1
    rw [hl2] at h2
    have ih := mark_loop rest (pre ++ [mNode x]) (x + 1 + 1 + 1 + 1 + 1 + 1 + 1) (by omega) (by omega) (by rw [List.length_append, List.length_singleton]; omega)
    rw [List.append_assoc, List.append_assoc, List.singleton_append, List.singleton_append, List.length_append, List.length_singleton] at ih
    have hs : ∀ b c : S63, (pre ++ b :: rest).set pre.length c = pre ++ c :: rest := fun b c => by rw [List.set_append_right _ _ (Nat.le_refl _), Nat.sub_self, List.set_cons_zero]
    have hr : ∀ b : S63, rd_T63 (pre ++ b :: rest) (pre.length : Int) = b := fun b => by unfold rd_T63; rw [Int.toNat_natCast]; simp
    have w1 : wrap64 (x + 1) = x + 1 := wrap_id _ (by omega) (by omega)
    have w2 : wrap64 (x + 1 + 1) = x + 1 + 1 := wrap_id _ (by omega) (by omega)
    have w3 : wrap64 (x + 1 + 1 + 1) = x + 1 + 1 + 1 := wrap_id _ (by omega) (by omega)
    have w4 : wrap64 (x + 1 + 1 + 1 + 1) = x + 1 + 1 + 1 + 1 := wrap_id _ (by omega) (by omega)
    have w5 : wrap64 (x + 1 + 1 + 1 + 1 + 1) = x + 1 + 1 + 1 + 1 + 1 := wrap_id _ (by omega) (by omega)
    have w6 : wrap64 (x + 1 + 1 + 1 + 1 + 1 + 1) = x + 1 + 1 + 1 + 1 + 1 + 1 := wrap_id _ (by omega) (by omega)
    have w7 : wrap64 (x + 1 + 1 + 1 + 1 + 1 + 1 + 1) = x + 1 + 1 + 1 + 1 + 1 + 1 + 1 := wrap_id _ (by omega) (by omega)
    refine Ev.round (f := fun k => (laws_markText.f k (x + 1)).bind fun t => (laws_markText.f k (x + 1 + 1 + 1)).bind fun u => laws_markNodeS.l0 k (pre ++ (⟨x, t, (Int.tmod (x + 1 + 1) 3 == 0), u, IntKind.u64.wrap (x + 1 + 1 + 1 + 1), IntKind.u64.wrap (x + 1 + 1 + 1 + 1 + 1), x + 1 + 1 + 1 + 1 + 1 + 1⟩ : S63) :: rest) (x + 1 + 1 + 1 + 1 + 1 + 1 + 1) ((pre.length + 1 : Nat) : Int)) (fun k => ?_) (Ev.bind (mText_ev (x + 1) (by omega) (by omega)) (Ev.bind (mText_ev (x + 1 + 1 + 1) (by omega) (by omega)) ?_))
    · simp only [laws_markNodeS.l0]
      rw [if_pos (by simp; omega), if_pos (by omega)]
      simp only [Option.bind_some, Int.toNat_natCast, hs, hr, w1, w2, w3, w4, w5, w6, w7, wrap_nat pre.length (by omega)]
    · have e1 : x + 7 * ((y :: rest).length : Int) = x + 1 + 1 + 1 + 1 + 1 + 1 + 1 + 7 * (rest.length : Int) := by rw [hl]; omega
      have e2 : pre ++ mNodes (y :: rest).length x = pre ++ mNode x :: mNodes rest.length (x + 1 + 1 + 1 + 1 + 1 + 1 + 1) := rfl
      rw [e1, e2]
      exact ih
theorem held_loop : ∀ (d : Nat) (pre : List S63) (x : Int), 0 ≤ x → x + 7 * d < 1000000000 → pre.length + d < 1000000000 → Ev (fun k => laws_heldNodeS.l0 k (pre ++ mNodes d x) x (pre.length : Int)) (x + 7 * d)
  | 0, pre, x, h0, h1, h2 => Ev.shift 1 fun k => by
    simp only [laws_heldNodeS.l0]; rw [if_neg (by simp [mNodes])]; simp
  | d + 1, pre, x, h0, h1, h2 => by
    have ih := held_loop d (pre ++ [mNode x]) (x + 1 + 1 + 1 + 1 + 1 + 1 + 1) (by omega) (by omega) (by rw [List.length_append, List.length_singleton]; omega)
    rw [List.append_assoc, List.singleton_append, List.length_append, List.length_singleton] at ih
    have hr : rd_T63 (pre ++ mNodes (d + 1) x) (pre.length : Int) = mNode x := by unfold rd_T63; rw [Int.toNat_natCast]; simp [mNodes]
    have w1 : wrap64 (x + 1) = x + 1 := wrap_id _ (by omega) (by omega)
    have w2 : wrap64 (x + 1 + 1) = x + 1 + 1 := wrap_id _ (by omega) (by omega)
    have w3 : wrap64 (x + 1 + 1 + 1) = x + 1 + 1 + 1 := wrap_id _ (by omega) (by omega)
    have w4 : wrap64 (x + 1 + 1 + 1 + 1) = x + 1 + 1 + 1 + 1 := wrap_id _ (by omega) (by omega)
    have w5 : wrap64 (x + 1 + 1 + 1 + 1 + 1) = x + 1 + 1 + 1 + 1 + 1 := wrap_id _ (by omega) (by omega)
    have w6 : wrap64 (x + 1 + 1 + 1 + 1 + 1 + 1) = x + 1 + 1 + 1 + 1 + 1 + 1 := wrap_id _ (by omega) (by omega)
    have w7 : wrap64 (x + 1 + 1 + 1 + 1 + 1 + 1 + 1) = x + 1 + 1 + 1 + 1 + 1 + 1 + 1 := wrap_id _ (by omega) (by omega)
    refine Ev.round (f := fun k => (laws_markText.f k (x + 1)).bind fun t => if (mNode x).f1.toList = t.toList then (laws_markText.f k (x + 1 + 1 + 1)).bind fun u => if (mNode x).f3.toList = u.toList then laws_heldNodeS.l0 k (pre ++ mNodes (d + 1) x) (x + 1 + 1 + 1 + 1 + 1 + 1 + 1) ((pre.length + 1 : Nat) : Int) else some (-1) else some (-1)) (fun k => ?_) (Ev.bind (mText_ev (x + 1) (by omega) (by omega)) (Ev.if_pos rfl (Ev.bind (mText_ev (x + 1 + 1 + 1) (by omega) (by omega)) (Ev.if_pos rfl ?_))))
    · simp only [laws_heldNodeS.l0]
      rw [if_pos (by rw [List.length_append, mNodes_len]; omega), if_pos (by omega)]
      simp only [hr, w1, w2, w3, w4, w5, w6, w7, wrap_nat pre.length (by omega)]
      have g0 : (mNode x).f0 = x := rfl
      have g2 : ((mNode x).f2 != (Int.tmod (x + 1 + 1) 3 == 0)) = false := by simp [mNode]
      have g4 : (mNode x).f4 = IntKind.u64.wrap (x + 1 + 1 + 1 + 1) := rfl
      have g5 : (mNode x).f5 = IntKind.u64.wrap (x + 1 + 1 + 1 + 1 + 1) := rfl
      have g6 : (mNode x).f6 = x + 1 + 1 + 1 + 1 + 1 + 1 := rfl
      rw [if_pos g0]
      simp only [g2, g4, g5, g6, if_true, if_false, Bool.false_eq_true]
    · have e1 : x + 7 * ((d + 1 : Nat) : Int) = x + 1 + 1 + 1 + 1 + 1 + 1 + 1 + 7 * (d : Int) := by omega
      rw [e1]
      exact ih
theorem mark_is (xs : List S63) (hl : xs.length < 100000000) : Ev (fun k => laws_markFilter.f k xs 1) (1 + 7 * (xs.length : Int), mNodes xs.length 1) := by
  have h := mark_loop xs [] 1 (by omega) (by omega) (by simp; omega)
  exact Ev.bind h (Ev.now _)
theorem held_is (d : Nat) (hl : d < 100000000) : Ev (fun k => laws_heldFilter.f k (mNodes d 1) 1) (1 + 7 * (d : Int)) := by
  have h := held_loop d [] 1 (by omega) (by omega) (by simp; omega)
  exact Ev.bind h (Ev.if_neg (by omega) (Ev.now _))
end Go.Proofs.Ytpfehkkfakofaaa.Q

namespace Go.Proofs.Ytpfehkkfakofaaa.Pr
open Q Go.Proofs.YtpfehkkfakofaaaW.PrintWords
theorem normOf_len (ns : List S63) : (normOf ns).length ≤ 200 := by
  unfold normOf
  cases h : validT ns with
  | none => simp
  | some t =>
    obtain ⟨hw, hf, hl, -⟩ := validT_some h
    have := (normT_wf t hw).2
    rw [hf] at this
    show (flatT (normT t)).length ≤ 200
    omega
theorem FnExactNormal : laws_FnExactNormal.Pure := by
  intro xs ⟨hl, hok⟩
  apply Ev.rounds
  unfold laws_FnExactNormal.f
  obtain ⟨t, ht, h1⟩ := szFilter_ok xs 1048576 hl hok (by omega) (by omega)
  rcases h1 with h1 | ⟨h1, h2, h3⟩
  · exact Ev.bind ht (Ev.if_pos h1 (Ev.now _))
  · have hk := toFilter_is xs h3
    have hm : (xs.map cvM).length < 100000000 := by rw [List.length_map]; omega
    have hle : (xs.map cvM).length < 4611686018427387904 := by omega
    have hnl := normOf_len (xs.map cvM)
    have hnl2 : (normOf (xs.map cvM)).length < 4611686018427387904 := by omega
    have hin : Ev (fun k => (laws_markFilter.f k (normOf (xs.map cvM)) 1).bind fun b => (laws_heldFilter.f k b.2 1).bind fun t => if t < 0 then some false else if t = b.1 then (laws_toFilter.f k xs).bind fun q => (impl_Normal.f q).bind fun r => (laws_eqFilter.f k r (normOf (xs.map cvM))).bind fun z => if z = true then some true else some false else some false) true :=
      Ev.bind (mark_is _ (by omega)) (Ev.bind (held_is _ (by omega)) (Ev.if_neg (by omega) (Ev.if_pos rfl (Ev.bind hk (Ev.bind (Ev.now _) (Ev.bind (eqFilter_refl _ hnl2) (Ev.if_pos rfl (Ev.now _))))))))
    have hj : Ev (fun k => laws_FnExactNormal.j0 k false xs (normOf (xs.map cvM)) (normOf (xs.map cvM))) true :=
      Ev.round (fun k => by simp only [laws_FnExactNormal.j0]; rw [if_neg (by decide)]) hin
    refine Ev.bind ht (Ev.if_neg (by omega) (Ev.bind hk (Ev.bind (Ev.now _) (Ev.bind hk (Ev.bind (Ev.now _) (Ev.bind (eqFilter_refl _ hnl2) (Ev.if_pos rfl (Ev.bind hk (Ev.bind (eqFilter_refl _ hle) (Ev.if_pos rfl (Ev.bind (mark_is _ hm) (Ev.if_neg (by show ¬ (1 + 7 * _ < (0 : Int)); omega) (Ev.bind (eqFilter_refl _ hnl2) ?_)))))))))))))
    exact hj
end Go.Proofs.Ytpfehkkfakofaaa.Pr
