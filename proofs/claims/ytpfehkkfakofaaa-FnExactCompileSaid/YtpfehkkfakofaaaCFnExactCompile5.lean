/- FnExactCompile: the row of the law: its arguments opened, its walk, its statement over lists (PrFnExactCompile). No condition. -/
import Derived.Test.YtpfehkkfakofaaaCFnExactCompile4
import Derived.Test.YtpfehkkfakofaaaRows
import Derived.WalkKit
import Derived.ProofKit
import Derived.OpenShut
import Derived.ShutString
import Derived.ChangeOld
import Derived.Below
import Derived.SizedLaws

namespace Go.Proofs.Ytpfehkkfakofaaa.Q
open Go.RowKit Go.Proofs.YtpfehkkfakofaaaW.PrintWords Go.Proofs.YtpfehkkfakofaaaW.PrintLast Go.Proofs.YtpfehkkfakofaaaW.PrintMore
set_option linter.unusedVariables false
set_option linter.unusedSimpArgs false
def insD (x : S92) : List Value := [.int .i64 x.f0, .int .i64 x.f1, .int .i64 x.f2, .bool x.f3, .int .i64 x.f4.f0, .string x.f4.f1, .bool x.f4.f2, .string x.f4.f3, .int .u64 x.f4.f4, .int .u64 x.f4.f5, .int .i64 x.f4.f6]
theorem one_row (W : World) (x : S92) : Kd.R k92 92 (W.alloc (.cells (insD x).toArray 92)) W.heap.size (fun _ => True) (.slice (some ⟨W.heap.size, 0, none⟩) 1 1) [x] := by
  refine ⟨fun _ _ => trivial, insD x, ⟨rfl, .inr ⟨W.heap.size, 1, (insD x).toArray, rfl, Nat.le_refl _, heap_alloc_new W _, Nat.le_refl _, by decide, rfl, rfl⟩⟩, ⟨rfl, fun j p hj => ?_⟩⟩
  cases j with
  | zero => cases hj; exact k92_mkM _ _ _ x
  | succ j => simp at hj
theorem many_rows {W : World} (rs : List (Option Addr × Nat × List S92)) (t : TypeId) (hr : rs.length ≤ 1000) (h : ∀ r ∈ rs, Kd.C k92 W r.1 r.2.2.length r.2.2 ∧ r.2.2.length ≤ r.2.1) :
    Kd.C (Kd.slice 92 k92) (W.alloc (.cells (rs.map (fun r => Value.slice r.1 r.2.2.length r.2.1)).toArray t)) (some ⟨W.heap.size, 0, none⟩) (rs.map (fun r => r.2.2)).length (rs.map (fun r => r.2.2)) := by
  have h0 := heap_alloc_new W (.cells (rs.map (fun r => Value.slice r.1 r.2.2.length r.2.1)).toArray t)
  refine ⟨rfl, by rw [List.length_map]; omega, fun _ => ⟨_, rfl, fun j p hj => ?_⟩⟩
  rw [List.getElem?_map] at hj
  obtain ⟨r, hrj, rfl⟩ := Option.map_eq_some_iff.1 hj
  obtain ⟨h1, h2⟩ := h r (List.mem_of_getElem? hrj)
  refine ⟨[.slice r.1 r.2.2.length r.2.1], rfl, ⟨r.1, r.2.1, rfl, h2, Kd.C_alloc h1 _⟩, fun i u hi => ?_⟩
  match i, hi with
  | 0, hi =>
    cases hi
    rw [add_plain, show j * (Kd.slice 92 k92).sz + 0 = j from by rw [show (Kd.slice 92 k92).sz = 1 from rfl]; omega]
    refine (blk_cell h0 j).trans ?_
    rw [List.getElem?_toArray, List.getElem?_map, hrj]; rfl
  | i + 1, hi => simp at hi
theorem cat_call (ps : List (List S92)) (hp : ps.length ≤ 100000) (hn : ps.flatten.length ≤ 100000) (A : Option Addr) (c : Nat) (w : World) (hr : Kd.C (Kd.slice 92 k92) w A ps.length ps) (hc : ps.length ≤ c) :
    Calls Try.prog 58 #[.slice A ps.length c] w fun e w' => ∃ v, e = .returned v ∧ Kd.R k92 92 w' w.heap.size (fun _ => True) v ps.flatten ∧ Below w.heap.size w w' := by
  obtain ⟨K, hK⟩ := cats_is ps (by omega) (by omega)
  exact spec_l6Cat.calls K A c ps ps.flatten w hr hc (hK K (Nat.le_refl _))
theorem one_call (k : Int) (w : World) : Calls Try.prog 63 #[.int .i64 k] w fun e w' => ∃ A c, e = .returned (.slice A 1 c) ∧ 1 ≤ c ∧ Kd.C k92 w' A 1 [⟨k, 0, 0, false, zN⟩] ∧ Below w.heap.size w w' := by
  refine (spec_l6One.calls k [⟨k, 0, 0, false, zN⟩] w rfl).mono ?_
  rintro e w' ⟨v, rfl, hR, hb⟩
  obtain ⟨A, c, rfl, hle, hC⟩ := Kd.R_reads hR
  exact ⟨A, c, rfl, hle, hC, hb⟩
/-- What l6Gen does, for one tree. -/
def GeP (t : Tr) : Prop := ∀ (A : Option Addr) (c : Nat) (seen : Bool) (first : Int) (w : World), Kd.C k63 w A (flatT t).length (flatT t) → (flatT t).length ≤ c → (flatT t).length ≤ 1000 → 0 ≤ first → first + (flatT t).length ≤ 100000 →
    Calls Try.prog 29 #[.slice A (flatT t).length c, .bool seen, .int .i64 first] w fun e w' => ∃ v, e = .returned v ∧ Kd.R k92 92 w' w.heap.size (fun _ => True) v (genT t seen first) ∧ Below w.heap.size w w'
set_option maxHeartbeats 4000000 in
set_option maxRecDepth 100000 in
theorem ge_leaf (n : S63) (g1 : n.f0 ≠ 14) (g2 : n.f0 ≠ 15) (g3 : n.f0 ≠ 16) (hw : wfT (.node n [])) : GeP (.node n []) := by
  intro A c seen first w hr hc hl2 hf0 hf1
  have kr : K0 (Below w.heap.size w w) := ⟨Below.refl _ _⟩
  have HK := Aside0.mk (kidsC n [] hw (by omega) A c w hr hc)
  have HT := Aside0.mk (And.intro hr (And.intro hc hl2))
  have HA := Aside0.mk (And.intro hf0 hf1)
  obtain ⟨ad, e0, z0, z1, z2, z3, z4, z5, z6⟩ := at_T63 hr 0 (Int.le_refl _) (by simp [flatT, flatTs])
  subst e0
  rw [show rd_T63 (flatT (.node n [])) 0 = n from rfl] at z0 z1 z2 z3 z4 z5 z6
  simp only [Int.toNat_zero, Nat.zero_mul, show ad.add 0 = ad from by unfold Addr.add; simp] at z0 z1 z2 z3 z4 z5 z6
  have z0 := clk z0
  have z1 := clk z1
  have z2 := clk z2
  have z3 := clk z3
  have z4 := clk z4
  have z5 := clk z5
  have z6 := clk z6
  rw [show (flatT (.node n [])).length = 1 from rfl] at HK HT ⊢
  clear hr hc hl2 hf0 hf1
  go_enter Try.func29, Try.ntmps29
  go_wp2_with fail
  refine HK.out.mono ?_
  rintro ex w2 ⟨A2, c2, rfl, hks, hb⟩
  have k2 : K0 (Below w.heap.size w w2) := ⟨hb⟩
  have HB2 := Aside0.mk hb
  clear hb hks HK
  go_wp2_with fail
  refine (top_call (.node n []) (by simp [flatT, flatTs]) (some ad) c w2 (Kd.C_below HT.out.1 HB2.out) HT.out.2.1).mono ?_
  rintro ex W0 ⟨rfl, hb⟩
  rw [show Tr.top (.node n []) = n from rfl]
  have k0 : K0 (Below w2.heap.size w2 W0) := ⟨hb⟩
  clear hb
  have kw : K0 (Below w.heap.size w W0) := ⟨HB2.out.trans (k0.out.mono HB2.out.size)⟩
  have HW := Aside0.mk kw.out
  go_wp2
  go_ret
  refine ⟨_, rfl, Kd.R_lower (one_row W0 ⟨1, 0, 0, !seen, n⟩) HW.out.size, HW.out.trans (Below.alloc (Below.refl W0.heap.size W0) (Nat.le_refl _) _ |>.mono HW.out.size)⟩
set_option maxHeartbeats 4000000 in
set_option maxRecDepth 100000 in
theorem ge_chain (n : S63) (p q : Tr) (h14 : n.f0 = 14) (hw : wfT (.node n [p, q])) (wp : wfT p) (hp : GeP p) (hq : GeP q) : GeP (.node n [p, q]) := by
  intro A c seen first w hr hc hl2 hf0 hf1
  have kr : K0 (Below w.heap.size w w) := ⟨Below.refl _ _⟩
  have HK := Aside0.mk (kidsC n [p, q] hw (by omega) A c w hr hc)
  have HT := Aside0.mk (And.intro hr (And.intro hc hl2))
  have HA := Aside0.mk (And.intro hf0 hf1)
  simp only [flatT, flatTs, List.length_append, List.length_cons, List.length_nil] at hl2 hf1
  have HL := Aside0.mk (And.intro hl2 hf1)
  have HI := Aside0.mk (And.intro (ifsT_le p) (ifsT_le q))
  have HC0 := Aside0.mk hp
  have HC1 := Aside0.mk hq
  have hwf : IntKind.i64.wrap (first + ifsT p) = first + ifsT p := by have := HI.out; rw [IntKind.wrap_i64]; omega
  clear hp hq
  clear hr hc hl2 hf0 hf1
  go_enter Try.func29, Try.ntmps29
  go_wp2_with fail
  refine HK.out.mono ?_
  rintro ex w2 ⟨A2, c2, rfl, hks, hb⟩
  have k2 : K0 (Below w.heap.size w w2) := ⟨hb⟩
  have HB2 := Aside0.mk hb
  obtain ⟨g, B0, q0, rfl, y0, l0, C0⟩ := hks 0 p rfl
  have y0 := clk y0
  obtain ⟨g', B1, q1, he, y1, l1, C1⟩ := hks 1 q rfl
  cases he
  have y1 := clk y1
  have HKd := Aside0.mk (And.intro (And.intro l0 C0) (And.intro l1 C1))
  clear l0 C0 l1 C1
  clear hb hks HK
  go_wp2_with fail
  refine (top_call (.node n [p, q]) (by have := HT.out; omega) A c w2 (Kd.C_below HT.out.1 HB2.out) HT.out.2.1).mono ?_
  rintro ex W0 ⟨rfl, hb⟩
  rw [show Tr.top (.node n [p, q]) = n from rfl, h14]
  have k0 : K0 (Below w2.heap.size w2 W0) := ⟨hb⟩
  clear hb
  go_wp2_with fail
  refine (HC0.out B0 q0 seen (first) W0 (Kd.C_below HKd.out.1.2 k0.out) HKd.out.1.1 (by have := HL.out; omega) (by have := HA.out; have := HI.out; omega) (by have := HL.out; have := HA.out; have := HI.out; omega)).mono ?_
  obtain ⟨xs, hxs⟩ : ∃ zz, genT p seen first = zz := ⟨_, rfl⟩
  rw [hxs]
  rintro ex V0 ⟨vxs, rfl, hR, hb⟩
  obtain ⟨Axs, cxs, rfl, hle, hC⟩ := Kd.R_reads hR
  have Hxs := Aside0.mk (And.intro hC (And.intro hle (And.intro (show xs.length ≤ 3 * (flatT p).length from by rw [← hxs]; exact genT_le _ _ _) hxs)))
  have Hbxs := Aside0.mk (Below.refl V0.heap.size V0)
  clear hR hle hC hxs
  have hst := hb
  have kk1 : K0 (Below w2.heap.size w2 V0) := ⟨k0.out.trans (hst.mono k0.out.size)⟩
  clear hst
  clear hb
  cases seen
  · go_upto_region 5 with (fail)
    have kd : K0 (Below w2.heap.size w2 V0.drew) := ⟨below_drew1 kk1.out⟩
    refine sq_region (S := fun W' => K0 (Below w2.heap.size w2 W')) [(0, false), (1, false), (2, false), (3, false), (4, false), (5, false), (6, false), (7, false), (10, false), (11, false), (12, false), (13, false), (8, true), (9, false), (14, true), (15, false), (16, true), (17, false)] (by kernel_rfl) (by kernel_rfl) kd (fun hS => ?_)
    repeat (first | (refine sq_n ?_ ?_ rfl ?_ ?_ ?_; rotate_left 2; (intro W hW; go_simp; first | done | with_reducible rfl); (simp only [List.setIfInBounds_toArray, List.set_cons_zero, List.set_cons_succ]; try rfl)) | (refine sq_g ?_ ?_ rfl rfl rfl ?_ ?_ ?_; rotate_left 2; (intro W hW; go_simp; first | done | with_reducible rfl); (simp only [List.setIfInBounds_toArray, List.set_cons_zero, List.set_cons_succ]; try rfl)) | (refine sq_f ?_ rfl rfl rfl ?_ ?_; rotate_left; (simp only [List.setIfInBounds_toArray, List.set_cons_zero, List.set_cons_succ]; try rfl)) | (refine sq_u ?_ rfl rfl rfl ?_ ?_; rotate_left; (simp only [List.setIfInBounds_toArray, List.set_cons_zero, List.set_cons_succ]; try rfl)))
    refine sq_1g rfl rfl rfl (fun hS KA hKA => ?_)
    go_simp
    go_at_call 59
    refine (passes_call p wp (by have := HL.out; omega) B0 q0 V0.drew (Kd.C_below HKd.out.1.2 kd.out) HKd.out.1.1).mono ?_
    rintro ex U0 ⟨rfl, hb⟩
    have hst := (below_drew1 (Below.refl V0.heap.size V0)).trans hb
    have kk2 : K0 (Below w2.heap.size w2 U0) := ⟨kk1.out.trans (hst.mono kk1.out.size)⟩
    have xsm2 := Aside0.mk (Hbxs.out.trans (hst.mono Hbxs.out.size))
    clear hst
    clear hb
    refine hKA.out _ _ kk2 (fun hS => ?_)
    repeat (first | (refine sq_n ?_ ?_ rfl ?_ ?_ ?_; rotate_left 2; (intro W hW; go_simp; first | done | with_reducible rfl); (simp only [List.setIfInBounds_toArray, List.set_cons_zero, List.set_cons_succ]; try rfl)) | (refine sq_g ?_ ?_ rfl rfl rfl ?_ ?_ ?_; rotate_left 2; (intro W hW; go_simp; first | done | with_reducible rfl); (simp only [List.setIfInBounds_toArray, List.set_cons_zero, List.set_cons_succ]; try rfl)) | (refine sq_f ?_ rfl rfl rfl ?_ ?_; rotate_left; (simp only [List.setIfInBounds_toArray, List.set_cons_zero, List.set_cons_succ]; try rfl)) | (refine sq_u ?_ rfl rfl rfl ?_ ?_; rotate_left; (simp only [List.setIfInBounds_toArray, List.set_cons_zero, List.set_cons_succ]; try rfl)))
    refine sq_1n rfl (fun hS KB hKB => ?_)
    go_simp
    go_at_call 60
    refine (ifs_call p (by have := HL.out; omega) B0 q0 U0 (Kd.C_below HKd.out.1.2 kk2.out) HKd.out.1.1).mono ?_
    rintro ex U1 ⟨rfl, hb⟩
    have hst := hb
    have kk3 : K0 (Below w2.heap.size w2 U1) := ⟨kk2.out.trans (hst.mono kk2.out.size)⟩
    have xsm3 := Aside0.mk (xsm2.out.trans (hst.mono xsm2.out.size))
    clear hst
    clear hb
    refine hKB.out _ _ kk3 (fun hS => ?_)
    repeat (first | (refine sq_n ?_ ?_ rfl ?_ ?_ ?_; rotate_left 2; (intro W hW; go_simp; first | done | with_reducible rfl); (simp only [List.setIfInBounds_toArray, List.set_cons_zero, List.set_cons_succ]; try rfl)) | (refine sq_g ?_ ?_ rfl rfl rfl ?_ ?_ ?_; rotate_left 2; (intro W hW; go_simp; first | done | with_reducible rfl); (simp only [List.setIfInBounds_toArray, List.set_cons_zero, List.set_cons_succ]; try rfl)) | (refine sq_f ?_ rfl rfl rfl ?_ ?_; rotate_left; (simp only [List.setIfInBounds_toArray, List.set_cons_zero, List.set_cons_succ]; try rfl)) | (refine sq_u ?_ rfl rfl rfl ?_ ?_; rotate_left; (simp only [List.setIfInBounds_toArray, List.set_cons_zero, List.set_cons_succ]; try rfl)))
    refine sq_1n rfl (fun hS KC hKC => ?_)
    go_simp
    go_at_call 29
    refine (HC1.out B1 q1 (false || passT p) (first + ifsT p) U1 (Kd.C_below HKd.out.2.2 kk3.out) HKd.out.2.1 (by have := HL.out; omega) (by have := HA.out; have := HI.out; omega) (by have := HL.out; have := HA.out; have := HI.out; omega)).mono ?_
    obtain ⟨ys, hys⟩ : ∃ zz, genT q (false || passT p) (first + ifsT p) = zz := ⟨_, rfl⟩
    rw [hys]
    rintro ex V1 ⟨vys, rfl, hR, hb⟩
    obtain ⟨Ays, cys, rfl, hle, hC⟩ := Kd.R_reads hR
    have Hys := Aside0.mk (And.intro hC (And.intro hle (And.intro (show ys.length ≤ 3 * (flatT q).length from by rw [← hys]; exact genT_le _ _ _) hys)))
    have Hbys := Aside0.mk (Below.refl V1.heap.size V1)
    clear hR hle hC hys
    have hst := hb
    have kk4 : K0 (Below w2.heap.size w2 V1) := ⟨kk3.out.trans (hst.mono kk3.out.size)⟩
    have xsm4 := Aside0.mk (xsm3.out.trans (hst.mono xsm3.out.size))
    clear hst
    clear hb
    refine hKC.out _ _ kk4 (fun hS => ?_)
    repeat (first | (refine sq_n ?_ ?_ rfl ?_ ?_ ?_; rotate_left 2; (intro W hW; go_simp; first | done | with_reducible rfl); (simp only [List.setIfInBounds_toArray, List.set_cons_zero, List.set_cons_succ]; try rfl)) | (refine sq_g ?_ ?_ rfl rfl rfl ?_ ?_ ?_; rotate_left 2; (intro W hW; go_simp; first | done | with_reducible rfl); (simp only [List.setIfInBounds_toArray, List.set_cons_zero, List.set_cons_succ]; try rfl)) | (refine sq_f ?_ rfl rfl rfl ?_ ?_; rotate_left; (simp only [List.setIfInBounds_toArray, List.set_cons_zero, List.set_cons_succ]; try rfl)) | (refine sq_u ?_ rfl rfl rfl ?_ ?_; rotate_left; (simp only [List.setIfInBounds_toArray, List.set_cons_zero, List.set_cons_succ]; try rfl)))
    refine sq_done (fun hS => ?_)
    go_wp2_with fail
    have hrows := many_rows (W := V1) [(Axs, cxs, xs), (Ays, cys, ys)] 35 (by simp) (by
      intro r hr
      simp only [List.mem_cons, List.not_mem_nil, or_false] at hr
      rcases hr with rfl | rfl
      · exact ⟨Kd.C_below Hxs.out.1 xsm4.out, Hxs.out.2.1⟩
      · exact ⟨Kd.C_below Hys.out.1 Hbys.out, Hys.out.2.1⟩
      )
    refine (cat_call [xs, ys] (by simp) (by simp only [List.flatten_cons, List.flatten_nil, List.length_append, List.length_cons, List.length_nil]; have := Hxs.out.2.2.1; have := Hys.out.2.2.1; have := HL.out; omega) (some ⟨V1.heap.size, 0, none⟩) 2 _ hrows (Nat.le_refl _)).mono ?_
    rintro ex Wz ⟨vz, rfl, hR, hb⟩
    have hR2 := Kd.R_lower hR (Nat.le_trans (k2.out.size) (Nat.le_trans kk4.out.size (show V1.heap.size ≤ (V1.alloc _).heap.size from by rw [sz_al]; omega)))
    have hb2 : Below w.heap.size w Wz := HB2.out.trans ((kk4.out.trans ((Below.alloc (Below.refl V1.heap.size V1) (Nat.le_refl _) _).mono kk4.out.size)).mono HB2.out.size |>.trans (hb.mono (Nat.le_trans k2.out.size (Nat.le_trans kk4.out.size (by rw [sz_al]; omega)))))
    have HZ := Aside0.mk (And.intro hR2 hb2)
    clear hR hb hR2 hb2 hrows
    go_wp2
    go_ret
    refine ⟨vz, rfl, ?_, HZ.out.2⟩
    have h := HZ.out.1
    simp only [List.flatten_cons, List.flatten_nil, List.append_nil] at h
    rw [← Hxs.out.2.2.2, ← Hys.out.2.2.2] at h
    simp only [genT, genTs, genN, if_pos h14]
    exact h
  · go_upto_region 5 with (fail)
    have kd : K0 (Below w2.heap.size w2 V0.drew) := ⟨below_drew1 kk1.out⟩
    refine sq_region (S := fun W' => K0 (Below w2.heap.size w2 W')) [(0, false), (1, false), (2, false), (3, false), (4, false), (5, false), (6, false), (7, false), (10, false), (11, false), (12, false), (13, false), (8, true), (9, false), (14, true), (15, false), (16, true), (17, false)] (by kernel_rfl) (by kernel_rfl) kd (fun hS => ?_)
    repeat (first | (refine sq_n ?_ ?_ rfl ?_ ?_ ?_; rotate_left 2; (intro W hW; go_simp; first | done | with_reducible rfl); (simp only [List.setIfInBounds_toArray, List.set_cons_zero, List.set_cons_succ]; try rfl)) | (refine sq_g ?_ ?_ rfl rfl rfl ?_ ?_ ?_; rotate_left 2; (intro W hW; go_simp; first | done | with_reducible rfl); (simp only [List.setIfInBounds_toArray, List.set_cons_zero, List.set_cons_succ]; try rfl)) | (refine sq_f ?_ rfl rfl rfl ?_ ?_; rotate_left; (simp only [List.setIfInBounds_toArray, List.set_cons_zero, List.set_cons_succ]; try rfl)) | (refine sq_u ?_ rfl rfl rfl ?_ ?_; rotate_left; (simp only [List.setIfInBounds_toArray, List.set_cons_zero, List.set_cons_succ]; try rfl)))
    refine sq_1n rfl (fun hS KB hKB => ?_)
    go_simp
    go_at_call 60
    refine (ifs_call p (by have := HL.out; omega) B0 q0 V0.drew (Kd.C_below HKd.out.1.2 kd.out) HKd.out.1.1).mono ?_
    rintro ex U1 ⟨rfl, hb⟩
    have hst := (below_drew1 (Below.refl V0.heap.size V0)).trans hb
    have kk2 : K0 (Below w2.heap.size w2 U1) := ⟨kk1.out.trans (hst.mono kk1.out.size)⟩
    have xsm2 := Aside0.mk (Hbxs.out.trans (hst.mono Hbxs.out.size))
    clear hst
    clear hb
    refine hKB.out _ _ kk2 (fun hS => ?_)
    repeat (first | (refine sq_n ?_ ?_ rfl ?_ ?_ ?_; rotate_left 2; (intro W hW; go_simp; first | done | with_reducible rfl); (simp only [List.setIfInBounds_toArray, List.set_cons_zero, List.set_cons_succ]; try rfl)) | (refine sq_g ?_ ?_ rfl rfl rfl ?_ ?_ ?_; rotate_left 2; (intro W hW; go_simp; first | done | with_reducible rfl); (simp only [List.setIfInBounds_toArray, List.set_cons_zero, List.set_cons_succ]; try rfl)) | (refine sq_f ?_ rfl rfl rfl ?_ ?_; rotate_left; (simp only [List.setIfInBounds_toArray, List.set_cons_zero, List.set_cons_succ]; try rfl)) | (refine sq_u ?_ rfl rfl rfl ?_ ?_; rotate_left; (simp only [List.setIfInBounds_toArray, List.set_cons_zero, List.set_cons_succ]; try rfl)))
    refine sq_1n rfl (fun hS KC hKC => ?_)
    go_simp
    go_at_call 29
    refine (HC1.out B1 q1 (true || passT p) (first + ifsT p) U1 (Kd.C_below HKd.out.2.2 kk2.out) HKd.out.2.1 (by have := HL.out; omega) (by have := HA.out; have := HI.out; omega) (by have := HL.out; have := HA.out; have := HI.out; omega)).mono ?_
    obtain ⟨ys, hys⟩ : ∃ zz, genT q (true || passT p) (first + ifsT p) = zz := ⟨_, rfl⟩
    rw [hys]
    rintro ex V1 ⟨vys, rfl, hR, hb⟩
    obtain ⟨Ays, cys, rfl, hle, hC⟩ := Kd.R_reads hR
    have Hys := Aside0.mk (And.intro hC (And.intro hle (And.intro (show ys.length ≤ 3 * (flatT q).length from by rw [← hys]; exact genT_le _ _ _) hys)))
    have Hbys := Aside0.mk (Below.refl V1.heap.size V1)
    clear hR hle hC hys
    have hst := hb
    have kk3 : K0 (Below w2.heap.size w2 V1) := ⟨kk2.out.trans (hst.mono kk2.out.size)⟩
    have xsm3 := Aside0.mk (xsm2.out.trans (hst.mono xsm2.out.size))
    clear hst
    clear hb
    refine hKC.out _ _ kk3 (fun hS => ?_)
    repeat (first | (refine sq_n ?_ ?_ rfl ?_ ?_ ?_; rotate_left 2; (intro W hW; go_simp; first | done | with_reducible rfl); (simp only [List.setIfInBounds_toArray, List.set_cons_zero, List.set_cons_succ]; try rfl)) | (refine sq_g ?_ ?_ rfl rfl rfl ?_ ?_ ?_; rotate_left 2; (intro W hW; go_simp; first | done | with_reducible rfl); (simp only [List.setIfInBounds_toArray, List.set_cons_zero, List.set_cons_succ]; try rfl)) | (refine sq_f ?_ rfl rfl rfl ?_ ?_; rotate_left; (simp only [List.setIfInBounds_toArray, List.set_cons_zero, List.set_cons_succ]; try rfl)) | (refine sq_u ?_ rfl rfl rfl ?_ ?_; rotate_left; (simp only [List.setIfInBounds_toArray, List.set_cons_zero, List.set_cons_succ]; try rfl)))
    refine sq_done (fun hS => ?_)
    go_wp2_with fail
    have hrows := many_rows (W := V1) [(Axs, cxs, xs), (Ays, cys, ys)] 35 (by simp) (by
      intro r hr
      simp only [List.mem_cons, List.not_mem_nil, or_false] at hr
      rcases hr with rfl | rfl
      · exact ⟨Kd.C_below Hxs.out.1 xsm3.out, Hxs.out.2.1⟩
      · exact ⟨Kd.C_below Hys.out.1 Hbys.out, Hys.out.2.1⟩
      )
    refine (cat_call [xs, ys] (by simp) (by simp only [List.flatten_cons, List.flatten_nil, List.length_append, List.length_cons, List.length_nil]; have := Hxs.out.2.2.1; have := Hys.out.2.2.1; have := HL.out; omega) (some ⟨V1.heap.size, 0, none⟩) 2 _ hrows (Nat.le_refl _)).mono ?_
    rintro ex Wz ⟨vz, rfl, hR, hb⟩
    have hR2 := Kd.R_lower hR (Nat.le_trans (k2.out.size) (Nat.le_trans kk3.out.size (show V1.heap.size ≤ (V1.alloc _).heap.size from by rw [sz_al]; omega)))
    have hb2 : Below w.heap.size w Wz := HB2.out.trans ((kk3.out.trans ((Below.alloc (Below.refl V1.heap.size V1) (Nat.le_refl _) _).mono kk3.out.size)).mono HB2.out.size |>.trans (hb.mono (Nat.le_trans k2.out.size (Nat.le_trans kk3.out.size (by rw [sz_al]; omega)))))
    have HZ := Aside0.mk (And.intro hR2 hb2)
    clear hR hb hR2 hb2 hrows
    go_wp2
    go_ret
    refine ⟨vz, rfl, ?_, HZ.out.2⟩
    have h := HZ.out.1
    simp only [List.flatten_cons, List.flatten_nil, List.append_nil] at h
    rw [← Hxs.out.2.2.2, ← Hys.out.2.2.2] at h
    simp only [genT, genTs, genN, if_pos h14]
    exact h
set_option maxHeartbeats 4000000 in
set_option maxRecDepth 100000 in
theorem ge_inter (n : S63) (p q : Tr) (h15 : n.f0 = 15) (hw : wfT (.node n [p, q])) (hp : GeP p) (hq : GeP q) : GeP (.node n [p, q]) := by
  intro A c seen first w hr hc hl2 hf0 hf1
  have kr : K0 (Below w.heap.size w w) := ⟨Below.refl _ _⟩
  have HK := Aside0.mk (kidsC n [p, q] hw (by omega) A c w hr hc)
  have HT := Aside0.mk (And.intro hr (And.intro hc hl2))
  have HA := Aside0.mk (And.intro hf0 hf1)
  simp only [flatT, flatTs, List.length_append, List.length_cons, List.length_nil] at hl2 hf1
  have HL := Aside0.mk (And.intro hl2 hf1)
  have HI := Aside0.mk (And.intro (ifsT_le p) (ifsT_le q))
  have HC0 := Aside0.mk hp
  have HC1 := Aside0.mk hq
  have hwf : IntKind.i64.wrap (first + ifsT p) = first + ifsT p := by have := HI.out; rw [IntKind.wrap_i64]; omega
  clear hp hq
  clear hr hc hl2 hf0 hf1
  go_enter Try.func29, Try.ntmps29
  go_wp2_with fail
  refine HK.out.mono ?_
  rintro ex w2 ⟨A2, c2, rfl, hks, hb⟩
  have k2 : K0 (Below w.heap.size w w2) := ⟨hb⟩
  have HB2 := Aside0.mk hb
  obtain ⟨g, B0, q0, rfl, y0, l0, C0⟩ := hks 0 p rfl
  have y0 := clk y0
  obtain ⟨g', B1, q1, he, y1, l1, C1⟩ := hks 1 q rfl
  cases he
  have y1 := clk y1
  have HKd := Aside0.mk (And.intro (And.intro l0 C0) (And.intro l1 C1))
  clear l0 C0 l1 C1
  clear hb hks HK
  go_wp2_with fail
  refine (top_call (.node n [p, q]) (by have := HT.out; omega) A c w2 (Kd.C_below HT.out.1 HB2.out) HT.out.2.1).mono ?_
  rintro ex W0 ⟨rfl, hb⟩
  rw [show Tr.top (.node n [p, q]) = n from rfl, h15]
  have k0 : K0 (Below w2.heap.size w2 W0) := ⟨hb⟩
  clear hb
  go_wp2_with fail
  refine (HC0.out B0 q0 seen (first) W0 (Kd.C_below HKd.out.1.2 k0.out) HKd.out.1.1 (by have := HL.out; omega) (by have := HA.out; have := HI.out; omega) (by have := HL.out; have := HA.out; have := HI.out; omega)).mono ?_
  obtain ⟨xs, hxs⟩ : ∃ zz, genT p seen first = zz := ⟨_, rfl⟩
  rw [hxs]
  rintro ex V0 ⟨vxs, rfl, hR, hb⟩
  obtain ⟨Axs, cxs, rfl, hle, hC⟩ := Kd.R_reads hR
  have Hxs := Aside0.mk (And.intro hC (And.intro hle (And.intro (show xs.length ≤ 3 * (flatT p).length from by rw [← hxs]; exact genT_le _ _ _) hxs)))
  have Hbxs := Aside0.mk (Below.refl V0.heap.size V0)
  clear hR hle hC hxs
  have hst := hb
  have kk1 : K0 (Below w2.heap.size w2 V0) := ⟨k0.out.trans (hst.mono k0.out.size)⟩
  clear hst
  clear hb
  go_upto_region 9 with (fail)
  have kd : K0 (Below w2.heap.size w2 V0.drew) := ⟨below_drew1 kk1.out⟩
  refine sq_region (S := fun W' => K0 (Below w2.heap.size w2 W')) [(0, false), (1, false), (2, false), (3, false), (4, false), (5, false), (6, false), (7, false), (8, true), (9, false), (10, true), (11, false)] (by kernel_rfl) (by kernel_rfl) kd (fun hS => ?_)
  repeat (refine sq_n ?_ ?_ rfl ?_ ?_ ?_; rotate_left 2; (intro W hW; go_simp; first | done | with_reducible rfl); (simp only [List.setIfInBounds_toArray, List.set_cons_zero, List.set_cons_succ]; try rfl))
  refine sq_1n rfl (fun hS KB hKB => ?_)
  go_simp
  go_at_call 60
  refine (ifs_call p (by have := HL.out; omega) B0 q0 V0.drew (Kd.C_below HKd.out.1.2 kd.out) HKd.out.1.1).mono ?_
  rintro ex U1 ⟨rfl, hb⟩
  have hst := (below_drew1 (Below.refl V0.heap.size V0)).trans hb
  have kk2 : K0 (Below w2.heap.size w2 U1) := ⟨kk1.out.trans (hst.mono kk1.out.size)⟩
  have xsm2 := Aside0.mk (Hbxs.out.trans (hst.mono Hbxs.out.size))
  clear hst
  clear hb
  refine hKB.out _ _ kk2 (fun hS => ?_)
  repeat (refine sq_n ?_ ?_ rfl ?_ ?_ ?_; rotate_left 2; (intro W hW; go_simp; first | done | with_reducible rfl); (simp only [List.setIfInBounds_toArray, List.set_cons_zero, List.set_cons_succ]; try rfl))
  refine sq_1n rfl (fun hS KC hKC => ?_)
  go_simp
  go_at_call 29
  refine (HC1.out B1 q1 seen (first + ifsT p) U1 (Kd.C_below HKd.out.2.2 kk2.out) HKd.out.2.1 (by have := HL.out; omega) (by have := HA.out; have := HI.out; omega) (by have := HL.out; have := HA.out; have := HI.out; omega)).mono ?_
  obtain ⟨ys, hys⟩ : ∃ zz, genT q seen (first + ifsT p) = zz := ⟨_, rfl⟩
  rw [hys]
  rintro ex V1 ⟨vys, rfl, hR, hb⟩
  obtain ⟨Ays, cys, rfl, hle, hC⟩ := Kd.R_reads hR
  have Hys := Aside0.mk (And.intro hC (And.intro hle (And.intro (show ys.length ≤ 3 * (flatT q).length from by rw [← hys]; exact genT_le _ _ _) hys)))
  have Hbys := Aside0.mk (Below.refl V1.heap.size V1)
  clear hR hle hC hys
  have hst := hb
  have kk3 : K0 (Below w2.heap.size w2 V1) := ⟨kk2.out.trans (hst.mono kk2.out.size)⟩
  have xsm3 := Aside0.mk (xsm2.out.trans (hst.mono xsm2.out.size))
  clear hst
  clear hb
  refine hKC.out _ _ kk3 (fun hS => ?_)
  repeat (refine sq_n ?_ ?_ rfl ?_ ?_ ?_; rotate_left 2; (intro W hW; go_simp; first | done | with_reducible rfl); (simp only [List.setIfInBounds_toArray, List.set_cons_zero, List.set_cons_succ]; try rfl))
  refine sq_done (fun hS => ?_)
  go_wp2_with fail
  refine (one_call 2 V1).mono ?_
  rintro ex O0 ⟨Ao0, co0, rfl, hle, hC, hb⟩
  have Ho0 := Aside0.mk (And.intro hC hle)
  have Hbo0 := Aside0.mk (Below.refl O0.heap.size O0)
  have hst := hb
  have kk4 : K0 (Below w2.heap.size w2 O0) := ⟨kk3.out.trans (hst.mono kk3.out.size)⟩
  have xsm4 := Aside0.mk (xsm3.out.trans (hst.mono xsm3.out.size))
  have ysm4 := Aside0.mk (Hbys.out.trans (hst.mono Hbys.out.size))
  clear hst
  clear hb hle hC
  go_wp2_with fail
  refine (one_call 3 O0).mono ?_
  rintro ex O1 ⟨Ao1, co1, rfl, hle, hC, hb⟩
  have Ho1 := Aside0.mk (And.intro hC hle)
  have Hbo1 := Aside0.mk (Below.refl O1.heap.size O1)
  have hst := hb
  have kk5 : K0 (Below w2.heap.size w2 O1) := ⟨kk4.out.trans (hst.mono kk4.out.size)⟩
  have xsm5 := Aside0.mk (xsm4.out.trans (hst.mono xsm4.out.size))
  have ysm5 := Aside0.mk (ysm4.out.trans (hst.mono ysm4.out.size))
  have o0m5 := Aside0.mk (Hbo0.out.trans (hst.mono Hbo0.out.size))
  clear hst
  clear hb hle hC
  go_wp2_with fail
  refine (one_call 4 O1).mono ?_
  rintro ex O2 ⟨Ao2, co2, rfl, hle, hC, hb⟩
  have Ho2 := Aside0.mk (And.intro hC hle)
  have Hbo2 := Aside0.mk (Below.refl O2.heap.size O2)
  have hst := hb
  have kk6 : K0 (Below w2.heap.size w2 O2) := ⟨kk5.out.trans (hst.mono kk5.out.size)⟩
  have xsm6 := Aside0.mk (xsm5.out.trans (hst.mono xsm5.out.size))
  have ysm6 := Aside0.mk (ysm5.out.trans (hst.mono ysm5.out.size))
  have o0m6 := Aside0.mk (o0m5.out.trans (hst.mono o0m5.out.size))
  have o1m6 := Aside0.mk (Hbo1.out.trans (hst.mono Hbo1.out.size))
  clear hst
  clear hb hle hC
  go_wp2_with fail
  have hrows := many_rows (W := O2) [(Ao0, co0, [⟨2, 0, 0, false, zN⟩]), (Axs, cxs, xs), (Ao1, co1, [⟨3, 0, 0, false, zN⟩]), (Ays, cys, ys), (Ao2, co2, [⟨4, 0, 0, false, zN⟩])] 35 (by simp) (by
    intro r hr
    simp only [List.mem_cons, List.not_mem_nil, or_false] at hr
    rcases hr with rfl | rfl | rfl | rfl | rfl
    · exact ⟨Kd.C_below Ho0.out.1 o0m6.out, Ho0.out.2⟩
    · exact ⟨Kd.C_below Hxs.out.1 xsm6.out, Hxs.out.2.1⟩
    · exact ⟨Kd.C_below Ho1.out.1 o1m6.out, Ho1.out.2⟩
    · exact ⟨Kd.C_below Hys.out.1 ysm6.out, Hys.out.2.1⟩
    · exact ⟨Kd.C_below Ho2.out.1 Hbo2.out, Ho2.out.2⟩
    )
  refine (cat_call [[⟨2, 0, 0, false, zN⟩], xs, [⟨3, 0, 0, false, zN⟩], ys, [⟨4, 0, 0, false, zN⟩]] (by simp) (by simp only [List.flatten_cons, List.flatten_nil, List.length_append, List.length_cons, List.length_nil]; have := Hxs.out.2.2.1; have := Hys.out.2.2.1; have := HL.out; omega) (some ⟨O2.heap.size, 0, none⟩) 5 _ hrows (Nat.le_refl _)).mono ?_
  rintro ex Wz ⟨vz, rfl, hR, hb⟩
  have hR2 := Kd.R_lower hR (Nat.le_trans (k2.out.size) (Nat.le_trans kk6.out.size (show O2.heap.size ≤ (O2.alloc _).heap.size from by rw [sz_al]; omega)))
  have hb2 : Below w.heap.size w Wz := HB2.out.trans ((kk6.out.trans ((Below.alloc (Below.refl O2.heap.size O2) (Nat.le_refl _) _).mono kk6.out.size)).mono HB2.out.size |>.trans (hb.mono (Nat.le_trans k2.out.size (Nat.le_trans kk6.out.size (by rw [sz_al]; omega)))))
  have HZ := Aside0.mk (And.intro hR2 hb2)
  clear hR hb hR2 hb2 hrows
  go_wp2
  go_ret
  refine ⟨vz, rfl, ?_, HZ.out.2⟩
  have h := HZ.out.1
  rw [← Hxs.out.2.2.2, ← Hys.out.2.2.2] at h
  simp only [List.flatten_cons, List.flatten_nil, List.append_nil] at h
  simp only [genT, genTs, genN, if_neg (show ¬ n.f0 = 14 by omega), List.append_assoc]
  exact h
set_option maxHeartbeats 4000000 in
set_option maxRecDepth 100000 in
theorem ge_if (n : S63) (z p q : Tr) (h16 : n.f0 = 16) (hw : wfT (.node n [z, p, q])) (hp : GeP p) (hq : GeP q) : GeP (.node n [z, p, q]) := by
  intro A c seen first w hr hc hl2 hf0 hf1
  have kr : K0 (Below w.heap.size w w) := ⟨Below.refl _ _⟩
  have HK := Aside0.mk (kidsC n [z, p, q] hw (by omega) A c w hr hc)
  have HT := Aside0.mk (And.intro hr (And.intro hc hl2))
  have HA := Aside0.mk (And.intro hf0 hf1)
  simp only [flatT, flatTs, List.length_append, List.length_cons, List.length_nil] at hl2 hf1
  have HL := Aside0.mk (And.intro hl2 hf1)
  have HI := Aside0.mk (And.intro (ifsT_le z) (And.intro (ifsT_le p) (ifsT_le q)))
  have HC1 := Aside0.mk hp
  have HC2 := Aside0.mk hq
  have hwf0 : IntKind.i64.wrap (first + ifsT z) = first + ifsT z := by have := HI.out; rw [IntKind.wrap_i64]; omega
  have hwf1 : IntKind.i64.wrap (first + ifsT z + 1) = first + ifsT z + 1 := by have := HI.out; rw [IntKind.wrap_i64]; omega
  have hwf2 : IntKind.i64.wrap (first + ifsT z + 1 + ifsT p) = first + ifsT z + 1 + ifsT p := by have := HI.out; rw [IntKind.wrap_i64]; omega
  clear hp hq
  clear hr hc hl2 hf0 hf1
  go_enter Try.func29, Try.ntmps29
  go_wp2_with fail
  refine HK.out.mono ?_
  rintro ex w2 ⟨A2, c2, rfl, hks, hb⟩
  have k2 : K0 (Below w.heap.size w w2) := ⟨hb⟩
  have HB2 := Aside0.mk hb
  obtain ⟨g, B0, q0, rfl, y0, l0, C0⟩ := hks 0 z rfl
  have y0 := clk y0
  obtain ⟨g', B1, q1, he, y1, l1, C1⟩ := hks 1 p rfl
  cases he
  have y1 := clk y1
  obtain ⟨g', B2, q2, he, y2, l2, C2⟩ := hks 2 q rfl
  cases he
  have y2 := clk y2
  have HKd := Aside0.mk (And.intro (And.intro l0 C0) (And.intro (And.intro l1 C1) (And.intro l2 C2)))
  clear l0 C0 l1 C1 l2 C2
  clear hb hks HK
  go_wp2_with fail
  refine (top_call (.node n [z, p, q]) (by have := HT.out; omega) A c w2 (Kd.C_below HT.out.1 HB2.out) HT.out.2.1).mono ?_
  rintro ex W0 ⟨rfl, hb⟩
  rw [show Tr.top (.node n [z, p, q]) = n from rfl, h16]
  have k0 : K0 (Below w2.heap.size w2 W0) := ⟨hb⟩
  clear hb
  go_wp2_with fail
  refine (ifs_call z (by have := HL.out; omega) B0 q0 W0 (Kd.C_below HKd.out.1.2 k0.out) HKd.out.1.1).mono ?_
  rintro ex Ua ⟨rfl, hb⟩
  have hst := hb
  have kk1 : K0 (Below w2.heap.size w2 Ua) := ⟨k0.out.trans (hst.mono k0.out.size)⟩
  clear hst
  clear hb
  go_wp2_with fail
  refine (HC1.out B1 q1 seen (first + ifsT z + 1) Ua (Kd.C_below HKd.out.2.1.2 kk1.out) HKd.out.2.1.1 (by have := HL.out; omega) (by have := HA.out; have := HI.out; omega) (by have := HL.out; have := HA.out; have := HI.out; omega)).mono ?_
  obtain ⟨xs, hxs⟩ : ∃ zz, genT p seen (first + ifsT z + 1) = zz := ⟨_, rfl⟩
  rw [hxs]
  rintro ex V0 ⟨vxs, rfl, hR, hb⟩
  obtain ⟨Axs, cxs, rfl, hle, hC⟩ := Kd.R_reads hR
  have Hxs := Aside0.mk (And.intro hC (And.intro hle (And.intro (show xs.length ≤ 3 * (flatT p).length from by rw [← hxs]; exact genT_le _ _ _) hxs)))
  have Hbxs := Aside0.mk (Below.refl V0.heap.size V0)
  clear hR hle hC hxs
  have hst := hb
  have kk2 : K0 (Below w2.heap.size w2 V0) := ⟨kk1.out.trans (hst.mono kk1.out.size)⟩
  clear hst
  clear hb
  go_upto_region 14 with (fail)
  have kd : K0 (Below w2.heap.size w2 V0.drew) := ⟨below_drew1 kk2.out⟩
  refine sq_region (S := fun W' => K0 (Below w2.heap.size w2 W')) [(0, false), (1, false), (2, false), (3, false), (4, false), (5, false), (6, false), (7, false), (8, false), (9, true), (10, false), (11, true), (12, false)] (by kernel_rfl) (by kernel_rfl) kd (fun hS => ?_)
  repeat (refine sq_n ?_ ?_ rfl ?_ ?_ ?_; rotate_left 2; (intro W hW; go_simp; first | done | with_reducible rfl); (simp only [List.setIfInBounds_toArray, List.set_cons_zero, List.set_cons_succ]; try rfl))
  refine sq_1n rfl (fun hS KB hKB => ?_)
  go_simp
  go_at_call 60
  refine (ifs_call p (by have := HL.out; omega) B1 q1 V0.drew (Kd.C_below HKd.out.2.1.2 kd.out) HKd.out.2.1.1).mono ?_
  rintro ex U1 ⟨rfl, hb⟩
  have hst := (below_drew1 (Below.refl V0.heap.size V0)).trans hb
  have kk3 : K0 (Below w2.heap.size w2 U1) := ⟨kk2.out.trans (hst.mono kk2.out.size)⟩
  have xsm3 := Aside0.mk (Hbxs.out.trans (hst.mono Hbxs.out.size))
  clear hst
  clear hb
  refine hKB.out _ _ kk3 (fun hS => ?_)
  repeat (refine sq_n ?_ ?_ rfl ?_ ?_ ?_; rotate_left 2; (intro W hW; go_simp; first | done | with_reducible rfl); (simp only [List.setIfInBounds_toArray, List.set_cons_zero, List.set_cons_succ]; try rfl))
  refine sq_1n rfl (fun hS KC hKC => ?_)
  go_simp
  go_at_call 29
  refine (HC2.out B2 q2 seen (first + ifsT z + 1 + ifsT p) U1 (Kd.C_below HKd.out.2.2.2 kk3.out) HKd.out.2.2.1 (by have := HL.out; omega) (by have := HA.out; have := HI.out; omega) (by have := HL.out; have := HA.out; have := HI.out; omega)).mono ?_
  obtain ⟨ys, hys⟩ : ∃ zz, genT q seen (first + ifsT z + 1 + ifsT p) = zz := ⟨_, rfl⟩
  rw [hys]
  rintro ex V1 ⟨vys, rfl, hR, hb⟩
  obtain ⟨Ays, cys, rfl, hle, hC⟩ := Kd.R_reads hR
  have Hys := Aside0.mk (And.intro hC (And.intro hle (And.intro (show ys.length ≤ 3 * (flatT q).length from by rw [← hys]; exact genT_le _ _ _) hys)))
  have Hbys := Aside0.mk (Below.refl V1.heap.size V1)
  clear hR hle hC hys
  have hst := hb
  have kk4 : K0 (Below w2.heap.size w2 V1) := ⟨kk3.out.trans (hst.mono kk3.out.size)⟩
  have xsm4 := Aside0.mk (xsm3.out.trans (hst.mono xsm3.out.size))
  clear hst
  clear hb
  refine hKC.out _ _ kk4 (fun hS => ?_)
  repeat (refine sq_n ?_ ?_ rfl ?_ ?_ ?_; rotate_left 2; (intro W hW; go_simp; first | done | with_reducible rfl); (simp only [List.setIfInBounds_toArray, List.set_cons_zero, List.set_cons_succ]; try rfl))
  refine sq_done (fun hS => ?_)
  have hwx : IntKind.i64.wrap ((xs.length : Int) + 2) = (xs.length : Int) + 2 := by have := Hxs.out.2.2.1; have := HL.out; rw [IntKind.wrap_i64]; omega
  have hwy : IntKind.i64.wrap ((ys.length : Int) + 1) = (ys.length : Int) + 1 := by have := Hys.out.2.2.1; have := HL.out; rw [IntKind.wrap_i64]; omega
  obtain ⟨Q1, hQ1⟩ : ∃ Q, Q = V1.alloc (.cells (insD ⟨5, first + ifsT z, (xs.length : Int) + 2, false, zN⟩).toArray 92) := ⟨_, rfl⟩
  obtain ⟨Q2, hQ2⟩ : ∃ Q, Q = Q1.alloc (.cells (insD ⟨6, 0, (ys.length : Int) + 1, false, zN⟩).toArray 92) := ⟨_, rfl⟩
  have r1 := one_row V1 ⟨5, first + ifsT z, (xs.length : Int) + 2, false, zN⟩
  have r2 := one_row Q1 ⟨6, 0, (ys.length : Int) + 1, false, zN⟩
  rw [← hQ1] at r1
  rw [← hQ2] at r2
  have hq1 : Below V1.heap.size V1 Q1 := hQ1 ▸ Below.alloc (Below.refl _ _) (Nat.le_refl _) _
  have hq2 : Below Q1.heap.size Q1 Q2 := hQ2 ▸ Below.alloc (Below.refl _ _) (Nat.le_refl _) _
  have hq3 : Q1.heap.size = V1.heap.size + 1 := hQ1 ▸ sz_al V1 _
  have hq4 : Q2.heap.size = V1.heap.size + 1 + 1 := by rw [hQ2, sz_al, hq3]
  have H5 := Aside0.mk (Kd.C_below (Kd.R_reads' r1).2.2 hq2)
  have h6 := (Kd.R_reads' r2).2.2
  rw [hq3] at h6
  have H6 := Aside0.mk h6
  clear r1 r2 h6
  have hst := hq1.trans (hq2.mono (by omega))
  have kk5 : K0 (Below w2.heap.size w2 Q2) := ⟨kk4.out.trans (hst.mono kk4.out.size)⟩
  have xsm5 := Aside0.mk (xsm4.out.trans (hst.mono xsm4.out.size))
  have ysm5 := Aside0.mk (Hbys.out.trans (hst.mono Hbys.out.size))
  clear hst
  have HQs := Aside0.mk (And.intro hq3 (And.intro hq4 (And.intro hQ1 hQ2)))
  clear hq1 hq2 hq3 hq4 hQ1 hQ2
  go_wp2_with fail
  unfold insD at HQs
  rw [show ((V1.alloc (.cells #[.int .i64 5, .int .i64 (first + ifsT z), .int .i64 ((xs.length : Int) + 2), .bool false, .int .i64 0, .string ⟨#[]⟩, .bool false, .string ⟨#[]⟩, .int .u64 0, .int .u64 0, .int .i64 0] 92)).alloc (.cells #[.int .i64 6, .int .i64 0, .int .i64 ((ys.length : Int) + 1), .bool false, .int .i64 0, .string ⟨#[]⟩, .bool false, .string ⟨#[]⟩, .int .u64 0, .int .u64 0, .int .i64 0] 92)) = Q2 from by rw [HQs.out.2.2.2, HQs.out.2.2.1]; rfl]
  have hrows := many_rows (W := Q2) [((some ⟨V1.heap.size, 0, none⟩), 1, [(⟨5, first + ifsT z, (xs.length : Int) + 2, false, zN⟩ : S92)]), (Axs, cxs, xs), ((some ⟨V1.heap.size + 1, 0, none⟩), 1, [(⟨6, 0, (ys.length : Int) + 1, false, zN⟩ : S92)]), (Ays, cys, ys)] 35 (by simp) (by
    intro r hr
    simp only [List.mem_cons, List.not_mem_nil, or_false] at hr
    rcases hr with rfl | rfl | rfl | rfl
    · exact ⟨H5.out, Nat.le_refl _⟩
    · exact ⟨Kd.C_below Hxs.out.1 xsm5.out, Hxs.out.2.1⟩
    · exact ⟨H6.out, Nat.le_refl _⟩
    · exact ⟨Kd.C_below Hys.out.1 ysm5.out, Hys.out.2.1⟩
    )
  rw [HQs.out.2.1] at hrows
  refine (cat_call [[(⟨5, first + ifsT z, (xs.length : Int) + 2, false, zN⟩ : S92)], xs, [(⟨6, 0, (ys.length : Int) + 1, false, zN⟩ : S92)], ys] (by simp) (by simp only [List.flatten_cons, List.flatten_nil, List.length_append, List.length_cons, List.length_nil]; have := Hxs.out.2.2.1; have := Hys.out.2.2.1; have := HL.out; omega) (some ⟨V1.heap.size + 1 + 1, 0, none⟩) 4 _ hrows (Nat.le_refl _)).mono ?_
  rintro ex Wz ⟨vz, rfl, hR, hb⟩
  have hR2 := Kd.R_lower hR (Nat.le_trans (k2.out.size) (Nat.le_trans kk5.out.size (show Q2.heap.size ≤ (Q2.alloc _).heap.size from by rw [sz_al]; omega)))
  have hb2 : Below w.heap.size w Wz := HB2.out.trans ((kk5.out.trans ((Below.alloc (Below.refl Q2.heap.size Q2) (Nat.le_refl _) _).mono kk5.out.size)).mono HB2.out.size |>.trans (hb.mono (Nat.le_trans k2.out.size (Nat.le_trans kk5.out.size (by rw [sz_al]; omega)))))
  have HZ := Aside0.mk (And.intro hR2 hb2)
  clear hR hb hR2 hb2 hrows
  go_wp2
  go_ret
  refine ⟨vz, rfl, ?_, HZ.out.2⟩
  have h := HZ.out.1
  rw [← Hxs.out.2.2.2, ← Hys.out.2.2.2] at h
  simp only [List.flatten_cons, List.flatten_nil, List.append_nil] at h
  simp only [genT, genTs, genN, List.append_assoc]
  exact h
end Go.Proofs.Ytpfehkkfakofaaa.Q

namespace Go.Proofs.Ytpfehkkfakofaaa.Q
open Go.RowKit Go.Proofs.YtpfehkkfakofaaaW.PrintWords Go.Proofs.YtpfehkkfakofaaaW.PrintLast Go.Proofs.YtpfehkkfakofaaaW.PrintMore
set_option linter.unusedVariables false
set_option linter.unusedSimpArgs false

/-! ### spec_l6IsJump: function 61 -/
def spec_l6IsJump.f (a0 : Int) : Option (Bool) := if a0 = 5 then (some true) else (some (a0 == 6))
set_option maxHeartbeats 8000000 in
set_option maxRecDepth 100000 in
theorem spec_l6IsJump.calls (a0 : Int) (r : Bool) (w : World) (h : spec_l6IsJump.f a0 = some r) :
  Calls Try.prog 61 #[.int .i64 a0] w fun e w' => e = .returned (.bool r) ∧ Drawn0 w w' := by
 have H : (if a0 = 5 then (some true) else (some (a0 == 6))) = some r := h
 clear h
 by_cases c2 : a0 = 5
 ·rw [if_pos c2] at H
  have c2b0 : (a0 == 5) = true := beq_iff_eq.mpr c2
  have c2b1 : (a0 != 5) = false := bne_eq_false_iff_eq.mpr c2
  clear c2
  obtain rfl := Option.some.inj H
  go_enter Try.func61, Try.ntmps61
  go_wp2
  go_ret
  exact ⟨by first | rfl | (simp; done) | (simp [*]; done), by repeat (first | exact Drawn0.refl _ | apply Drawn0.step)⟩
 ·rw [if_neg c2] at H
  have c2b0 : (a0 == 5) = false := beq_eq_false_iff_ne.mpr c2
  have c2b1 : (a0 != 5) = true := bne_iff_ne.mpr c2
  obtain rfl := Option.some.inj H
  go_enter Try.func61, Try.ntmps61
  go_wp2
  go_ret
  exact ⟨by first | rfl | (simp; done) | (simp [*]; done), by repeat (first | exact Drawn0.refl _ | apply Drawn0.step)⟩

end Go.Proofs.Ytpfehkkfakofaaa.Q

namespace Go.Proofs.Ytpfehkkfakofaaa.Q
open Go.RowKit Go.Proofs.YtpfehkkfakofaaaW.PrintWords Go.Proofs.YtpfehkkfakofaaaW.PrintLast Go.Proofs.YtpfehkkfakofaaaW.PrintMore
set_option linter.unusedVariables false
set_option linter.unusedSimpArgs false
/-- The block under way at o: what it holds, its counters. -/
def BlW (w : World) (B o o2 : Nat) (b : List S92 × Int) (rv : Value) : Prop :=
  w.heap[o]? = some (.cells #[rv, .int .i64 b.2] 37 (0, 0)) ∧ w.heap[o2]? = some (.cells #[.slice none 0 0, .int .i64 0] 37 (0, 0)) ∧ Kd.R k92 92 w B (fun k => k ≠ o ∧ k ≠ o2) rv b.1
theorem take_put (b : List S92 × Int) (xs : List S92) (j : Nat) (x : S92) (h : xs[j]? = some x) : putIs b (xs.take (j + 1)) = putI (putIs b (xs.take j)) x := by
  rw [List.take_add_one, h, Option.toList_some, putIs_app]
  rfl
theorem counts_f (n : S63) : spec_l6Counts.f n.f0 n.f1 n.f2 n.f3 n.f4 n.f5 n.f6 = some (cntN n) := by
  unfold spec_l6Counts.f cntN
  split
  · simp [*]
  · split
    · simp [*]
    · rename_i h1 h2; simp [h1, h2]; rfl
set_option maxHeartbeats 8000000 in
set_option maxRecDepth 100000 in
theorem block_call (xs : List S92) (A : Option Addr) (cap : Nat) (w : World) (hr : Kd.C k92 w A xs.length xs) (hc : xs.length ≤ cap) (hl : xs.length ≤ 100000) (hb : ∀ x ∈ xs, x.f0 = 5 ∨ x.f0 = 6 → 0 ≤ x.f2 ∧ x.f2 ≤ 1000000) :
    Calls Try.prog 28 #[.slice A xs.length cap] w fun ex w' => ∃ rv, ex = .returned (.agg #[rv, .int .i64 (putIs ([], 0) xs).2]) ∧ Kd.R k92 92 w' w.heap.size (fun _ => True) rv (putIs ([], 0) xs).1 ∧ Below w.heap.size w w' := by
  have kr : K0 (Below w.heap.size w w) := ⟨Below.refl _ _⟩
  have HR := Aside0.mk hr
  have HC := Aside0.mk (And.intro hc (And.intro hl hb))
  clear hr hc hl hb
  have h0 : BlW ((w.alloc (.cells #[.slice none 0 0, .int .i64 0] 37)).alloc (.cells #[.slice none 0 0, .int .i64 0] 37)) w.heap.size (w.heap.size + 1) w.heap.size ([], 0) (.slice none 0 0) :=
    ⟨by have := heap_alloc_new (w.alloc (.cells #[.slice none 0 0, .int .i64 0] 37)) (.cells #[.slice none 0 0, .int .i64 0] 37); rwa [sz_al] at this, blk_alloc (heap_alloc_new w _) _, Kd.R_nil ..⟩
  have H0 := Aside0.mk h0
  have hB : Below w.heap.size w ((w.alloc (.cells #[.slice none 0 0, .int .i64 0] 37)).alloc (.cells #[.slice none 0 0, .int .i64 0] 37)) := kk
  clear h0
  go_enter Try.func28, Try.ntmps28
  go_wp2_with fail
  have hsz : w.heap.size + 1 = (w.alloc (.cells #[.slice none 0 0, .int .i64 0] 37)).heap.size := (sz_al _ _).symm
  try rw [← hsz]
  obtain ⟨o, ho⟩ : ∃ o, o = w.heap.size + 1 := ⟨_, rfl⟩
  rw [← ho] at H0 ⊢
  have HO := Aside0.mk ho
  clear ho hsz
  have HB := Aside0.mk hB
  clear hB
  go_loopw [4] (fun v4 W => ∃ (j : Nat) (rv : Value), j ≤ xs.length ∧ v4 = .int .i64 j ∧ Aside0 (BlW W w.heap.size o w.heap.size (putIs ([], 0) (xs.take j)) rv) ∧ Aside0 (Below w.heap.size w W)) (fun v4 _ => xs.length - (intOf v4).toNat)
  case atStart => exact ⟨0, .slice none 0 0, by omega, rfl, H0, HB⟩
  case round =>
    clear H0 HB
    obtain ⟨j, rv, hj, rfl, HW, HB⟩ := hrel
    obtain ⟨⟨l, c⟩, hlc⟩ : ∃ b, putIs ([], 0) (xs.take j) = b := ⟨_, rfl⟩
    rw [hlc] at HW
    have hw1 : IntKind.i64.wrap ((j : Int) + 1) = ((j + 1 : Nat) : Int) := by have := HC.out; rw [IntKind.wrap_i64]; omega
    have kW : K0 (Below w.heap.size w wr) := ⟨HB.out⟩
    by_cases hlt : j < xs.length
    · have dl : decide ((j : Int) < (xs.length : Int)) = true := decide_eq_true (by omega)
      obtain ⟨ad, e0, hx⟩ := at_T92 HR.out (j : Int) (by omega) (by omega)
      subst e0
      rw [Int.toNat_natCast] at hx
      obtain ⟨x, hX⟩ : ∃ x, rd_T92 xs (j : Int) = x := ⟨_, rfl⟩
      have hxj : xs[j]? = some x := by rw [← hX]; unfold rd_T92; rw [Int.toNat_natCast]; simp [hlt]
      have hbx := HC.out.2.2 x (List.mem_of_getElem? hxj)
      have hstep := take_put ([], 0) xs j x hxj
      rw [hlc] at hstep
      have hll : l.length = j := by
        have := putIs_len (xs.take j) ([], 0)
        rw [hlc] at this
        simp only [List.length_nil, List.length_take, Nat.zero_add] at this
        omega
      have hcn : 0 ≤ c ∧ c ≤ j := by
        have := putIs_cnt (xs.take j) ([], 0)
        rw [hlc] at this
        simp only [List.length_take] at this
        omega
      rw [hX] at hx
      obtain ⟨y0, y1, y2, y3, y4, y5, y6, y7, y8, y9, y10⟩ := hx
      have y0 := clk y0
      have y1 := clk y1
      have y2 := clk y2
      have y3 := clk y3
      have y4 := clk y4
      have y5 := clk y5
      have y6 := clk y6
      have y7 := clk y7
      have y8 := clk y8
      have y9 := clk y9
      have y10 := clk y10
      obtain ⟨A3, c3, rfl⟩ := Kd.R_slice HW.out.2.2
      have hh := heap_alloc_new wr (.cells #[.int .i64 x.f0, .int .i64 x.f1, .int .i64 x.f2, .bool x.f3, .int .i64 x.f4.f0, .string x.f4.f1, .bool x.f4.f2, .string x.f4.f3, .int .u64 x.f4.f4, .int .u64 x.f4.f5, .int .i64 x.f4.f6] 92)
      have hoo := blk_alloc HW.out.1 (.cells #[.int .i64 x.f0, .int .i64 x.f1, .int .i64 x.f2, .bool x.f3, .int .i64 x.f4.f0, .string x.f4.f1, .bool x.f4.f2, .string x.f4.f3, .int .u64 x.f4.f4, .int .u64 x.f4.f5, .int .i64 x.f4.f6] 92)
      have ho2 := blk_alloc HW.out.2.1 (.cells #[.int .i64 x.f0, .int .i64 x.f1, .int .i64 x.f2, .bool x.f3, .int .i64 x.f4.f0, .string x.f4.f1, .bool x.f4.f2, .string x.f4.f3, .int .u64 x.f4.f4, .int .u64 x.f4.f5, .int .i64 x.f4.f6] 92)
      have hR := Kd.R_alloc (Kd.R_mono (ok' := fun k => (k ≠ o ∧ k ≠ w.heap.size) ∧ k ≠ wr.heap.size) (Kd.R_bound HW.out.2.2) (fun k hk => ⟨hk.1, by have := hk.2.2.1; omega⟩)) (.cells #[.int .i64 x.f0, .int .i64 x.f1, .int .i64 x.f2, .bool x.f3, .int .i64 x.f4.f0, .string x.f4.f1, .bool x.f4.f2, .string x.f4.f3, .int .u64 x.f4.f4, .int .u64 x.f4.f5, .int .i64 x.f4.f6] 92)
      have hgo : wr.heap.size ≠ o := by have := lt_of_some HW.out.1; omega
      have hgo2 : wr.heap.size ≠ w.heap.size := by have := lt_of_some HW.out.2.1; omega
      have hwt : Below w.heap.size w (wr.alloc (.cells #[.int .i64 x.f0, .int .i64 x.f1, .int .i64 x.f2, .bool x.f3, .int .i64 x.f4.f0, .string x.f4.f1, .bool x.f4.f2, .string x.f4.f3, .int .u64 x.f4.f4, .int .u64 x.f4.f5, .int .i64 x.f4.f6] 92)) := kk
      obtain ⟨wt, hwt0⟩ : ∃ wt, wt = wr.alloc (.cells #[.int .i64 x.f0, .int .i64 x.f1, .int .i64 x.f2, .bool x.f3, .int .i64 x.f4.f0, .string x.f4.f1, .bool x.f4.f2, .string x.f4.f3, .int .u64 x.f4.f4, .int .u64 x.f4.f5, .int .i64 x.f4.f6] 92) := ⟨_, rfl⟩
      rw [← hwt0] at hh hoo ho2 hR hwt
      have hsz : wt.heap.size = wr.heap.size + 1 := by rw [hwt0]; exact sz_al _ _
      have HN := Aside0.mk (And.intro hgo (And.intro hgo2 (And.intro hll (And.intro hcn hbx))))
      have HST := Aside0.mk hstep
      have HLC := Aside0.mk hlc
      have HT := Aside0.mk (And.intro hh (And.intro hoo (And.intro ho2 (And.intro hR (And.intro hwt hsz)))))
      clear hh hoo ho2 hR hwt hsz hgo hgo2 hll hcn hbx hstep hlc hX hxj
      go_wp2_with fail
      rw [← hwt0]
      clear hwt0 y0 y1 y2 y3 y4 y5 y6 y7 y8 y9 y10
      have hfj : spec_l6IsJump.f x.f0 = some (decide (x.f0 = 5 ∨ x.f0 = 6)) := by
        unfold spec_l6IsJump.f
        by_cases h5 : x.f0 = 5
        · simp [h5]
        · rw [if_neg h5]; simp [h5]; rfl
      refine (spec_l6IsJump.calls x.f0 _ wt hfj).mono ?_
      rintro ex W2 ⟨rfl, hb⟩
      have hb := hb.below
      obtain ⟨gx, hgx⟩ : ∃ g, g = wr.heap.size := ⟨_, rfl⟩
      rw [← hgx] at HN HT ⊢
      have HX := Aside0.mk hgx
      clear hgx hfj
      have hlt3 := HT.out.2.2.2.2.2
      have hx2 := (hb.block gx (by omega)).trans HT.out.1
      have ho3 := (hb.block o (lt_of_some HT.out.2.1)).trans HT.out.2.1
      have h23 := (hb.block w.heap.size (lt_of_some HT.out.2.2.1)).trans HT.out.2.2.1
      have hR3 := Kd.R_below HT.out.2.2.2.1 hb
      have hB3 := HT.out.2.2.2.2.1.trans (hb.mono HT.out.2.2.2.2.1.size)
      have HS3 := Aside0.mk (show wr.heap.size < W2.heap.size from by have := hb.size; have := HX.out; omega)
      clear hb HT hlt3
      have hcase : (x.f0 = 5 ∨ x.f0 = 6) ∨ (¬ (x.f0 = 5 ∨ x.f0 = 6) ∧ x.f0 = 1 ∧ cntN x.f4 = true) ∨ (¬ (x.f0 = 5 ∨ x.f0 = 6) ∧ ¬ (x.f0 = 1 ∧ cntN x.f4 = true)) := by
        by_cases h1 : x.f0 = 5 ∨ x.f0 = 6
        · exact .inl h1
        · by_cases h2 : x.f0 = 1 ∧ cntN x.f4 = true
          · exact .inr (.inl ⟨h1, h2⟩)
          · exact .inr (.inr ⟨h1, h2⟩)
      rcases hcase with hj56 | ⟨hj56, h1, h2⟩ | ⟨hj56, h12⟩
      · have dj : decide (x.f0 = 5 ∨ x.f0 = 6) = true := decide_eq_true hj56
        have n1 : decide (x.f0 = 1) = false := decide_eq_false (by omega)
        have n1' : (x.f0 == 1) = false := by simpa using n1
        have hy : putI (l, c) x = (l ++ [⟨x.f0, x.f1, x.f2 + j, x.f3, x.f4⟩], c) := by
          unfold putI
          rw [if_neg (fun h => by have := h.1; omega), if_pos hj56, HN.out.2.2.1]
        have hbx := HN.out.2.2.2.2 hj56
        have hwj : IntKind.i64.wrap (x.f2 + (j : Int)) = x.f2 + j := by have := HC.out.2.1; rw [IntKind.wrap_i64]; omega
        have z0 : W2.cell? ⟨gx, 0, none⟩ = some (.int .i64 x.f0) := (blk_cell hx2 0).trans rfl
        have z2 : W2.cell? ⟨gx, 2, none⟩ = some (.int .i64 x.f2) := (blk_cell hx2 2).trans rfl
        have f2 := blk_frozen hx2 2
        have hx3 := blk_put hx2 2 (.int .i64 (x.f2 + j)) (cs' := #[.int .i64 x.f0, .int .i64 x.f1, .int .i64 (x.f2 + j), .bool x.f3, .int .i64 x.f4.f0, .string x.f4.f1, .bool x.f4.f2, .string x.f4.f3, .int .u64 x.f4.f4, .int .u64 x.f4.f5, .int .i64 x.f4.f6]) rfl
        have ho4 := blk_far (p := ⟨gx, 2, none⟩) ho3 (fun e => HN.out.1 e.symm) (.int .i64 (x.f2 + j))
        have h24 := blk_far (p := ⟨gx, 2, none⟩) h23 (fun e => HN.out.2.1 e.symm) (.int .i64 (x.f2 + j))
        have hR4 := Kd.R_far (p := ⟨gx, 2, none⟩) hR3 (fun k hk => hk.2) (.int .i64 (x.f2 + j))
        have hB4 := hB3.setCell (p := ⟨gx, 2, none⟩) (by have := HB.out.size; have := HX.out; show w.heap.size ≤ gx; omega) (.int .i64 (x.f2 + j))
        have hs4 : wr.heap.size < (W2.setCell ⟨gx, 2, none⟩ (.int .i64 (x.f2 + j))).heap.size := Nat.lt_of_lt_of_le HS3.out ((Below.refl 0 W2).setCell (Nat.zero_le _) _).size
        have z0' : (W2.setCell ⟨gx, 2, none⟩ (.int .i64 (x.f2 + j))).cell? ⟨gx, 0, none⟩ = some (.int .i64 x.f0) := (blk_cell hx3 0).trans rfl
        have HF := Aside0.mk (And.intro hx3 (And.intro ho4 (And.intro h24 (And.intro hR4 (And.intro hB4 hs4)))))
        clear hx2 ho3 h23 hR3 hB3 hx3 ho4 h24 hR4 hB4 hs4
        go_upto_region 11 with (fail)
        clear z0 z2 f2 z0'
        generalize W2.setCell ⟨gx, 2, none⟩ (.int .i64 (x.f2 + j)) = Wf at *
        obtain ⟨y, hyd⟩ : ∃ y : S92, y = ⟨x.f0, x.f1, x.f2 + j, x.f3, x.f4⟩ := ⟨_, rfl⟩
        obtain ⟨cf, hcf⟩ : ∃ z : Int, z = c := ⟨_, rfl⟩
        have hxf : Wf.heap[gx]? = some (.cells #[.int .i64 y.f0, .int .i64 y.f1, .int .i64 y.f2, .bool y.f3, .int .i64 y.f4.f0, .string y.f4.f1, .bool y.f4.f2, .string y.f4.f3, .int .u64 y.f4.f4, .int .u64 y.f4.f5, .int .i64 y.f4.f6] 92 (0, 0)) := by rw [hyd]; exact HF.out.1
        have hof : Wf.heap[o]? = some (.cells #[.slice A3 l.length c3, .int .i64 cf] 37 (0, 0)) := by rw [hcf]; exact HF.out.2.1
        have hy : putI (l, c) x = (l ++ [y], cf) := by rw [hyd, hcf]; exact hy
        have u0 : Wf.cell? ⟨gx, 0, none⟩ = some (.int .i64 y.f0) := (blk_cell hxf 0).trans rfl
        have u1 : Wf.cell? ⟨gx, 1, none⟩ = some (.int .i64 y.f1) := (blk_cell hxf 1).trans rfl
        have u2 : Wf.cell? ⟨gx, 2, none⟩ = some (.int .i64 y.f2) := (blk_cell hxf 2).trans rfl
        have u3 : Wf.cell? ⟨gx, 3, none⟩ = some (.bool y.f3) := (blk_cell hxf 3).trans rfl
        have u4 : Wf.cell? ⟨gx, 4, none⟩ = some (.int .i64 y.f4.f0) := (blk_cell hxf 4).trans rfl
        have u5 : Wf.cell? ⟨gx, 5, none⟩ = some (.string y.f4.f1) := (blk_cell hxf 5).trans rfl
        have u6 : Wf.cell? ⟨gx, 6, none⟩ = some (.bool y.f4.f2) := (blk_cell hxf 6).trans rfl
        have u7 : Wf.cell? ⟨gx, 7, none⟩ = some (.string y.f4.f3) := (blk_cell hxf 7).trans rfl
        have u8 : Wf.cell? ⟨gx, 8, none⟩ = some (.int .u64 y.f4.f4) := (blk_cell hxf 8).trans rfl
        have u9 : Wf.cell? ⟨gx, 9, none⟩ = some (.int .u64 y.f4.f5) := (blk_cell hxf 9).trans rfl
        have u10 : Wf.cell? ⟨gx, 10, none⟩ = some (.int .i64 y.f4.f6) := (blk_cell hxf 10).trans rfl
        have o0 : Wf.cell? ⟨o, 0, none⟩ = some (.slice A3 l.length c3) := (blk_cell hof 0).trans rfl
        have HOF := Aside0.mk (And.intro hof hy)
        have hne : ∀ k, Value.ownBlock (.slice A3 l.length c3) = some k → k ≠ o ∧ k ≠ w.heap.size := fun k hk => (HF.out.2.2.2.1.1 k hk).1
        have HNE := Aside0.mk hne
        clear hof hxf hyd hcf hne hy
        go_wp2_with (at_builtin; refine Kd.R_append k92 (w0 := w) w.heap.size rfl (.tmp 41) (.tmp 43) 35 92 (.agg #[(.int .i64 0), (.int .i64 0), (.int .i64 0), (.bool false), (.int .i64 0), (.string ⟨#[]⟩), (.bool false), (.string ⟨#[]⟩), (.int .u64 0), (.int .u64 0), (.int .i64 0)]) 104 rfl Try.underlying35 info92 rfl (by decide) (by omega) (.slice A3 l.length c3) l y [.int .i64 y.f0, .int .i64 y.f1, .int .i64 y.f2, .bool y.f3, .int .i64 y.f4.f0, .string y.f4.f1, .bool y.f4.f2, .string y.f4.f3, .int .u64 y.f4.f4, .int .u64 y.f4.f5, .int .i64 y.f4.f6] (fun k => (k ≠ o ∧ k ≠ w.heap.size) ∧ k ≠ gx) (fun _ => False) rfl rfl (k92_mkM _ _ _ y) (fun _ h => h.elim) (fun k hk => by have := lt_of_some HF.out.2.1; have := lt_of_some HF.out.2.2.1; have := lt_of_some HF.out.1; refine ⟨⟨?_, ?_⟩, ?_⟩ <;> omega) HF.out.2.2.2.1 HF.out.2.2.2.2.1 HF.out.2.2.2.2.1.size (by have := HC.out.2.1; have := HN.out.2.2.1; omega) ?_; intro v1 w1 ho hb hg hat; obtain ⟨A4, m4, c4, rfl⟩ : ∃ A m c, v1 = .slice A m c := (by obtain ⟨A, c, h⟩ := Kd.R_slice ho; exact ⟨_, _, _, h⟩); have ho7 : w1.heap[o]? = some (.cells #[.slice A3 l.length c3, .int .i64 cf] 37 (0, 0)) := (hg.block o (lt_of_some HOF.out.1) (fun e => (HNE.out o e.symm).1 rfl)).trans HOF.out.1; have h27 := (hg.block w.heap.size (lt_of_some HF.out.2.2.1) (fun e => (HNE.out w.heap.size e.symm).2 rfl)).trans HF.out.2.2.1; have HG := Aside0.mk (And.intro (Kd.R_mono ho (fun k hk => hk.1)) (And.intro hb (And.intro ho7 h27))); have q0 : w1.cell? ⟨o, 0, none⟩ = some (.slice A3 l.length c3) := (blk_cell ho7 0).trans rfl; have fq := blk_frozen ho7 0; clear ho hb hg hat ho7 h27)
        go_roundw
        case measure => simp only [intOf]; omega
        case rel =>
          refine ⟨j + 1, .slice A4 m4 c4, by omega, by rw [Int.natCast_add]; rfl, ⟨?_⟩, ⟨HG.out.2.1.setCell (p := ⟨o, 0, none⟩) (by have := HO.out; show w.heap.size ≤ o; omega) _⟩⟩
          rw [HST.out, HOF.out.2]
          exact ⟨blk_put HG.out.2.2.1 0 _ rfl, blk_far (p := ⟨o, 0, none⟩) HG.out.2.2.2 (fun e => by have := HO.out; simp only at e; omega) _, Kd.R_far (p := ⟨o, 0, none⟩) HG.out.1 (fun k hk => hk.1) _⟩
      · have dj : decide (x.f0 = 5 ∨ x.f0 = 6) = false := decide_eq_false hj56
        have n1 : decide (x.f0 = 1) = true := decide_eq_true h1
        have n1' : (x.f0 == 1) = true := by simpa using n1
        have hy : putI (l, c) x = (l ++ [⟨x.f0, c, x.f2, x.f3, x.f4⟩], c + 1) := by
          unfold putI
          rw [if_pos ⟨h1, h2⟩]
        have hwc : IntKind.i64.wrap (c + 1) = c + 1 := by have := HC.out.2.1; have := HN.out.2.2.2.1; rw [IntKind.wrap_i64]; omega
        have z0 : W2.cell? ⟨gx, 0, none⟩ = some (.int .i64 x.f0) := (blk_cell hx2 0).trans rfl
        have z1 : W2.cell? ⟨gx, 1, none⟩ = some (.int .i64 x.f1) := (blk_cell hx2 1).trans rfl
        have z2 : W2.cell? ⟨gx, 2, none⟩ = some (.int .i64 x.f2) := (blk_cell hx2 2).trans rfl
        have z3 : W2.cell? ⟨gx, 3, none⟩ = some (.bool x.f3) := (blk_cell hx2 3).trans rfl
        have z4 : W2.cell? ⟨gx, 4, none⟩ = some (.int .i64 x.f4.f0) := (blk_cell hx2 4).trans rfl
        have z5 : W2.cell? ⟨gx, 5, none⟩ = some (.string x.f4.f1) := (blk_cell hx2 5).trans rfl
        have z6 : W2.cell? ⟨gx, 6, none⟩ = some (.bool x.f4.f2) := (blk_cell hx2 6).trans rfl
        have z7 : W2.cell? ⟨gx, 7, none⟩ = some (.string x.f4.f3) := (blk_cell hx2 7).trans rfl
        have z8 : W2.cell? ⟨gx, 8, none⟩ = some (.int .u64 x.f4.f4) := (blk_cell hx2 8).trans rfl
        have z9 : W2.cell? ⟨gx, 9, none⟩ = some (.int .u64 x.f4.f5) := (blk_cell hx2 9).trans rfl
        have z10 : W2.cell? ⟨gx, 10, none⟩ = some (.int .i64 x.f4.f6) := (blk_cell hx2 10).trans rfl
        go_wp2_with fail
        refine (spec_l6Counts.calls x.f4.f0 x.f4.f1 x.f4.f2 x.f4.f3 x.f4.f4 x.f4.f5 x.f4.f6 _ W2 (counts_f x.f4)).mono ?_
        rintro ex W3 ⟨rfl, hb⟩
        rw [h2]
        have hx3 := (hb.block gx (lt_of_some hx2)).trans hx2
        have ho4 := (hb.block o (lt_of_some ho3)).trans ho3
        have h24 := (hb.block w.heap.size (lt_of_some h23)).trans h23
        have hR4 := Kd.R_below hR3 hb
        have hB4 := hB3.trans (hb.mono hB3.size)
        have hs4 : wr.heap.size < W3.heap.size := Nat.lt_of_lt_of_le HS3.out hb.size
        clear z0 z1 z2 z3 z4 z5 z6 z7 z8 z9 z10
        have o1 : W3.cell? ⟨o, 1, none⟩ = some (.int .i64 c) := (blk_cell ho4 1).trans rfl
        have g1 : W3.cell? ⟨gx, 1, none⟩ = some (.int .i64 x.f1) := (blk_cell hx3 1).trans rfl
        have fg := blk_frozen hx3 1
        have hx5 := blk_put hx3 1 (.int .i64 c) (cs' := #[.int .i64 x.f0, .int .i64 c, .int .i64 x.f2, .bool x.f3, .int .i64 x.f4.f0, .string x.f4.f1, .bool x.f4.f2, .string x.f4.f3, .int .u64 x.f4.f4, .int .u64 x.f4.f5, .int .i64 x.f4.f6]) rfl
        have ho5 := blk_far (p := ⟨gx, 1, none⟩) ho4 (fun e => HN.out.1 e.symm) (.int .i64 c)
        have h25 := blk_far (p := ⟨gx, 1, none⟩) h24 (fun e => HN.out.2.1 e.symm) (.int .i64 c)
        have hR5 := Kd.R_far (p := ⟨gx, 1, none⟩) hR4 (fun k hk => hk.2) (.int .i64 c)
        have hB5 := hB4.setCell (p := ⟨gx, 1, none⟩) (by have := HB.out.size; have := HX.out; show w.heap.size ≤ gx; omega) (.int .i64 c)
        have o2 : (W3.setCell ⟨gx, 1, none⟩ (.int .i64 c)).cell? ⟨o, 1, none⟩ = some (.int .i64 c) := (blk_cell ho5 1).trans rfl
        have fo := blk_frozen ho5 1
        have hx6 := blk_far (p := ⟨o, 1, none⟩) hx5 (fun e => HN.out.1 e) (.int .i64 (c + 1))
        have ho6 := blk_put ho5 1 (.int .i64 (c + 1)) (cs' := #[.slice A3 l.length c3, .int .i64 (c + 1)]) rfl
        have h26 := blk_far (p := ⟨o, 1, none⟩) h25 (fun e => by have := HO.out; simp only at e; omega) (.int .i64 (c + 1))
        have hR6 := Kd.R_far (p := ⟨o, 1, none⟩) hR5 (fun k hk => hk.1.1) (.int .i64 (c + 1))
        have hB6 := hB5.setCell (p := ⟨o, 1, none⟩) (by have := HO.out; show w.heap.size ≤ o; omega) (.int .i64 (c + 1))
        have hs6 : wr.heap.size < ((W3.setCell ⟨gx, 1, none⟩ (.int .i64 c)).setCell ⟨o, 1, none⟩ (.int .i64 (c + 1))).heap.size := Nat.lt_of_lt_of_le hs4 (((Below.refl 0 W3).setCell (Nat.zero_le _) _).setCell (Nat.zero_le _) _).size
        have HF := Aside0.mk (And.intro hx6 (And.intro ho6 (And.intro h26 (And.intro hR6 (And.intro hB6 hs6)))))
        clear hx2 ho3 h23 hR3 hB3 hx3 ho4 h24 hR4 hB4 hs4 hx5 ho5 h25 hR5 hB5 hx6 ho6 h26 hR6 hB6 hs6 hb
        go_upto_region 11 with (fail)
        clear o1 g1 fg o2 fo
        generalize (W3.setCell ⟨gx, 1, none⟩ (.int .i64 c)).setCell ⟨o, 1, none⟩ (.int .i64 (c + 1)) = Wf at *
        obtain ⟨y, hyd⟩ : ∃ y : S92, y = ⟨x.f0, c, x.f2, x.f3, x.f4⟩ := ⟨_, rfl⟩
        obtain ⟨cf, hcf⟩ : ∃ z : Int, z = c + 1 := ⟨_, rfl⟩
        have hxf : Wf.heap[gx]? = some (.cells #[.int .i64 y.f0, .int .i64 y.f1, .int .i64 y.f2, .bool y.f3, .int .i64 y.f4.f0, .string y.f4.f1, .bool y.f4.f2, .string y.f4.f3, .int .u64 y.f4.f4, .int .u64 y.f4.f5, .int .i64 y.f4.f6] 92 (0, 0)) := by rw [hyd]; exact HF.out.1
        have hof : Wf.heap[o]? = some (.cells #[.slice A3 l.length c3, .int .i64 cf] 37 (0, 0)) := by rw [hcf]; exact HF.out.2.1
        have hy : putI (l, c) x = (l ++ [y], cf) := by rw [hyd, hcf]; exact hy
        have u0 : Wf.cell? ⟨gx, 0, none⟩ = some (.int .i64 y.f0) := (blk_cell hxf 0).trans rfl
        have u1 : Wf.cell? ⟨gx, 1, none⟩ = some (.int .i64 y.f1) := (blk_cell hxf 1).trans rfl
        have u2 : Wf.cell? ⟨gx, 2, none⟩ = some (.int .i64 y.f2) := (blk_cell hxf 2).trans rfl
        have u3 : Wf.cell? ⟨gx, 3, none⟩ = some (.bool y.f3) := (blk_cell hxf 3).trans rfl
        have u4 : Wf.cell? ⟨gx, 4, none⟩ = some (.int .i64 y.f4.f0) := (blk_cell hxf 4).trans rfl
        have u5 : Wf.cell? ⟨gx, 5, none⟩ = some (.string y.f4.f1) := (blk_cell hxf 5).trans rfl
        have u6 : Wf.cell? ⟨gx, 6, none⟩ = some (.bool y.f4.f2) := (blk_cell hxf 6).trans rfl
        have u7 : Wf.cell? ⟨gx, 7, none⟩ = some (.string y.f4.f3) := (blk_cell hxf 7).trans rfl
        have u8 : Wf.cell? ⟨gx, 8, none⟩ = some (.int .u64 y.f4.f4) := (blk_cell hxf 8).trans rfl
        have u9 : Wf.cell? ⟨gx, 9, none⟩ = some (.int .u64 y.f4.f5) := (blk_cell hxf 9).trans rfl
        have u10 : Wf.cell? ⟨gx, 10, none⟩ = some (.int .i64 y.f4.f6) := (blk_cell hxf 10).trans rfl
        have o0 : Wf.cell? ⟨o, 0, none⟩ = some (.slice A3 l.length c3) := (blk_cell hof 0).trans rfl
        have HOF := Aside0.mk (And.intro hof hy)
        have hne : ∀ k, Value.ownBlock (.slice A3 l.length c3) = some k → k ≠ o ∧ k ≠ w.heap.size := fun k hk => (HF.out.2.2.2.1.1 k hk).1
        have HNE := Aside0.mk hne
        clear hof hxf hyd hcf hne hy
        go_wp2_with (at_builtin; refine Kd.R_append k92 (w0 := w) w.heap.size rfl (.tmp 41) (.tmp 43) 35 92 (.agg #[(.int .i64 0), (.int .i64 0), (.int .i64 0), (.bool false), (.int .i64 0), (.string ⟨#[]⟩), (.bool false), (.string ⟨#[]⟩), (.int .u64 0), (.int .u64 0), (.int .i64 0)]) 104 rfl Try.underlying35 info92 rfl (by decide) (by omega) (.slice A3 l.length c3) l y [.int .i64 y.f0, .int .i64 y.f1, .int .i64 y.f2, .bool y.f3, .int .i64 y.f4.f0, .string y.f4.f1, .bool y.f4.f2, .string y.f4.f3, .int .u64 y.f4.f4, .int .u64 y.f4.f5, .int .i64 y.f4.f6] (fun k => (k ≠ o ∧ k ≠ w.heap.size) ∧ k ≠ gx) (fun _ => False) rfl rfl (k92_mkM _ _ _ y) (fun _ h => h.elim) (fun k hk => by have := lt_of_some HF.out.2.1; have := lt_of_some HF.out.2.2.1; have := lt_of_some HF.out.1; refine ⟨⟨?_, ?_⟩, ?_⟩ <;> omega) HF.out.2.2.2.1 HF.out.2.2.2.2.1 HF.out.2.2.2.2.1.size (by have := HC.out.2.1; have := HN.out.2.2.1; omega) ?_; intro v1 w1 ho hb hg hat; obtain ⟨A4, m4, c4, rfl⟩ : ∃ A m c, v1 = .slice A m c := (by obtain ⟨A, c, h⟩ := Kd.R_slice ho; exact ⟨_, _, _, h⟩); have ho7 : w1.heap[o]? = some (.cells #[.slice A3 l.length c3, .int .i64 cf] 37 (0, 0)) := (hg.block o (lt_of_some HOF.out.1) (fun e => (HNE.out o e.symm).1 rfl)).trans HOF.out.1; have h27 := (hg.block w.heap.size (lt_of_some HF.out.2.2.1) (fun e => (HNE.out w.heap.size e.symm).2 rfl)).trans HF.out.2.2.1; have HG := Aside0.mk (And.intro (Kd.R_mono ho (fun k hk => hk.1)) (And.intro hb (And.intro ho7 h27))); have q0 : w1.cell? ⟨o, 0, none⟩ = some (.slice A3 l.length c3) := (blk_cell ho7 0).trans rfl; have fq := blk_frozen ho7 0; clear ho hb hg hat ho7 h27)
        go_roundw
        case measure => simp only [intOf]; omega
        case rel =>
          refine ⟨j + 1, .slice A4 m4 c4, by omega, by rw [Int.natCast_add]; rfl, ⟨?_⟩, ⟨HG.out.2.1.setCell (p := ⟨o, 0, none⟩) (by have := HO.out; show w.heap.size ≤ o; omega) _⟩⟩
          rw [HST.out, HOF.out.2]
          exact ⟨blk_put HG.out.2.2.1 0 _ rfl, blk_far (p := ⟨o, 0, none⟩) HG.out.2.2.2 (fun e => by have := HO.out; simp only at e; omega) _, Kd.R_far (p := ⟨o, 0, none⟩) HG.out.1 (fun k hk => hk.1) _⟩
      · have dj : decide (x.f0 = 5 ∨ x.f0 = 6) = false := decide_eq_false hj56
        have hy : putI (l, c) x = (l ++ [x], c) := by
          unfold putI
          rw [if_neg h12, if_neg hj56]
        have z0 : W2.cell? ⟨gx, 0, none⟩ = some (.int .i64 x.f0) := (blk_cell hx2 0).trans rfl
        have z1 : W2.cell? ⟨gx, 1, none⟩ = some (.int .i64 x.f1) := (blk_cell hx2 1).trans rfl
        have z2 : W2.cell? ⟨gx, 2, none⟩ = some (.int .i64 x.f2) := (blk_cell hx2 2).trans rfl
        have z3 : W2.cell? ⟨gx, 3, none⟩ = some (.bool x.f3) := (blk_cell hx2 3).trans rfl
        have z4 : W2.cell? ⟨gx, 4, none⟩ = some (.int .i64 x.f4.f0) := (blk_cell hx2 4).trans rfl
        have z5 : W2.cell? ⟨gx, 5, none⟩ = some (.string x.f4.f1) := (blk_cell hx2 5).trans rfl
        have z6 : W2.cell? ⟨gx, 6, none⟩ = some (.bool x.f4.f2) := (blk_cell hx2 6).trans rfl
        have z7 : W2.cell? ⟨gx, 7, none⟩ = some (.string x.f4.f3) := (blk_cell hx2 7).trans rfl
        have z8 : W2.cell? ⟨gx, 8, none⟩ = some (.int .u64 x.f4.f4) := (blk_cell hx2 8).trans rfl
        have z9 : W2.cell? ⟨gx, 9, none⟩ = some (.int .u64 x.f4.f5) := (blk_cell hx2 9).trans rfl
        have z10 : W2.cell? ⟨gx, 10, none⟩ = some (.int .i64 x.f4.f6) := (blk_cell hx2 10).trans rfl
        have hst : ∃ Wf, Wf = W2 := ⟨_, rfl⟩
        by_cases h1 : x.f0 = 1
        · have n1 : decide (x.f0 = 1) = true := decide_eq_true h1
          have n1' : (x.f0 == 1) = true := by simpa using n1
          have h2 : cntN x.f4 = false := by
            cases h : cntN x.f4
            · rfl
            · exact absurd ⟨h1, h⟩ h12
          go_wp2_with fail
          refine (spec_l6Counts.calls x.f4.f0 x.f4.f1 x.f4.f2 x.f4.f3 x.f4.f4 x.f4.f5 x.f4.f6 _ W2 (counts_f x.f4)).mono ?_
          rintro ex Wf ⟨rfl, hb⟩
          rw [h2]
          have hx3 := (hb.block gx (lt_of_some hx2)).trans hx2
          have ho4 := (hb.block o (lt_of_some ho3)).trans ho3
          have h24 := (hb.block w.heap.size (lt_of_some h23)).trans h23
          have hR4 := Kd.R_below hR3 hb
          have hB4 := hB3.trans (hb.mono hB3.size)
          have hs4 : wr.heap.size < Wf.heap.size := Nat.lt_of_lt_of_le HS3.out hb.size
          have HF := Aside0.mk (And.intro hx3 (And.intro ho4 (And.intro h24 (And.intro hR4 (And.intro hB4 hs4)))))
          clear hx2 ho3 h23 hR3 hB3 hx3 ho4 h24 hR4 hB4 hs4 hb
          clear z0 z1 z2 z3 z4 z5 z6 z7 z8 z9 z10
          go_upto_region 11 with (fail)
          obtain ⟨y, hyd⟩ : ∃ y : S92, y = x := ⟨_, rfl⟩
          obtain ⟨cf, hcf⟩ : ∃ z : Int, z = c := ⟨_, rfl⟩
          have hxf : Wf.heap[gx]? = some (.cells #[.int .i64 y.f0, .int .i64 y.f1, .int .i64 y.f2, .bool y.f3, .int .i64 y.f4.f0, .string y.f4.f1, .bool y.f4.f2, .string y.f4.f3, .int .u64 y.f4.f4, .int .u64 y.f4.f5, .int .i64 y.f4.f6] 92 (0, 0)) := by rw [hyd]; exact HF.out.1
          have hof : Wf.heap[o]? = some (.cells #[.slice A3 l.length c3, .int .i64 cf] 37 (0, 0)) := by rw [hcf]; exact HF.out.2.1
          have hy : putI (l, c) x = (l ++ [y], cf) := by rw [hyd, hcf]; exact hy
          have u0 : Wf.cell? ⟨gx, 0, none⟩ = some (.int .i64 y.f0) := (blk_cell hxf 0).trans rfl
          have u1 : Wf.cell? ⟨gx, 1, none⟩ = some (.int .i64 y.f1) := (blk_cell hxf 1).trans rfl
          have u2 : Wf.cell? ⟨gx, 2, none⟩ = some (.int .i64 y.f2) := (blk_cell hxf 2).trans rfl
          have u3 : Wf.cell? ⟨gx, 3, none⟩ = some (.bool y.f3) := (blk_cell hxf 3).trans rfl
          have u4 : Wf.cell? ⟨gx, 4, none⟩ = some (.int .i64 y.f4.f0) := (blk_cell hxf 4).trans rfl
          have u5 : Wf.cell? ⟨gx, 5, none⟩ = some (.string y.f4.f1) := (blk_cell hxf 5).trans rfl
          have u6 : Wf.cell? ⟨gx, 6, none⟩ = some (.bool y.f4.f2) := (blk_cell hxf 6).trans rfl
          have u7 : Wf.cell? ⟨gx, 7, none⟩ = some (.string y.f4.f3) := (blk_cell hxf 7).trans rfl
          have u8 : Wf.cell? ⟨gx, 8, none⟩ = some (.int .u64 y.f4.f4) := (blk_cell hxf 8).trans rfl
          have u9 : Wf.cell? ⟨gx, 9, none⟩ = some (.int .u64 y.f4.f5) := (blk_cell hxf 9).trans rfl
          have u10 : Wf.cell? ⟨gx, 10, none⟩ = some (.int .i64 y.f4.f6) := (blk_cell hxf 10).trans rfl
          have o0 : Wf.cell? ⟨o, 0, none⟩ = some (.slice A3 l.length c3) := (blk_cell hof 0).trans rfl
          have HOF := Aside0.mk (And.intro hof hy)
          have hne : ∀ k, Value.ownBlock (.slice A3 l.length c3) = some k → k ≠ o ∧ k ≠ w.heap.size := fun k hk => (HF.out.2.2.2.1.1 k hk).1
          have HNE := Aside0.mk hne
          clear hof hxf hyd hcf hne hy
          go_wp2_with (at_builtin; refine Kd.R_append k92 (w0 := w) w.heap.size rfl (.tmp 41) (.tmp 43) 35 92 (.agg #[(.int .i64 0), (.int .i64 0), (.int .i64 0), (.bool false), (.int .i64 0), (.string ⟨#[]⟩), (.bool false), (.string ⟨#[]⟩), (.int .u64 0), (.int .u64 0), (.int .i64 0)]) 104 rfl Try.underlying35 info92 rfl (by decide) (by omega) (.slice A3 l.length c3) l y [.int .i64 y.f0, .int .i64 y.f1, .int .i64 y.f2, .bool y.f3, .int .i64 y.f4.f0, .string y.f4.f1, .bool y.f4.f2, .string y.f4.f3, .int .u64 y.f4.f4, .int .u64 y.f4.f5, .int .i64 y.f4.f6] (fun k => (k ≠ o ∧ k ≠ w.heap.size) ∧ k ≠ gx) (fun _ => False) rfl rfl (k92_mkM _ _ _ y) (fun _ h => h.elim) (fun k hk => by have := lt_of_some HF.out.2.1; have := lt_of_some HF.out.2.2.1; have := lt_of_some HF.out.1; refine ⟨⟨?_, ?_⟩, ?_⟩ <;> omega) HF.out.2.2.2.1 HF.out.2.2.2.2.1 HF.out.2.2.2.2.1.size (by have := HC.out.2.1; have := HN.out.2.2.1; omega) ?_; intro v1 w1 ho hb hg hat; obtain ⟨A4, m4, c4, rfl⟩ : ∃ A m c, v1 = .slice A m c := (by obtain ⟨A, c, h⟩ := Kd.R_slice ho; exact ⟨_, _, _, h⟩); have ho7 : w1.heap[o]? = some (.cells #[.slice A3 l.length c3, .int .i64 cf] 37 (0, 0)) := (hg.block o (lt_of_some HOF.out.1) (fun e => (HNE.out o e.symm).1 rfl)).trans HOF.out.1; have h27 := (hg.block w.heap.size (lt_of_some HF.out.2.2.1) (fun e => (HNE.out w.heap.size e.symm).2 rfl)).trans HF.out.2.2.1; have HG := Aside0.mk (And.intro (Kd.R_mono ho (fun k hk => hk.1)) (And.intro hb (And.intro ho7 h27))); have q0 : w1.cell? ⟨o, 0, none⟩ = some (.slice A3 l.length c3) := (blk_cell ho7 0).trans rfl; have fq := blk_frozen ho7 0; clear ho hb hg hat ho7 h27)
          go_roundw
          case measure => simp only [intOf]; omega
          case rel =>
            refine ⟨j + 1, .slice A4 m4 c4, by omega, by rw [Int.natCast_add]; rfl, ⟨?_⟩, ⟨HG.out.2.1.setCell (p := ⟨o, 0, none⟩) (by have := HO.out; show w.heap.size ≤ o; omega) _⟩⟩
            rw [HST.out, HOF.out.2]
            exact ⟨blk_put HG.out.2.2.1 0 _ rfl, blk_far (p := ⟨o, 0, none⟩) HG.out.2.2.2 (fun e => by have := HO.out; simp only at e; omega) _, Kd.R_far (p := ⟨o, 0, none⟩) HG.out.1 (fun k hk => hk.1) _⟩
        · have n1 : decide (x.f0 = 1) = false := decide_eq_false h1
          have n1' : (x.f0 == 1) = false := by simpa using n1
          obtain ⟨Wf, rfl⟩ := hst
          have HF := Aside0.mk (And.intro hx2 (And.intro ho3 (And.intro h23 (And.intro hR3 (And.intro hB3 HS3.out)))))
          clear hx2 ho3 h23 hR3 hB3
          go_upto_region 11 with (fail)
          clear z0 z1 z2 z3 z4 z5 z6 z7 z8 z9 z10
          obtain ⟨y, hyd⟩ : ∃ y : S92, y = x := ⟨_, rfl⟩
          obtain ⟨cf, hcf⟩ : ∃ z : Int, z = c := ⟨_, rfl⟩
          have hxf : Wf.heap[gx]? = some (.cells #[.int .i64 y.f0, .int .i64 y.f1, .int .i64 y.f2, .bool y.f3, .int .i64 y.f4.f0, .string y.f4.f1, .bool y.f4.f2, .string y.f4.f3, .int .u64 y.f4.f4, .int .u64 y.f4.f5, .int .i64 y.f4.f6] 92 (0, 0)) := by rw [hyd]; exact HF.out.1
          have hof : Wf.heap[o]? = some (.cells #[.slice A3 l.length c3, .int .i64 cf] 37 (0, 0)) := by rw [hcf]; exact HF.out.2.1
          have hy : putI (l, c) x = (l ++ [y], cf) := by rw [hyd, hcf]; exact hy
          have u0 : Wf.cell? ⟨gx, 0, none⟩ = some (.int .i64 y.f0) := (blk_cell hxf 0).trans rfl
          have u1 : Wf.cell? ⟨gx, 1, none⟩ = some (.int .i64 y.f1) := (blk_cell hxf 1).trans rfl
          have u2 : Wf.cell? ⟨gx, 2, none⟩ = some (.int .i64 y.f2) := (blk_cell hxf 2).trans rfl
          have u3 : Wf.cell? ⟨gx, 3, none⟩ = some (.bool y.f3) := (blk_cell hxf 3).trans rfl
          have u4 : Wf.cell? ⟨gx, 4, none⟩ = some (.int .i64 y.f4.f0) := (blk_cell hxf 4).trans rfl
          have u5 : Wf.cell? ⟨gx, 5, none⟩ = some (.string y.f4.f1) := (blk_cell hxf 5).trans rfl
          have u6 : Wf.cell? ⟨gx, 6, none⟩ = some (.bool y.f4.f2) := (blk_cell hxf 6).trans rfl
          have u7 : Wf.cell? ⟨gx, 7, none⟩ = some (.string y.f4.f3) := (blk_cell hxf 7).trans rfl
          have u8 : Wf.cell? ⟨gx, 8, none⟩ = some (.int .u64 y.f4.f4) := (blk_cell hxf 8).trans rfl
          have u9 : Wf.cell? ⟨gx, 9, none⟩ = some (.int .u64 y.f4.f5) := (blk_cell hxf 9).trans rfl
          have u10 : Wf.cell? ⟨gx, 10, none⟩ = some (.int .i64 y.f4.f6) := (blk_cell hxf 10).trans rfl
          have o0 : Wf.cell? ⟨o, 0, none⟩ = some (.slice A3 l.length c3) := (blk_cell hof 0).trans rfl
          have HOF := Aside0.mk (And.intro hof hy)
          have hne : ∀ k, Value.ownBlock (.slice A3 l.length c3) = some k → k ≠ o ∧ k ≠ w.heap.size := fun k hk => (HF.out.2.2.2.1.1 k hk).1
          have HNE := Aside0.mk hne
          clear hof hxf hyd hcf hne hy
          go_wp2_with (at_builtin; refine Kd.R_append k92 (w0 := w) w.heap.size rfl (.tmp 41) (.tmp 43) 35 92 (.agg #[(.int .i64 0), (.int .i64 0), (.int .i64 0), (.bool false), (.int .i64 0), (.string ⟨#[]⟩), (.bool false), (.string ⟨#[]⟩), (.int .u64 0), (.int .u64 0), (.int .i64 0)]) 104 rfl Try.underlying35 info92 rfl (by decide) (by omega) (.slice A3 l.length c3) l y [.int .i64 y.f0, .int .i64 y.f1, .int .i64 y.f2, .bool y.f3, .int .i64 y.f4.f0, .string y.f4.f1, .bool y.f4.f2, .string y.f4.f3, .int .u64 y.f4.f4, .int .u64 y.f4.f5, .int .i64 y.f4.f6] (fun k => (k ≠ o ∧ k ≠ w.heap.size) ∧ k ≠ gx) (fun _ => False) rfl rfl (k92_mkM _ _ _ y) (fun _ h => h.elim) (fun k hk => by have := lt_of_some HF.out.2.1; have := lt_of_some HF.out.2.2.1; have := lt_of_some HF.out.1; refine ⟨⟨?_, ?_⟩, ?_⟩ <;> omega) HF.out.2.2.2.1 HF.out.2.2.2.2.1 HF.out.2.2.2.2.1.size (by have := HC.out.2.1; have := HN.out.2.2.1; omega) ?_; intro v1 w1 ho hb hg hat; obtain ⟨A4, m4, c4, rfl⟩ : ∃ A m c, v1 = .slice A m c := (by obtain ⟨A, c, h⟩ := Kd.R_slice ho; exact ⟨_, _, _, h⟩); have ho7 : w1.heap[o]? = some (.cells #[.slice A3 l.length c3, .int .i64 cf] 37 (0, 0)) := (hg.block o (lt_of_some HOF.out.1) (fun e => (HNE.out o e.symm).1 rfl)).trans HOF.out.1; have h27 := (hg.block w.heap.size (lt_of_some HF.out.2.2.1) (fun e => (HNE.out w.heap.size e.symm).2 rfl)).trans HF.out.2.2.1; have HG := Aside0.mk (And.intro (Kd.R_mono ho (fun k hk => hk.1)) (And.intro hb (And.intro ho7 h27))); have q0 : w1.cell? ⟨o, 0, none⟩ = some (.slice A3 l.length c3) := (blk_cell ho7 0).trans rfl; have fq := blk_frozen ho7 0; clear ho hb hg hat ho7 h27)
          go_roundw
          case measure => simp only [intOf]; omega
          case rel =>
            refine ⟨j + 1, .slice A4 m4 c4, by omega, by rw [Int.natCast_add]; rfl, ⟨?_⟩, ⟨HG.out.2.1.setCell (p := ⟨o, 0, none⟩) (by have := HO.out; show w.heap.size ≤ o; omega) _⟩⟩
            rw [HST.out, HOF.out.2]
            exact ⟨blk_put HG.out.2.2.1 0 _ rfl, blk_far (p := ⟨o, 0, none⟩) HG.out.2.2.2 (fun e => by have := HO.out; simp only at e; omega) _, Kd.R_far (p := ⟨o, 0, none⟩) HG.out.1 (fun k hk => hk.1) _⟩
    · obtain rfl : j = xs.length := by omega
      have dl : decide ((xs.length : Int) < (xs.length : Int)) = false := decide_eq_false (by omega)
      rw [List.take_length] at hlc
      obtain ⟨A3, c3, rfl⟩ := Kd.R_slice HW.out.2.2
      have o0 : wr.cell? ⟨o, 0, none⟩ = some (.slice A3 l.length c3) := (blk_cell HW.out.1 0).trans rfl
      have o1 : wr.cell? ⟨o, 1, none⟩ = some (.int .i64 c) := (blk_cell HW.out.1 1).trans rfl
      have r0 : wr.cell? ⟨w.heap.size, 0, none⟩ = some (.slice none 0 0) := (blk_cell HW.out.2.1 0).trans rfl
      have r1 : wr.cell? ⟨w.heap.size, 1, none⟩ = some (.int .i64 0) := (blk_cell HW.out.2.1 1).trans rfl
      have fr := blk_frozen HW.out.2.1 0
      have fr1 := blk_frozen HW.out.2.1 1
      have HL := Aside0.mk hlc
      clear hlc
      go_wp2_with fail
      have b1 := blk_put HW.out.2.1 0 (.slice A3 l.length c3) (cs' := #[.slice A3 l.length c3, .int .i64 0]) rfl
      have b2 := blk_put b1 1 (.int .i64 c) (cs' := #[.slice A3 l.length c3, .int .i64 c]) rfl
      have R2 := Kd.R_far (p := ⟨w.heap.size, 1, none⟩) (Kd.R_far (p := ⟨w.heap.size, 0, none⟩) HW.out.2.2 (fun k hk => hk.2) (.slice A3 l.length c3)) (fun k hk => hk.2) (.int .i64 c)
      rw [HL.out]
      refine bodyPost_ret (results_cell_row rfl _ _ w.heap.size 37 _ (0, 0) _ rfl b2 Try.underlying37 rfl (by kernel_rfl)) rfl ⟨_, rfl, Kd.R_mono R2 (fun _ _ => trivial), (HB.out.setCell (Nat.le_refl _) _).setCell (Nat.le_refl _) _⟩
end Go.Proofs.Ytpfehkkfakofaaa.Q

namespace Go.Proofs.Ytpfehkkfakofaaa.Q
open Go.RowKit Go.Proofs.YtpfehkkfakofaaaW.PrintWords Go.Proofs.YtpfehkkfakofaaaW.PrintLast Go.Proofs.YtpfehkkfakofaaaW.PrintMore
set_option linter.unusedVariables false
set_option linter.unusedSimpArgs false
theorem ge_all : ∀ (N : Nat) (t : Tr), (flatT t).length ≤ N → wfT t → GeP t
  | 0, t, hl, hw => absurd (List.eq_nil_of_length_eq_zero (by omega)) (flatT_ne t)
  | N + 1, .node n ks, hl, hw => by
    rcases wf_ar hw with ⟨rfl, g1, g2, g3⟩ | ⟨p, q, rfl, wp, wq, h⟩ | ⟨z, p, q, rfl, wz, wp, wq, h⟩
    · exact ge_leaf n g1 g2 g3 hw
    · simp only [flatT, flatTs, List.length_append, List.length_cons, List.length_nil] at hl
      have hp := ge_all N p (by omega) wp
      have hq := ge_all N q (by omega) wq
      rcases h with h | h
      · exact ge_chain n p q h hw wp hp hq
      · exact ge_inter n p q h hw hp hq
    · simp only [flatT, flatTs, List.length_append, List.length_cons, List.length_nil] at hl
      exact ge_if n z p q h hw (ge_all N p (by omega) wp) (ge_all N q (by omega) wq)
theorem genS_call (t : Tr) (hw : wfT t) (hl : (flatT t).length ≤ 1000) (seen : Bool) (first : Int) (h0 : 0 ≤ first) (h1 : first + (flatT t).length ≤ 100000) (A : Option Addr) (c : Nat) (w : World) (hr : Kd.C k63 w A (flatT t).length (flatT t)) (hc : (flatT t).length ≤ c) :
    Calls Try.prog 29 #[.slice A (flatT t).length c, .bool seen, .int .i64 first] w fun e w' => ∃ v, e = .returned v ∧ Kd.R k92 92 w' w.heap.size (fun _ => True) v (genT t seen first) ∧ Below w.heap.size w w' :=
  ge_all _ t (Nat.le_refl _) hw A c seen first w hr hc hl h0 h1
end Go.Proofs.Ytpfehkkfakofaaa.Q

namespace Go.Proofs.Ytpfehkkfakofaaa.Q
open Go.RowKit Go.Proofs.YtpfehkkfakofaaaW.PrintWords Go.Proofs.YtpfehkkfakofaaaW.PrintLast Go.Proofs.YtpfehkkfakofaaaW.PrintMore
set_option linter.unusedVariables false
set_option linter.unusedSimpArgs false
/-- What l6Conds does, for one tree. -/
def ConP (t : Tr) : Prop := ∀ (A : Option Addr) (c : Nat) (Ab : Option Addr) (cb : Nat) (before : List S92) (seen : Bool) (first : Int) (w : World), Kd.C k63 w A (flatT t).length (flatT t) → (flatT t).length ≤ c → Kd.C k92 w Ab before.length before → before.length ≤ cb →
    before.length + 3 * (flatT t).length ≤ 10000 → (flatT t).length ≤ 1000 → 0 ≤ first → first + (flatT t).length ≤ 10000 → (∀ x ∈ before, x.f0 = 5 ∨ x.f0 = 6 → 0 ≤ x.f2 ∧ x.f2 ≤ 1000000) →
    Calls Try.prog 27 #[.slice A (flatT t).length c, .slice Ab before.length cb, .bool seen, .int .i64 first] w fun e w' => ∃ v, e = .returned v ∧ Kd.R k37 37 w' w.heap.size (fun _ => True) v (condT t before seen first) ∧ Below w.heap.size w w'
theorem empty_row {w w1 : World} (hb : Below (w.alloc (.cells #[] 37)).heap.size (w.alloc (.cells #[] 37)) w1) : Kd.R k37 37 w1 w.heap.size (fun _ => True) (.slice (some ⟨w.heap.size, 0, none⟩) 0 0) [] :=
  Kd.R_below (w := w.alloc (.cells #[] 37)) ⟨fun _ _ => trivial, [], World.ownsRow_made w #[] 0 (Nat.le_refl _) (by decide) rfl, ⟨rfl, fun j p h => by simp at h⟩⟩ hb
set_option maxHeartbeats 4000000 in
set_option maxRecDepth 100000 in
theorem con_leaf (n : S63) (g1 : n.f0 ≠ 14) (g2 : n.f0 ≠ 15) (g3 : n.f0 ≠ 16) (hw : wfT (.node n [])) : ConP (.node n []) := by
  intro A c Ab cb before seen first w hr hc hrb hcb hl hl2 hf0 hf1 hbt
  have kr : K0 (Below w.heap.size w w) := ⟨Below.refl _ _⟩
  have HK := Aside0.mk (kidsC n [] hw (by omega) A c w hr hc)
  have HT := Aside0.mk (And.intro hr (And.intro hc hl2))
  have HA := Aside0.mk (And.intro hrb (And.intro hcb (And.intro hl (And.intro hl2 (And.intro hf0 (And.intro hf1 hbt))))))
  clear hr hc hrb hcb hl hl2 hf0 hf1 hbt
  go_enter Try.func27, Try.ntmps27
  go_wp2_with fail
  refine HK.out.mono ?_
  rintro ex w2 ⟨A2, c2, rfl, hks, hb⟩
  have k2 : K0 (Below w.heap.size w w2) := ⟨hb⟩
  have HB2 := Aside0.mk hb
  have HBf := Aside0.mk (Kd.C_below HA.out.1 hb)
  clear hb hks HK
  go_wp2_with fail
  refine (top_call (.node n []) (by have := HT.out; omega) A c (w2.alloc (.cells #[] 37)) (Kd.C_below HT.out.1 (Below.alloc HB2.out HB2.out.size _)) HT.out.2.1).mono ?_
  rintro ex W0 ⟨rfl, hb⟩
  rw [show Tr.top (.node n []) = n from rfl]
  have HS0 := Aside0.mk (And.intro (empty_row hb) (And.intro ((Below.alloc (Below.refl w2.heap.size w2) (Nat.le_refl _) _).trans (hb.mono (by rw [sz_al]; omega))) (show ([] : List S37).length ≤ 0 from Nat.le_refl _)))
  have k0 : K0 (Below w2.heap.size w2 W0) := ⟨HS0.out.2.1⟩
  clear hb
  go_wp2_with fail
  go_ret
  refine ⟨_, rfl, ?_, HB2.out.trans (HS0.out.2.1.mono HB2.out.size)⟩
  have h := Kd.R_lower HS0.out.1 HB2.out.size
  exact h
set_option maxHeartbeats 4000000 in
set_option maxRecDepth 100000 in
theorem con_inter (n : S63) (p q : Tr) (h15 : n.f0 = 15) (hw : wfT (.node n [p, q])) (wp : wfT p) (wq : wfT q) (hp : ConP p) (hq : ConP q) : ConP (.node n [p, q]) := by
  intro A c Ab cb before seen first w hr hc hrb hcb hl hl2 hf0 hf1 hbt
  have kr : K0 (Below w.heap.size w w) := ⟨Below.refl _ _⟩
  have HK := Aside0.mk (kidsC n [p, q] hw (by omega) A c w hr hc)
  have HT := Aside0.mk (And.intro hr (And.intro hc hl2))
  have HA := Aside0.mk (And.intro hrb (And.intro hcb (And.intro hl (And.intro hl2 (And.intro hf0 (And.intro hf1 hbt))))))
  simp only [flatT, flatTs, List.length_append, List.length_cons, List.length_nil] at hl hl2 hf1
  have HL := Aside0.mk (And.intro hl (And.intro hl2 hf1))
  have HI := Aside0.mk (And.intro (ifsT_le p) (ifsT_le q))
  have HC0 := Aside0.mk hp
  have HC1 := Aside0.mk hq
  have HD0 := Aside0.mk (condT_len _ p (Nat.le_refl _) wp)
  have HD1 := Aside0.mk (condT_len _ q (Nat.le_refl _) wq)
  have hwf : IntKind.i64.wrap (first + ifsT p) = first + ifsT p := by have := HI.out; rw [IntKind.wrap_i64]; omega
  clear hp hq
  clear hr hc hrb hcb hl hl2 hf0 hf1 hbt
  go_enter Try.func27, Try.ntmps27
  go_wp2_with fail
  refine HK.out.mono ?_
  rintro ex w2 ⟨A2, c2, rfl, hks, hb⟩
  have k2 : K0 (Below w.heap.size w w2) := ⟨hb⟩
  have HB2 := Aside0.mk hb
  obtain ⟨g, B0, q0, rfl, y0, l0, C0⟩ := hks 0 p rfl
  have y0 := clk y0
  obtain ⟨g', B1, q1, he, y1, l1, C1⟩ := hks 1 q rfl
  cases he
  have y1 := clk y1
  have HKd := Aside0.mk (And.intro (And.intro l0 C0) (And.intro l1 C1))
  clear l0 C0 l1 C1
  have HBf := Aside0.mk (Kd.C_below HA.out.1 hb)
  clear hb hks HK
  go_wp2_with fail
  refine (top_call (.node n [p, q]) (by have := HT.out; omega) A c (w2.alloc (.cells #[] 37)) (Kd.C_below HT.out.1 (Below.alloc HB2.out HB2.out.size _)) HT.out.2.1).mono ?_
  rintro ex W0 ⟨rfl, hb⟩
  rw [show Tr.top (.node n [p, q]) = n from rfl, h15]
  have HS0 := Aside0.mk (And.intro (empty_row hb) (And.intro ((Below.alloc (Below.refl w2.heap.size w2) (Nat.le_refl _) _).trans (hb.mono (by rw [sz_al]; omega))) (show ([] : List S37).length ≤ 0 from Nat.le_refl _)))
  have k0 : K0 (Below w2.heap.size w2 W0) := ⟨HS0.out.2.1⟩
  clear hb
  go_wp2_with fail
  refine (HC0.out B0 q0 Ab cb before seen (first) W0 (Kd.C_below HKd.out.1.2 HS0.out.2.1) HKd.out.1.1 (Kd.C_below HBf.out HS0.out.2.1) (HA.out.2.1) (by have := HL.out; have := HA.out; omega) (by have := HL.out; omega) (by have := HA.out; have := HI.out; omega) (by have := HL.out; have := HA.out; have := HI.out; omega) (HA.out.2.2.2.2.2.2)).mono ?_
  obtain ⟨ys0, hys0⟩ : ∃ ys, condT p before seen first = ys := ⟨_, rfl⟩
  rw [hys0]
  rintro ex V0 ⟨v0, rfl, hR, hb⟩
  have hyl : ys0.length ≤ 1000 := by
    have h1 := HD0.out before seen first
    rw [hys0] at h1
    have := HL.out; have := HI.out; omega
  obtain ⟨Ay0, cy0, rfl, hlc, hRd⟩ := OwnRow.reads (Kd.R_bound hR).2
  have HY0 := Aside0.mk (And.intro hRd (And.intro (Kd.R_below HS0.out.1 (hb)) (And.intro (HS0.out.2.1.trans (hb.mono HS0.out.2.1.size)) (And.intro (show ∀ k, W0.heap.size ≤ k → some k ≠ Value.ownBlock (.slice (some ⟨w2.heap.size, 0, none⟩) 0 0) from fun k hk e => by have := Kd.R_lt HS0.out.1 k e.symm; have := (Below.refl W0.heap.size W0).size; omega) (And.intro hyl hys0)))))
  have kv0 : K0 (Below w2.heap.size w2 V0) := ⟨HY0.out.2.2.1⟩
  have HM0 := Aside0.mk (HS0.out.2.1).size
  clear hRd hR hb hyl hlc hys0
  go_wp2_with (at_builtin; refine Kd.R_append_rows k37 (w0 := w2) w2.heap.size rfl (.tmp 60) (.tmp 67) 34 37 (.agg #[(.slice none 0 0), (.int .i64 0)]) 32 rfl Try.underlying34 info37 rfl (by decide) (by omega) (.slice (some ⟨w2.heap.size, 0, none⟩) 0 0) [] ys0 Ay0 ys0.length cy0 (fun _ => True) (fun k => W0.heap.size ≤ k) rfl rfl HY0.out.2.1 HY0.out.1 (fun x cs h => k37.M_lower HM0.out (k37.M_mono (fun k hk => hk.1.2.1) h)) (fun k hk => ⟨trivial, HY0.out.2.2.2.1 k hk⟩) (fun _ _ => trivial) HY0.out.2.2.1 HY0.out.2.2.1.size (by have := HS0.out.2.2; have := HY0.out.2.2.2.2.1; omega) ?_; intro v1' W1 ho hb hg hat; obtain ⟨A1, m1, c1', rfl⟩ : ∃ A m c, v1' = .slice A m c := (by obtain ⟨A, c, h⟩ := Kd.R_slice ho; exact ⟨_, _, _, h⟩); have HS1 := Aside0.mk (And.intro ho (And.intro hb (show ([] ++ ys0).length ≤ 1000 from by rw [List.length_append]; have := HS0.out.2.2; have := HY0.out.2.2.2.2.1; omega))); have k1 : K0 (Below w2.heap.size w2 W1) := ⟨hb⟩; clear ho hb hg hat)
  go_upto_region 10 with (fail)
  have kd : K0 (Below w2.heap.size w2 W1.drew) := ⟨below_drew1 HS1.out.2.1⟩
  refine sq_region (S := fun W' => K0 (Below w2.heap.size w2 W')) [(0, false), (1, false), (2, false), (3, false), (4, false), (5, false), (6, false), (7, false), (8, false), (9, false), (10, true), (11, false), (12, true), (13, true), (14, false)] (by kernel_rfl) (by kernel_rfl) kd (fun hS => ?_)
  repeat (refine sq_n ?_ ?_ rfl ?_ ?_ ?_; rotate_left 2; (intro W hW; go_simp; first | done | with_reducible rfl); (simp only [List.setIfInBounds_toArray, List.set_cons_zero, List.set_cons_succ]; try rfl))
  refine sq_1n rfl (fun hS K1 hK1 => ?_)
  go_simp
  go_at_call 60
  refine (ifs_call p (by have := HL.out; omega) B0 q0 W1.drew (Kd.C_below HKd.out.1.2 kd.out) HKd.out.1.1).mono ?_
  rintro ex U1 ⟨rfl, hb⟩
  have hu : Below W1.heap.size W1 U1 := (below_drew1 (Below.refl W1.heap.size W1)).trans hb
  have HU := Aside0.mk hu
  have ku : K0 (Below w2.heap.size w2 U1) := ⟨HS1.out.2.1.trans (hu.mono HS1.out.2.1.size)⟩
  clear hu hb
  refine hK1.out _ _ ku (fun hS => ?_)
  repeat (refine sq_n ?_ ?_ rfl ?_ ?_ ?_; rotate_left 2; (intro W hW; go_simp; first | done | with_reducible rfl); (simp only [List.setIfInBounds_toArray, List.set_cons_zero, List.set_cons_succ]; try rfl))
  refine sq_1n rfl (fun hS K2 hK2 => ?_)
  go_simp
  go_at_call 27
  refine (HC1.out B1 q1 Ab cb before seen (first + ifsT p) U1 (Kd.C_below HKd.out.2.2 ku.out) HKd.out.2.1 (Kd.C_below HBf.out ku.out) (HA.out.2.1) (by have := HL.out; have := HA.out; omega) (by have := HL.out; omega) (by have := HA.out; have := HI.out; omega) (by have := HL.out; have := HA.out; have := HI.out; omega) (HA.out.2.2.2.2.2.2)).mono ?_
  obtain ⟨ys1, hys1⟩ : ∃ ys, condT q before seen (first + ifsT p) = ys := ⟨_, rfl⟩
  rw [hys1]
  rintro ex V1 ⟨v1, rfl, hR, hb⟩
  have hyl : ys1.length ≤ 1000 := by
    have h1 := HD1.out before seen (first + ifsT p)
    rw [hys1] at h1
    have := HL.out; have := HI.out; omega
  obtain ⟨Ay1, cy1, rfl, hlc, hRd⟩ := OwnRow.reads (Kd.R_bound hR).2
  have HY1 := Aside0.mk (And.intro hRd (And.intro (Kd.R_below HS1.out.1 (HU.out.trans (hb.mono (HU.out).size))) (And.intro (ku.out.trans (hb.mono ku.out.size)) (And.intro (show ∀ k, U1.heap.size ≤ k → some k ≠ Value.ownBlock (.slice A1 m1 c1') from fun k hk e => by have := Kd.R_lt HS1.out.1 k e.symm; have := (HU.out).size; omega) (And.intro hyl hys1)))))
  have kv1 : K0 (Below w2.heap.size w2 V1) := ⟨HY1.out.2.2.1⟩
  have HM1 := Aside0.mk (ku.out).size
  clear hRd hR hb hyl hlc hys1
  refine hK2.out _ _ kv1 (fun hS => ?_)
  refine sq_1n rfl (fun hS K3 hK3 => ?_)
  refine Eq.mp (if_pos yes_n) (Kd.R_append_rows_step (ops := #[]) (Kc := K3) k37 (w0 := w2) w2.heap.size yes_n (.tmp 69) (.tmp 81) 34 37 (.agg #[(.slice none 0 0), (.int .i64 0)]) 32 rfl Try.underlying34 info37 rfl (by decide) (by omega) (.slice A1 m1 c1') ([] ++ ys0) ys1 Ay1 ys1.length cy1 (fun _ => True) (fun k => U1.heap.size ≤ k) rfl rfl HY1.out.2.1 HY1.out.1 (fun x cs h => k37.M_lower HM1.out (k37.M_mono (fun k hk => hk.1.2.1) h)) (fun k hk => ⟨trivial, HY1.out.2.2.2.1 k hk⟩) (fun _ _ => trivial) HY1.out.2.2.1 HY1.out.2.2.1.size (by have := HS1.out.2.2; have := HY1.out.2.2.2.2.1; omega) ?_)
  intro v2' W2 ho hb hg hat
  obtain ⟨A2, m2, c2', rfl⟩ : ∃ A m c, v2' = .slice A m c := (by obtain ⟨A, c, h⟩ := Kd.R_slice ho; exact ⟨_, _, _, h⟩)
  have HS2 := Aside0.mk (And.intro ho (And.intro hb (show (([] ++ ys0) ++ ys1).length ≤ 2000 from by rw [List.length_append]; have := HS1.out.2.2; have := HY1.out.2.2.2.2.1; omega)))
  have k2 : K0 (Below w2.heap.size w2 W2) := ⟨hb⟩
  clear ho hb hg hat
  refine hK3.out _ _ k2 (fun hS => ?_)
  repeat (refine sq_n ?_ ?_ rfl ?_ ?_ ?_; rotate_left 2; (intro W hW; go_simp; first | done | with_reducible rfl); (simp only [List.setIfInBounds_toArray, List.set_cons_zero, List.set_cons_succ]; try rfl))
  refine sq_done (fun hS => ?_)
  go_wp2_with fail
  go_ret
  refine ⟨_, rfl, ?_, HB2.out.trans (HS2.out.2.1.mono HB2.out.size)⟩
  have h := Kd.R_lower HS2.out.1 HB2.out.size
  rw [← HY0.out.2.2.2.2.2, ← HY1.out.2.2.2.2.2, List.nil_append] at h
  simp only [condT, condTs, condN, if_neg (show ¬ n.f0 = 14 by omega)]
  exact h
end Go.Proofs.Ytpfehkkfakofaaa.Q

namespace Go.Proofs.Ytpfehkkfakofaaa.Q
open Go.RowKit Go.Proofs.YtpfehkkfakofaaaW.PrintWords Go.Proofs.YtpfehkkfakofaaaW.PrintLast Go.Proofs.YtpfehkkfakofaaaW.PrintMore
set_option linter.unusedVariables false
set_option linter.unusedSimpArgs false
theorem two_rows {W : World} (A B : Option Addr) (ca cb : Nat) (xs ys : List S92) (t : TypeId) (hx : Kd.C k92 W A xs.length xs) (hxc : xs.length ≤ ca) (hy : Kd.C k92 W B ys.length ys) (hyc : ys.length ≤ cb) :
    Kd.C (Kd.slice 92 k92) (W.alloc (.cells #[.slice A xs.length ca, .slice B ys.length cb] t)) (some ⟨W.heap.size, 0, none⟩) [xs, ys].length [xs, ys] := by
  have h0 := heap_alloc_new W (.cells #[.slice A xs.length ca, .slice B ys.length cb] t)
  refine ⟨rfl, show 2 ≤ 9223372036854775807 by decide, fun _ => ⟨_, rfl, fun j p hj => ?_⟩⟩
  match j, hj with
  | 0, hj =>
    cases hj
    refine ⟨[.slice A xs.length ca], rfl, ⟨A, ca, rfl, hxc, Kd.C_alloc hx _⟩, fun i u hi => ?_⟩
    match i, hi with
    | 0, hi => cases hi; rw [add_plain]; exact (blk_cell h0 0).trans rfl
    | i + 1, hi => simp at hi
  | 1, hj =>
    cases hj
    refine ⟨[.slice B ys.length cb], rfl, ⟨B, cb, rfl, hyc, Kd.C_alloc hy _⟩, fun i u hi => ?_⟩
    match i, hi with
    | 0, hi => cases hi; rw [add_plain]; exact (blk_cell h0 1).trans rfl
    | i + 1, hi => simp at hi
  | j + 2, hj => simp at hj
theorem tgt_app {before : List S92} {p : Tr} {seen : Bool} {first : Int} (hb : ∀ x ∈ before, x.f0 = 5 ∨ x.f0 = 6 → 0 ≤ x.f2 ∧ x.f2 ≤ 1000000) (hw : wfT p) (hl : (flatT p).length ≤ 1000) : ∀ x ∈ before ++ genT p seen first, x.f0 = 5 ∨ x.f0 = 6 → 0 ≤ x.f2 ∧ x.f2 ≤ 1000000 := by
  intro x hx
  rcases List.mem_append.mp hx with h | h
  · exact hb x h
  · exact genT_tgt 1000 p seen first (by omega) (by omega) hw x h
set_option maxHeartbeats 4000000 in
set_option maxRecDepth 100000 in
theorem con_chain (n : S63) (p q : Tr) (h14 : n.f0 = 14) (hw : wfT (.node n [p, q])) (wp : wfT p) (wq : wfT q) (hp : ConP p) (hq : ConP q) : ConP (.node n [p, q]) := by
  intro A c Ab cb before seen first w hr hc hrb hcb hl hl2 hf0 hf1 hbt
  have kr : K0 (Below w.heap.size w w) := ⟨Below.refl _ _⟩
  have HK := Aside0.mk (kidsC n [p, q] hw (by omega) A c w hr hc)
  have HT := Aside0.mk (And.intro hr (And.intro hc hl2))
  have HA := Aside0.mk (And.intro hrb (And.intro hcb (And.intro hl (And.intro hl2 (And.intro hf0 (And.intro hf1 hbt))))))
  simp only [flatT, flatTs, List.length_append, List.length_cons, List.length_nil] at hl hl2 hf1
  have HL := Aside0.mk (And.intro hl (And.intro hl2 hf1))
  have HI := Aside0.mk (And.intro (ifsT_le p) (ifsT_le q))
  have HC0 := Aside0.mk hp
  have HC1 := Aside0.mk hq
  have HD0 := Aside0.mk (condT_len _ p (Nat.le_refl _) wp)
  have HD1 := Aside0.mk (condT_len _ q (Nat.le_refl _) wq)
  have hwf : IntKind.i64.wrap (first + ifsT p) = first + ifsT p := by have := HI.out; rw [IntKind.wrap_i64]; omega
  clear hp hq
  clear hr hc hrb hcb hl hl2 hf0 hf1 hbt
  go_enter Try.func27, Try.ntmps27
  go_wp2_with fail
  refine HK.out.mono ?_
  rintro ex w2 ⟨A2, c2, rfl, hks, hb⟩
  have k2 : K0 (Below w.heap.size w w2) := ⟨hb⟩
  have HB2 := Aside0.mk hb
  obtain ⟨g, B0, q0, rfl, y0, l0, C0⟩ := hks 0 p rfl
  have y0 := clk y0
  obtain ⟨g', B1, q1, he, y1, l1, C1⟩ := hks 1 q rfl
  cases he
  have y1 := clk y1
  have HKd := Aside0.mk (And.intro (And.intro l0 C0) (And.intro l1 C1))
  clear l0 C0 l1 C1
  have HBf := Aside0.mk (Kd.C_below HA.out.1 hb)
  clear hb hks HK
  go_wp2_with fail
  refine (top_call (.node n [p, q]) (by have := HT.out; omega) A c (w2.alloc (.cells #[] 37)) (Kd.C_below HT.out.1 (Below.alloc HB2.out HB2.out.size _)) HT.out.2.1).mono ?_
  rintro ex W0 ⟨rfl, hb⟩
  rw [show Tr.top (.node n [p, q]) = n from rfl, h14]
  have HS0 := Aside0.mk (And.intro (empty_row hb) (And.intro ((Below.alloc (Below.refl w2.heap.size w2) (Nat.le_refl _) _).trans (hb.mono (by rw [sz_al]; omega))) (show ([] : List S37).length ≤ 0 from Nat.le_refl _)))
  have k0 : K0 (Below w2.heap.size w2 W0) := ⟨HS0.out.2.1⟩
  clear hb
  go_wp2_with fail
  refine (HC0.out B0 q0 Ab cb before seen (first) W0 (Kd.C_below HKd.out.1.2 HS0.out.2.1) HKd.out.1.1 (Kd.C_below HBf.out HS0.out.2.1) (HA.out.2.1) (by have := HL.out; have := HA.out; omega) (by have := HL.out; omega) (by have := HA.out; have := HI.out; omega) (by have := HL.out; have := HA.out; have := HI.out; omega) (HA.out.2.2.2.2.2.2)).mono ?_
  obtain ⟨ys0, hys0⟩ : ∃ ys, condT p before seen first = ys := ⟨_, rfl⟩
  rw [hys0]
  rintro ex V0 ⟨v0, rfl, hR, hb⟩
  have hyl : ys0.length ≤ 1000 := by
    have h1 := HD0.out before seen first
    rw [hys0] at h1
    have := HL.out; have := HI.out; omega
  obtain ⟨Ay0, cy0, rfl, hlc, hRd⟩ := OwnRow.reads (Kd.R_bound hR).2
  have HY0 := Aside0.mk (And.intro hRd (And.intro (Kd.R_below HS0.out.1 (hb)) (And.intro (HS0.out.2.1.trans (hb.mono HS0.out.2.1.size)) (And.intro (show ∀ k, W0.heap.size ≤ k → some k ≠ Value.ownBlock (.slice (some ⟨w2.heap.size, 0, none⟩) 0 0) from fun k hk e => by have := Kd.R_lt HS0.out.1 k e.symm; have := (Below.refl W0.heap.size W0).size; omega) (And.intro hyl hys0)))))
  have kv0 : K0 (Below w2.heap.size w2 V0) := ⟨HY0.out.2.2.1⟩
  have HM0 := Aside0.mk (HS0.out.2.1).size
  clear hRd hR hb hyl hlc hys0
  go_wp2_with (at_builtin; refine Kd.R_append_rows k37 (w0 := w2) w2.heap.size rfl (.tmp 20) (.tmp 27) 34 37 (.agg #[(.slice none 0 0), (.int .i64 0)]) 32 rfl Try.underlying34 info37 rfl (by decide) (by omega) (.slice (some ⟨w2.heap.size, 0, none⟩) 0 0) [] ys0 Ay0 ys0.length cy0 (fun _ => True) (fun k => W0.heap.size ≤ k) rfl rfl HY0.out.2.1 HY0.out.1 (fun x cs h => k37.M_lower HM0.out (k37.M_mono (fun k hk => hk.1.2.1) h)) (fun k hk => ⟨trivial, HY0.out.2.2.2.1 k hk⟩) (fun _ _ => trivial) HY0.out.2.2.1 HY0.out.2.2.1.size (by have := HS0.out.2.2; have := HY0.out.2.2.2.2.1; omega) ?_; intro v1' W1 ho hb hg hat; obtain ⟨A1, m1, c1', rfl⟩ : ∃ A m c, v1' = .slice A m c := (by obtain ⟨A, c, h⟩ := Kd.R_slice ho; exact ⟨_, _, _, h⟩); have HS1 := Aside0.mk (And.intro ho (And.intro hb (show ([] ++ ys0).length ≤ 1000 from by rw [List.length_append]; have := HS0.out.2.2; have := HY0.out.2.2.2.2.1; omega))); have k1 : K0 (Below w2.heap.size w2 W1) := ⟨hb⟩; clear ho hb hg hat)
  refine (genS_call p wp (by have := HL.out; omega) seen first (HA.out.2.2.2.2.1) (by have := HL.out; omega) B0 q0 W1 (Kd.C_below HKd.out.1.2 HS1.out.2.1) HKd.out.1.1).mono ?_
  rintro ex Wg ⟨vg, rfl, hR, hbg⟩
  obtain ⟨Ag, cg, rfl, hlg, hCg⟩ := Kd.R_reads hR
  have HG := Aside0.mk (And.intro hbg (And.intro hlg (And.intro hCg (genT_le p seen first))))
  have kg : K0 (Below w2.heap.size w2 Wg) := ⟨HS1.out.2.1.trans (hbg.mono HS1.out.2.1.size)⟩
  clear hR hbg hlg hCg
  go_wp2_with fail
  refine (cat_call [before, genT p seen first] (by simp) (by have := HG.out.2.2.2; have := HA.out; have := HL.out; simp; omega) (some ⟨Wg.heap.size, 0, none⟩) 2 _ (two_rows Ab Ag cb cg before (genT p seen first) 35 (Kd.C_below HBf.out kg.out) HA.out.2.1 HG.out.2.2.1 HG.out.2.1) (Nat.le_refl _)).mono ?_
  rw [show [before, genT p seen first].flatten = before ++ genT p seen first from by simp]
  obtain ⟨mo, hmo⟩ : ∃ mo, before ++ genT p seen first = mo := ⟨_, rfl⟩
  rw [hmo]
  rintro ex Wc ⟨vc, rfl, hR, hbc⟩
  have HQm := Aside0.mk hmo
  obtain ⟨Am, cm, rfl, hlm, hCm⟩ := Kd.R_reads hR
  have hb1 : Below W1.heap.size W1 Wc := (HG.out.1.trans ((Below.alloc (Below.refl Wg.heap.size Wg) (Nat.le_refl _) (.cells #[.slice Ab before.length cb, .slice Ag (genT p seen first).length cg] 35)).mono HG.out.1.size)).trans (hbc.mono (by have := HG.out.1.size; rw [sz_al]; omega))
  have HS2 := Aside0.mk (And.intro (Kd.R_below HS1.out.1 hb1) (And.intro (HS1.out.2.1.trans (hb1.mono HS1.out.2.1.size)) HS1.out.2.2))
  have HMo := Aside0.mk (And.intro hlm (And.intro hCm (show mo.length ≤ before.length + 3 * (flatT p).length from by rw [← hmo, List.length_append]; have := HG.out.2.2.2; omega)))
  have k2 : K0 (Below w2.heap.size w2 Wc) := ⟨HS2.out.2.1⟩
  clear hR hbc hb1 hlm hCm hmo
  cases seen
  · go_upto_region 7 with (fail)
    have kd : K0 (Below w2.heap.size w2 Wc.drew) := ⟨below_drew1 HS2.out.2.1⟩
    refine sq_region (S := fun W' => K0 (Below w2.heap.size w2 W')) [(0, false), (1, false), (2, false), (3, false), (4, false), (5, false), (6, false), (7, false), (8, false), (9, false), (12, false), (13, false), (14, false), (15, false), (10, true), (11, false), (16, true), (17, false), (18, true), (19, true), (20, false)] (by kernel_rfl) (by kernel_rfl) kd (fun hS => ?_)
    repeat (first | (refine sq_n ?_ ?_ rfl ?_ ?_ ?_; rotate_left 2; (intro W hW; go_simp; first | done | with_reducible rfl); (simp only [List.setIfInBounds_toArray, List.set_cons_zero, List.set_cons_succ]; try rfl)) | (refine sq_g ?_ ?_ rfl rfl rfl ?_ ?_ ?_; rotate_left 2; (intro W hW; go_simp; first | done | with_reducible rfl); (simp only [List.setIfInBounds_toArray, List.set_cons_zero, List.set_cons_succ]; try rfl)) | (refine sq_f ?_ rfl rfl rfl ?_ ?_; rotate_left; (simp only [List.setIfInBounds_toArray, List.set_cons_zero, List.set_cons_succ]; try rfl)) | (refine sq_u ?_ rfl rfl rfl ?_ ?_; rotate_left; (simp only [List.setIfInBounds_toArray, List.set_cons_zero, List.set_cons_succ]; try rfl)))
    refine sq_1g rfl rfl rfl (fun hS K0' hK0 => ?_)
    go_simp
    go_at_call 59
    refine (passes_call p wp (by have := HL.out; omega) B0 q0 Wc.drew (Kd.C_below HKd.out.1.2 kd.out) HKd.out.1.1).mono ?_
    rintro ex U0 ⟨rfl, hb⟩
    have hu0 : Below Wc.heap.size Wc U0 := (below_drew1 (Below.refl Wc.heap.size Wc)).trans hb
    have HU0 := Aside0.mk hu0
    have ku0 : K0 (Below w2.heap.size w2 U0) := ⟨HS2.out.2.1.trans (hu0.mono HS2.out.2.1.size)⟩
    clear hu0 hb
    refine hK0.out _ _ ku0 (fun hS => ?_)
    repeat (first | (refine sq_n ?_ ?_ rfl ?_ ?_ ?_; rotate_left 2; (intro W hW; go_simp; first | done | with_reducible rfl); (simp only [List.setIfInBounds_toArray, List.set_cons_zero, List.set_cons_succ]; try rfl)) | (refine sq_g ?_ ?_ rfl rfl rfl ?_ ?_ ?_; rotate_left 2; (intro W hW; go_simp; first | done | with_reducible rfl); (simp only [List.setIfInBounds_toArray, List.set_cons_zero, List.set_cons_succ]; try rfl)) | (refine sq_f ?_ rfl rfl rfl ?_ ?_; rotate_left; (simp only [List.setIfInBounds_toArray, List.set_cons_zero, List.set_cons_succ]; try rfl)) | (refine sq_u ?_ rfl rfl rfl ?_ ?_; rotate_left; (simp only [List.setIfInBounds_toArray, List.set_cons_zero, List.set_cons_succ]; try rfl)))
    refine sq_1n rfl (fun hS K1 hK1 => ?_)
    go_simp
    go_at_call 60
    refine (ifs_call p (by have := HL.out; omega) B0 q0 U0 (Kd.C_below HKd.out.1.2 ku0.out) HKd.out.1.1).mono ?_
    rintro ex U1 ⟨rfl, hb⟩
    have hu : Below Wc.heap.size Wc U1 := HU0.out.trans (hb.mono HU0.out.size)
    have HU := Aside0.mk hu
    have ku : K0 (Below w2.heap.size w2 U1) := ⟨HS2.out.2.1.trans (hu.mono HS2.out.2.1.size)⟩
    clear hu hb
    refine hK1.out _ _ ku (fun hS => ?_)
    repeat (first | (refine sq_n ?_ ?_ rfl ?_ ?_ ?_; rotate_left 2; (intro W hW; go_simp; first | done | with_reducible rfl); (simp only [List.setIfInBounds_toArray, List.set_cons_zero, List.set_cons_succ]; try rfl)) | (refine sq_g ?_ ?_ rfl rfl rfl ?_ ?_ ?_; rotate_left 2; (intro W hW; go_simp; first | done | with_reducible rfl); (simp only [List.setIfInBounds_toArray, List.set_cons_zero, List.set_cons_succ]; try rfl)) | (refine sq_f ?_ rfl rfl rfl ?_ ?_; rotate_left; (simp only [List.setIfInBounds_toArray, List.set_cons_zero, List.set_cons_succ]; try rfl)) | (refine sq_u ?_ rfl rfl rfl ?_ ?_; rotate_left; (simp only [List.setIfInBounds_toArray, List.set_cons_zero, List.set_cons_succ]; try rfl)))
    refine sq_1n rfl (fun hS K2 hK2 => ?_)
    go_simp
    go_at_call 27
    refine (HC1.out B1 q1 Am cm mo (false || passT p) (first + ifsT p) U1 (Kd.C_below HKd.out.2.2 ku.out) HKd.out.2.1 (Kd.C_below HMo.out.2.1 HU.out) (HMo.out.1) (by have := HMo.out.2.2; have := HL.out; omega) (by have := HL.out; omega) (by have := HA.out; have := HI.out; omega) (by have := HL.out; have := HA.out; have := HI.out; omega) (HQm.out ▸ tgt_app HA.out.2.2.2.2.2.2 wp (by have := HL.out; omega))).mono ?_
    obtain ⟨ys2, hys2⟩ : ∃ ys, condT q mo (false || passT p) (first + ifsT p) = ys := ⟨_, rfl⟩
    rw [hys2]
    rintro ex V2 ⟨v2, rfl, hR, hb⟩
    have hyl : ys2.length ≤ 1000 := by
      have h1 := HD1.out mo (false || passT p) (first + ifsT p)
      rw [hys2] at h1
      have := HL.out; have := HI.out; omega
    obtain ⟨Ay2, cy2, rfl, hlc, hRd⟩ := OwnRow.reads (Kd.R_bound hR).2
    have HY2 := Aside0.mk (And.intro hRd (And.intro (Kd.R_below HS2.out.1 (HU.out.trans (hb.mono (HU.out).size))) (And.intro (ku.out.trans (hb.mono ku.out.size)) (And.intro (show ∀ k, U1.heap.size ≤ k → some k ≠ Value.ownBlock (.slice A1 m1 c1') from fun k hk e => by have := Kd.R_lt HS2.out.1 k e.symm; have := (HU.out).size; omega) (And.intro hyl hys2)))))
    have kv2 : K0 (Below w2.heap.size w2 V2) := ⟨HY2.out.2.2.1⟩
    have HM2 := Aside0.mk (ku.out).size
    clear hRd hR hb hyl hlc hys2
    refine hK2.out _ _ kv2 (fun hS => ?_)
    refine sq_1n rfl (fun hS K3 hK3 => ?_)
    refine Eq.mp (if_pos yes_n) (Kd.R_append_rows_step (ops := #[]) (Kc := K3) k37 (w0 := w2) w2.heap.size yes_n (.tmp 38) (.tmp 56) 34 37 (.agg #[(.slice none 0 0), (.int .i64 0)]) 32 rfl Try.underlying34 info37 rfl (by decide) (by omega) (.slice A1 m1 c1') ([] ++ ys0) ys2 Ay2 ys2.length cy2 (fun _ => True) (fun k => U1.heap.size ≤ k) rfl rfl HY2.out.2.1 HY2.out.1 (fun x cs h => k37.M_lower HM2.out (k37.M_mono (fun k hk => hk.1.2.1) h)) (fun k hk => ⟨trivial, HY2.out.2.2.2.1 k hk⟩) (fun _ _ => trivial) HY2.out.2.2.1 HY2.out.2.2.1.size (by have := HS2.out.2.2; have := HY2.out.2.2.2.2.1; omega) ?_)
    intro v3' W3 ho hb hg hat
    obtain ⟨A3, m3, c3', rfl⟩ : ∃ A m c, v3' = .slice A m c := (by obtain ⟨A, c, h⟩ := Kd.R_slice ho; exact ⟨_, _, _, h⟩)
    have HS3 := Aside0.mk (And.intro ho (And.intro hb (show (([] ++ ys0) ++ ys2).length ≤ 3000 from by rw [List.length_append]; have := HS2.out.2.2; have := HY2.out.2.2.2.2.1; omega)))
    have k3 : K0 (Below w2.heap.size w2 W3) := ⟨hb⟩
    clear ho hb hg hat
    refine hK3.out _ _ k3 (fun hS => ?_)
    repeat (first | (refine sq_n ?_ ?_ rfl ?_ ?_ ?_; rotate_left 2; (intro W hW; go_simp; first | done | with_reducible rfl); (simp only [List.setIfInBounds_toArray, List.set_cons_zero, List.set_cons_succ]; try rfl)) | (refine sq_g ?_ ?_ rfl rfl rfl ?_ ?_ ?_; rotate_left 2; (intro W hW; go_simp; first | done | with_reducible rfl); (simp only [List.setIfInBounds_toArray, List.set_cons_zero, List.set_cons_succ]; try rfl)) | (refine sq_f ?_ rfl rfl rfl ?_ ?_; rotate_left; (simp only [List.setIfInBounds_toArray, List.set_cons_zero, List.set_cons_succ]; try rfl)) | (refine sq_u ?_ rfl rfl rfl ?_ ?_; rotate_left; (simp only [List.setIfInBounds_toArray, List.set_cons_zero, List.set_cons_succ]; try rfl)))
    refine sq_done (fun hS => ?_)
    go_wp2_with fail
    go_ret
    refine ⟨_, rfl, ?_, HB2.out.trans (HS3.out.2.1.mono HB2.out.size)⟩
    have h := Kd.R_lower HS3.out.1 HB2.out.size
    rw [← HY0.out.2.2.2.2.2, ← HY2.out.2.2.2.2.2, List.nil_append, ← HQm.out] at h
    simp only [condT, condTs, condN, if_pos h14]
    exact h
  · go_upto_region 7 with (fail)
    have kd : K0 (Below w2.heap.size w2 Wc.drew) := ⟨below_drew1 HS2.out.2.1⟩
    refine sq_region (S := fun W' => K0 (Below w2.heap.size w2 W')) [(0, false), (1, false), (2, false), (3, false), (4, false), (5, false), (6, false), (7, false), (8, false), (9, false), (12, false), (13, false), (14, false), (15, false), (10, true), (11, false), (16, true), (17, false), (18, true), (19, true), (20, false)] (by kernel_rfl) (by kernel_rfl) kd (fun hS => ?_)
    repeat (first | (refine sq_n ?_ ?_ rfl ?_ ?_ ?_; rotate_left 2; (intro W hW; go_simp; first | done | with_reducible rfl); (simp only [List.setIfInBounds_toArray, List.set_cons_zero, List.set_cons_succ]; try rfl)) | (refine sq_g ?_ ?_ rfl rfl rfl ?_ ?_ ?_; rotate_left 2; (intro W hW; go_simp; first | done | with_reducible rfl); (simp only [List.setIfInBounds_toArray, List.set_cons_zero, List.set_cons_succ]; try rfl)) | (refine sq_f ?_ rfl rfl rfl ?_ ?_; rotate_left; (simp only [List.setIfInBounds_toArray, List.set_cons_zero, List.set_cons_succ]; try rfl)) | (refine sq_u ?_ rfl rfl rfl ?_ ?_; rotate_left; (simp only [List.setIfInBounds_toArray, List.set_cons_zero, List.set_cons_succ]; try rfl)))
    refine sq_1n rfl (fun hS K1 hK1 => ?_)
    go_simp
    go_at_call 60
    refine (ifs_call p (by have := HL.out; omega) B0 q0 Wc.drew (Kd.C_below HKd.out.1.2 kd.out) HKd.out.1.1).mono ?_
    rintro ex U1 ⟨rfl, hb⟩
    have hu : Below Wc.heap.size Wc U1 := (below_drew1 (Below.refl Wc.heap.size Wc)).trans hb
    have HU := Aside0.mk hu
    have ku : K0 (Below w2.heap.size w2 U1) := ⟨HS2.out.2.1.trans (hu.mono HS2.out.2.1.size)⟩
    clear hu hb
    refine hK1.out _ _ ku (fun hS => ?_)
    repeat (first | (refine sq_n ?_ ?_ rfl ?_ ?_ ?_; rotate_left 2; (intro W hW; go_simp; first | done | with_reducible rfl); (simp only [List.setIfInBounds_toArray, List.set_cons_zero, List.set_cons_succ]; try rfl)) | (refine sq_g ?_ ?_ rfl rfl rfl ?_ ?_ ?_; rotate_left 2; (intro W hW; go_simp; first | done | with_reducible rfl); (simp only [List.setIfInBounds_toArray, List.set_cons_zero, List.set_cons_succ]; try rfl)) | (refine sq_f ?_ rfl rfl rfl ?_ ?_; rotate_left; (simp only [List.setIfInBounds_toArray, List.set_cons_zero, List.set_cons_succ]; try rfl)) | (refine sq_u ?_ rfl rfl rfl ?_ ?_; rotate_left; (simp only [List.setIfInBounds_toArray, List.set_cons_zero, List.set_cons_succ]; try rfl)))
    refine sq_1n rfl (fun hS K2 hK2 => ?_)
    go_simp
    go_at_call 27
    refine (HC1.out B1 q1 Am cm mo (true || passT p) (first + ifsT p) U1 (Kd.C_below HKd.out.2.2 ku.out) HKd.out.2.1 (Kd.C_below HMo.out.2.1 HU.out) (HMo.out.1) (by have := HMo.out.2.2; have := HL.out; omega) (by have := HL.out; omega) (by have := HA.out; have := HI.out; omega) (by have := HL.out; have := HA.out; have := HI.out; omega) (HQm.out ▸ tgt_app HA.out.2.2.2.2.2.2 wp (by have := HL.out; omega))).mono ?_
    obtain ⟨ys2, hys2⟩ : ∃ ys, condT q mo (true || passT p) (first + ifsT p) = ys := ⟨_, rfl⟩
    rw [hys2]
    rintro ex V2 ⟨v2, rfl, hR, hb⟩
    have hyl : ys2.length ≤ 1000 := by
      have h1 := HD1.out mo (true || passT p) (first + ifsT p)
      rw [hys2] at h1
      have := HL.out; have := HI.out; omega
    obtain ⟨Ay2, cy2, rfl, hlc, hRd⟩ := OwnRow.reads (Kd.R_bound hR).2
    have HY2 := Aside0.mk (And.intro hRd (And.intro (Kd.R_below HS2.out.1 (HU.out.trans (hb.mono (HU.out).size))) (And.intro (ku.out.trans (hb.mono ku.out.size)) (And.intro (show ∀ k, U1.heap.size ≤ k → some k ≠ Value.ownBlock (.slice A1 m1 c1') from fun k hk e => by have := Kd.R_lt HS2.out.1 k e.symm; have := (HU.out).size; omega) (And.intro hyl hys2)))))
    have kv2 : K0 (Below w2.heap.size w2 V2) := ⟨HY2.out.2.2.1⟩
    have HM2 := Aside0.mk (ku.out).size
    clear hRd hR hb hyl hlc hys2
    refine hK2.out _ _ kv2 (fun hS => ?_)
    refine sq_1n rfl (fun hS K3 hK3 => ?_)
    refine Eq.mp (if_pos yes_n) (Kd.R_append_rows_step (ops := #[]) (Kc := K3) k37 (w0 := w2) w2.heap.size yes_n (.tmp 38) (.tmp 56) 34 37 (.agg #[(.slice none 0 0), (.int .i64 0)]) 32 rfl Try.underlying34 info37 rfl (by decide) (by omega) (.slice A1 m1 c1') ([] ++ ys0) ys2 Ay2 ys2.length cy2 (fun _ => True) (fun k => U1.heap.size ≤ k) rfl rfl HY2.out.2.1 HY2.out.1 (fun x cs h => k37.M_lower HM2.out (k37.M_mono (fun k hk => hk.1.2.1) h)) (fun k hk => ⟨trivial, HY2.out.2.2.2.1 k hk⟩) (fun _ _ => trivial) HY2.out.2.2.1 HY2.out.2.2.1.size (by have := HS2.out.2.2; have := HY2.out.2.2.2.2.1; omega) ?_)
    intro v3' W3 ho hb hg hat
    obtain ⟨A3, m3, c3', rfl⟩ : ∃ A m c, v3' = .slice A m c := (by obtain ⟨A, c, h⟩ := Kd.R_slice ho; exact ⟨_, _, _, h⟩)
    have HS3 := Aside0.mk (And.intro ho (And.intro hb (show (([] ++ ys0) ++ ys2).length ≤ 3000 from by rw [List.length_append]; have := HS2.out.2.2; have := HY2.out.2.2.2.2.1; omega)))
    have k3 : K0 (Below w2.heap.size w2 W3) := ⟨hb⟩
    clear ho hb hg hat
    refine hK3.out _ _ k3 (fun hS => ?_)
    repeat (first | (refine sq_n ?_ ?_ rfl ?_ ?_ ?_; rotate_left 2; (intro W hW; go_simp; first | done | with_reducible rfl); (simp only [List.setIfInBounds_toArray, List.set_cons_zero, List.set_cons_succ]; try rfl)) | (refine sq_g ?_ ?_ rfl rfl rfl ?_ ?_ ?_; rotate_left 2; (intro W hW; go_simp; first | done | with_reducible rfl); (simp only [List.setIfInBounds_toArray, List.set_cons_zero, List.set_cons_succ]; try rfl)) | (refine sq_f ?_ rfl rfl rfl ?_ ?_; rotate_left; (simp only [List.setIfInBounds_toArray, List.set_cons_zero, List.set_cons_succ]; try rfl)) | (refine sq_u ?_ rfl rfl rfl ?_ ?_; rotate_left; (simp only [List.setIfInBounds_toArray, List.set_cons_zero, List.set_cons_succ]; try rfl)))
    refine sq_done (fun hS => ?_)
    go_wp2_with fail
    go_ret
    refine ⟨_, rfl, ?_, HB2.out.trans (HS3.out.2.1.mono HB2.out.size)⟩
    have h := Kd.R_lower HS3.out.1 HB2.out.size
    rw [← HY0.out.2.2.2.2.2, ← HY2.out.2.2.2.2.2, List.nil_append, ← HQm.out] at h
    simp only [condT, condTs, condN, if_pos h14]
    exact h
end Go.Proofs.Ytpfehkkfakofaaa.Q

namespace Go.Proofs.Ytpfehkkfakofaaa.Q
open Go.RowKit Go.Proofs.YtpfehkkfakofaaaW.PrintWords Go.Proofs.YtpfehkkfakofaaaW.PrintLast Go.Proofs.YtpfehkkfakofaaaW.PrintMore
set_option linter.unusedVariables false
set_option linter.unusedSimpArgs false
set_option maxHeartbeats 4000000 in
set_option maxRecDepth 100000 in
theorem con_if (n : S63) (z p q : Tr) (h16 : n.f0 = 16) (hw : wfT (.node n [z, p, q])) (wz : wfT z) (wp : wfT p) (wq : wfT q) (hz : ConP z) (hp : ConP p) (hq : ConP q) : ConP (.node n [z, p, q]) := by
  intro A c Ab cb before seen first w hr hc hrb hcb hl hl2 hf0 hf1 hbt
  have kr : K0 (Below w.heap.size w w) := ⟨Below.refl _ _⟩
  have HK := Aside0.mk (kidsC n [z, p, q] hw (by omega) A c w hr hc)
  have HT := Aside0.mk (And.intro hr (And.intro hc hl2))
  have HA := Aside0.mk (And.intro hrb (And.intro hcb (And.intro hl (And.intro hl2 (And.intro hf0 (And.intro hf1 hbt))))))
  simp only [flatT, flatTs, List.length_append, List.length_cons, List.length_nil] at hl hl2 hf1
  have HL := Aside0.mk (And.intro hl (And.intro hl2 hf1))
  have HI := Aside0.mk (And.intro (ifsT_le z) (And.intro (ifsT_le p) (ifsT_le q)))
  have HC0 := Aside0.mk hz
  have HC1 := Aside0.mk hp
  have HC2 := Aside0.mk hq
  have HD0 := Aside0.mk (condT_len _ z (Nat.le_refl _) wz)
  have HD1 := Aside0.mk (condT_len _ p (Nat.le_refl _) wp)
  have HD2 := Aside0.mk (condT_len _ q (Nat.le_refl _) wq)
  have hwf0 : IntKind.i64.wrap (first + ifsT z) = first + ifsT z := by have := HI.out; rw [IntKind.wrap_i64]; omega
  have hwf1 : IntKind.i64.wrap (first + ifsT z + 1) = first + ifsT z + 1 := by have := HI.out; rw [IntKind.wrap_i64]; omega
  have hwf2 : IntKind.i64.wrap (first + ifsT z + 1 + ifsT p) = first + ifsT z + 1 + ifsT p := by have := HI.out; rw [IntKind.wrap_i64]; omega
  clear hz hp hq
  clear hr hc hrb hcb hl hl2 hf0 hf1 hbt
  go_enter Try.func27, Try.ntmps27
  go_wp2_with fail
  refine HK.out.mono ?_
  rintro ex w2 ⟨A2, c2, rfl, hks, hb⟩
  have k2 : K0 (Below w.heap.size w w2) := ⟨hb⟩
  have HB2 := Aside0.mk hb
  obtain ⟨g, B0, q0, rfl, y0, l0, C0⟩ := hks 0 z rfl
  have y0 := clk y0
  obtain ⟨g', B1, q1, he, y1, l1, C1⟩ := hks 1 p rfl
  cases he
  have y1 := clk y1
  obtain ⟨g', B2, q2, he, y2, l2, C2⟩ := hks 2 q rfl
  cases he
  have y2 := clk y2
  have HKd := Aside0.mk (And.intro (And.intro l0 C0) (And.intro (And.intro l1 C1) (And.intro l2 C2)))
  clear l0 C0 l1 C1 l2 C2
  have HBf := Aside0.mk (Kd.C_below HA.out.1 hb)
  clear hb hks HK
  go_wp2_with fail
  refine (top_call (.node n [z, p, q]) (by have := HT.out; omega) A c (w2.alloc (.cells #[] 37)) (Kd.C_below HT.out.1 (Below.alloc HB2.out HB2.out.size _)) HT.out.2.1).mono ?_
  rintro ex W0 ⟨rfl, hb⟩
  rw [show Tr.top (.node n [z, p, q]) = n from rfl, h16]
  have HS0 := Aside0.mk (And.intro (empty_row hb) (And.intro ((Below.alloc (Below.refl w2.heap.size w2) (Nat.le_refl _) _).trans (hb.mono (by rw [sz_al]; omega))) (show ([] : List S37).length ≤ 0 from Nat.le_refl _)))
  have k0 : K0 (Below w2.heap.size w2 W0) := ⟨HS0.out.2.1⟩
  clear hb
  go_wp2_with fail
  refine (HC0.out B0 q0 Ab cb before seen (first) W0 (Kd.C_below HKd.out.1.2 HS0.out.2.1) HKd.out.1.1 (Kd.C_below HBf.out HS0.out.2.1) (HA.out.2.1) (by have := HL.out; have := HA.out; omega) (by have := HL.out; omega) (by have := HA.out; have := HI.out; omega) (by have := HL.out; have := HA.out; have := HI.out; omega) (HA.out.2.2.2.2.2.2)).mono ?_
  obtain ⟨ys0, hys0⟩ : ∃ ys, condT z before seen first = ys := ⟨_, rfl⟩
  rw [hys0]
  rintro ex V0 ⟨v0, rfl, hR, hb⟩
  have hyl : ys0.length ≤ 1000 := by
    have h1 := HD0.out before seen first
    rw [hys0] at h1
    have := HL.out; have := HI.out; omega
  obtain ⟨Ay0, cy0, rfl, hlc, hRd⟩ := OwnRow.reads (Kd.R_bound hR).2
  have HY0 := Aside0.mk (And.intro hRd (And.intro (Kd.R_below HS0.out.1 (hb)) (And.intro (HS0.out.2.1.trans (hb.mono HS0.out.2.1.size)) (And.intro (show ∀ k, W0.heap.size ≤ k → some k ≠ Value.ownBlock (.slice (some ⟨w2.heap.size, 0, none⟩) 0 0) from fun k hk e => by have := Kd.R_lt HS0.out.1 k e.symm; have := (Below.refl W0.heap.size W0).size; omega) (And.intro hyl hys0)))))
  have kv0 : K0 (Below w2.heap.size w2 V0) := ⟨HY0.out.2.2.1⟩
  have HM0 := Aside0.mk (HS0.out.2.1).size
  clear hRd hR hb hyl hlc hys0
  go_wp2_with (at_builtin; refine Kd.R_append_rows k37 (w0 := w2) w2.heap.size rfl (.tmp 85) (.tmp 92) 34 37 (.agg #[(.slice none 0 0), (.int .i64 0)]) 32 rfl Try.underlying34 info37 rfl (by decide) (by omega) (.slice (some ⟨w2.heap.size, 0, none⟩) 0 0) [] ys0 Ay0 ys0.length cy0 (fun _ => True) (fun k => W0.heap.size ≤ k) rfl rfl HY0.out.2.1 HY0.out.1 (fun x cs h => k37.M_lower HM0.out (k37.M_mono (fun k hk => hk.1.2.1) h)) (fun k hk => ⟨trivial, HY0.out.2.2.2.1 k hk⟩) (fun _ _ => trivial) HY0.out.2.2.1 HY0.out.2.2.1.size (by have := HS0.out.2.2; have := HY0.out.2.2.2.2.1; omega) ?_; intro v1' W1 ho hb hg hat; obtain ⟨A1, m1, c1', rfl⟩ : ∃ A m c, v1' = .slice A m c := (by obtain ⟨A, c, h⟩ := Kd.R_slice ho; exact ⟨_, _, _, h⟩); have HS1 := Aside0.mk (And.intro ho (And.intro hb (show ([] ++ ys0).length ≤ 1000 from by rw [List.length_append]; have := HS0.out.2.2; have := HY0.out.2.2.2.2.1; omega))); have k1 : K0 (Below w2.heap.size w2 W1) := ⟨hb⟩; clear ho hb hg hat)
  refine (genS_call z wz (by have := HL.out; omega) seen first (HA.out.2.2.2.2.1) (by have := HL.out; omega) B0 q0 W1 (Kd.C_below HKd.out.1.2 HS1.out.2.1) HKd.out.1.1).mono ?_
  rintro ex Wg ⟨vg, rfl, hR, hbg⟩
  obtain ⟨Ag, cg, rfl, hlg, hCg⟩ := Kd.R_reads hR
  have HG := Aside0.mk (And.intro hbg (And.intro hlg (And.intro hCg (genT_le z seen first))))
  have kg : K0 (Below w2.heap.size w2 Wg) := ⟨HS1.out.2.1.trans (hbg.mono HS1.out.2.1.size)⟩
  clear hR hbg hlg hCg
  go_wp2_with fail
  refine (cat_call [before, genT z seen first] (by simp) (by have := HG.out.2.2.2; have := HA.out; have := HL.out; simp; omega) (some ⟨Wg.heap.size, 0, none⟩) 2 _ (two_rows Ab Ag cb cg before (genT z seen first) 35 (Kd.C_below HBf.out kg.out) HA.out.2.1 HG.out.2.2.1 HG.out.2.1) (Nat.le_refl _)).mono ?_
  rw [show [before, genT z seen first].flatten = before ++ genT z seen first from by simp]
  obtain ⟨mo, hmo⟩ : ∃ mo, before ++ genT z seen first = mo := ⟨_, rfl⟩
  rw [hmo]
  rintro ex Wc ⟨vc, rfl, hR, hbc⟩
  have HQm := Aside0.mk hmo
  obtain ⟨Am, cm, rfl, hlm, hCm⟩ := Kd.R_reads hR
  have hb1 : Below W1.heap.size W1 Wc := (HG.out.1.trans ((Below.alloc (Below.refl Wg.heap.size Wg) (Nat.le_refl _) (.cells #[.slice Ab before.length cb, .slice Ag (genT z seen first).length cg] 35)).mono HG.out.1.size)).trans (hbc.mono (by have := HG.out.1.size; rw [sz_al]; omega))
  have HS2 := Aside0.mk (And.intro (Kd.R_below HS1.out.1 hb1) (And.intro (HS1.out.2.1.trans (hb1.mono HS1.out.2.1.size)) HS1.out.2.2))
  have HMo := Aside0.mk (And.intro hlm (And.intro hCm (show mo.length ≤ before.length + 3 * (flatT z).length from by rw [← hmo, List.length_append]; have := HG.out.2.2.2; omega)))
  have k2 : K0 (Below w2.heap.size w2 Wc) := ⟨HS2.out.2.1⟩
  clear hR hbc hb1 hlm hCm hmo
  go_wp2_with fail
  refine (block_call mo Am cm Wc HMo.out.2.1 HMo.out.1 (by have := HMo.out.2.2; have := HL.out; omega) (HQm.out ▸ tgt_app HA.out.2.2.2.2.2.2 wz (by have := HL.out; omega))).mono ?_
  rintro ex Wb ⟨vb, rfl, hR, hb⟩
  obtain ⟨A3, q3, rfl⟩ := Kd.R_slice hR
  have HX := Aside0.mk (And.intro hb (And.intro (Kd.R_below HS2.out.1 hb) (And.intro (HS2.out.2.1.trans (hb.mono HS2.out.2.1.size)) (And.intro (Kd.R_lower (Kd.R_mono (ok' := fun k => Wc.heap.size ≤ k) (Kd.R_bound hR) (fun k hk => hk.2.1)) HS2.out.2.1.size) (show ∀ k, Wc.heap.size ≤ k → some k ≠ Value.ownBlock (.slice A1 m1 c1') from fun k hk e => by have := Kd.R_lt HS2.out.1 k e.symm; omega)))))
  have kx : K0 (Below w2.heap.size w2 Wb) := ⟨HX.out.2.2.1⟩
  clear hR hb
  go_wp2_with (at_builtin; refine Kd.R_append k37 (w0 := w2) w2.heap.size rfl (.tmp 94) (.tmp 105) 34 37 (.agg #[(.slice none 0 0), (.int .i64 0)]) 32 rfl Try.underlying34 info37 rfl (by decide) (by omega) (.slice A1 m1 c1') ([] ++ ys0) (blockI mo) [.slice A3 (putIs ([], 0) mo).1.length q3, .int .i64 (putIs ([], 0) mo).2] (fun _ => True) (fun k => Wc.heap.size ≤ k) rfl rfl (k37_mkM _ _ _ (blockI mo) HX.out.2.2.2.1) (fun k hk => ⟨trivial, HX.out.2.2.2.2 k hk⟩) (fun _ _ => trivial) HX.out.2.1 HX.out.2.2.1 HX.out.2.2.1.size (by have := HS2.out.2.2; omega) ?_; intro v3' W3 ho hb hg hat; obtain ⟨A3, m3, c3', rfl⟩ : ∃ A m c, v3' = .slice A m c := (by obtain ⟨A, c, h⟩ := Kd.R_slice ho; exact ⟨_, _, _, h⟩); have HS3 := Aside0.mk (And.intro ho (And.intro hb (show (([] ++ ys0) ++ [blockI mo]).length ≤ 2001 from by rw [List.length_append, List.length_singleton]; have := HS2.out.2.2; omega))); have k3 : K0 (Below w2.heap.size w2 W3) := ⟨hb⟩; clear ho hb hg hat)
  refine (ifs_call z (by have := HL.out; omega) B0 q0 W3 (Kd.C_below HKd.out.1.2 HS3.out.2.1) HKd.out.1.1).mono ?_
  rintro ex Wi ⟨rfl, hb⟩
  have HS4 := Aside0.mk (And.intro (Kd.R_below HS3.out.1 hb) (And.intro (HS3.out.2.1.trans (hb.mono HS3.out.2.1.size)) HS3.out.2.2))
  have k4 : K0 (Below w2.heap.size w2 Wi) := ⟨HS4.out.2.1⟩
  clear hb
  go_wp2_with fail
  refine (HC1.out B1 q1 Ab cb before seen (first + ifsT z + 1) Wi (Kd.C_below HKd.out.2.1.2 HS4.out.2.1) HKd.out.2.1.1 (Kd.C_below HBf.out HS4.out.2.1) (HA.out.2.1) (by have := HL.out; have := HA.out; omega) (by have := HL.out; omega) (by have := HA.out; have := HI.out; omega) (by have := HL.out; have := HA.out; have := HI.out; omega) (HA.out.2.2.2.2.2.2)).mono ?_
  obtain ⟨ys4, hys4⟩ : ∃ ys, condT p before seen (first + ifsT z + 1) = ys := ⟨_, rfl⟩
  rw [hys4]
  rintro ex V4 ⟨v4, rfl, hR, hb⟩
  have hyl : ys4.length ≤ 1000 := by
    have h1 := HD1.out before seen (first + ifsT z + 1)
    rw [hys4] at h1
    have := HL.out; have := HI.out; omega
  obtain ⟨Ay4, cy4, rfl, hlc, hRd⟩ := OwnRow.reads (Kd.R_bound hR).2
  have HY4 := Aside0.mk (And.intro hRd (And.intro (Kd.R_below HS4.out.1 (hb)) (And.intro (HS4.out.2.1.trans (hb.mono HS4.out.2.1.size)) (And.intro (show ∀ k, Wi.heap.size ≤ k → some k ≠ Value.ownBlock (.slice A3 m3 c3') from fun k hk e => by have := Kd.R_lt HS4.out.1 k e.symm; have := (Below.refl Wi.heap.size Wi).size; omega) (And.intro hyl hys4)))))
  have kv4 : K0 (Below w2.heap.size w2 V4) := ⟨HY4.out.2.2.1⟩
  have HM4 := Aside0.mk (HS4.out.2.1).size
  clear hRd hR hb hyl hlc hys4
  go_wp2_with (at_builtin; refine Kd.R_append_rows k37 (w0 := w2) w2.heap.size rfl (.tmp 113) (.tmp 121) 34 37 (.agg #[(.slice none 0 0), (.int .i64 0)]) 32 rfl Try.underlying34 info37 rfl (by decide) (by omega) (.slice A3 m3 c3') (([] ++ ys0) ++ [blockI mo]) ys4 Ay4 ys4.length cy4 (fun _ => True) (fun k => Wi.heap.size ≤ k) rfl rfl HY4.out.2.1 HY4.out.1 (fun x cs h => k37.M_lower HM4.out (k37.M_mono (fun k hk => hk.1.2.1) h)) (fun k hk => ⟨trivial, HY4.out.2.2.2.1 k hk⟩) (fun _ _ => trivial) HY4.out.2.2.1 HY4.out.2.2.1.size (by have := HS4.out.2.2; have := HY4.out.2.2.2.2.1; omega) ?_; intro v5' W5 ho hb hg hat; obtain ⟨A5, m5, c5', rfl⟩ : ∃ A m c, v5' = .slice A m c := (by obtain ⟨A, c, h⟩ := Kd.R_slice ho; exact ⟨_, _, _, h⟩); have HS5 := Aside0.mk (And.intro ho (And.intro hb (show ((([] ++ ys0) ++ [blockI mo]) ++ ys4).length ≤ 5000 from by rw [List.length_append]; have := HS4.out.2.2; have := HY4.out.2.2.2.2.1; omega))); have k5 : K0 (Below w2.heap.size w2 W5) := ⟨hb⟩; clear ho hb hg hat)
  go_upto_region 16 with (fail)
  have kd : K0 (Below w2.heap.size w2 W5.drew) := ⟨below_drew1 HS5.out.2.1⟩
  refine sq_region (S := fun W' => K0 (Below w2.heap.size w2 W')) [(0, false), (1, false), (2, false), (3, false), (4, false), (5, false), (6, false), (7, false), (8, false), (9, false), (10, false), (11, true), (12, false), (13, true), (14, true), (15, false)] (by kernel_rfl) (by kernel_rfl) kd (fun hS => ?_)
  repeat (refine sq_n ?_ ?_ rfl ?_ ?_ ?_; rotate_left 2; (intro W hW; go_simp; first | done | with_reducible rfl); (simp only [List.setIfInBounds_toArray, List.set_cons_zero, List.set_cons_succ]; try rfl))
  refine sq_1n rfl (fun hS K1 hK1 => ?_)
  go_simp
  go_at_call 60
  refine (ifs_call p (by have := HL.out; omega) B1 q1 W5.drew (Kd.C_below HKd.out.2.1.2 kd.out) HKd.out.2.1.1).mono ?_
  rintro ex U1 ⟨rfl, hb⟩
  have hu : Below W5.heap.size W5 U1 := (below_drew1 (Below.refl W5.heap.size W5)).trans hb
  have HU := Aside0.mk hu
  have ku : K0 (Below w2.heap.size w2 U1) := ⟨HS5.out.2.1.trans (hu.mono HS5.out.2.1.size)⟩
  clear hu hb
  refine hK1.out _ _ ku (fun hS => ?_)
  repeat (refine sq_n ?_ ?_ rfl ?_ ?_ ?_; rotate_left 2; (intro W hW; go_simp; first | done | with_reducible rfl); (simp only [List.setIfInBounds_toArray, List.set_cons_zero, List.set_cons_succ]; try rfl))
  refine sq_1n rfl (fun hS K2 hK2 => ?_)
  go_simp
  go_at_call 27
  refine (HC2.out B2 q2 Ab cb before seen (first + ifsT z + 1 + ifsT p) U1 (Kd.C_below HKd.out.2.2.2 ku.out) HKd.out.2.2.1 (Kd.C_below HBf.out ku.out) (HA.out.2.1) (by have := HL.out; have := HA.out; omega) (by have := HL.out; omega) (by have := HA.out; have := HI.out; omega) (by have := HL.out; have := HA.out; have := HI.out; omega) (HA.out.2.2.2.2.2.2)).mono ?_
  obtain ⟨ys5, hys5⟩ : ∃ ys, condT q before seen (first + ifsT z + 1 + ifsT p) = ys := ⟨_, rfl⟩
  rw [hys5]
  rintro ex V5 ⟨v5, rfl, hR, hb⟩
  have hyl : ys5.length ≤ 1000 := by
    have h1 := HD2.out before seen (first + ifsT z + 1 + ifsT p)
    rw [hys5] at h1
    have := HL.out; have := HI.out; omega
  obtain ⟨Ay5, cy5, rfl, hlc, hRd⟩ := OwnRow.reads (Kd.R_bound hR).2
  have HY5 := Aside0.mk (And.intro hRd (And.intro (Kd.R_below HS5.out.1 (HU.out.trans (hb.mono (HU.out).size))) (And.intro (ku.out.trans (hb.mono ku.out.size)) (And.intro (show ∀ k, U1.heap.size ≤ k → some k ≠ Value.ownBlock (.slice A5 m5 c5') from fun k hk e => by have := Kd.R_lt HS5.out.1 k e.symm; have := (HU.out).size; omega) (And.intro hyl hys5)))))
  have kv5 : K0 (Below w2.heap.size w2 V5) := ⟨HY5.out.2.2.1⟩
  have HM5 := Aside0.mk (ku.out).size
  clear hRd hR hb hyl hlc hys5
  refine hK2.out _ _ kv5 (fun hS => ?_)
  refine sq_1n rfl (fun hS K3 hK3 => ?_)
  refine Eq.mp (if_pos yes_n) (Kd.R_append_rows_step (ops := #[]) (Kc := K3) k37 (w0 := w2) w2.heap.size yes_n (.tmp 123) (.tmp 136) 34 37 (.agg #[(.slice none 0 0), (.int .i64 0)]) 32 rfl Try.underlying34 info37 rfl (by decide) (by omega) (.slice A5 m5 c5') ((([] ++ ys0) ++ [blockI mo]) ++ ys4) ys5 Ay5 ys5.length cy5 (fun _ => True) (fun k => U1.heap.size ≤ k) rfl rfl HY5.out.2.1 HY5.out.1 (fun x cs h => k37.M_lower HM5.out (k37.M_mono (fun k hk => hk.1.2.1) h)) (fun k hk => ⟨trivial, HY5.out.2.2.2.1 k hk⟩) (fun _ _ => trivial) HY5.out.2.2.1 HY5.out.2.2.1.size (by have := HS5.out.2.2; have := HY5.out.2.2.2.2.1; omega) ?_)
  intro v6' W6 ho hb hg hat
  obtain ⟨A6, m6, c6', rfl⟩ : ∃ A m c, v6' = .slice A m c := (by obtain ⟨A, c, h⟩ := Kd.R_slice ho; exact ⟨_, _, _, h⟩)
  have HS6 := Aside0.mk (And.intro ho (And.intro hb (show (((([] ++ ys0) ++ [blockI mo]) ++ ys4) ++ ys5).length ≤ 6000 from by rw [List.length_append]; have := HS5.out.2.2; have := HY5.out.2.2.2.2.1; omega)))
  have k6 : K0 (Below w2.heap.size w2 W6) := ⟨hb⟩
  clear ho hb hg hat
  refine hK3.out _ _ k6 (fun hS => ?_)
  repeat (refine sq_n ?_ ?_ rfl ?_ ?_ ?_; rotate_left 2; (intro W hW; go_simp; first | done | with_reducible rfl); (simp only [List.setIfInBounds_toArray, List.set_cons_zero, List.set_cons_succ]; try rfl))
  refine sq_done (fun hS => ?_)
  go_wp2_with fail
  go_ret
  refine ⟨_, rfl, ?_, HB2.out.trans (HS6.out.2.1.mono HB2.out.size)⟩
  have h := Kd.R_lower HS6.out.1 HB2.out.size
  rw [← HY0.out.2.2.2.2.2, ← HY4.out.2.2.2.2.2, ← HY5.out.2.2.2.2.2, List.nil_append, ← HQm.out] at h
  simp only [condT, condTs, condN]
  exact h
theorem con_all : ∀ (N : Nat) (t : Tr), (flatT t).length ≤ N → wfT t → ConP t
  | 0, t, hl, hw => absurd (List.eq_nil_of_length_eq_zero (by omega)) (flatT_ne t)
  | N + 1, .node n ks, hl, hw => by
    rcases wf_ar hw with ⟨rfl, g1, g2, g3⟩ | ⟨p, q, rfl, wp, wq, h⟩ | ⟨z, p, q, rfl, wz, wp, wq, h⟩
    · exact con_leaf n g1 g2 g3 hw
    · simp only [flatT, flatTs, List.length_append, List.length_cons, List.length_nil] at hl
      have hp := con_all N p (by omega) wp
      have hq := con_all N q (by omega) wq
      rcases h with h | h
      · exact con_chain n p q h hw wp wq hp hq
      · exact con_inter n p q h hw wp wq hp hq
    · simp only [flatT, flatTs, List.length_append, List.length_cons, List.length_nil] at hl
      exact con_if n z p q h hw wz wp wq (con_all N z (by omega) wz) (con_all N p (by omega) wp) (con_all N q (by omega) wq)
theorem conds_call (t : Tr) (hw : wfT t) : ConP t := con_all _ t (Nat.le_refl _) hw
end Go.Proofs.Ytpfehkkfakofaaa.Q

namespace Go.Proofs.Ytpfehkkfakofaaa.Q
open Go.RowKit Go.Proofs.YtpfehkkfakofaaaW.PrintWords Go.Proofs.YtpfehkkfakofaaaW.PrintLast Go.Proofs.YtpfehkkfakofaaaW.PrintMore
set_option linter.unusedVariables false
set_option linter.unusedSimpArgs false
set_option maxHeartbeats 4000000 in
set_option maxRecDepth 100000 in
theorem compile_spec (A : Option Addr) (c : Nat) (ns : List S63) (w : World) (hr : Kd.C k63 w A ns.length ns) (hc : ns.length ≤ c) :
    Calls Try.prog 12 #[.agg #[.slice A ns.length c]] w fun e w' => ∃ v0 v1, e = .returned (.agg #[v0, v1, .int .i64 (codeOf ns).2.2]) ∧ Kd.R k37 37 w' w.heap.size (fun _ => True) v0 (codeOf ns).1 ∧ Kd.R k92 92 w' w.heap.size (fun _ => True) v1 (codeOf ns).2.1 ∧ Below w.heap.size w w' := by
  have kr : K0 (Below w.heap.size w w) := ⟨Below.refl _ _⟩
  obtain ⟨wb, hwb⟩ : ∃ wb, wb = (w.alloc (.cells #[.slice A ns.length c] 28)).alloc (.cells #[.slice none 0 0, .slice none 0 0, .int .i64 0] 39) := ⟨_, rfl⟩
  have hb0 : Below w.heap.size w wb := hwb ▸ kk
  have hsz : wb.heap.size = w.heap.size + 2 := by rw [hwb, sz_al, sz_al]
  have h1 : wb.heap[w.heap.size]? = some (.cells #[.slice A ns.length c] 28 (0, 0)) := hwb ▸ blk_alloc (heap_alloc_new w _) _
  have h2 : wb.heap[w.heap.size + 1]? = some (.cells #[.slice none 0 0, .slice none 0 0, .int .i64 0] 39 (0, 0)) := hwb ▸ new1 w _ _
  have hcw := Kd.C_below hr hb0
  have c1 : wb.cell? ⟨w.heap.size, 0, none⟩ = some (.slice A ns.length c) := (blk_cell h1 0).trans rfl
  have H := Aside0.mk (And.intro hb0 (And.intro hsz (And.intro h2 (And.intro h1 hcw))))
  have HC := Aside0.mk hc
  obtain ⟨K, hK⟩ := spec_filter_is ns
  have HV := Aside0.mk (spec_ValidFilter.calls K A c ns (validT ns).isSome wb hcw hc (hK K (Nat.le_refl _)))
  clear hb0 hsz h1 h2 hcw hr hc hK
  go_enter Try.func12, Try.ntmps12
  go_wp2_with fail
  rw [← hwb]
  clear hwb
  refine HV.out.mono ?_
  rintro ex W1 ⟨rfl, hb⟩
  have hb1 : Below w.heap.size w W1 := H.out.1.trans (hb.mono (by have := H.out.2.1; omega))
  have h21 := (hb.block (w.heap.size + 1) (by have := H.out.2.1; omega)).trans H.out.2.2.1
  have h11 := (hb.block w.heap.size (by have := H.out.2.1; omega)).trans H.out.2.2.2.1
  have H1 := Aside0.mk (And.intro hb (And.intro hb1 (And.intro h21 h11)))
  clear hb hb1 h21 h11 c1 kr HV
  cases ht : validT ns with
  | none =>
    have hcode : codeOf ns = ([], [], 0) := by unfold codeOf; rw [ht]
    have h21 := H1.out.2.2.1
    have r0 : W1.cell? ⟨w.heap.size + 1, 0, none⟩ = some (.slice none 0 0) := (blk_cell h21 0).trans rfl
    have r1 : W1.cell? ⟨w.heap.size + 1, 1, none⟩ = some (.slice none 0 0) := (blk_cell h21 1).trans rfl
    have r2 : W1.cell? ⟨w.heap.size + 1, 2, none⟩ = some (.int .i64 0) := (blk_cell h21 2).trans rfl
    have f0 := blk_frozen h21 0
    have f1 := blk_frozen h21 1
    have f2 := blk_frozen h21 2
    rw [Option.isSome_none]
    go_wp2_with fail
    have b1 := blk_put h21 0 (.slice none 0 0) (cs' := #[.slice none 0 0, .slice none 0 0, .int .i64 0]) rfl
    have b2 := blk_put b1 1 (.slice none 0 0) (cs' := #[.slice none 0 0, .slice none 0 0, .int .i64 0]) rfl
    have b3 := blk_put b2 2 (.int .i64 0) (cs' := #[.slice none 0 0, .slice none 0 0, .int .i64 0]) rfl
    rw [hcode]
    refine bodyPost_ret (results_cell_row rfl _ _ (w.heap.size + 1) 39 _ (0, 0) _ rfl b3 Try.underlying39 rfl (by kernel_rfl)) rfl ⟨_, _, rfl, Kd.R_nil _ _ _ _ _, Kd.R_nil _ _ _ _ _, ((H1.out.2.1.setCell (by show w.heap.size ≤ w.heap.size + 1; omega) _).setCell (by show w.heap.size ≤ w.heap.size + 1; omega) _).setCell (by show w.heap.size ≤ w.heap.size + 1; omega) _⟩
  | some t =>
    have hcode : codeOf ns = (condT t [] false 0, putIs ([], 0) (genT t false 0)) := by unfold codeOf; rw [ht]
    obtain ⟨hw, hf, hl⟩ := validT_yes ht
    subst hf
    have HW := Aside0.mk (And.intro hw (And.intro hl hcode))
    have hsW : w.heap.size + 1 < W1.heap.size := lt_of_some H1.out.2.2.1
    have HZ := Aside0.mk hsW
    rw [Option.isSome_some]
    have z0 : ∀ (W : World) [K0 (W.heap[w.heap.size]? = some (.cells #[.slice A (flatT t).length c] 28 (0, 0)))], W.cell? ⟨w.heap.size, 0, none⟩ = some (.slice A (flatT t).length c) := fun W k => (blk_cell k.out 0).trans rfl
    have ks : K0 (W1.drew.heap[w.heap.size]? = some (.cells #[.slice A (flatT t).length c] 28 (0, 0))) := ⟨H1.out.2.2.2⟩
    clear hw hl hcode hsW ht
    go_upto_region 3 with (fail)
    refine sq_region (S := fun (W' : World) => K0 (W'.heap[w.heap.size]? = some (.cells #[.slice A (flatT t).length c] 28 (0, 0)))) [(0, false), (1, false), (4, false), (5, false), (2, true), (3, true), (6, true), (7, true), (8, false), (9, true)] (by kernel_rfl) (by kernel_rfl) ks (fun hS => ?_)
    repeat (refine sq_n ?_ ?_ rfl ?_ ?_ ?_; rotate_left 2; (intro W hW; go_simp; first | done | with_reducible rfl); (simp only [List.setIfInBounds_toArray, List.set_cons_zero, List.set_cons_succ]; try rfl))
    refine sq_1n rfl (fun hS K2 hK2 => ?_)
    obtain ⟨Wa, hWa⟩ : ∃ Wa, Wa = (W1.alloc (.cells #[] 92)).drew := ⟨_, rfl⟩
    have ha : Below W1.heap.size W1 Wa := hWa ▸ below_drew1 (Below.alloc (Below.refl _ _) (Nat.le_refl _) _)
    have ka : K0 (Wa.heap[w.heap.size]? = some (.cells #[.slice A (flatT t).length c] 28 (0, 0))) := ⟨(ha.block _ (by have := HZ.out; omega)).trans H1.out.2.2.2⟩
    have HAa := Aside0.mk ha
    clear ha
    go_wp2_with fail
    rw [← hWa]
    clear hWa
    refine hK2.out _ _ ka (fun hS => ?_)
    refine sq_1n rfl (fun hS K3 hK3 => ?_)
    go_simp
    go_at_call 27
    have hCa : Kd.C k63 Wa A (flatT t).length (flatT t) := Kd.C_below H.out.2.2.2.2 (H1.out.1.trans (HAa.out.mono H1.out.1.size))
    refine (conds_call t HW.out.1 A c (some ⟨W1.heap.size, 0, none⟩) 0 [] false 0 Wa hCa HC.out ⟨rfl, by decide, fun h => absurd h (by decide)⟩ (Nat.le_refl _) (by have := HW.out.2.1; simp only [List.length_nil]; omega) (by have := HW.out.2.1; omega) (Int.le_refl _) (by have := HW.out.2.1; omega) (by simp)).mono ?_
    rintro ex Wc ⟨v0, rfl, hR, hbc⟩
    obtain ⟨A5, c5, rfl⟩ := Kd.R_slice hR
    have kc : K0 (Wc.heap[w.heap.size]? = some (.cells #[.slice A (flatT t).length c] 28 (0, 0))) := ⟨(hbc.block _ (lt_of_some ka.out)).trans ka.out⟩
    have HCc := Aside0.mk (And.intro hR (And.intro hbc (Kd.C_below hCa hbc)))
    clear hR hbc hCa
    refine hK3.out _ _ kc (fun hS => ?_)
    refine sq_1n rfl (fun hS K4 hK4 => ?_)
    go_simp
    go_at_call 29
    refine (genS_call t HW.out.1 (by have := HW.out.2.1; omega) false 0 (Int.le_refl _) (by have := HW.out.2.1; omega) A c Wc HCc.out.2.2 HC.out).mono ?_
    rintro ex Wg ⟨vg, rfl, hR, hbg⟩
    obtain ⟨Ag, cg, rfl, hlg, hCg⟩ := Kd.R_reads hR
    have kg : K0 (Wg.heap[w.heap.size]? = some (.cells #[.slice A (flatT t).length c] 28 (0, 0))) := ⟨(hbg.block _ (lt_of_some kc.out)).trans kc.out⟩
    have HGg := Aside0.mk (And.intro hlg (And.intro hCg hbg))
    clear hR hbg hlg hCg
    refine hK4.out _ _ kg (fun hS => ?_)
    refine sq_1n rfl (fun hS K5 hK5 => ?_)
    go_simp
    go_at_call 28
    refine (block_call (genT t false 0) Ag cg Wg HGg.out.2.1 HGg.out.1 (by have := genT_le t false 0; have := HW.out.2.1; omega) (genT_tgt 1000 t false 0 (by have := HW.out.2.1; omega) (by omega) HW.out.1)).mono ?_
    rintro ex Wb ⟨vb, rfl, hR, hbb⟩
    obtain ⟨Ab, cb, rfl⟩ := Kd.R_slice hR
    have kb : K0 (Wb.heap[w.heap.size]? = some (.cells #[.slice A (flatT t).length c] 28 (0, 0))) := ⟨(hbb.block _ (lt_of_some kg.out)).trans kg.out⟩
    obtain ⟨⟨l, cn⟩, hlc⟩ : ∃ b, putIs ([], 0) (genT t false 0) = b := ⟨_, rfl⟩
    rw [hlc] at hR ⊢
    have hcd := HW.out.2.2
    rw [hlc] at hcd
    have hb1b : Below W1.heap.size W1 Wb := HAa.out.trans ((HCc.out.2.1.trans ((HGg.out.2.2.trans (hbb.mono HGg.out.2.2.size)).mono HCc.out.2.1.size)).mono HAa.out.size)
    have h2b := (hb1b.block (w.heap.size + 1) HZ.out).trans H1.out.2.2.1
    have r0 : Wb.cell? ⟨w.heap.size + 1, 0, none⟩ = some (.slice none 0 0) := (blk_cell h2b 0).trans rfl
    have r1 : Wb.cell? ⟨w.heap.size + 1, 1, none⟩ = some (.slice none 0 0) := (blk_cell h2b 1).trans rfl
    have r2 : Wb.cell? ⟨w.heap.size + 1, 2, none⟩ = some (.int .i64 0) := (blk_cell h2b 2).trans rfl
    have f0 := blk_frozen h2b 0
    have f1 := blk_frozen h2b 1
    have f2 := blk_frozen h2b 2
    have hs1 := H1.out.1.size
    have hsa := HAa.out.size
    have hsc := HCc.out.2.1.size
    have hsg := HGg.out.2.2.size
    have R1 := Kd.R_below HCc.out.1 (HGg.out.2.2.trans (hbb.mono HGg.out.2.2.size))
    have HF := Aside0.mk (And.intro hR (And.intro R1 (And.intro h2b (And.intro hcd (And.intro (H1.out.2.1.trans (hb1b.mono (by have := HZ.out; omega))) (show w.heap.size + 1 < Wa.heap.size ∧ w.heap.size + 1 < Wg.heap.size from by have := HZ.out; constructor <;> omega))))))
    clear hR hbb hlc hcd hb1b h2b hs1 hsa hsc hsg R1
    refine hK5.out _ _ kb (fun hS => ?_)
    repeat (refine sq_n ?_ ?_ rfl ?_ ?_ ?_; rotate_left 2; (intro W hW; go_simp; first | done | with_reducible rfl); (simp only [List.setIfInBounds_toArray, List.set_cons_zero, List.set_cons_succ]; try rfl))
    refine sq_1n rfl (fun hS K6 hK6 => ?_)
    have ke : K0 ((((Wb.setCell ⟨w.heap.size + 1, 0, none⟩ (.slice A5 (condT t [] false 0).length c5)).setCell ⟨w.heap.size + 1, 1, none⟩ (.slice Ab l.length cb)).setCell ⟨w.heap.size + 1, 2, none⟩ (.int .i64 cn)).heap[w.heap.size]? = some (.cells #[.slice A (flatT t).length c] 28 (0, 0))) :=
      ⟨blk_far (p := ⟨w.heap.size + 1, 2, none⟩) (blk_far (p := ⟨w.heap.size + 1, 1, none⟩) (blk_far (p := ⟨w.heap.size + 1, 0, none⟩) kb.out (by show w.heap.size ≠ w.heap.size + 1; omega) _) (by show w.heap.size ≠ w.heap.size + 1; omega) _) (by show w.heap.size ≠ w.heap.size + 1; omega) _⟩
    go_wp2_with fail
    refine hK6.out _ _ ke (fun hS => ?_)
    refine sq_done (fun hS => ?_)
    go_wp2_with fail
    obtain ⟨hR, R1, h2b, hcd, hBb, hne⟩ := HF.out
    have b1 := blk_put h2b 0 (.slice A5 (condT t [] false 0).length c5) (cs' := #[.slice A5 (condT t [] false 0).length c5, .slice none 0 0, .int .i64 0]) rfl
    have b2 := blk_put b1 1 (.slice Ab l.length cb) (cs' := #[.slice A5 (condT t [] false 0).length c5, .slice Ab l.length cb, .int .i64 0]) rfl
    have b3 := blk_put b2 2 (.int .i64 cn) (cs' := #[.slice A5 (condT t [] false 0).length c5, .slice Ab l.length cb, .int .i64 cn]) rfl
    rw [hcd]
    refine bodyPost_ret (results_cell_row rfl _ _ (w.heap.size + 1) 39 _ (0, 0) _ rfl b3 Try.underlying39 rfl (by kernel_rfl)) rfl ⟨_, _, rfl, ?_, ?_, ?_⟩
    · have q1 := Kd.R_lower (Kd.R_mono (ok' := fun k => k ≠ w.heap.size + 1) (Kd.R_bound R1) (fun k hk => by have := hk.2.1; omega)) (show w.heap.size ≤ Wa.heap.size by omega)
      exact Kd.R_mono (Kd.R_far (p := ⟨w.heap.size + 1, 2, none⟩) (Kd.R_far (p := ⟨w.heap.size + 1, 1, none⟩) (Kd.R_far (p := ⟨w.heap.size + 1, 0, none⟩) q1 (fun k hk => hk) _) (fun k hk => hk) _) (fun k hk => hk) _) (fun k hk => trivial)
    · have q1 := Kd.R_lower (Kd.R_mono (ok' := fun k => k ≠ w.heap.size + 1) (Kd.R_bound hR) (fun k hk => by have := hk.2.1; omega)) (show w.heap.size ≤ Wg.heap.size by omega)
      exact Kd.R_mono (Kd.R_far (p := ⟨w.heap.size + 1, 2, none⟩) (Kd.R_far (p := ⟨w.heap.size + 1, 1, none⟩) (Kd.R_far (p := ⟨w.heap.size + 1, 0, none⟩) q1 (fun k hk => hk) _) (fun k hk => hk) _) (fun k hk => hk) _) (fun k hk => trivial)
    · exact ((hBb.setCell (p := ⟨w.heap.size + 1, 0, none⟩) (by show w.heap.size ≤ w.heap.size + 1; omega) _).setCell (p := ⟨w.heap.size + 1, 1, none⟩) (by show w.heap.size ≤ w.heap.size + 1; omega) _).setCell (p := ⟨w.heap.size + 1, 2, none⟩) (by show w.heap.size ≤ w.heap.size + 1; omega) _
end Go.Proofs.Ytpfehkkfakofaaa.Q

namespace Go.Proofs.Ytpfehkkfakofaaa.Q
open Go.RowKit Go.Proofs.YtpfehkkfakofaaaW.PrintWords Go.Proofs.YtpfehkkfakofaaaW.PrintLast Go.Proofs.YtpfehkkfakofaaaW.PrintMore
set_option linter.unusedVariables false
set_option linter.unusedSimpArgs false
set_option maxHeartbeats 8000000 in
set_option maxRecDepth 100000 in
theorem heldIns_call (A : Option Addr) (d c : Nat) (x : Int) (w : World) (hr : Kd.C k92 w A d (mInss d x)) (h0 : 0 ≤ x) (h1 : x + 11 * d < 1000000000) :
    Calls Try.prog 69 #[.slice A d c, .int .i64 x] w fun e w' => e = .returned (.int .i64 (x + 11 * d)) ∧ Below w.heap.size w w' := by
  have kr : K0 (Below w.heap.size w w) := ⟨Below.refl _ _⟩
  have HR := Aside0.mk hr
  have H0 := Aside0.mk (And.intro h0 h1)
  have HB0 := Aside0.mk (Below.refl w.heap.size w)
  clear hr h0 h1
  go_enter Try.func69, Try.ntmps69
  go_wp2_with fail
  go_loopw [1, 5] (fun v1 v5 W => ∃ (j : Nat), j ≤ d ∧ v5 = .int .i64 j ∧ v1 = .int .i64 (x + 11 * (j : Nat)) ∧ Aside0 (Below w.heap.size w W)) (fun _ v5 _ => d - (intOf v5).toNat)
  case atStart => exact ⟨0, by omega, rfl, by simp, HB0⟩
  case round =>
    clear HB0
    obtain ⟨j, hj, rfl, rfl, HB⟩ := hrel
    have kW : K0 (Below w.heap.size w wr) := ⟨HB.out⟩
    by_cases hlt : j < d
    · have dl : decide ((j : Int) < (d : Int)) = true := decide_eq_true (by omega)
      have hwj : IntKind.i64.wrap ((j : Int) + 1) = ((j + 1 : Nat) : Int) := by have := H0.out; rw [IntKind.wrap_i64]; omega
      obtain ⟨K0', hK0⟩ : ∃ k : Int, k = x + 11 * (j : Nat) := ⟨_, rfl⟩
      obtain ⟨K1', hK1⟩ : ∃ k : Int, k = K0' + 1 := ⟨_, rfl⟩
      obtain ⟨K2', hK2⟩ : ∃ k : Int, k = K1' + 1 := ⟨_, rfl⟩
      obtain ⟨K3', hK3⟩ : ∃ k : Int, k = K2' + 1 := ⟨_, rfl⟩
      obtain ⟨K4', hK4⟩ : ∃ k : Int, k = K3' + 1 := ⟨_, rfl⟩
      obtain ⟨K5', hK5⟩ : ∃ k : Int, k = K4' + 1 := ⟨_, rfl⟩
      obtain ⟨K6', hK6⟩ : ∃ k : Int, k = K5' + 1 := ⟨_, rfl⟩
      obtain ⟨K7', hK7⟩ : ∃ k : Int, k = K6' + 1 := ⟨_, rfl⟩
      obtain ⟨K8', hK8⟩ : ∃ k : Int, k = K7' + 1 := ⟨_, rfl⟩
      obtain ⟨K9', hK9⟩ : ∃ k : Int, k = K8' + 1 := ⟨_, rfl⟩
      obtain ⟨K10', hK10⟩ : ∃ k : Int, k = K9' + 1 := ⟨_, rfl⟩
      obtain ⟨K11', hK11⟩ : ∃ k : Int, k = K10' + 1 := ⟨_, rfl⟩
      have hKb : 0 ≤ K0' ∧ K0' + 11 < 1000000000 := by have := H0.out; omega
      have hw1 : IntKind.i64.wrap (K0' + 1) = K1' := (wrap_up K0' hKb.1 (by clear hwj dl hj; omega)).trans hK1.symm
      have hq1 : 0 ≤ K1' ∧ K1' ≤ 1000000000 - 11 + 1 := (by clear hwj dl hj hw1; omega)
      have hw2 : IntKind.i64.wrap (K1' + 1) = K2' := (wrap_up K1' hq1.1 (by clear hwj dl hj hw1; omega)).trans hK2.symm
      have hq2 : 0 ≤ K2' ∧ K2' ≤ 1000000000 - 11 + 2 := (by clear hwj dl hj hw1 hw2; omega)
      have hw3 : IntKind.i64.wrap (K2' + 1) = K3' := (wrap_up K2' hq2.1 (by clear hwj dl hj hw1 hw2; omega)).trans hK3.symm
      have hq3 : 0 ≤ K3' ∧ K3' ≤ 1000000000 - 11 + 3 := (by clear hwj dl hj hw1 hw2 hw3; omega)
      have hw4 : IntKind.i64.wrap (K3' + 1) = K4' := (wrap_up K3' hq3.1 (by clear hwj dl hj hw1 hw2 hw3; omega)).trans hK4.symm
      have hq4 : 0 ≤ K4' ∧ K4' ≤ 1000000000 - 11 + 4 := (by clear hwj dl hj hw1 hw2 hw3 hw4; omega)
      have hw5 : IntKind.i64.wrap (K4' + 1) = K5' := (wrap_up K4' hq4.1 (by clear hwj dl hj hw1 hw2 hw3 hw4; omega)).trans hK5.symm
      have hq5 : 0 ≤ K5' ∧ K5' ≤ 1000000000 - 11 + 5 := (by clear hwj dl hj hw1 hw2 hw3 hw4 hw5; omega)
      have hw6 : IntKind.i64.wrap (K5' + 1) = K6' := (wrap_up K5' hq5.1 (by clear hwj dl hj hw1 hw2 hw3 hw4 hw5; omega)).trans hK6.symm
      have hq6 : 0 ≤ K6' ∧ K6' ≤ 1000000000 - 11 + 6 := (by clear hwj dl hj hw1 hw2 hw3 hw4 hw5 hw6; omega)
      have hw7 : IntKind.i64.wrap (K6' + 1) = K7' := (wrap_up K6' hq6.1 (by clear hwj dl hj hw1 hw2 hw3 hw4 hw5 hw6; omega)).trans hK7.symm
      have hq7 : 0 ≤ K7' ∧ K7' ≤ 1000000000 - 11 + 7 := (by clear hwj dl hj hw1 hw2 hw3 hw4 hw5 hw6 hw7; omega)
      have hw8 : IntKind.i64.wrap (K7' + 1) = K8' := (wrap_up K7' hq7.1 (by clear hwj dl hj hw1 hw2 hw3 hw4 hw5 hw6 hw7; omega)).trans hK8.symm
      have hq8 : 0 ≤ K8' ∧ K8' ≤ 1000000000 - 11 + 8 := (by clear hwj dl hj hw1 hw2 hw3 hw4 hw5 hw6 hw7 hw8; omega)
      have hw9 : IntKind.i64.wrap (K8' + 1) = K9' := (wrap_up K8' hq8.1 (by clear hwj dl hj hw1 hw2 hw3 hw4 hw5 hw6 hw7 hw8; omega)).trans hK9.symm
      have hq9 : 0 ≤ K9' ∧ K9' ≤ 1000000000 - 11 + 9 := (by clear hwj dl hj hw1 hw2 hw3 hw4 hw5 hw6 hw7 hw8 hw9; omega)
      have hw10 : IntKind.i64.wrap (K9' + 1) = K10' := (wrap_up K9' hq9.1 (by clear hwj dl hj hw1 hw2 hw3 hw4 hw5 hw6 hw7 hw8 hw9; omega)).trans hK10.symm
      have hq10 : 0 ≤ K10' ∧ K10' ≤ 1000000000 - 11 + 10 := (by clear hwj dl hj hw1 hw2 hw3 hw4 hw5 hw6 hw7 hw8 hw9 hw10; omega)
      have hw11 : IntKind.i64.wrap (K10' + 1) = K11' := (wrap_up K10' hq10.1 (by clear hwj dl hj hw1 hw2 hw3 hw4 hw5 hw6 hw7 hw8 hw9 hw10; omega)).trans hK11.symm
      have hq11 : 0 ≤ K11' ∧ K11' ≤ 1000000000 - 11 + 11 := (by clear hwj dl hj hw1 hw2 hw3 hw4 hw5 hw6 hw7 hw8 hw9 hw10 hw11; omega)
      clear hq1 hq2 hq3 hq4 hq5 hq6 hq7 hq8 hq9 hq10 hq11
      have HKs := Aside0.mk (And.intro hK0 (And.intro hKb (And.intro hK1 (And.intro hK2 (And.intro hK3 (And.intro hK4 (And.intro hK5 (And.intro hK6 (And.intro hK7 (And.intro hK8 (And.intro hK9 (And.intro hK10 hK11))))))))))))
      have hm : mIns (x + 11 * (j : Nat)) = (⟨K0', K1', K2', (Int.tmod K3' 3 == 0), ⟨K4', (mText K5'), (Int.tmod K6' 3 == 0), (mText K7'), (IntKind.u64.wrap K8'), (IntKind.u64.wrap K9'), K10'⟩⟩ : S92) := by
        unfold mIns
        rw [← hK0]
        rw [show K0' + 1 = K1' from by clear hwj dl hj hw1 hw2 hw3 hw4 hw5 hw6 hw7 hw8 hw9 hw10 hw11; omega]
        rw [show K0' + 2 = K2' from by clear hwj dl hj hw1 hw2 hw3 hw4 hw5 hw6 hw7 hw8 hw9 hw10 hw11; omega]
        rw [show K0' + 3 = K3' from by clear hwj dl hj hw1 hw2 hw3 hw4 hw5 hw6 hw7 hw8 hw9 hw10 hw11; omega]
        rw [show K0' + 4 = K4' from by clear hwj dl hj hw1 hw2 hw3 hw4 hw5 hw6 hw7 hw8 hw9 hw10 hw11; omega]
        rw [show K0' + 5 = K5' from by clear hwj dl hj hw1 hw2 hw3 hw4 hw5 hw6 hw7 hw8 hw9 hw10 hw11; omega]
        rw [show K0' + 6 = K6' from by clear hwj dl hj hw1 hw2 hw3 hw4 hw5 hw6 hw7 hw8 hw9 hw10 hw11; omega]
        rw [show K0' + 7 = K7' from by clear hwj dl hj hw1 hw2 hw3 hw4 hw5 hw6 hw7 hw8 hw9 hw10 hw11; omega]
        rw [show K0' + 8 = K8' from by clear hwj dl hj hw1 hw2 hw3 hw4 hw5 hw6 hw7 hw8 hw9 hw10 hw11; omega]
        rw [show K0' + 9 = K9' from by clear hwj dl hj hw1 hw2 hw3 hw4 hw5 hw6 hw7 hw8 hw9 hw10 hw11; omega]
        rw [show K0' + 10 = K10' from by clear hwj dl hj hw1 hw2 hw3 hw4 hw5 hw6 hw7 hw8 hw9 hw10 hw11; omega]
      obtain ⟨ad, e0, hx⟩ := at_T92 HR.out (j : Int) (by omega) (by omega)
      subst e0
      rw [Int.toNat_natCast, show rd_T92 (mInss d x) (j : Int) = (⟨K0', K1', K2', (Int.tmod K3' 3 == 0), ⟨K4', (mText K5'), (Int.tmod K6' 3 == 0), (mText K7'), (IntKind.u64.wrap K8'), (IntKind.u64.wrap K9'), K10'⟩⟩ : S92) from by
        rw [← hm]; unfold rd_T92; rw [Int.toNat_natCast, List.getD_eq_getElem?_getD, mInss_get d x j hlt]; rfl] at hx
      obtain ⟨y0, y1, y2, y3, y4, y5, y6, y7, y8, y9, y10⟩ := hx
      have y0 := clk y0
      have y1 := clk y1
      have y2 := clk y2
      have y3 := clk y3
      have y4 := clk y4
      have y5 := clk y5
      have y6 := clk y6
      have y7 := clk y7
      have y8 := clk y8
      have y9 := clk y9
      have y10 := clk y10
      rw [← hK0]
      clear hm hKb hK0 hK1 hK2 hK3 hK4 hK5 hK6 hK7 hK8 hK9 hK10 hK11
      go_upto_region 19 with (fail)
      have kd5 : K0 (Below w.heap.size w wr.drew) := ⟨below_drew1 HB.out⟩
      refine sq_region (S := fun W' => K0 (Below w.heap.size w W')) [(0, false), (1, false), (2, false), (3, false), (4, false), (5, false), (6, false), (7, true), (8, false)] (by kernel_rfl) (by kernel_rfl) kd5 (fun hS => ?_)
      repeat (refine sq_n ?_ ?_ rfl ?_ ?_ ?_; rotate_left 2; (intro W hW; go_simp; first | done | with_reducible rfl); (simp only [List.setIfInBounds_toArray, List.set_cons_zero, List.set_cons_succ]; try rfl))
      refine sq_1n rfl (fun hS KK5 hKK5 => ?_)
      go_simp
      go_at_call 57
      refine (text_call K5' (by have := HKs.out; omega) (by have := HKs.out; omega) wr.drew).mono ?_
      rintro ex T5 ⟨rfl, hb⟩
      have k5 : K0 (Below w.heap.size w T5) := ⟨kd5.out.trans (hb.mono kd5.out.size)⟩
      clear hb
      refine hKK5.out _ _ k5 (fun hS => ?_)
      repeat (refine sq_n ?_ ?_ rfl ?_ ?_ ?_; rotate_left 2; (intro W hW; go_simp; first | done | with_reducible rfl); (simp only [List.setIfInBounds_toArray, List.set_cons_zero, List.set_cons_succ]; try rfl))
      refine sq_done (fun hS => ?_)
      go_upto_region 25 with (fail)
      have kd7 : K0 (Below w.heap.size w T5.drew) := ⟨below_drew1 k5.out⟩
      refine sq_region (S := fun W' => K0 (Below w.heap.size w W')) [(0, false), (1, false), (2, false), (3, false), (4, false), (5, false), (6, false), (7, true), (8, false)] (by kernel_rfl) (by kernel_rfl) kd7 (fun hS => ?_)
      repeat (refine sq_n ?_ ?_ rfl ?_ ?_ ?_; rotate_left 2; (intro W hW; go_simp; first | done | with_reducible rfl); (simp only [List.setIfInBounds_toArray, List.set_cons_zero, List.set_cons_succ]; try rfl))
      refine sq_1n rfl (fun hS KK7 hKK7 => ?_)
      go_simp
      go_at_call 57
      refine (text_call K7' (by have := HKs.out; omega) (by have := HKs.out; omega) T5.drew).mono ?_
      rintro ex T7 ⟨rfl, hb⟩
      have k7 : K0 (Below w.heap.size w T7) := ⟨kd7.out.trans (hb.mono kd7.out.size)⟩
      clear hb
      refine hKK7.out _ _ k7 (fun hS => ?_)
      repeat (refine sq_n ?_ ?_ rfl ?_ ?_ ?_; rotate_left 2; (intro W hW; go_simp; first | done | with_reducible rfl); (simp only [List.setIfInBounds_toArray, List.set_cons_zero, List.set_cons_succ]; try rfl))
      refine sq_done (fun hS => ?_)
      go_wp2_with fail
      go_roundw
      case measure => simp only [intOf]; omega
      case rel =>
        have hk := HKs.out
        refine ⟨j + 1, by omega, by rw [Int.natCast_add]; rfl, congrArg (Value.int .i64) ?_, ⟨k7.out⟩⟩
        push_cast; omega
    · obtain rfl : j = d := by omega
      have dl : decide ((j : Int) < (j : Int)) = false := decide_eq_false (by omega)
      go_wp2
      go_ret
      exact ⟨rfl, HB.out⟩
end Go.Proofs.Ytpfehkkfakofaaa.Q

namespace Go.Proofs.Ytpfehkkfakofaaa.Q
open Go.RowKit Go.Proofs.YtpfehkkfakofaaaW.PrintWords Go.Proofs.YtpfehkkfakofaaaW.PrintLast Go.Proofs.YtpfehkkfakofaaaW.PrintMore
set_option linter.unusedVariables false
set_option linter.unusedSimpArgs false
set_option maxHeartbeats 4000000 in
set_option maxRecDepth 100000 in
theorem heldBlkS_call (A : Option Addr) (n c : Nat) (l : List S37) (x : Int) (w : World) (hr : Kd.C k37 w A n (mBlks l x)) (hn : l.length = n) (h0 : 0 ≤ x) (h1 : nBlks l x < 100000000) :
    Calls Try.prog 37 #[.slice A n c, .int .i64 x] w fun e w' => e = .returned (.int .i64 (nBlks l x)) ∧ Below w.heap.size w w' := by
  have kr : K0 (Below w.heap.size w w) := ⟨Below.refl _ _⟩
  have HR := Aside0.mk hr
  have HB0 := Aside0.mk (Below.refl w.heap.size w)
  have H0 := Aside0.mk (And.intro h0 (And.intro h1 hn))
  clear hr h0 h1 hn
  go_enter Try.func37, Try.ntmps37
  go_wp2_with fail
  go_loopw [1, 5] (fun v1 v5 W => ∃ (j : Nat) (pre bs : List S37) (y : Int), v5 = .int .i64 j ∧ v1 = .int .i64 y ∧ pre.length = j ∧ pre.length + bs.length = n ∧ Aside0 (mBlks l x = pre ++ mBlks bs y ∧ nBlks l x = nBlks bs y ∧ 0 ≤ y) ∧ Aside0 (Below w.heap.size w W)) (fun _ v5 _ => n - (intOf v5).toNat)
  case atStart => exact ⟨0, [], l, x, rfl, rfl, rfl, by simpa using H0.out.2.2, ⟨rfl, rfl, H0.out.1⟩, HB0⟩
  case round =>
    clear HB0
    obtain ⟨j, pre, bs, y, rfl, rfl, hp, hpb, HM, HB⟩ := hrel
    have kW : K0 (Below w.heap.size w wr) := ⟨HB.out⟩
    cases bs with
    | nil =>
      obtain rfl : j = n := by simpa [hp] using hpb
      have dl : decide ((j : Int) < (j : Int)) = false := decide_eq_false (by omega)
      go_wp2
      go_ret
      exact ⟨by rw [HM.out.2.1]; rfl, HB.out⟩
    | cons b rest =>
      have hlt : j < n := by rw [List.length_cons] at hpb; omega
      have dl : decide ((j : Int) < (n : Int)) = true := decide_eq_true (by omega)
      have hge := nBlks_ge (b :: rest) y
      have hge2 := nBlks_ge rest (y + 11 * b.f0.length + 1)
      have hy : 0 ≤ y ∧ y + 11 * b.f0.length + 1 < 100000000 ∧ n < 100000000 := by
        have h2 := HM.out
        have h3 := H0.out
        rw [h2.2.1] at h3
        have h5 := nBlks_ge l x
        rw [h2.2.1, H0.out.2.2] at h5
        simp only [nBlks] at hge h3 h5
        omega
      have hwj : IntKind.i64.wrap ((j : Int) + 1) = ((j + 1 : Nat) : Int) := by clear hge hge2; rw [IntKind.wrap_i64]; omega
      have hwy : IntKind.i64.wrap (y + 11 * b.f0.length + 1) = y + 11 * b.f0.length + 1 := by clear hge hge2 hwj; rw [IntKind.wrap_i64]; omega
      have hneg : decide (y + 11 * (b.f0.length : Int) < 0) = false := decide_eq_false (by clear hge hge2 hwj hwy; omega)
      obtain ⟨ad, A0, c0, e0, y0, y1, hc0, hC0⟩ := at_T37 HR.out (j : Int) (by omega) (by omega)
      subst e0
      rw [Int.toNat_natCast, show rd_T37 (mBlks l x) (j : Int) = ⟨mInss b.f0.length y, y + 11 * b.f0.length⟩ from by
        unfold rd_T37; rw [Int.toNat_natCast, HM.out.1, List.getD_eq_getElem?_getD, ← hp, List.getElem?_append_right (Nat.le_refl _), Nat.sub_self]; rfl] at y0 y1
      rw [show rd_T37 (mBlks l x) (j : Int) = ⟨mInss b.f0.length y, y + 11 * b.f0.length⟩ from by
        unfold rd_T37; rw [Int.toNat_natCast, HM.out.1, List.getD_eq_getElem?_getD, ← hp, List.getElem?_append_right (Nat.le_refl _), Nat.sub_self]; rfl] at hC0
      simp only [mInss_len] at y0 y1 hC0
      have y0 := clk y0
      have y1 := clk y1
      have HX := Aside0.mk (And.intro hC0 hy)
      have HPB := Aside0.mk (And.intro hp (And.intro hpb hlt))
      clear hge hge2 hc0 hC0 hy hp hpb
      go_wp2_with fail
      refine (heldIns_call A0 b.f0.length c0 y wr (Kd.C_below HX.out.1 HB.out) HX.out.2.1 (by have := HX.out.2; omega)).mono ?_
      rintro ex W1 ⟨rfl, hb⟩
      have k1 : K0 (Below w.heap.size w W1) := ⟨HB.out.trans (hb.mono HB.out.size)⟩
      clear hb
      go_wp2_with fail
      go_roundw
      case measure => have := HPB.out.2.2; simp only [intOf]; omega
      case rel =>
        obtain ⟨hp, hpb, hlt⟩ := HPB.out
        refine ⟨j + 1, pre ++ [⟨mInss b.f0.length y, y + 11 * b.f0.length⟩], rest, y + 11 * b.f0.length + 1, by rw [Int.natCast_add]; rfl, rfl, by rw [List.length_append, List.length_singleton, hp], by rw [List.length_append, List.length_singleton]; rw [List.length_cons] at hpb; omega, ⟨?_, ?_, ?_⟩, ⟨k1.out⟩⟩
        · rw [HM.out.1]; simp [mBlks]
        · rw [HM.out.2.1]; rfl
        · have := HX.out.2; omega
set_option maxHeartbeats 4000000 in
set_option maxRecDepth 100000 in
theorem heldBlk_call (A : Option Addr) (n c : Nat) (q x : Int) (w : World) (hr : Kd.C k92 w A n (mInss n x)) (h0 : 0 ≤ x) (h1 : x + 11 * n < 1000000000) :
    Calls Try.prog 38 #[.agg #[.slice A n c, .int .i64 q], .int .i64 x] w fun e w' => e = .returned (.int .i64 (x + 11 * n)) ∧ Below w.heap.size w w' := by
  have kr : K0 (Below w.heap.size w w) := ⟨Below.refl _ _⟩
  obtain ⟨wb, hwb⟩ : ∃ wb, wb = w.alloc (.cells #[.slice A n c, .int .i64 q] 37) := ⟨_, rfl⟩
  have hb : Below w.heap.size w wb := hwb ▸ kk
  have hh : wb.heap[w.heap.size]? = some (.cells #[.slice A n c, .int .i64 q] 37 (0, 0)) := hwb ▸ heap_alloc_new w _
  have c0 : wb.cell? ⟨w.heap.size, 0, none⟩ = some (.slice A n c) := (blk_cell hh 0).trans rfl
  have hneg : decide (x + 11 * (n : Int) < 0) = false := decide_eq_false (by omega)
  have H := Aside0.mk (And.intro hb (And.intro (Kd.C_below hr hb) (And.intro h0 h1)))
  clear hb hh hr h0 h1
  go_enter Try.func38, Try.ntmps38
  go_wp2_with fail
  rw [← hwb]
  clear hwb
  refine (heldIns_call A n c x wb H.out.2.1 H.out.2.2.1 H.out.2.2.2).mono ?_
  rintro ex W1 ⟨rfl, hb⟩
  have HY := Aside0.mk (H.out.1.trans (hb.mono H.out.1.size))
  clear hb
  go_wp2
  go_ret
  exact ⟨rfl, HY.out⟩
set_option maxHeartbeats 4000000 in
set_option maxRecDepth 100000 in
theorem heldCode_call (A0 A1 : Option Addr) (cs : List S37) (n c0 c1 : Nat) (q : Int) (w : World) (h : Kd.C k37 w A0 cs.length (mBlks cs 1)) (hm : Kd.C k92 w A1 n (mInss n (nBlks cs 1))) (h1 : nBlks cs 1 < 100000000) (h2 : n < 10000000) :
    Calls Try.prog 16 #[.agg #[.slice A0 cs.length c0, .slice A1 n c1, .int .i64 q], .int .i64 1] w fun e w' => e = .returned (.int .i64 (nBlks cs 1 + 11 * n)) ∧ Below w.heap.size w w' := by
  have kr : K0 (Below w.heap.size w w) := ⟨Below.refl _ _⟩
  obtain ⟨wb, hwb⟩ : ∃ wb, wb = w.alloc (.cells #[.slice A0 cs.length c0, .slice A1 n c1, .int .i64 q] 39) := ⟨_, rfl⟩
  have hb : Below w.heap.size w wb := hwb ▸ kk
  have hh : wb.heap[w.heap.size]? = some (.cells #[.slice A0 cs.length c0, .slice A1 n c1, .int .i64 q] 39 (0, 0)) := hwb ▸ heap_alloc_new w _
  have y0 := clk ((blk_cell hh 0).trans rfl : wb.cell? ⟨w.heap.size, 0, none⟩ = some (.slice A0 cs.length c0))
  have y1 := clk ((blk_cell hh 1).trans rfl : wb.cell? ⟨w.heap.size, 1, none⟩ = some (.slice A1 n c1))
  have y2 := clk ((blk_cell hh 2).trans rfl : wb.cell? ⟨w.heap.size, 2, none⟩ = some (.int .i64 q))
  have hge := nBlks_ge cs 1
  have hneg : decide (nBlks cs 1 < 0) = false := decide_eq_false (by omega)
  have hneg2 : decide (nBlks cs 1 + 11 * (n : Int) < 0) = false := decide_eq_false (by omega)
  have H := Aside0.mk (And.intro hb (And.intro (Kd.C_below h hb) (And.intro (Kd.C_below hm hb) (And.intro h1 (And.intro h2 hge)))))
  have kb : K0 (Below wb.heap.size wb wb) := ⟨Below.refl _ _⟩
  clear hb hh h hm h1 h2 hge
  go_enter Try.func16, Try.ntmps16
  go_wp2_with fail
  rw [← hwb]
  clear hwb
  refine (heldBlkS_call A0 cs.length c0 cs 1 wb H.out.2.1 rfl (by omega) H.out.2.2.2.1).mono ?_
  rintro ex W1 ⟨rfl, hb⟩
  have k1 : K0 (Below wb.heap.size wb W1) := ⟨hb⟩
  clear hb
  go_wp2_with fail
  refine (heldBlk_call A1 n c1 q (nBlks cs 1) W1 (Kd.C_below H.out.2.2.1 k1.out) (by have := H.out.2.2.2.2.2; omega) (by have := H.out.2.2.2; omega)).mono ?_
  rintro ex W2 ⟨rfl, hb⟩
  have HY := Aside0.mk (H.out.1.trans ((k1.out.trans (hb.mono k1.out.size)).mono H.out.1.size))
  clear hb
  go_wp2
  go_ret
  exact ⟨rfl, HY.out⟩
end Go.Proofs.Ytpfehkkfakofaaa.Q

namespace Go.Proofs.Ytpfehkkfakofaaa.Q
open Go.RowKit Go.Proofs.YtpfehkkfakofaaaW.PrintWords Go.Proofs.YtpfehkkfakofaaaW.PrintLast Go.Proofs.YtpfehkkfakofaaaW.PrintMore
set_option linter.unusedVariables false
set_option linter.unusedSimpArgs false
set_option maxHeartbeats 4000000 in
set_option maxRecDepth 100000 in
theorem eqNode_same (x : S63) (w : World) : Calls Try.prog 56 #[.agg #[(.int .i64 x.f0), (.string x.f1), (.bool x.f2), (.string x.f3), (.int .u64 x.f4), (.int .u64 x.f5), (.int .i64 x.f6)], .agg #[(.int .i64 x.f0), (.string x.f1), (.bool x.f2), (.string x.f3), (.int .u64 x.f4), (.int .u64 x.f5), (.int .i64 x.f6)]] w fun e w' => e = .returned (.bool true) ∧ Below w.heap.size w w' := by
  have kr : K0 (Below w.heap.size w w) := ⟨Below.refl _ _⟩
  go_enter Try.func56, Try.ntmps56
  go_wp2
  go_ret
  exact ⟨rfl, kk⟩
set_option maxHeartbeats 4000000 in
set_option maxRecDepth 100000 in
theorem eqIns_same (x : S92) (w : World) : Calls Try.prog 83 #[.agg #[(.int .i64 x.f0), (.int .i64 x.f1), (.int .i64 x.f2), (.bool x.f3), (.int .i64 x.f4.f0), (.string x.f4.f1), (.bool x.f4.f2), (.string x.f4.f3), (.int .u64 x.f4.f4), (.int .u64 x.f4.f5), (.int .i64 x.f4.f6)], .agg #[(.int .i64 x.f0), (.int .i64 x.f1), (.int .i64 x.f2), (.bool x.f3), (.int .i64 x.f4.f0), (.string x.f4.f1), (.bool x.f4.f2), (.string x.f4.f3), (.int .u64 x.f4.f4), (.int .u64 x.f4.f5), (.int .i64 x.f4.f6)]] w fun e w' => e = .returned (.bool true) ∧ Below w.heap.size w w' := by
  have kr : K0 (Below w.heap.size w w) := ⟨Below.refl _ _⟩
  obtain ⟨wb, hwb⟩ : ∃ wb, wb = (w.alloc (.cells #[(.int .i64 x.f0), (.int .i64 x.f1), (.int .i64 x.f2), (.bool x.f3), (.int .i64 x.f4.f0), (.string x.f4.f1), (.bool x.f4.f2), (.string x.f4.f3), (.int .u64 x.f4.f4), (.int .u64 x.f4.f5), (.int .i64 x.f4.f6)] 92)).alloc (.cells #[(.int .i64 x.f0), (.int .i64 x.f1), (.int .i64 x.f2), (.bool x.f3), (.int .i64 x.f4.f0), (.string x.f4.f1), (.bool x.f4.f2), (.string x.f4.f3), (.int .u64 x.f4.f4), (.int .u64 x.f4.f5), (.int .i64 x.f4.f6)] 92) := ⟨_, rfl⟩
  have hb : Below w.heap.size w wb := hwb ▸ kk
  have h1 : wb.heap[w.heap.size]? = some (.cells #[(.int .i64 x.f0), (.int .i64 x.f1), (.int .i64 x.f2), (.bool x.f3), (.int .i64 x.f4.f0), (.string x.f4.f1), (.bool x.f4.f2), (.string x.f4.f3), (.int .u64 x.f4.f4), (.int .u64 x.f4.f5), (.int .i64 x.f4.f6)] 92 (0, 0)) := hwb ▸ blk_alloc (heap_alloc_new w _) _
  have h2 : wb.heap[w.heap.size + 1]? = some (.cells #[(.int .i64 x.f0), (.int .i64 x.f1), (.int .i64 x.f2), (.bool x.f3), (.int .i64 x.f4.f0), (.string x.f4.f1), (.bool x.f4.f2), (.string x.f4.f3), (.int .u64 x.f4.f4), (.int .u64 x.f4.f5), (.int .i64 x.f4.f6)] 92 (0, 0)) := hwb ▸ new1 w _ _
  have y0 := clk ((blk_cell h1 0).trans rfl : wb.cell? ⟨w.heap.size, 0, none⟩ = some (.int .i64 x.f0))
  have z0 := clk ((blk_cell h2 0).trans rfl : wb.cell? ⟨w.heap.size + 1, 0, none⟩ = some (.int .i64 x.f0))
  have y1 := clk ((blk_cell h1 1).trans rfl : wb.cell? ⟨w.heap.size, 1, none⟩ = some (.int .i64 x.f1))
  have z1 := clk ((blk_cell h2 1).trans rfl : wb.cell? ⟨w.heap.size + 1, 1, none⟩ = some (.int .i64 x.f1))
  have y2 := clk ((blk_cell h1 2).trans rfl : wb.cell? ⟨w.heap.size, 2, none⟩ = some (.int .i64 x.f2))
  have z2 := clk ((blk_cell h2 2).trans rfl : wb.cell? ⟨w.heap.size + 1, 2, none⟩ = some (.int .i64 x.f2))
  have y3 := clk ((blk_cell h1 3).trans rfl : wb.cell? ⟨w.heap.size, 3, none⟩ = some (.bool x.f3))
  have z3 := clk ((blk_cell h2 3).trans rfl : wb.cell? ⟨w.heap.size + 1, 3, none⟩ = some (.bool x.f3))
  have y4 := clk ((blk_cell h1 4).trans rfl : wb.cell? ⟨w.heap.size, 4, none⟩ = some (.int .i64 x.f4.f0))
  have z4 := clk ((blk_cell h2 4).trans rfl : wb.cell? ⟨w.heap.size + 1, 4, none⟩ = some (.int .i64 x.f4.f0))
  have y5 := clk ((blk_cell h1 5).trans rfl : wb.cell? ⟨w.heap.size, 5, none⟩ = some (.string x.f4.f1))
  have z5 := clk ((blk_cell h2 5).trans rfl : wb.cell? ⟨w.heap.size + 1, 5, none⟩ = some (.string x.f4.f1))
  have y6 := clk ((blk_cell h1 6).trans rfl : wb.cell? ⟨w.heap.size, 6, none⟩ = some (.bool x.f4.f2))
  have z6 := clk ((blk_cell h2 6).trans rfl : wb.cell? ⟨w.heap.size + 1, 6, none⟩ = some (.bool x.f4.f2))
  have y7 := clk ((blk_cell h1 7).trans rfl : wb.cell? ⟨w.heap.size, 7, none⟩ = some (.string x.f4.f3))
  have z7 := clk ((blk_cell h2 7).trans rfl : wb.cell? ⟨w.heap.size + 1, 7, none⟩ = some (.string x.f4.f3))
  have y8 := clk ((blk_cell h1 8).trans rfl : wb.cell? ⟨w.heap.size, 8, none⟩ = some (.int .u64 x.f4.f4))
  have z8 := clk ((blk_cell h2 8).trans rfl : wb.cell? ⟨w.heap.size + 1, 8, none⟩ = some (.int .u64 x.f4.f4))
  have y9 := clk ((blk_cell h1 9).trans rfl : wb.cell? ⟨w.heap.size, 9, none⟩ = some (.int .u64 x.f4.f5))
  have z9 := clk ((blk_cell h2 9).trans rfl : wb.cell? ⟨w.heap.size + 1, 9, none⟩ = some (.int .u64 x.f4.f5))
  have y10 := clk ((blk_cell h1 10).trans rfl : wb.cell? ⟨w.heap.size, 10, none⟩ = some (.int .i64 x.f4.f6))
  have z10 := clk ((blk_cell h2 10).trans rfl : wb.cell? ⟨w.heap.size + 1, 10, none⟩ = some (.int .i64 x.f4.f6))
  have kb : K0 (Below wb.heap.size wb wb) := ⟨Below.refl _ _⟩
  have HB := Aside0.mk hb
  clear hb h1 h2
  go_enter Try.func83, Try.ntmps83
  go_wp2_with fail
  rw [← hwb]
  clear hwb
  refine (eqNode_same x.f4 wb).mono ?_
  rintro ex W1 ⟨rfl, hb⟩
  have HY := Aside0.mk (HB.out.trans (hb.mono HB.out.size))
  clear hb
  go_wp2
  go_ret
  exact ⟨rfl, HY.out⟩
set_option maxHeartbeats 4000000 in
set_option maxRecDepth 100000 in
theorem eqNodeS_same (A B : Option Addr) (n ca cb : Nat) (l : List S63) (w : World) (hl : l.length = n) (ha : Kd.C k63 w A n l) (hb : Kd.C k63 w B n l) (hn : n ≤ 1000000000) : Calls Try.prog 24 #[.slice A n ca, .slice B n cb] w fun e w' => e = .returned (.bool true) ∧ Below w.heap.size w w' := by
  have HA := Aside0.mk ha
  have HBr := Aside0.mk hb
  have HN := Aside0.mk hn
  have HB0 := Aside0.mk (Below.refl w.heap.size w)
  clear ha hb hl hn
  go_enter Try.func24, Try.ntmps24
  go_wp2_with fail
  go_loopw [5] (fun v5 W => ∃ (j : Nat), j ≤ n ∧ v5 = .int .i64 j ∧ Aside0 (Below w.heap.size w W)) (fun v5 _ => n - (intOf v5).toNat)
  case atStart => exact ⟨0, by omega, rfl, HB0⟩
  case round =>
    clear HB0
    obtain ⟨j, hj, rfl, HB⟩ := hrel
    have kW : K0 (Below w.heap.size w wr) := ⟨HB.out⟩
    by_cases hlt : j < n
    · have dl : decide ((j : Int) < (n : Int)) = true := decide_eq_true (by omega)
      have hwj : IntKind.i64.wrap ((j : Int) + 1) = ((j + 1 : Nat) : Int) := by have := HN.out; rw [IntKind.wrap_i64]; omega
      obtain ⟨x, hX⟩ : ∃ x, rd_T63 l (j : Int) = x := ⟨_, rfl⟩
      obtain ⟨ad, e0, hy⟩ := at_T63 HA.out (j : Int) (by omega) (by omega)
      subst e0
      obtain ⟨bd, e0, hz⟩ := at_T63 HBr.out (j : Int) (by omega) (by omega)
      subst e0
      rw [Int.toNat_natCast, hX] at hy hz
      obtain ⟨y0, y1, y2, y3, y4, y5, y6⟩ := hy
      obtain ⟨z0, z1, z2, z3, z4, z5, z6⟩ := hz
      have y0 := clk y0
      have z0 := clk z0
      have y1 := clk y1
      have z1 := clk z1
      have y2 := clk y2
      have z2 := clk z2
      have y3 := clk y3
      have z3 := clk z3
      have y4 := clk y4
      have z4 := clk z4
      have y5 := clk y5
      have z5 := clk z5
      have y6 := clk y6
      have z6 := clk z6
      clear hX
      go_upto_region 6 with (fail)
      have kd : K0 (Below w.heap.size w wr.drew) := ⟨below_drew1 HB.out⟩
      refine sq_region (S := fun W' => K0 (Below w.heap.size w W')) [(0, false), (1, false), (2, false), (3, false), (4, false), (5, false), (6, false), (7, false), (8, true), (9, false)] (by kernel_rfl) (by kernel_rfl) kd (fun hS => ?_)
      repeat (refine sq_n ?_ ?_ rfl ?_ ?_ ?_; rotate_left 2; (intro W hW; go_simp; first | done | with_reducible rfl); (simp only [List.setIfInBounds_toArray, List.set_cons_zero, List.set_cons_succ]; try rfl))
      refine sq_1n rfl (fun hS K1 hK1 => ?_)
      go_simp
      go_at_call 56
      refine (eqNode_same x wr.drew).mono ?_
      rintro ex W1 ⟨rfl, hb⟩
      have k1 : K0 (Below w.heap.size w W1) := ⟨kd.out.trans (hb.mono kd.out.size)⟩
      clear hb
      refine hK1.out _ _ k1 (fun hS => ?_)
      repeat (refine sq_n ?_ ?_ rfl ?_ ?_ ?_; rotate_left 2; (intro W hW; go_simp; first | done | with_reducible rfl); (simp only [List.setIfInBounds_toArray, List.set_cons_zero, List.set_cons_succ]; try rfl))
      refine sq_done (fun hS => ?_)
      go_wp2_with fail
      go_roundw
      case measure => simp only [intOf]; omega
      case rel => exact ⟨j + 1, by omega, by rw [Int.natCast_add]; rfl, ⟨k1.out⟩⟩
    · obtain rfl : j = n := by omega
      have dl : decide ((j : Int) < (j : Int)) = false := decide_eq_false (by omega)
      go_wp2
      go_ret
      exact ⟨rfl, HB.out⟩
set_option maxHeartbeats 4000000 in
set_option maxRecDepth 100000 in
theorem eqInsS_same (A B : Option Addr) (n ca cb : Nat) (l : List S92) (w : World) (hl : l.length = n) (ha : Kd.C k92 w A n l) (hb : Kd.C k92 w B n l) (hn : n ≤ 1000000000) : Calls Try.prog 67 #[.slice A n ca, .slice B n cb] w fun e w' => e = .returned (.bool true) ∧ Below w.heap.size w w' := by
  have HA := Aside0.mk ha
  have HBr := Aside0.mk hb
  have HN := Aside0.mk hn
  have HB0 := Aside0.mk (Below.refl w.heap.size w)
  clear ha hb hl hn
  go_enter Try.func67, Try.ntmps67
  go_wp2_with fail
  go_loopw [5] (fun v5 W => ∃ (j : Nat), j ≤ n ∧ v5 = .int .i64 j ∧ Aside0 (Below w.heap.size w W)) (fun v5 _ => n - (intOf v5).toNat)
  case atStart => exact ⟨0, by omega, rfl, HB0⟩
  case round =>
    clear HB0
    obtain ⟨j, hj, rfl, HB⟩ := hrel
    have kW : K0 (Below w.heap.size w wr) := ⟨HB.out⟩
    by_cases hlt : j < n
    · have dl : decide ((j : Int) < (n : Int)) = true := decide_eq_true (by omega)
      have hwj : IntKind.i64.wrap ((j : Int) + 1) = ((j + 1 : Nat) : Int) := by have := HN.out; rw [IntKind.wrap_i64]; omega
      obtain ⟨x, hX⟩ : ∃ x, rd_T92 l (j : Int) = x := ⟨_, rfl⟩
      obtain ⟨ad, e0, hy⟩ := at_T92 HA.out (j : Int) (by omega) (by omega)
      subst e0
      obtain ⟨bd, e0, hz⟩ := at_T92 HBr.out (j : Int) (by omega) (by omega)
      subst e0
      rw [Int.toNat_natCast, hX] at hy hz
      obtain ⟨y0, y1, y2, y3, y4, y5, y6, y7, y8, y9, y10⟩ := hy
      obtain ⟨z0, z1, z2, z3, z4, z5, z6, z7, z8, z9, z10⟩ := hz
      have y0 := clk y0
      have z0 := clk z0
      have y1 := clk y1
      have z1 := clk z1
      have y2 := clk y2
      have z2 := clk z2
      have y3 := clk y3
      have z3 := clk z3
      have y4 := clk y4
      have z4 := clk z4
      have y5 := clk y5
      have z5 := clk z5
      have y6 := clk y6
      have z6 := clk z6
      have y7 := clk y7
      have z7 := clk z7
      have y8 := clk y8
      have z8 := clk z8
      have y9 := clk y9
      have z9 := clk z9
      have y10 := clk y10
      have z10 := clk z10
      clear hX
      go_upto_region 6 with (fail)
      have kd : K0 (Below w.heap.size w wr.drew) := ⟨below_drew1 HB.out⟩
      refine sq_region (S := fun W' => K0 (Below w.heap.size w W')) [(0, false), (1, false), (2, false), (3, false), (4, false), (5, false), (6, false), (7, false), (8, true), (9, false)] (by kernel_rfl) (by kernel_rfl) kd (fun hS => ?_)
      repeat (refine sq_n ?_ ?_ rfl ?_ ?_ ?_; rotate_left 2; (intro W hW; go_simp; first | done | with_reducible rfl); (simp only [List.setIfInBounds_toArray, List.set_cons_zero, List.set_cons_succ]; try rfl))
      refine sq_1n rfl (fun hS K1 hK1 => ?_)
      go_simp
      go_at_call 83
      refine (eqIns_same x wr.drew).mono ?_
      rintro ex W1 ⟨rfl, hb⟩
      have k1 : K0 (Below w.heap.size w W1) := ⟨kd.out.trans (hb.mono kd.out.size)⟩
      clear hb
      refine hK1.out _ _ k1 (fun hS => ?_)
      repeat (refine sq_n ?_ ?_ rfl ?_ ?_ ?_; rotate_left 2; (intro W hW; go_simp; first | done | with_reducible rfl); (simp only [List.setIfInBounds_toArray, List.set_cons_zero, List.set_cons_succ]; try rfl))
      refine sq_done (fun hS => ?_)
      go_wp2_with fail
      go_roundw
      case measure => simp only [intOf]; omega
      case rel => exact ⟨j + 1, by omega, by rw [Int.natCast_add]; rfl, ⟨k1.out⟩⟩
    · obtain rfl : j = n := by omega
      have dl : decide ((j : Int) < (j : Int)) = false := decide_eq_false (by omega)
      go_wp2
      go_ret
      exact ⟨rfl, HB.out⟩
set_option maxHeartbeats 4000000 in
set_option maxRecDepth 100000 in
theorem eqFilter_same (A B : Option Addr) (n ca cb : Nat) (l : List S63) (w : World) (hl : l.length = n) (ha : Kd.C k63 w A n l) (hbC : Kd.C k63 w B n l) (hn : n ≤ 1000000000) : Calls Try.prog 9 #[.agg #[.slice A n ca], .agg #[.slice B n cb]] w fun e w' => e = .returned (.bool true) ∧ Below w.heap.size w w' := by
  have kr : K0 (Below w.heap.size w w) := ⟨Below.refl _ _⟩
  obtain ⟨wb, hwb⟩ : ∃ wb, wb = (w.alloc (.cells #[(.slice A n ca)] 28)).alloc (.cells #[(.slice B n cb)] 28) := ⟨_, rfl⟩
  have hb : Below w.heap.size w wb := hwb ▸ kk
  have h1 : wb.heap[w.heap.size]? = some (.cells #[(.slice A n ca)] 28 (0, 0)) := hwb ▸ blk_alloc (heap_alloc_new w _) _
  have h2 : wb.heap[w.heap.size + 1]? = some (.cells #[(.slice B n cb)] 28 (0, 0)) := hwb ▸ new1 w _ _
  have y0 := clk ((blk_cell h1 0).trans rfl : wb.cell? ⟨w.heap.size, 0, none⟩ = some (.slice A n ca))
  have z0 := clk ((blk_cell h2 0).trans rfl : wb.cell? ⟨w.heap.size + 1, 0, none⟩ = some (.slice B n cb))
  have kb : K0 (Below wb.heap.size wb wb) := ⟨Below.refl _ _⟩
  have HB := Aside0.mk hb
  clear hb h1 h2
  have HC := Aside0.mk (And.intro (Kd.C_below ha HB.out) (And.intro (Kd.C_below hbC HB.out) (And.intro hl hn)))
  clear ha hbC hl hn
  go_enter Try.func9, Try.ntmps9
  go_wp2_with fail
  rw [← hwb]
  clear hwb
  refine (eqNodeS_same A B n ca cb l wb HC.out.2.2.1 HC.out.1 HC.out.2.1 HC.out.2.2.2).mono ?_
  rintro ex W1 ⟨rfl, hb⟩
  have HY := Aside0.mk (HB.out.trans (hb.mono HB.out.size))
  clear hb
  go_wp2
  go_ret
  exact ⟨rfl, HY.out⟩
set_option maxHeartbeats 4000000 in
set_option maxRecDepth 100000 in
theorem eqBlock_same (A B : Option Addr) (n ca cb : Nat) (q : Int) (l : List S92) (w : World) (hl : l.length = n) (ha : Kd.C k92 w A n l) (hbC : Kd.C k92 w B n l) (hn : n ≤ 1000000000) : Calls Try.prog 34 #[.agg #[.slice A n ca, .int .i64 q], .agg #[.slice B n cb, .int .i64 q]] w fun e w' => e = .returned (.bool true) ∧ Below w.heap.size w w' := by
  have kr : K0 (Below w.heap.size w w) := ⟨Below.refl _ _⟩
  obtain ⟨wb, hwb⟩ : ∃ wb, wb = (w.alloc (.cells #[(.slice A n ca), (.int .i64 q)] 37)).alloc (.cells #[(.slice B n cb), (.int .i64 q)] 37) := ⟨_, rfl⟩
  have hb : Below w.heap.size w wb := hwb ▸ kk
  have h1 : wb.heap[w.heap.size]? = some (.cells #[(.slice A n ca), (.int .i64 q)] 37 (0, 0)) := hwb ▸ blk_alloc (heap_alloc_new w _) _
  have h2 : wb.heap[w.heap.size + 1]? = some (.cells #[(.slice B n cb), (.int .i64 q)] 37 (0, 0)) := hwb ▸ new1 w _ _
  have y0 := clk ((blk_cell h1 0).trans rfl : wb.cell? ⟨w.heap.size, 0, none⟩ = some (.slice A n ca))
  have z0 := clk ((blk_cell h2 0).trans rfl : wb.cell? ⟨w.heap.size + 1, 0, none⟩ = some (.slice B n cb))
  have y1 := clk ((blk_cell h1 1).trans rfl : wb.cell? ⟨w.heap.size, 1, none⟩ = some (.int .i64 q))
  have z1 := clk ((blk_cell h2 1).trans rfl : wb.cell? ⟨w.heap.size + 1, 1, none⟩ = some (.int .i64 q))
  have kb : K0 (Below wb.heap.size wb wb) := ⟨Below.refl _ _⟩
  have HB := Aside0.mk hb
  clear hb h1 h2
  have HC := Aside0.mk (And.intro (Kd.C_below ha HB.out) (And.intro (Kd.C_below hbC HB.out) (And.intro hl hn)))
  clear ha hbC hl hn
  go_enter Try.func34, Try.ntmps34
  go_wp2_with fail
  rw [← hwb]
  clear hwb
  refine (eqInsS_same A B n ca cb l wb HC.out.2.2.1 HC.out.1 HC.out.2.1 HC.out.2.2.2).mono ?_
  rintro ex W1 ⟨rfl, hb⟩
  have k1 : K0 (Below wb.heap.size wb W1) := ⟨hb⟩
  have HY := Aside0.mk (HB.out.trans (hb.mono HB.out.size))
  clear hb
  go_wp2
  go_ret
  exact ⟨rfl, HY.out⟩
set_option maxHeartbeats 4000000 in
set_option maxRecDepth 100000 in
theorem eqBlockS_same (A B : Option Addr) (n ca cb : Nat) (l : List S37) (w : World) (hl : l.length = n) (ha : Kd.C k37 w A n l) (hb : Kd.C k37 w B n l) (hn : n ≤ 1000000000) (hq : ∀ x ∈ l, x.f0.length ≤ 1000000000) : Calls Try.prog 33 #[.slice A n ca, .slice B n cb] w fun e w' => e = .returned (.bool true) ∧ Below w.heap.size w w' := by
  have HA := Aside0.mk ha
  have HBr := Aside0.mk hb
  have HN := Aside0.mk hn
  have HB0 := Aside0.mk (Below.refl w.heap.size w)
  have HQ := Aside0.mk hq
  have HLn := Aside0.mk hl
  clear ha hb hl hn hq
  go_enter Try.func33, Try.ntmps33
  go_wp2_with fail
  go_loopw [5] (fun v5 W => ∃ (j : Nat), j ≤ n ∧ v5 = .int .i64 j ∧ Aside0 (Below w.heap.size w W)) (fun v5 _ => n - (intOf v5).toNat)
  case atStart => exact ⟨0, by omega, rfl, HB0⟩
  case round =>
    clear HB0
    obtain ⟨j, hj, rfl, HB⟩ := hrel
    have kW : K0 (Below w.heap.size w wr) := ⟨HB.out⟩
    by_cases hlt : j < n
    · have dl : decide ((j : Int) < (n : Int)) = true := decide_eq_true (by omega)
      have hwj : IntKind.i64.wrap ((j : Int) + 1) = ((j + 1 : Nat) : Int) := by have := HN.out; rw [IntKind.wrap_i64]; omega
      obtain ⟨x, hX⟩ : ∃ x, rd_T37 l (j : Int) = x := ⟨_, rfl⟩
      obtain ⟨ad, A0, a0, e0, y0, y1, hya, hyC⟩ := at_T37 HA.out (j : Int) (by omega) (by omega)
      subst e0
      obtain ⟨bd, B0, b0, e0, z0, z1, hza, hzC⟩ := at_T37 HBr.out (j : Int) (by omega) (by omega)
      subst e0
      rw [Int.toNat_natCast, hX] at y0 y1 z0 z1
      rw [hX] at hyC hzC
      have hmx := HQ.out x (by
        rw [← hX]; unfold rd_T37; rw [Int.toNat_natCast, List.getD_eq_getElem?_getD]
        have := HLn.out
        rw [List.getElem?_eq_getElem (by omega), Option.getD_some]
        exact List.getElem_mem _)
      have y0 := clk y0
      have y1 := clk y1
      have z0 := clk z0
      have z1 := clk z1
      have HX := Aside0.mk (And.intro hyC (And.intro hzC hmx))
      clear hya hza hyC hzC hmx
      clear hX
      go_upto_region 6 with (fail)
      have kd : K0 (Below w.heap.size w wr.drew) := ⟨below_drew1 HB.out⟩
      refine sq_region (S := fun W' => K0 (Below w.heap.size w W')) [(0, false), (1, false), (2, false), (3, false), (4, false), (5, false), (6, false), (7, false), (8, true), (9, false)] (by kernel_rfl) (by kernel_rfl) kd (fun hS => ?_)
      repeat (refine sq_n ?_ ?_ rfl ?_ ?_ ?_; rotate_left 2; (intro W hW; go_simp; first | done | with_reducible rfl); (simp only [List.setIfInBounds_toArray, List.set_cons_zero, List.set_cons_succ]; try rfl))
      refine sq_1n rfl (fun hS K1 hK1 => ?_)
      go_simp
      go_at_call 34
      refine (eqBlock_same A0 B0 x.f0.length a0 b0 x.f1 x.f0 wr.drew rfl (Kd.C_below HX.out.1 kd.out) (Kd.C_below HX.out.2.1 kd.out) HX.out.2.2).mono ?_
      rintro ex W1 ⟨rfl, hb⟩
      have k1 : K0 (Below w.heap.size w W1) := ⟨kd.out.trans (hb.mono kd.out.size)⟩
      clear hb
      refine hK1.out _ _ k1 (fun hS => ?_)
      repeat (refine sq_n ?_ ?_ rfl ?_ ?_ ?_; rotate_left 2; (intro W hW; go_simp; first | done | with_reducible rfl); (simp only [List.setIfInBounds_toArray, List.set_cons_zero, List.set_cons_succ]; try rfl))
      refine sq_done (fun hS => ?_)
      go_wp2_with fail
      go_roundw
      case measure => simp only [intOf]; omega
      case rel => exact ⟨j + 1, by omega, by rw [Int.natCast_add]; rfl, ⟨k1.out⟩⟩
    · obtain rfl : j = n := by omega
      have dl : decide ((j : Int) < (j : Int)) = false := decide_eq_false (by omega)
      go_wp2
      go_ret
      exact ⟨rfl, HB.out⟩
set_option maxHeartbeats 4000000 in
set_option maxRecDepth 100000 in
theorem eqCode_same (A B A1 B1 : Option Addr) (n ca cb n1 ca1 cb1 : Nat) (q : Int) (l : List S37) (l1 : List S92) (w : World) (hl : l.length = n) (ha : Kd.C k37 w A n l) (hbC : Kd.C k37 w B n l) (hn : n ≤ 1000000000) (hq : ∀ x ∈ l, x.f0.length ≤ 1000000000) (hl1 : l1.length = n1) (ha1 : Kd.C k92 w A1 n1 l1) (hb1 : Kd.C k92 w B1 n1 l1) (hn1 : n1 ≤ 1000000000) : Calls Try.prog 14 #[.agg #[.slice A n ca, .slice A1 n1 ca1, .int .i64 q], .agg #[.slice B n cb, .slice B1 n1 cb1, .int .i64 q]] w fun e w' => e = .returned (.bool true) ∧ Below w.heap.size w w' := by
  have kr : K0 (Below w.heap.size w w) := ⟨Below.refl _ _⟩
  obtain ⟨wb, hwb⟩ : ∃ wb, wb = (w.alloc (.cells #[(.slice A n ca), (.slice A1 n1 ca1), (.int .i64 q)] 39)).alloc (.cells #[(.slice B n cb), (.slice B1 n1 cb1), (.int .i64 q)] 39) := ⟨_, rfl⟩
  have hb : Below w.heap.size w wb := hwb ▸ kk
  have h1 : wb.heap[w.heap.size]? = some (.cells #[(.slice A n ca), (.slice A1 n1 ca1), (.int .i64 q)] 39 (0, 0)) := hwb ▸ blk_alloc (heap_alloc_new w _) _
  have h2 : wb.heap[w.heap.size + 1]? = some (.cells #[(.slice B n cb), (.slice B1 n1 cb1), (.int .i64 q)] 39 (0, 0)) := hwb ▸ new1 w _ _
  have y0 := clk ((blk_cell h1 0).trans rfl : wb.cell? ⟨w.heap.size, 0, none⟩ = some (.slice A n ca))
  have z0 := clk ((blk_cell h2 0).trans rfl : wb.cell? ⟨w.heap.size + 1, 0, none⟩ = some (.slice B n cb))
  have y1 := clk ((blk_cell h1 1).trans rfl : wb.cell? ⟨w.heap.size, 1, none⟩ = some (.slice A1 n1 ca1))
  have z1 := clk ((blk_cell h2 1).trans rfl : wb.cell? ⟨w.heap.size + 1, 1, none⟩ = some (.slice B1 n1 cb1))
  have y2 := clk ((blk_cell h1 2).trans rfl : wb.cell? ⟨w.heap.size, 2, none⟩ = some (.int .i64 q))
  have z2 := clk ((blk_cell h2 2).trans rfl : wb.cell? ⟨w.heap.size + 1, 2, none⟩ = some (.int .i64 q))
  have kb : K0 (Below wb.heap.size wb wb) := ⟨Below.refl _ _⟩
  have HB := Aside0.mk hb
  clear hb h1 h2
  have HC := Aside0.mk (And.intro (Kd.C_below ha HB.out) (And.intro (Kd.C_below hbC HB.out) (And.intro hl hn)))
  have HD := Aside0.mk (And.intro (Kd.C_below ha1 HB.out) (And.intro (Kd.C_below hb1 HB.out) (And.intro hl1 hn1)))
  have HQ := Aside0.mk hq
  clear ha hbC hl hn ha1 hb1 hl1 hn1 hq
  go_enter Try.func14, Try.ntmps14
  go_wp2_with fail
  rw [← hwb]
  clear hwb
  refine (eqBlockS_same A B n ca cb l wb HC.out.2.2.1 HC.out.1 HC.out.2.1 HC.out.2.2.2 HQ.out).mono ?_
  rintro ex W1 ⟨rfl, hb⟩
  have k1 : K0 (Below wb.heap.size wb W1) := ⟨hb⟩
  clear hb
  go_wp2_with fail
  refine (eqBlock_same A1 B1 n1 ca1 cb1 q l1 W1 HD.out.2.2.1 (Kd.C_below HD.out.1 k1.out) (Kd.C_below HD.out.2.1 k1.out) HD.out.2.2.2).mono ?_
  rintro ex W2 ⟨rfl, hb⟩
  have HY := Aside0.mk (HB.out.trans ((k1.out.trans (hb.mono k1.out.size)).mono HB.out.size))
  clear hb
  go_wp2
  go_ret
  exact ⟨rfl, HY.out⟩
end Go.Proofs.Ytpfehkkfakofaaa.Q

namespace Go.Proofs.Ytpfehkkfakofaaa.Q
open Go.RowKit Go.Proofs.YtpfehkkfakofaaaW.PrintWords Go.Proofs.YtpfehkkfakofaaaW.PrintLast Go.Proofs.YtpfehkkfakofaaaW.PrintMore
set_option linter.unusedVariables false
set_option linter.unusedSimpArgs false

/-! ### laws_szNode: function 39 -/
def laws_szNode.f (a0_0 : Int) (a0_1 : ByteArray) (a0_2 : Bool) (a0_3 : ByteArray) (a0_4 : Int) (a0_5 : Int) (a0_6 : Int) (a1 : Int) : Option (Int) := if (wrap64 (a1 - (a0_1.size : Int))) < 0 then (some (-1)) else (if (wrap64 ((wrap64 (a1 - (a0_1.size : Int))) - (a0_3.size : Int))) < 0 then (some (-1)) else (some (wrap64 ((wrap64 (a1 - (a0_1.size : Int))) - (a0_3.size : Int)))))
set_option maxHeartbeats 8000000 in
set_option maxRecDepth 100000 in
theorem laws_szNode.calls (a0_0 : Int) (a0_1 : ByteArray) (a0_2 : Bool) (a0_3 : ByteArray) (a0_4 : Int) (a0_5 : Int) (a0_6 : Int) (a1 : Int) (r : Int) (w : World) (h : laws_szNode.f a0_0 a0_1 a0_2 a0_3 a0_4 a0_5 a0_6 a1 = some r) :
  Calls Try.prog 39 #[.agg #[.int .i64 a0_0, .string a0_1, .bool a0_2, .string a0_3, .int .u64 a0_4, .int .u64 a0_5, .int .i64 a0_6], .int .i64 a1] w fun e w' => e = .returned (.int .i64 r) ∧ Below w.heap.size w w' := by
 have hu72 := Try.underlying72
 have HB := Aside0.mk (Below.refl w.heap.size w)
 have H : (if (wrap64 (a1 - (a0_1.size : Int))) < 0 then (some (-1)) else (if (wrap64 ((wrap64 (a1 - (a0_1.size : Int))) - (a0_3.size : Int))) < 0 then (some (-1)) else (some (wrap64 ((wrap64 (a1 - (a0_1.size : Int))) - (a0_3.size : Int)))))) = some r := h
 clear h
 by_cases c3 : (wrap64 (a1 - (a0_1.size : Int))) < 0
 ·rw [if_pos c3] at H
  have c3b0 : decide ((wrap64 (a1 - (a0_1.size : Int))) < 0) = true := decide_eq_true c3
  clear c3
  obtain rfl := Option.some.inj H
  go_enter Try.func39, Try.ntmps39
  go_wp2_with (first | ((with_reducible refine gate_dst (N := 2) rfl ?_); refine box_event ?hg (N := 2) ?hd (cs := #[.int .i64 a0_0, .string a0_1, .bool a0_2, .string a0_3, .int .u64 a0_4, .int .u64 a0_5, .int .i64 a0_6]) (t := 72) ?hr ?_; (case hd => rfl); (case hg => rfl); (case hr => first | (go_simp; done) | (go_simp; rfl)); intro gb101 hg w4 hbox hb; have n0_ := Aside0.mk (below_step bw hb); have n1_ := Aside0.mk (hbox); have n2_ := Aside0.mk ((by rw [hg]; exact (below_size bw) : w.heap.size ≤ gb101)); have n3_ := Aside0.mk ((by rw [hg]; exact (below_size bw) : w.heap.size ≤ gb101)); clear HB; have HB := n0_; have BK101 := n1_; have GW101 := n2_; have GE101 := n3_; clear n0_ n1_ n2_ n3_; clear hb hbox hg; have hcz5_0 : w4.cell? ⟨gb101, 0, none⟩ = some (.int .i64 a0_0) := (blk_cell BK101.out 0).trans rfl; have hcz5_1 : w4.cell? ⟨gb101, 1, none⟩ = some (.string a0_1) := (blk_cell BK101.out 1).trans rfl; have hcz5_2 : w4.cell? ⟨gb101, 2, none⟩ = some (.bool a0_2) := (blk_cell BK101.out 2).trans rfl; have hcz5_3 : w4.cell? ⟨gb101, 3, none⟩ = some (.string a0_3) := (blk_cell BK101.out 3).trans rfl; have hcz5_4 : w4.cell? ⟨gb101, 4, none⟩ = some (.int .u64 a0_4) := (blk_cell BK101.out 4).trans rfl; have hcz5_5 : w4.cell? ⟨gb101, 5, none⟩ = some (.int .u64 a0_5) := (blk_cell BK101.out 5).trans rfl; have hcz5_6 : w4.cell? ⟨gb101, 6, none⟩ = some (.int .i64 a0_6) := (blk_cell BK101.out 6).trans rfl; have hfz5_0 := blk_frozen BK101.out 0; have hfz5_1 := blk_frozen BK101.out 1; have hfz5_2 := blk_frozen BK101.out 2; have hfz5_3 := blk_frozen BK101.out 3; have hfz5_4 := blk_frozen BK101.out 4; have hfz5_5 := blk_frozen BK101.out 5; have hfz5_6 := blk_frozen BK101.out 6))
  go_ret
  exact ⟨by first | rfl | (simp [errW_none, errW_some] <;> rfl) | (simp [*, errW_none, errW_some] <;> rfl), bw⟩
 ·rw [if_neg c3] at H
  have c3b0 : decide ((wrap64 (a1 - (a0_1.size : Int))) < 0) = false := decide_eq_false c3
  clear c3
  by_cases c6 : (wrap64 ((wrap64 (a1 - (a0_1.size : Int))) - (a0_3.size : Int))) < 0
  ·rw [if_pos c6] at H
   have c6b0 : decide ((wrap64 ((wrap64 (a1 - (a0_1.size : Int))) - (a0_3.size : Int))) < 0) = true := decide_eq_true c6
   clear c6
   obtain rfl := Option.some.inj H
   go_enter Try.func39, Try.ntmps39
   go_wp2_with (first | ((with_reducible refine gate_dst (N := 2) rfl ?_); refine box_event ?hg (N := 2) ?hd (cs := #[.int .i64 a0_0, .string a0_1, .bool a0_2, .string a0_3, .int .u64 a0_4, .int .u64 a0_5, .int .i64 a0_6]) (t := 72) ?hr ?_; (case hd => rfl); (case hg => rfl); (case hr => first | (go_simp; done) | (go_simp; rfl)); intro gb101 hg w7 hbox hb; have n0_ := Aside0.mk (below_step bw hb); have n1_ := Aside0.mk (hbox); have n2_ := Aside0.mk ((by rw [hg]; exact (below_size bw) : w.heap.size ≤ gb101)); have n3_ := Aside0.mk ((by rw [hg]; exact (below_size bw) : w.heap.size ≤ gb101)); clear HB; have HB := n0_; have BK101 := n1_; have GW101 := n2_; have GE101 := n3_; clear n0_ n1_ n2_ n3_; clear hb hbox hg; have hcz8_0 : w7.cell? ⟨gb101, 0, none⟩ = some (.int .i64 a0_0) := (blk_cell BK101.out 0).trans rfl; have hcz8_1 : w7.cell? ⟨gb101, 1, none⟩ = some (.string a0_1) := (blk_cell BK101.out 1).trans rfl; have hcz8_2 : w7.cell? ⟨gb101, 2, none⟩ = some (.bool a0_2) := (blk_cell BK101.out 2).trans rfl; have hcz8_3 : w7.cell? ⟨gb101, 3, none⟩ = some (.string a0_3) := (blk_cell BK101.out 3).trans rfl; have hcz8_4 : w7.cell? ⟨gb101, 4, none⟩ = some (.int .u64 a0_4) := (blk_cell BK101.out 4).trans rfl; have hcz8_5 : w7.cell? ⟨gb101, 5, none⟩ = some (.int .u64 a0_5) := (blk_cell BK101.out 5).trans rfl; have hcz8_6 : w7.cell? ⟨gb101, 6, none⟩ = some (.int .i64 a0_6) := (blk_cell BK101.out 6).trans rfl; have hfz8_0 := blk_frozen BK101.out 0; have hfz8_1 := blk_frozen BK101.out 1; have hfz8_2 := blk_frozen BK101.out 2; have hfz8_3 := blk_frozen BK101.out 3; have hfz8_4 := blk_frozen BK101.out 4; have hfz8_5 := blk_frozen BK101.out 5; have hfz8_6 := blk_frozen BK101.out 6))
   go_ret
   exact ⟨by first | rfl | (simp [errW_none, errW_some] <;> rfl) | (simp [*, errW_none, errW_some] <;> rfl), bw⟩
  ·rw [if_neg c6] at H
   have c6b0 : decide ((wrap64 ((wrap64 (a1 - (a0_1.size : Int))) - (a0_3.size : Int))) < 0) = false := decide_eq_false c6
   clear c6
   obtain rfl := Option.some.inj H
   go_enter Try.func39, Try.ntmps39
   go_wp2_with (first | ((with_reducible refine gate_dst (N := 2) rfl ?_); refine box_event ?hg (N := 2) ?hd (cs := #[.int .i64 a0_0, .string a0_1, .bool a0_2, .string a0_3, .int .u64 a0_4, .int .u64 a0_5, .int .i64 a0_6]) (t := 72) ?hr ?_; (case hd => rfl); (case hg => rfl); (case hr => first | (go_simp; done) | (go_simp; rfl)); intro gb101 hg w9 hbox hb; have n0_ := Aside0.mk (below_step bw hb); have n1_ := Aside0.mk (hbox); have n2_ := Aside0.mk ((by rw [hg]; exact (below_size bw) : w.heap.size ≤ gb101)); have n3_ := Aside0.mk ((by rw [hg]; exact (below_size bw) : w.heap.size ≤ gb101)); clear HB; have HB := n0_; have BK101 := n1_; have GW101 := n2_; have GE101 := n3_; clear n0_ n1_ n2_ n3_; clear hb hbox hg; have hcz10_0 : w9.cell? ⟨gb101, 0, none⟩ = some (.int .i64 a0_0) := (blk_cell BK101.out 0).trans rfl; have hcz10_1 : w9.cell? ⟨gb101, 1, none⟩ = some (.string a0_1) := (blk_cell BK101.out 1).trans rfl; have hcz10_2 : w9.cell? ⟨gb101, 2, none⟩ = some (.bool a0_2) := (blk_cell BK101.out 2).trans rfl; have hcz10_3 : w9.cell? ⟨gb101, 3, none⟩ = some (.string a0_3) := (blk_cell BK101.out 3).trans rfl; have hcz10_4 : w9.cell? ⟨gb101, 4, none⟩ = some (.int .u64 a0_4) := (blk_cell BK101.out 4).trans rfl; have hcz10_5 : w9.cell? ⟨gb101, 5, none⟩ = some (.int .u64 a0_5) := (blk_cell BK101.out 5).trans rfl; have hcz10_6 : w9.cell? ⟨gb101, 6, none⟩ = some (.int .i64 a0_6) := (blk_cell BK101.out 6).trans rfl; have hfz10_0 := blk_frozen BK101.out 0; have hfz10_1 := blk_frozen BK101.out 1; have hfz10_2 := blk_frozen BK101.out 2; have hfz10_3 := blk_frozen BK101.out 3; have hfz10_4 := blk_frozen BK101.out 4; have hfz10_5 := blk_frozen BK101.out 5; have hfz10_6 := blk_frozen BK101.out 6))
   go_ret
   exact ⟨by first | rfl | (simp [errW_none, errW_some] <;> rfl) | (simp [*, errW_none, errW_some] <;> rfl), bw⟩

end Go.Proofs.Ytpfehkkfakofaaa.Q

namespace Go.Proofs.Ytpfehkkfakofaaa.Q
open Go.RowKit Go.Proofs.YtpfehkkfakofaaaW.PrintWords Go.Proofs.YtpfehkkfakofaaaW.PrintLast Go.Proofs.YtpfehkkfakofaaaW.PrintMore
set_option linter.unusedVariables false
set_option linter.unusedSimpArgs false

/-! ### laws_szNodeS: function 17 -/
def laws_szNodeS.l0 : Nat → List (S72) → Int → Int → Option (Int)
 | 0, _, _, _ => none
 | k + 1, x0, x1, x5 => if x5 < (x0.length : Int) then (if 0 ≤ x5 then ((laws_szNode.f ((rd_T72 x0 x5).f0) ((rd_T72 x0 x5).f1) ((rd_T72 x0 x5).f2) ((rd_T72 x0 x5).f3) ((rd_T72 x0 x5).f4) ((rd_T72 x0 x5).f5) ((rd_T72 x0 x5).f6) x1).bind fun t103 => (if t103 < 0 then (some (-1)) else (laws_szNodeS.l0 k x0 t103 (wrap64 (x5 + 1))))) else (none)) else (some x1)
def laws_szNodeS.f (k : Nat) (l0 : List (S72)) (a1 : Int) : Option (Int) := if (wrap64 (a1 - (l0.length : Int))) < 0 then (some (-1)) else (laws_szNodeS.l0 k l0 (wrap64 (a1 - (l0.length : Int))) 0)
set_option maxHeartbeats 8000000 in
set_option maxRecDepth 100000 in
theorem laws_szNodeS.calls (k : Nat) (A0 : Option Addr) (c0 : Nat) (l0 : List (S72)) (a1 : Int) (r : Int) (w : World) (hr0 : Kd.C k72 w A0 l0.length l0) (hc0 : l0.length ≤ c0) (h : laws_szNodeS.f k l0 a1 = some r) :
  Calls Try.prog 17 #[.slice A0 l0.length c0, .int .i64 a1] w fun e w' => e = .returned (.int .i64 r) ∧ Below w.heap.size w w' := by
 have hu72 := Try.underlying72
 have HR0 := Aside0.mk hr0
 have HC0 := Aside0.mk hc0
 clear hr0 hc0
 have HB := Aside0.mk (Below.refl w.heap.size w)
 have H : (if (wrap64 (a1 - (l0.length : Int))) < 0 then (some (-1)) else (laws_szNodeS.l0 k l0 (wrap64 (a1 - (l0.length : Int))) 0)) = some r := h
 clear h
 by_cases c3 : (wrap64 (a1 - (l0.length : Int))) < 0
 ·rw [if_pos c3] at H
  have c3b0 : decide ((wrap64 (a1 - (l0.length : Int))) < 0) = true := decide_eq_true c3
  clear c3
  obtain rfl := Option.some.inj H
  go_enter Try.func17, Try.ntmps17
  go_wp2
  go_ret
  exact ⟨by first | rfl | (simp [errW_none, errW_some] <;> rfl) | (simp [*, errW_none, errW_some] <;> rfl), bw⟩
 ·rw [if_neg c3] at H
  have c3b0 : decide ((wrap64 (a1 - (l0.length : Int))) < 0) = false := decide_eq_false c3
  clear c3
  have H' := Aside0.mk H
  clear H
  go_enter Try.func17, Try.ntmps17
  go_wp2
  go_loopg [1, 5] k (fun kq v1 v5 w' => ∃ (x1_1 : Int) (x5_1 : Int), v1 = .int .i64 x1_1 ∧ v5 = .int .i64 x5_1 ∧ Aside0 (laws_szNodeS.l0 kq l0 x1_1 x5_1 = some r) ∧ Aside0 (kq ≤ k) ∧ Aside0 (Below w.heap.size w w'))
  case atStart => exact ⟨(wrap64 (a1 - (l0.length : Int))), (0), (by first | rfl | (simp; done) | (simp [*]; done)), (by first | rfl | (simp; done) | (simp [*]; done)), H', ⟨Nat.le_refl _⟩, ⟨bw⟩⟩
  case round =>
   clear H'
   try clear c1
   try clear p2
   try clear c3
   try clear c3b0
   obtain ⟨x1_1, x5_1, rfl, rfl, HA, HK1, HB⟩ := hrel
   cases gk with
   | zero => exact absurd HA.out (by simp [laws_szNodeS.l0])
   | succ k1 =>
    have H := HA.out
    clear HA
    simp only [laws_szNodeS.l0] at H
    by_cases c4 : x5_1 < (l0.length : Int)
    ·rw [if_pos c4] at H
     have c4b0 : decide (x5_1 < (l0.length : Int)) = true := decide_eq_true c4
     clear c4
     by_cases c5 : 0 ≤ x5_1
     ·rw [if_pos c5] at H
      have c5b0 : decide (0 ≤ x5_1) = true := decide_eq_true c5
      clear c5
      replace H := Option.bind_eq_some_iff.mp H
      obtain ⟨t103, A60, H⟩ := H
      replace H : (if t103 < 0 then (some (-1)) else (laws_szNodeS.l0 k1 l0 t103 (wrap64 (x5_1 + 1)))) = some r := H
      have A6 := Aside0.mk A60
      clear A60
      by_cases c7 : t103 < 0
      ·rw [if_pos c7] at H
       have c7b0 : decide (t103 < 0) = true := decide_eq_true c7
       clear c7
       obtain rfl := Option.some.inj H
       have p102 : 0 ≤ (x5_1 : Int) := of_decide_eq_true (by first | (with_reducible assumption) | assumption)
       have q102 : x5_1 < (l0.length : Int) := of_decide_eq_true (by first | (with_reducible assumption) | assumption)
       obtain ⟨ad102, e102, hx102_0, hx102_1, hx102_2, hx102_3, hx102_4, hx102_5, hx102_6⟩ := at_T72 HR0.out x5_1 p102 q102
       cases e102
       replace hx102_0 := (HB.out.cell (World.block_lt_of_cell? w _ hx102_0)).trans hx102_0
       replace hx102_1 := (HB.out.cell (World.block_lt_of_cell? w _ hx102_1)).trans hx102_1
       replace hx102_2 := (HB.out.cell (World.block_lt_of_cell? w _ hx102_2)).trans hx102_2
       replace hx102_3 := (HB.out.cell (World.block_lt_of_cell? w _ hx102_3)).trans hx102_3
       replace hx102_4 := (HB.out.cell (World.block_lt_of_cell? w _ hx102_4)).trans hx102_4
       replace hx102_5 := (HB.out.cell (World.block_lt_of_cell? w _ hx102_5)).trans hx102_5
       replace hx102_6 := (HB.out.cell (World.block_lt_of_cell? w _ hx102_6)).trans hx102_6
       replace p102 := eq_true p102
       replace q102 := eq_true q102
       go_wp2_with (first | ((with_reducible refine at_fn (f := 39) rfl ?_); refine goesL_ (some 23) rfl rfl Try.func39 (by kernel_rfl) rfl #[.agg #[.int .i64 ((rd_T72 l0 x5_1).f0), .string ((rd_T72 l0 x5_1).f1), .bool ((rd_T72 l0 x5_1).f2), .string ((rd_T72 l0 x5_1).f3), .int .u64 ((rd_T72 l0 x5_1).f4), .int .u64 ((rd_T72 l0 x5_1).f5), .int .i64 ((rd_T72 l0 x5_1).f6)], .int .i64 x1_1] rfl (by (try simp only [List.map_toArray, List.map_cons, List.map_nil]); first | done | rfl | (simp only [List.length_drop, List.length_take]; rfl)) ?_; (with_reducible refine (laws_szNode.calls ((rd_T72 l0 x5_1).f0) ((rd_T72 l0 x5_1).f1) ((rd_T72 l0 x5_1).f2) ((rd_T72 l0 x5_1).f3) ((rd_T72 l0 x5_1).f4) ((rd_T72 l0 x5_1).f5) ((rd_T72 l0 x5_1).f6) x1_1 t103 _ A6.out).mono ?_); rintro e w8 ⟨rfl, hb⟩; refine ⟨_, rfl, ?_⟩; have n0_ := Aside0.mk (below_step bw hb); clear HB; have HB := n0_; clear n0_; (try clear hb); (try clear hb2); (try clear hk); (try clear hi)))
       go_ret
       exact ⟨by first | rfl | (simp [errW_none, errW_some] <;> rfl) | (simp [*, errW_none, errW_some] <;> rfl), bw⟩
      ·rw [if_neg c7] at H
       have c7b0 : decide (t103 < 0) = false := decide_eq_false c7
       clear c7
       have H' := Aside0.mk H
       clear H
       have p102 : 0 ≤ (x5_1 : Int) := of_decide_eq_true (by first | (with_reducible assumption) | assumption)
       have q102 : x5_1 < (l0.length : Int) := of_decide_eq_true (by first | (with_reducible assumption) | assumption)
       obtain ⟨ad102, e102, hx102_0, hx102_1, hx102_2, hx102_3, hx102_4, hx102_5, hx102_6⟩ := at_T72 HR0.out x5_1 p102 q102
       cases e102
       replace hx102_0 := (HB.out.cell (World.block_lt_of_cell? w _ hx102_0)).trans hx102_0
       replace hx102_1 := (HB.out.cell (World.block_lt_of_cell? w _ hx102_1)).trans hx102_1
       replace hx102_2 := (HB.out.cell (World.block_lt_of_cell? w _ hx102_2)).trans hx102_2
       replace hx102_3 := (HB.out.cell (World.block_lt_of_cell? w _ hx102_3)).trans hx102_3
       replace hx102_4 := (HB.out.cell (World.block_lt_of_cell? w _ hx102_4)).trans hx102_4
       replace hx102_5 := (HB.out.cell (World.block_lt_of_cell? w _ hx102_5)).trans hx102_5
       replace hx102_6 := (HB.out.cell (World.block_lt_of_cell? w _ hx102_6)).trans hx102_6
       replace p102 := eq_true p102
       replace q102 := eq_true q102
       go_wp2_with (first | ((with_reducible refine at_fn (f := 39) rfl ?_); refine goesL_ (some 23) rfl rfl Try.func39 (by kernel_rfl) rfl #[.agg #[.int .i64 ((rd_T72 l0 x5_1).f0), .string ((rd_T72 l0 x5_1).f1), .bool ((rd_T72 l0 x5_1).f2), .string ((rd_T72 l0 x5_1).f3), .int .u64 ((rd_T72 l0 x5_1).f4), .int .u64 ((rd_T72 l0 x5_1).f5), .int .i64 ((rd_T72 l0 x5_1).f6)], .int .i64 x1_1] rfl (by (try simp only [List.map_toArray, List.map_cons, List.map_nil]); first | done | rfl | (simp only [List.length_drop, List.length_take]; rfl)) ?_; (with_reducible refine (laws_szNode.calls ((rd_T72 l0 x5_1).f0) ((rd_T72 l0 x5_1).f1) ((rd_T72 l0 x5_1).f2) ((rd_T72 l0 x5_1).f3) ((rd_T72 l0 x5_1).f4) ((rd_T72 l0 x5_1).f5) ((rd_T72 l0 x5_1).f6) x1_1 t103 _ A6.out).mono ?_); rintro e w9 ⟨rfl, hb⟩; refine ⟨_, rfl, ?_⟩; have n0_ := Aside0.mk (below_step bw hb); clear HB; have HB := n0_; clear n0_; (try clear hb); (try clear hb2); (try clear hk); (try clear hi)))
       go_roundg k1
       case measure => have := HK1.out; omega
       case rel => exact ⟨(t103), (wrap64 (x5_1 + 1)), (by first | rfl | (simp; done) | (simp [*]; done)), (by first | rfl | (simp; done) | (simp [*]; done)), H', ⟨by have := HK1.out; omega⟩, ⟨bw⟩⟩
     ·rw [if_neg c5] at H
      exact absurd H (by simp)
    ·rw [if_neg c4] at H
     have c4b0 : decide (x5_1 < (l0.length : Int)) = false := decide_eq_false c4
     clear c4
     obtain rfl := Option.some.inj H
     go_wp2
     go_ret
     exact ⟨by first | rfl | (simp [errW_none, errW_some] <;> rfl) | (simp [*, errW_none, errW_some] <;> rfl), bw⟩

end Go.Proofs.Ytpfehkkfakofaaa.Q

namespace Go.Proofs.Ytpfehkkfakofaaa.Q
open Go.RowKit Go.Proofs.YtpfehkkfakofaaaW.PrintWords Go.Proofs.YtpfehkkfakofaaaW.PrintLast Go.Proofs.YtpfehkkfakofaaaW.PrintMore
set_option linter.unusedVariables false
set_option linter.unusedSimpArgs false

/-! ### laws_szFilter: function 5 -/
def laws_szFilter.f (k : Nat) (l0_0 : List (S72)) (a1 : Int) : Option (Int) := (laws_szNodeS.f k l0_0 a1).bind fun t105 => (if t105 < 0 then (some (-1)) else (some t105))
set_option maxHeartbeats 8000000 in
set_option maxRecDepth 100000 in
theorem laws_szFilter.calls (k : Nat) (A0_0 : Option Addr) (c0_0 : Nat) (l0_0 : List (S72)) (a1 : Int) (r : Int) (w : World) (hr0_0 : Kd.C k72 w A0_0 l0_0.length l0_0) (hc0_0 : l0_0.length ≤ c0_0) (h : laws_szFilter.f k l0_0 a1 = some r) :
  Calls Try.prog 5 #[.agg #[.slice A0_0 l0_0.length c0_0], .int .i64 a1] w fun e w' => e = .returned (.int .i64 r) ∧ Below w.heap.size w w' := by
 have hu24 := Try.underlying24
 have HR0_0 := Aside0.mk hr0_0
 have HC0_0 := Aside0.mk hc0_0
 clear hr0_0 hc0_0
 have HB := Aside0.mk (Below.refl w.heap.size w)
 have H : ((laws_szNodeS.f k l0_0 a1).bind fun t105 => (if t105 < 0 then (some (-1)) else (some t105))) = some r := h
 clear h
 replace H := Option.bind_eq_some_iff.mp H
 obtain ⟨t105, A30, H⟩ := H
 replace H : (if t105 < 0 then (some (-1)) else (some t105)) = some r := H
 have A3 := Aside0.mk A30
 clear A30
 by_cases c4 : t105 < 0
 ·rw [if_pos c4] at H
  have c4b0 : decide (t105 < 0) = true := decide_eq_true c4
  clear c4
  obtain rfl := Option.some.inj H
  go_enter Try.func5, Try.ntmps5
  go_wp2_with (first | ((with_reducible refine gate_dst (N := 2) rfl ?_); refine box_event ?hg (N := 2) ?hd (cs := #[.slice A0_0 l0_0.length c0_0]) (t := 24) ?hr ?_; (case hd => rfl); (case hg => rfl); (case hr => first | (go_simp; done) | (go_simp; rfl)); intro gb104 hg w5 hbox hb; have n0_ := Aside0.mk (below_step bw hb); have n1_ := Aside0.mk (hbox); have n2_ := Aside0.mk ((by rw [hg]; exact (below_size bw) : w.heap.size ≤ gb104)); have n3_ := Aside0.mk ((by rw [hg]; exact (below_size bw) : w.heap.size ≤ gb104)); clear HB; have HB := n0_; have BK104 := n1_; have GW104 := n2_; have GE104 := n3_; clear n0_ n1_ n2_ n3_; clear hb hbox hg; have hcz6_0 : w5.cell? ⟨gb104, 0, none⟩ = some (.slice A0_0 l0_0.length c0_0) := (blk_cell BK104.out 0).trans rfl; have hfz6_0 := blk_frozen BK104.out 0) | ((with_reducible refine at_fn (f := 17) rfl ?_); refine goesL_ (some 8) rfl rfl Try.func17 (by kernel_rfl) rfl #[.slice A0_0 l0_0.length c0_0, .int .i64 a1] rfl (by (try simp only [List.map_toArray, List.map_cons, List.map_nil]); first | done | rfl | (simp only [List.length_drop, List.length_take]; rfl)) ?_; (with_reducible refine (laws_szNodeS.calls k _ _ l0_0 a1 t105 _ ?side1 ?side2 A3.out).mono ?_); (case side1 => repeat (first | exact (Kd.C_below HR0_0.out HB.out) | (with_reducible refine Kd.C_alloc ?_ _) | (with_reducible refine Kd.C_drewN ?_ _) | (with_reducible refine Kd.C_drew ?_))); (case side2 => exact HC0_0.out); rintro e w7 ⟨rfl, hb⟩; refine ⟨_, rfl, ?_⟩; have n0_ := Aside0.mk (blk_below (g := gb104) (o := .cells #[.slice A0_0 l0_0.length c0_0] 24 (0, 0)) (lb BK104) hb); have n1_ := Aside0.mk (below_step bw hb); clear BK104; clear HB; have BK104 := n0_; have HB := n1_; clear n0_ n1_; (try clear hb); (try clear hb2); (try clear hk); (try clear hi)))
  go_ret
  exact ⟨by first | rfl | (simp [errW_none, errW_some] <;> rfl) | (simp [*, errW_none, errW_some] <;> rfl), bw⟩
 ·rw [if_neg c4] at H
  have c4b0 : decide (t105 < 0) = false := decide_eq_false c4
  clear c4
  obtain rfl := Option.some.inj H
  go_enter Try.func5, Try.ntmps5
  go_wp2_with (first | ((with_reducible refine gate_dst (N := 2) rfl ?_); refine box_event ?hg (N := 2) ?hd (cs := #[.slice A0_0 l0_0.length c0_0]) (t := 24) ?hr ?_; (case hd => rfl); (case hg => rfl); (case hr => first | (go_simp; done) | (go_simp; rfl)); intro gb104 hg w8 hbox hb; have n0_ := Aside0.mk (below_step bw hb); have n1_ := Aside0.mk (hbox); have n2_ := Aside0.mk ((by rw [hg]; exact (below_size bw) : w.heap.size ≤ gb104)); have n3_ := Aside0.mk ((by rw [hg]; exact (below_size bw) : w.heap.size ≤ gb104)); clear HB; have HB := n0_; have BK104 := n1_; have GW104 := n2_; have GE104 := n3_; clear n0_ n1_ n2_ n3_; clear hb hbox hg; have hcz9_0 : w8.cell? ⟨gb104, 0, none⟩ = some (.slice A0_0 l0_0.length c0_0) := (blk_cell BK104.out 0).trans rfl; have hfz9_0 := blk_frozen BK104.out 0) | ((with_reducible refine at_fn (f := 17) rfl ?_); refine goesL_ (some 8) rfl rfl Try.func17 (by kernel_rfl) rfl #[.slice A0_0 l0_0.length c0_0, .int .i64 a1] rfl (by (try simp only [List.map_toArray, List.map_cons, List.map_nil]); first | done | rfl | (simp only [List.length_drop, List.length_take]; rfl)) ?_; (with_reducible refine (laws_szNodeS.calls k _ _ l0_0 a1 t105 _ ?side1 ?side2 A3.out).mono ?_); (case side1 => repeat (first | exact (Kd.C_below HR0_0.out HB.out) | (with_reducible refine Kd.C_alloc ?_ _) | (with_reducible refine Kd.C_drewN ?_ _) | (with_reducible refine Kd.C_drew ?_))); (case side2 => exact HC0_0.out); rintro e w10 ⟨rfl, hb⟩; refine ⟨_, rfl, ?_⟩; have n0_ := Aside0.mk (blk_below (g := gb104) (o := .cells #[.slice A0_0 l0_0.length c0_0] 24 (0, 0)) (lb BK104) hb); have n1_ := Aside0.mk (below_step bw hb); clear BK104; clear HB; have BK104 := n0_; have HB := n1_; clear n0_ n1_; (try clear hb); (try clear hb2); (try clear hk); (try clear hi)))
  go_ret
  exact ⟨by first | rfl | (simp [errW_none, errW_some] <;> rfl) | (simp [*, errW_none, errW_some] <;> rfl), bw⟩

end Go.Proofs.Ytpfehkkfakofaaa.Q

namespace Go.Proofs.Ytpfehkkfakofaaa.Q
open Go.RowKit Go.Proofs.YtpfehkkfakofaaaW.PrintWords Go.Proofs.YtpfehkkfakofaaaW.PrintLast Go.Proofs.YtpfehkkfakofaaaW.PrintMore
set_option linter.unusedVariables false
set_option linter.unusedSimpArgs false

/-! ### laws_toNode: function 48 -/
def laws_toNode.f (a0_0 : Int) (a0_1 : ByteArray) (a0_2 : Bool) (a0_3 : ByteArray) (a0_4 : Int) (a0_5 : Int) (a0_6 : Int) : Option (Int × ByteArray × Bool × ByteArray × Int × Int × Int) := some (a0_0, a0_1, a0_2, a0_3, a0_4, a0_5, a0_6)
set_option maxHeartbeats 8000000 in
set_option maxRecDepth 100000 in
theorem laws_toNode.calls (a0_0 : Int) (a0_1 : ByteArray) (a0_2 : Bool) (a0_3 : ByteArray) (a0_4 : Int) (a0_5 : Int) (a0_6 : Int) (r1 : Int) (r2 : ByteArray) (r3 : Bool) (r4 : ByteArray) (r5 : Int) (r6 : Int) (r7 : Int) (w : World) (h : laws_toNode.f a0_0 a0_1 a0_2 a0_3 a0_4 a0_5 a0_6 = some (r1, r2, r3, r4, r5, r6, r7)) :
  Calls Try.prog 48 #[.agg #[.int .i64 a0_0, .string a0_1, .bool a0_2, .string a0_3, .int .u64 a0_4, .int .u64 a0_5, .int .i64 a0_6]] w fun e w' => e = .returned (.agg #[.int .i64 r1, .string r2, .bool r3, .string r4, .int .u64 r5, .int .u64 r6, .int .i64 r7]) ∧ Below w.heap.size w w' := by
 have hu72 := Try.underlying72
 have hu63 := Try.underlying63
 have HB := Aside0.mk (Below.refl w.heap.size w)
 have H : (some (a0_0, a0_1, a0_2, a0_3, a0_4, a0_5, a0_6)) = some (r1, r2, r3, r4, r5, r6, r7) := h
 clear h
 simp only [Option.some.injEq, Prod.mk.injEq] at H
 obtain ⟨rfl, rfl, rfl, rfl, rfl, rfl, rfl⟩ := H
 go_enter Try.func48, Try.ntmps48
 go_wp2_with (first | ((with_reducible refine gate_dst (N := 1) rfl ?_); refine box_event ?hg (N := 1) ?hd (cs := #[.int .i64 a0_0, .string a0_1, .bool a0_2, .string a0_3, .int .u64 a0_4, .int .u64 a0_5, .int .i64 a0_6]) (t := 72) ?hr ?_; (case hd => rfl); (case hg => rfl); (case hr => first | (go_simp; done) | (go_simp; rfl)); intro gb106 hg w2 hbox hb; have n0_ := Aside0.mk (below_step bw hb); have n1_ := Aside0.mk (hbox); have n2_ := Aside0.mk ((by rw [hg]; exact (below_size bw) : w.heap.size ≤ gb106)); have n3_ := Aside0.mk ((by rw [hg]; exact (below_size bw) : w.heap.size ≤ gb106)); clear HB; have HB := n0_; have BK106 := n1_; have GW106 := n2_; have GE106 := n3_; clear n0_ n1_ n2_ n3_; clear hb hbox hg) | ((with_reducible refine gate_dst (N := 2) rfl ?_); refine box_event ?hg (N := 2) ?hd (cs := #[.int .i64 0, .string (⟨#[]⟩ : ByteArray), .bool false, .string (⟨#[]⟩ : ByteArray), .int .u64 0, .int .u64 0, .int .i64 0]) (t := 63) ?hr ?_; (case hd => rfl); (case hg => rfl); (case hr => first | (go_simp; done) | (go_simp; rfl)); intro gb107 hg w3 hbox hb; have n0_ := Aside0.mk (blk_below (g := gb106) (o := .cells #[.int .i64 a0_0, .string a0_1, .bool a0_2, .string a0_3, .int .u64 a0_4, .int .u64 a0_5, .int .i64 a0_6] 72 (0, 0)) (lb BK106) hb); have n1_ := Aside0.mk (below_step bw hb); have n2_ := Aside0.mk (hbox); have n3_ := Aside0.mk ((by rw [hg]; exact (below_size bw) : w.heap.size ≤ gb107)); have n4_ := Aside0.mk ((by rw [hg]; exact (below_size bw) : w.heap.size ≤ gb107)); have n5_ := Aside0.mk ((by rw [hg]; exact Nat.ne_of_lt (blk_lt (g := gb106) (o := .cells #[.int .i64 a0_0, .string a0_1, .bool a0_2, .string a0_3, .int .u64 a0_4, .int .u64 a0_5, .int .i64 a0_6] 72 (0, 0)) (lb BK106)) : gb106 ≠ gb107)); have n6_ := Aside0.mk ((by rw [hg]; exact Nat.ne_of_gt (blk_lt (g := gb106) (o := .cells #[.int .i64 a0_0, .string a0_1, .bool a0_2, .string a0_3, .int .u64 a0_4, .int .u64 a0_5, .int .i64 a0_6] 72 (0, 0)) (lb BK106)) : gb107 ≠ gb106)); clear BK106; clear HB; have BK106 := n0_; have HB := n1_; have BK107 := n2_; have GW107 := n3_; have GE107 := n4_; have NB106_107 := n5_; have NB107_106 := n6_; clear n0_ n1_ n2_ n3_ n4_ n5_ n6_; clear hb hbox hg) | ((with_reducible refine gate_dst (N := 3) rfl ?_); refine box_event ?hg (N := 3) ?hd (cs := #[.int .i64 0, .string (⟨#[]⟩ : ByteArray), .bool false, .string (⟨#[]⟩ : ByteArray), .int .u64 0, .int .u64 0, .int .i64 0]) (t := 63) ?hr ?_; (case hd => rfl); (case hg => rfl); (case hr => first | (go_simp; done) | (go_simp; rfl)); intro gb108 hg w4 hbox hb; have n0_ := Aside0.mk (blk_below (g := gb106) (o := .cells #[.int .i64 a0_0, .string a0_1, .bool a0_2, .string a0_3, .int .u64 a0_4, .int .u64 a0_5, .int .i64 a0_6] 72 (0, 0)) (lb BK106) hb); have n1_ := Aside0.mk (blk_below (g := gb107) (o := .cells #[.int .i64 0, .string (⟨#[]⟩ : ByteArray), .bool false, .string (⟨#[]⟩ : ByteArray), .int .u64 0, .int .u64 0, .int .i64 0] 63 (0, 0)) (lb BK107) hb); have n2_ := Aside0.mk (below_step bw hb); have n3_ := Aside0.mk (hbox); have n4_ := Aside0.mk ((by rw [hg]; exact (below_size bw) : w.heap.size ≤ gb108)); have n5_ := Aside0.mk ((by rw [hg]; exact (below_size bw) : w.heap.size ≤ gb108)); have n6_ := Aside0.mk ((by rw [hg]; exact Nat.ne_of_lt (blk_lt (g := gb106) (o := .cells #[.int .i64 a0_0, .string a0_1, .bool a0_2, .string a0_3, .int .u64 a0_4, .int .u64 a0_5, .int .i64 a0_6] 72 (0, 0)) (lb BK106)) : gb106 ≠ gb108)); have n7_ := Aside0.mk ((by rw [hg]; exact Nat.ne_of_gt (blk_lt (g := gb106) (o := .cells #[.int .i64 a0_0, .string a0_1, .bool a0_2, .string a0_3, .int .u64 a0_4, .int .u64 a0_5, .int .i64 a0_6] 72 (0, 0)) (lb BK106)) : gb108 ≠ gb106)); have n8_ := Aside0.mk ((by rw [hg]; exact Nat.ne_of_lt (blk_lt (g := gb107) (o := .cells #[.int .i64 0, .string (⟨#[]⟩ : ByteArray), .bool false, .string (⟨#[]⟩ : ByteArray), .int .u64 0, .int .u64 0, .int .i64 0] 63 (0, 0)) (lb BK107)) : gb107 ≠ gb108)); have n9_ := Aside0.mk ((by rw [hg]; exact Nat.ne_of_gt (blk_lt (g := gb107) (o := .cells #[.int .i64 0, .string (⟨#[]⟩ : ByteArray), .bool false, .string (⟨#[]⟩ : ByteArray), .int .u64 0, .int .u64 0, .int .i64 0] 63 (0, 0)) (lb BK107)) : gb108 ≠ gb107)); clear BK106; clear BK107; clear HB; have BK106 := n0_; have BK107 := n1_; have HB := n2_; have BK108 := n3_; have GW108 := n4_; have GE108 := n5_; have NB106_108 := n6_; have NB108_106 := n7_; have NB107_108 := n8_; have NB108_107 := n9_; clear n0_ n1_ n2_ n3_ n4_ n5_ n6_ n7_ n8_ n9_; clear hb hbox hg; have hnb5 := NB106_107.out; have hnc5 := NB107_106.out; have hnb6 := NB106_108.out; have hnc6 := NB108_106.out; have hcz7_0 : w4.cell? ⟨gb106, 0, none⟩ = some (.int .i64 a0_0) := (blk_cell BK106.out 0).trans rfl; have hcz7_1 : w4.cell? ⟨gb106, 1, none⟩ = some (.string a0_1) := (blk_cell BK106.out 1).trans rfl; have hcz7_2 : w4.cell? ⟨gb106, 2, none⟩ = some (.bool a0_2) := (blk_cell BK106.out 2).trans rfl; have hcz7_3 : w4.cell? ⟨gb106, 3, none⟩ = some (.string a0_3) := (blk_cell BK106.out 3).trans rfl; have hcz7_4 : w4.cell? ⟨gb106, 4, none⟩ = some (.int .u64 a0_4) := (blk_cell BK106.out 4).trans rfl; have hcz7_5 : w4.cell? ⟨gb106, 5, none⟩ = some (.int .u64 a0_5) := (blk_cell BK106.out 5).trans rfl; have hcz7_6 : w4.cell? ⟨gb106, 6, none⟩ = some (.int .i64 a0_6) := (blk_cell BK106.out 6).trans rfl; have hfz7_0 := blk_frozen BK106.out 0; have hfz7_1 := blk_frozen BK106.out 1; have hfz7_2 := blk_frozen BK106.out 2; have hfz7_3 := blk_frozen BK106.out 3; have hfz7_4 := blk_frozen BK106.out 4; have hfz7_5 := blk_frozen BK106.out 5; have hfz7_6 := blk_frozen BK106.out 6; have hnb8 := NB108_107.out; have hnc8 := NB107_108.out; have hcz9_0 : w4.cell? ⟨gb108, 0, none⟩ = some (.int .i64 0) := (blk_cell BK108.out 0).trans rfl; have hcz9_1 : w4.cell? ⟨gb108, 1, none⟩ = some (.string (⟨#[]⟩ : ByteArray)) := (blk_cell BK108.out 1).trans rfl; have hcz9_2 : w4.cell? ⟨gb108, 2, none⟩ = some (.bool false) := (blk_cell BK108.out 2).trans rfl; have hcz9_3 : w4.cell? ⟨gb108, 3, none⟩ = some (.string (⟨#[]⟩ : ByteArray)) := (blk_cell BK108.out 3).trans rfl; have hcz9_4 : w4.cell? ⟨gb108, 4, none⟩ = some (.int .u64 0) := (blk_cell BK108.out 4).trans rfl; have hcz9_5 : w4.cell? ⟨gb108, 5, none⟩ = some (.int .u64 0) := (blk_cell BK108.out 5).trans rfl; have hcz9_6 : w4.cell? ⟨gb108, 6, none⟩ = some (.int .i64 0) := (blk_cell BK108.out 6).trans rfl; have hfz9_0 := blk_frozen BK108.out 0; have hfz9_1 := blk_frozen BK108.out 1; have hfz9_2 := blk_frozen BK108.out 2; have hfz9_3 := blk_frozen BK108.out 3; have hfz9_4 := blk_frozen BK108.out 4; have hfz9_5 := blk_frozen BK108.out 5; have hfz9_6 := blk_frozen BK108.out 6; have hcz10_0 : w4.cell? ⟨gb107, 0, none⟩ = some (.int .i64 0) := (blk_cell BK107.out 0).trans rfl; have hcz10_1 : w4.cell? ⟨gb107, 1, none⟩ = some (.string (⟨#[]⟩ : ByteArray)) := (blk_cell BK107.out 1).trans rfl; have hcz10_2 : w4.cell? ⟨gb107, 2, none⟩ = some (.bool false) := (blk_cell BK107.out 2).trans rfl; have hcz10_3 : w4.cell? ⟨gb107, 3, none⟩ = some (.string (⟨#[]⟩ : ByteArray)) := (blk_cell BK107.out 3).trans rfl; have hcz10_4 : w4.cell? ⟨gb107, 4, none⟩ = some (.int .u64 0) := (blk_cell BK107.out 4).trans rfl; have hcz10_5 : w4.cell? ⟨gb107, 5, none⟩ = some (.int .u64 0) := (blk_cell BK107.out 5).trans rfl; have hcz10_6 : w4.cell? ⟨gb107, 6, none⟩ = some (.int .i64 0) := (blk_cell BK107.out 6).trans rfl; have hfz10_0 := blk_frozen BK107.out 0; have hfz10_1 := blk_frozen BK107.out 1; have hfz10_2 := blk_frozen BK107.out 2; have hfz10_3 := blk_frozen BK107.out 3; have hfz10_4 := blk_frozen BK107.out 4; have hfz10_5 := blk_frozen BK107.out 5; have hfz10_6 := blk_frozen BK107.out 6))
 refine bodyPost_ret (results_cell_row rfl _ _ gb107 63 #[.int .i64 a0_0, .string a0_1, .bool a0_2, .string a0_3, .int .u64 a0_4, .int .u64 a0_5, .int .i64 a0_6] (0, 0) _ rfl (by (with_reducible repeat (first | refine blk_drewN ?_ _ | refine blk_drew ?_ | refine blk_alloc ?_ _)); refine blk_put (cs := #[.int .i64 a0_0, .string a0_1, .bool a0_2, .string a0_3, .int .u64 a0_4, .int .u64 a0_5, .int .i64 0]) ?_ 6 _ rfl; (with_reducible repeat (first | refine blk_drewN ?_ _ | refine blk_drew ?_ | refine blk_alloc ?_ _)); refine blk_put (cs := #[.int .i64 a0_0, .string a0_1, .bool a0_2, .string a0_3, .int .u64 a0_4, .int .u64 0, .int .i64 0]) ?_ 5 _ rfl; (with_reducible repeat (first | refine blk_drewN ?_ _ | refine blk_drew ?_ | refine blk_alloc ?_ _)); refine blk_put (cs := #[.int .i64 a0_0, .string a0_1, .bool a0_2, .string a0_3, .int .u64 0, .int .u64 0, .int .i64 0]) ?_ 4 _ rfl; (with_reducible repeat (first | refine blk_drewN ?_ _ | refine blk_drew ?_ | refine blk_alloc ?_ _)); refine blk_put (cs := #[.int .i64 a0_0, .string a0_1, .bool a0_2, .string (⟨#[]⟩ : ByteArray), .int .u64 0, .int .u64 0, .int .i64 0]) ?_ 3 _ rfl; (with_reducible repeat (first | refine blk_drewN ?_ _ | refine blk_drew ?_ | refine blk_alloc ?_ _)); refine blk_put (cs := #[.int .i64 a0_0, .string a0_1, .bool false, .string (⟨#[]⟩ : ByteArray), .int .u64 0, .int .u64 0, .int .i64 0]) ?_ 2 _ rfl; (with_reducible repeat (first | refine blk_drewN ?_ _ | refine blk_drew ?_ | refine blk_alloc ?_ _)); refine blk_put (cs := #[.int .i64 a0_0, .string (⟨#[]⟩ : ByteArray), .bool false, .string (⟨#[]⟩ : ByteArray), .int .u64 0, .int .u64 0, .int .i64 0]) ?_ 1 _ rfl; (with_reducible repeat (first | refine blk_drewN ?_ _ | refine blk_drew ?_ | refine blk_alloc ?_ _)); refine blk_put (cs := #[.int .i64 0, .string (⟨#[]⟩ : ByteArray), .bool false, .string (⟨#[]⟩ : ByteArray), .int .u64 0, .int .u64 0, .int .i64 0]) ?_ 0 _ rfl; (with_reducible repeat (first | refine blk_drewN ?_ _ | refine blk_drew ?_ | refine blk_alloc ?_ _)); refine blk_far ?_ NB107_108.out _; (with_reducible repeat (first | refine blk_drewN ?_ _ | refine blk_drew ?_ | refine blk_alloc ?_ _)); refine blk_far ?_ NB107_108.out _; (with_reducible repeat (first | refine blk_drewN ?_ _ | refine blk_drew ?_ | refine blk_alloc ?_ _)); refine blk_far ?_ NB107_108.out _; (with_reducible repeat (first | refine blk_drewN ?_ _ | refine blk_drew ?_ | refine blk_alloc ?_ _)); refine blk_far ?_ NB107_108.out _; (with_reducible repeat (first | refine blk_drewN ?_ _ | refine blk_drew ?_ | refine blk_alloc ?_ _)); refine blk_far ?_ NB107_108.out _; (with_reducible repeat (first | refine blk_drewN ?_ _ | refine blk_drew ?_ | refine blk_alloc ?_ _)); refine blk_far ?_ NB107_108.out _; (with_reducible repeat (first | refine blk_drewN ?_ _ | refine blk_drew ?_ | refine blk_alloc ?_ _)); refine blk_far ?_ NB107_108.out _; (with_reducible repeat (first | refine blk_drewN ?_ _ | refine blk_drew ?_ | refine blk_alloc ?_ _)); exact BK107.out) Try.underlying63 rfl (by kernel_rfl)) rfl ?_
 exact ⟨by first | rfl | (simp [errW_none, errW_some] <;> rfl) | (simp [*, errW_none, errW_some] <;> rfl), bw⟩

end Go.Proofs.Ytpfehkkfakofaaa.Q

namespace Go.Proofs.Ytpfehkkfakofaaa.Q
open Go.RowKit Go.Proofs.YtpfehkkfakofaaaW.PrintWords Go.Proofs.YtpfehkkfakofaaaW.PrintLast Go.Proofs.YtpfehkkfakofaaaW.PrintMore
set_option linter.unusedVariables false
set_option linter.unusedSimpArgs false

/-! ### laws_toNodeS: function 20 -/
def laws_toNodeS.l0 : Nat → List (S72) → List (S63) → Int → Option ((List (S63)))
 | 0, _, _, _ => none
 | k + 1, x0, x3, x4 => if x4 < (x0.length : Int) then (if 0 ≤ x4 then ((laws_toNode.f ((rd_T72 x0 x4).f0) ((rd_T72 x0 x4).f1) ((rd_T72 x0 x4).f2) ((rd_T72 x0 x4).f3) ((rd_T72 x0 x4).f4) ((rd_T72 x0 x4).f5) ((rd_T72 x0 x4).f6)).bind fun bt113 => (if x4 < (x3.length : Int) then (laws_toNodeS.l0 k x0 (x3.set (x4 : Int).toNat (⟨bt113.1, bt113.2.1, bt113.2.2.1, bt113.2.2.2.1, bt113.2.2.2.2.1, bt113.2.2.2.2.2.1, bt113.2.2.2.2.2.2⟩ : S63)) (wrap64 (x4 + 1))) else (none))) else (none)) else (some x3)
def laws_toNodeS.f (k : Nat) (l0 : List (S72)) : Option ((List (S63))) := if 0 ≤ (l0.length : Int) then (if ((l0.length : Int) : Int).toNat ≤ 3909374676536 then (laws_toNodeS.l0 k l0 (List.replicate ((l0.length : Int) : Int).toNat z63) 0) else (none)) else (none)
set_option maxHeartbeats 8000000 in
set_option maxRecDepth 100000 in
theorem laws_toNodeS.calls (k : Nat) (A0 : Option Addr) (c0 : Nat) (l0 : List (S72)) (r : List (S63)) (w : World) (hr0 : Kd.C k72 w A0 l0.length l0) (hc0 : l0.length ≤ c0) (h : laws_toNodeS.f k l0 = some r) :
  Calls Try.prog 20 #[.slice A0 l0.length c0] w fun e w' => ∃ v0_ : Value, e = .returned (v0_) ∧ Kd.R k63 63 w' w.heap.size (fun _ => True) v0_ r ∧ Below w.heap.size w w' := by
 have hu72 := Try.underlying72
 have hu63 := Try.underlying63
 have HR0 := Aside0.mk hr0
 have HC0 := Aside0.mk hc0
 clear hr0 hc0
 have HB := Aside0.mk (Below.refl w.heap.size w)
 have H : (if 0 ≤ (l0.length : Int) then (if ((l0.length : Int) : Int).toNat ≤ 3909374676536 then (laws_toNodeS.l0 k l0 (List.replicate ((l0.length : Int) : Int).toNat z63) 0) else (none)) else (none)) = some r := h
 clear h
 by_cases c2 : 0 ≤ (l0.length : Int)
 ·rw [if_pos c2] at H
  have c2b0 := eq_true c2
  have c2b1 : decide (0 ≤ (l0.length : Int)) = true := decide_eq_true c2
  clear c2
  by_cases c3 : ((l0.length : Int) : Int).toNat ≤ 3909374676536
  ·rw [if_pos c3] at H
   have c3b0 := eq_true c3
   have c3b1 : decide (((l0.length : Int) : Int).toNat ≤ 3909374676536) = true := decide_eq_true c3
   clear c3
   obtain ⟨y109, hy109⟩ : ∃ y_ : List (S63), y_ = (List.replicate ((l0.length : Int) : Int).toNat z63) := ⟨_, rfl⟩
   replace H : (laws_toNodeS.l0 k l0 y109 0) = some r := by first | (rw [hy109]; with_reducible exact H) | (have H2_ := (Option.bind_some _ _).symm.trans H; rw [hy109]; with_reducible exact H2_) | (have H2_ := (Option.bind_some _ _).symm.trans H; with_reducible exact H2_) | with_reducible exact H | (rw [hy109]; exact H) | exact H
   have Ny109 := Aside0.mk hy109
   clear hy109
   have H' := Aside0.mk H
   clear H
   go_enter Try.func20, Try.ntmps20
   go_wp2_with (first | ((with_reducible refine gate_dst (N := 7) rfl ?_); refine Kd.R_make k63 _ 63 rfl (N := 7) rfl 26 _ _ rfl (l0.length : Int) rfl rfl Try.underlying26 (.agg #[(.int .i64 0), (.string ⟨#[]⟩), (.bool false), (.string ⟨#[]⟩), (.int .u64 0), (.int .u64 0), (.int .i64 0)]) 72 info63 rfl (by decide) (by omega) z63 (ok := fun _ => True) (okp := fun _ => True) (k63_mkM _ _ _ z63 ) (fun _ hk => hk) trivial (of_decide_eq_true (by first | (with_reducible assumption) | assumption)) (Nat.le_trans (Nat.mul_le_mul_right _ (of_decide_eq_true (by first | (with_reducible assumption) | assumption) : (l0.length : Int).toNat ≤ 3909374676536)) (by omega)) (Below.refl _ _) (Nat.le_refl _) ?_; intro v110 w4 ho5 hb hg_ hnew_; clear hg_ hnew_; (first | rw [← Ny109.out] at ho5 | (simp only [Int.reduceToNat] at ho5; rw [← Ny109.out] at ho5)); have n0_ := Aside0.mk (Kd.R_lower ho5 (below_size bw)); have n1_ := Aside0.mk (below_step bw hb); clear HB; have HO111 := n0_; have HB := n1_; clear n0_ n1_; clear hb ho5))
   go_loopg [4] k (fun kq v4 w' => ∃ (x3_1 : List (S63)) (x4_1 : Int), v4 = .int .i64 x4_1 ∧ Aside0 (laws_toNodeS.l0 kq l0 x3_1 x4_1 = some r) ∧ Aside0 (kq ≤ k) ∧ Aside0 (Kd.R k63 63 w' w.heap.size (fun _ => True) v110 x3_1) ∧ Aside0 (Below w.heap.size w w'))
   case atStart => exact ⟨(y109), (0), (by first | rfl | (simp; done) | (simp [*]; done)), H', ⟨Nat.le_refl _⟩, ⟨lf HO111⟩, ⟨bw⟩⟩
   case round =>
    clear H'
    try clear c2
    try clear c2b0
    try clear c2b1
    try clear p2
    try clear c3
    try clear c3b0
    try clear c3b1
    obtain ⟨x3_1, x4_1, rfl, HA, HK1, HO_3, HB⟩ := hrel
    cases gk with
    | zero => exact absurd HA.out (by simp [laws_toNodeS.l0])
    | succ k1 =>
     have H := HA.out
     clear HA
     simp only [laws_toNodeS.l0] at H
     by_cases c6 : x4_1 < (l0.length : Int)
     ·rw [if_pos c6] at H
      have c6b0 : decide (x4_1 < (l0.length : Int)) = true := decide_eq_true c6
      clear c6
      by_cases c7 : 0 ≤ x4_1
      ·rw [if_pos c7] at H
       have c7b0 : decide (0 ≤ x4_1) = true := decide_eq_true c7
       clear c7
       replace H := Option.bind_eq_some_iff.mp H
       obtain ⟨⟨t113, t114, t115, t116, t117, t118, t119⟩, A80, H⟩ := H
       replace H : (if x4_1 < (x3_1.length : Int) then (laws_toNodeS.l0 k1 l0 (x3_1.set (x4_1 : Int).toNat (⟨t113, t114, t115, t116, t117, t118, t119⟩ : S63)) (wrap64 (x4_1 + 1))) else (none)) = some r := H
       have A8 := Aside0.mk A80
       clear A80
       by_cases c9 : x4_1 < (x3_1.length : Int)
       ·rw [if_pos c9] at H
        have c9b0 : decide (x4_1 < (x3_1.length : Int)) = true := decide_eq_true c9
        clear c9
        obtain ⟨y120, hy120⟩ : ∃ y_ : List (S63), y_ = (x3_1.set (x4_1 : Int).toNat (⟨t113, t114, t115, t116, t117, t118, t119⟩ : S63)) := ⟨_, rfl⟩
        replace H : (laws_toNodeS.l0 k1 l0 y120 (wrap64 (x4_1 + 1))) = some r := by first | (rw [hy120]; with_reducible exact H) | (have H2_ := (Option.bind_some _ _).symm.trans H; rw [hy120]; with_reducible exact H2_) | (have H2_ := (Option.bind_some _ _).symm.trans H; with_reducible exact H2_) | with_reducible exact H | (rw [hy120]; exact H) | exact H
        have Ny120 := Aside0.mk hy120
        clear hy120
        have H' := Aside0.mk H
        clear H
        have p112 : 0 ≤ (x4_1 : Int) := of_decide_eq_true (by first | (with_reducible assumption) | assumption)
        have q112 : x4_1 < (l0.length : Int) := of_decide_eq_true (by first | (with_reducible assumption) | assumption)
        obtain ⟨ad112, e112, hx112_0, hx112_1, hx112_2, hx112_3, hx112_4, hx112_5, hx112_6⟩ := at_T72 HR0.out x4_1 p112 q112
        cases e112
        replace hx112_0 := (HB.out.cell (World.block_lt_of_cell? w _ hx112_0)).trans hx112_0
        replace hx112_1 := (HB.out.cell (World.block_lt_of_cell? w _ hx112_1)).trans hx112_1
        replace hx112_2 := (HB.out.cell (World.block_lt_of_cell? w _ hx112_2)).trans hx112_2
        replace hx112_3 := (HB.out.cell (World.block_lt_of_cell? w _ hx112_3)).trans hx112_3
        replace hx112_4 := (HB.out.cell (World.block_lt_of_cell? w _ hx112_4)).trans hx112_4
        replace hx112_5 := (HB.out.cell (World.block_lt_of_cell? w _ hx112_5)).trans hx112_5
        replace hx112_6 := (HB.out.cell (World.block_lt_of_cell? w _ hx112_6)).trans hx112_6
        replace p112 := eq_true p112
        replace q112 := eq_true q112
        go_wp2_with (first | ((with_reducible refine at_fn (f := 48) rfl ?_); refine goesL_ (some 20) rfl rfl Try.func48 (by kernel_rfl) rfl #[.agg #[.int .i64 ((rd_T72 l0 x4_1).f0), .string ((rd_T72 l0 x4_1).f1), .bool ((rd_T72 l0 x4_1).f2), .string ((rd_T72 l0 x4_1).f3), .int .u64 ((rd_T72 l0 x4_1).f4), .int .u64 ((rd_T72 l0 x4_1).f5), .int .i64 ((rd_T72 l0 x4_1).f6)]] rfl (by (try simp only [List.map_toArray, List.map_cons, List.map_nil]); first | done | rfl | (simp only [List.length_drop, List.length_take]; rfl)) ?_; (with_reducible refine (laws_toNode.calls ((rd_T72 l0 x4_1).f0) ((rd_T72 l0 x4_1).f1) ((rd_T72 l0 x4_1).f2) ((rd_T72 l0 x4_1).f3) ((rd_T72 l0 x4_1).f4) ((rd_T72 l0 x4_1).f5) ((rd_T72 l0 x4_1).f6) t113 t114 t115 t116 t117 t118 t119 _ A8.out).mono ?_); rintro e w11 ⟨rfl, hb⟩; refine ⟨_, rfl, ?_⟩; have n0_ := Aside0.mk (Kd.R_below (lf HO_3) hb); have n1_ := Aside0.mk (below_step bw hb); clear HO_3; clear HB; have HO_3 := n0_; have HB := n1_; clear n0_ n1_; (try clear hb); (try clear hb2); (try clear hk); (try clear hi); have p10 : 0 ≤ (x4_1 : Int) := of_decide_eq_true (by first | (with_reducible assumption) | assumption); have q10 : (x4_1 : Int) < ((x3_1.length : Int) : Int) := of_decide_eq_true (by first | (with_reducible assumption) | assumption); obtain ⟨go10, co10, eo10, gb10, gl10, cl10, HG10⟩ := Kd.R_form HO_3.out (by omega); (first | cases eo10 | (injection eo10 with ea_ en_ ec_; (first | subst ea_ | (injection ea_ with ea_; subst ea_)); subst ec_; clear en_)); have GB10 := Aside0.mk gb10; have GG10 := Aside0.mk HG10; clear gb10 gl10 HG10; obtain ⟨ce10, hcl10, hM10, hcc10, hfr10⟩ := Kd.R_elem HO_3.out z63 (x4_1 : Int) p10 q10; obtain rfl := k63_openM hM10; have hx10_0 : w11.cell? ⟨go10, (x4_1 : Int).toNat * 7, none⟩ = some (.int .i64 ((rd_T63 x3_1 x4_1).f0)) := hcc10 0 _ rfl; have hx10_1 : w11.cell? ⟨go10, (x4_1 : Int).toNat * 7 + 1, none⟩ = some (.string ((rd_T63 x3_1 x4_1).f1)) := hcc10 1 _ rfl; have hx10_2 : w11.cell? ⟨go10, (x4_1 : Int).toNat * 7 + 2, none⟩ = some (.bool ((rd_T63 x3_1 x4_1).f2)) := hcc10 2 _ rfl; have hx10_3 : w11.cell? ⟨go10, (x4_1 : Int).toNat * 7 + 3, none⟩ = some (.string ((rd_T63 x3_1 x4_1).f3)) := hcc10 3 _ rfl; have hx10_4 : w11.cell? ⟨go10, (x4_1 : Int).toNat * 7 + 4, none⟩ = some (.int .u64 ((rd_T63 x3_1 x4_1).f4)) := hcc10 4 _ rfl; have hx10_5 : w11.cell? ⟨go10, (x4_1 : Int).toNat * 7 + 5, none⟩ = some (.int .u64 ((rd_T63 x3_1 x4_1).f5)) := hcc10 5 _ rfl; have hx10_6 : w11.cell? ⟨go10, (x4_1 : Int).toNat * 7 + 6, none⟩ = some (.int .i64 ((rd_T63 x3_1 x4_1).f6)) := hcc10 6 _ rfl; have hf10_0 : w11.frozen? ⟨go10, (x4_1 : Int).toNat * 7, none⟩ = false := hfr10 0; have hf10_1 : w11.frozen? ⟨go10, (x4_1 : Int).toNat * 7 + 1, none⟩ = false := hfr10 1; have hf10_2 : w11.frozen? ⟨go10, (x4_1 : Int).toNat * 7 + 2, none⟩ = false := hfr10 2; have hf10_3 : w11.frozen? ⟨go10, (x4_1 : Int).toNat * 7 + 3, none⟩ = false := hfr10 3; have hf10_4 : w11.frozen? ⟨go10, (x4_1 : Int).toNat * 7 + 4, none⟩ = false := hfr10 4; have hf10_5 : w11.frozen? ⟨go10, (x4_1 : Int).toNat * 7 + 5, none⟩ = false := hfr10 5; have hf10_6 : w11.frozen? ⟨go10, (x4_1 : Int).toNat * 7 + 6, none⟩ = false := hfr10 6; clear hcl10 hcc10 hfr10 hM10; replace p10 := eq_true p10; replace q10 := eq_true q10; have HX12 := Aside0.mk (show Kd.R k63 63 w11 w.heap.size (fun _ => True) (.slice (some ⟨go10, 0, none⟩) x3_1.length co10) x3_1 from (lf HO_3)); obtain ⟨ce12, hcl12, hM12, hcc12, hfr12⟩ := Kd.R_elem HX12.out z63 (x4_1 : Int) (of_decide_eq_true (by first | (with_reducible assumption) | assumption)) (by have h_ : (x4_1 : Int) < ((x3_1.length : Int) : Int) := of_decide_eq_true (by first | (with_reducible assumption) | assumption); first | exact h_ | (have e_ := (Kd.R_reads' HO_3.out).1; omega) | simpa using h_); obtain rfl := k63_openM hM12; have HP12 := Kd.R_seg HX12.out (x4_1 : Int) (of_decide_eq_true (by first | (with_reducible assumption) | assumption)) (by have h_ : (x4_1 : Int) < ((x3_1.length : Int) : Int) := of_decide_eq_true (by first | (with_reducible assumption) | assumption); first | exact h_ | (have e_ := (Kd.R_reads' HO_3.out).1; omega) | simpa using h_) (seg := [.int .i64 t113, .string t114, .bool t115, .string t116, .int .u64 t117, .int .u64 t118, .int .i64 t119]) (j := 0) hcl12 hcc12 (show 7 ≤ 7 from by decide) (x' := (⟨t113, t114, t115, t116, t117, t118, t119⟩ : S63)) (k63_mkM _ _ _ (⟨t113, t114, t115, t116, t117, t118, t119⟩ : S63) ) (fun _ hk => hk); have hx12_0 := hcc12 0 _ rfl; (try simp only [show (k63).sz = 7 from rfl, Nat.mul_one, Nat.add_zero] at hx12_0); have hf12_0 := hfr12 0; (try simp only [show (k63).sz = 7 from rfl, Nat.mul_one, Nat.add_zero] at hf12_0); have hx12_1 := hcc12 1 _ rfl; (try simp only [show (k63).sz = 7 from rfl, Nat.mul_one, Nat.add_zero] at hx12_1); have hf12_1 := hfr12 1; (try simp only [show (k63).sz = 7 from rfl, Nat.mul_one, Nat.add_zero] at hf12_1); have hx12_2 := hcc12 2 _ rfl; (try simp only [show (k63).sz = 7 from rfl, Nat.mul_one, Nat.add_zero] at hx12_2); have hf12_2 := hfr12 2; (try simp only [show (k63).sz = 7 from rfl, Nat.mul_one, Nat.add_zero] at hf12_2); have hx12_3 := hcc12 3 _ rfl; (try simp only [show (k63).sz = 7 from rfl, Nat.mul_one, Nat.add_zero] at hx12_3); have hf12_3 := hfr12 3; (try simp only [show (k63).sz = 7 from rfl, Nat.mul_one, Nat.add_zero] at hf12_3); have hx12_4 := hcc12 4 _ rfl; (try simp only [show (k63).sz = 7 from rfl, Nat.mul_one, Nat.add_zero] at hx12_4); have hf12_4 := hfr12 4; (try simp only [show (k63).sz = 7 from rfl, Nat.mul_one, Nat.add_zero] at hf12_4); have hx12_5 := hcc12 5 _ rfl; (try simp only [show (k63).sz = 7 from rfl, Nat.mul_one, Nat.add_zero] at hx12_5); have hf12_5 := hfr12 5; (try simp only [show (k63).sz = 7 from rfl, Nat.mul_one, Nat.add_zero] at hf12_5); have hx12_6 := hcc12 6 _ rfl; (try simp only [show (k63).sz = 7 from rfl, Nat.mul_one, Nat.add_zero] at hx12_6); have hf12_6 := hfr12 6; (try simp only [show (k63).sz = 7 from rfl, Nat.mul_one, Nat.add_zero] at hf12_6); clear hcl12 hcc12 hfr12 hM12) | ((with_reducible refine gate_store (t := 63) (p := 21) rfl ?_); refine store_event (t := 63) (p := 21) (v := ?vo_w13) (w1 := (((((((w11.setCell ⟨go10, (x4_1 : Int).toNat * 7, none⟩ (.int .i64 t113)).setCell ⟨go10, (x4_1 : Int).toNat * 7 + 1, none⟩ (.string t114)).setCell ⟨go10, (x4_1 : Int).toNat * 7 + 2, none⟩ (.bool t115)).setCell ⟨go10, (x4_1 : Int).toNat * 7 + 3, none⟩ (.string t116)).setCell ⟨go10, (x4_1 : Int).toNat * 7 + 4, none⟩ (.int .u64 t117)).setCell ⟨go10, (x4_1 : Int).toNat * 7 + 5, none⟩ (.int .u64 t118)).setCell ⟨go10, (x4_1 : Int).toNat * 7 + 6, none⟩ (.int .i64 t119))) ?hg ?ho ?hn ?hr ?_; (case ho => rfl); (case hg => rfl); (case hn => rfl); (case hr => first | (go_simp; done) | (go_simp; rfl)); intro w13 hw; have hg : w11.grownBy w13 (some go10) := (by rw [hw]; exact HP12.2); have hp_ : Kd.R k63 63 w13 w.heap.size (fun _ => True) (.slice (some ⟨go10, 0, none⟩) x3_1.length co10) y120 := (by rw [hw, Ny120.out]; exact HP12.1); clear HP12; have n0_ := Aside0.mk (hp_); have n1_ := Aside0.mk ((by rw [hw]; exact below_set (below_set (below_set (below_set (below_set (below_set (below_set (HB.out) GB10.out) GB10.out) GB10.out) GB10.out) GB10.out) GB10.out) GB10.out : Below w.heap.size w w13)); clear HO_3; clear HB; have HO_3 := n0_; have HB := n1_; clear n0_ n1_; clear hg hw hp_))
        go_roundg k1
        case measure => have := HK1.out; omega
        case rel => exact ⟨(y120), (wrap64 (x4_1 + 1)), (by first | rfl | (simp; done) | (simp [*]; done)), H', ⟨by have := HK1.out; omega⟩, ⟨lf HO_3⟩, ⟨bw⟩⟩
       ·rw [if_neg c9] at H
        exact absurd H (by simp)
      ·rw [if_neg c7] at H
       exact absurd H (by simp)
     ·rw [if_neg c6] at H
      have c6b0 : decide (x4_1 < (l0.length : Int)) = false := decide_eq_false c6
      clear c6
      obtain rfl := Option.some.inj H
      go_wp2
      go_ret
      exact ⟨_, by first | rfl | (simp [errW_none, errW_some] <;> rfl) | (simp [*, errW_none, errW_some] <;> rfl), lf HO_3, bw⟩
  ·rw [if_neg c3] at H
   exact absurd H (by simp)
 ·rw [if_neg c2] at H
  exact absurd H (by simp)

end Go.Proofs.Ytpfehkkfakofaaa.Q

namespace Go.Proofs.Ytpfehkkfakofaaa.Q
open Go.RowKit Go.Proofs.YtpfehkkfakofaaaW.PrintWords Go.Proofs.YtpfehkkfakofaaaW.PrintLast Go.Proofs.YtpfehkkfakofaaaW.PrintMore
set_option linter.unusedVariables false
set_option linter.unusedSimpArgs false

/-! ### laws_toFilter: function 7 -/
def laws_toFilter.f (k : Nat) (l0_0 : List (S72)) : Option ((List (S63))) := (laws_toNodeS.f k l0_0).bind fun t124 => (some t124)
set_option maxHeartbeats 8000000 in
set_option maxRecDepth 100000 in
theorem laws_toFilter.calls (k : Nat) (A0_0 : Option Addr) (c0_0 : Nat) (l0_0 : List (S72)) (r : List (S63)) (w : World) (hr0_0 : Kd.C k72 w A0_0 l0_0.length l0_0) (hc0_0 : l0_0.length ≤ c0_0) (h : laws_toFilter.f k l0_0 = some r) :
  Calls Try.prog 7 #[.agg #[.slice A0_0 l0_0.length c0_0]] w fun e w' => ∃ v0_ : Value, e = .returned (.agg #[v0_]) ∧ Kd.R k63 63 w' w.heap.size (fun _ => True) v0_ r ∧ Below w.heap.size w w' := by
 have hu24 := Try.underlying24
 have hu28 := Try.underlying28
 have HR0_0 := Aside0.mk hr0_0
 have HC0_0 := Aside0.mk hc0_0
 clear hr0_0 hc0_0
 have HB := Aside0.mk (Below.refl w.heap.size w)
 have H : ((laws_toNodeS.f k l0_0).bind fun t124 => (some t124)) = some r := h
 clear h
 replace H := Option.bind_eq_some_iff.mp H
 obtain ⟨t124, A20, H⟩ := H
 replace H : (some t124) = some r := H
 have A2 := Aside0.mk A20
 clear A20
 obtain rfl := Option.some.inj H
 go_enter Try.func7, Try.ntmps7
 go_wp2_with (first | ((with_reducible refine gate_dst (N := 1) rfl ?_); refine box_event ?hg (N := 1) ?hd (cs := #[.slice A0_0 l0_0.length c0_0]) (t := 24) ?hr ?_; (case hd => rfl); (case hg => rfl); (case hr => first | (go_simp; done) | (go_simp; rfl)); intro gb121 hg w3 hbox hb; have n0_ := Aside0.mk (below_step bw hb); have n1_ := Aside0.mk (hbox); have n2_ := Aside0.mk ((by rw [hg]; exact (below_size bw) : w.heap.size ≤ gb121)); have n3_ := Aside0.mk ((by rw [hg]; exact (below_size bw) : w.heap.size ≤ gb121)); clear HB; have HB := n0_; have BK121 := n1_; have GW121 := n2_; have GE121 := n3_; clear n0_ n1_ n2_ n3_; clear hb hbox hg) | ((with_reducible refine gate_dst (N := 2) rfl ?_); refine box_event ?hg (N := 2) ?hd (cs := #[.slice none 0 0]) (t := 28) ?hr ?_; (case hd => rfl); (case hg => rfl); (case hr => first | (go_simp; done) | (go_simp; rfl)); intro gb122 hg w4 hbox hb; have n0_ := Aside0.mk (blk_below (g := gb121) (o := .cells #[.slice A0_0 l0_0.length c0_0] 24 (0, 0)) (lb BK121) hb); have n1_ := Aside0.mk (below_step bw hb); have n2_ := Aside0.mk (hbox); have n3_ := Aside0.mk ((by rw [hg]; exact (below_size bw) : w.heap.size ≤ gb122)); have n4_ := Aside0.mk ((by rw [hg]; exact (below_size bw) : w.heap.size ≤ gb122)); have n5_ := Aside0.mk ((by rw [hg]; exact Nat.ne_of_lt (blk_lt (g := gb121) (o := .cells #[.slice A0_0 l0_0.length c0_0] 24 (0, 0)) (lb BK121)) : gb121 ≠ gb122)); have n6_ := Aside0.mk ((by rw [hg]; exact Nat.ne_of_gt (blk_lt (g := gb121) (o := .cells #[.slice A0_0 l0_0.length c0_0] 24 (0, 0)) (lb BK121)) : gb122 ≠ gb121)); clear BK121; clear HB; have BK121 := n0_; have HB := n1_; have BK122 := n2_; have GW122 := n3_; have GE122 := n4_; have NB121_122 := n5_; have NB122_121 := n6_; clear n0_ n1_ n2_ n3_ n4_ n5_ n6_; clear hb hbox hg) | ((with_reducible refine gate_dst (N := 3) rfl ?_); refine box_event ?hg (N := 3) ?hd (cs := #[.slice none 0 0]) (t := 28) ?hr ?_; (case hd => rfl); (case hg => rfl); (case hr => first | (go_simp; done) | (go_simp; rfl)); intro gb123 hg w5 hbox hb; have n0_ := Aside0.mk (blk_below (g := gb121) (o := .cells #[.slice A0_0 l0_0.length c0_0] 24 (0, 0)) (lb BK121) hb); have n1_ := Aside0.mk (blk_below (g := gb122) (o := .cells #[.slice none 0 0] 28 (0, 0)) (lb BK122) hb); have n2_ := Aside0.mk (below_step bw hb); have n3_ := Aside0.mk (hbox); have n4_ := Aside0.mk ((by rw [hg]; exact (below_size bw) : w.heap.size ≤ gb123)); have n5_ := Aside0.mk ((by rw [hg]; exact (below_size bw) : w.heap.size ≤ gb123)); have n6_ := Aside0.mk ((by rw [hg]; exact Nat.ne_of_lt (blk_lt (g := gb121) (o := .cells #[.slice A0_0 l0_0.length c0_0] 24 (0, 0)) (lb BK121)) : gb121 ≠ gb123)); have n7_ := Aside0.mk ((by rw [hg]; exact Nat.ne_of_gt (blk_lt (g := gb121) (o := .cells #[.slice A0_0 l0_0.length c0_0] 24 (0, 0)) (lb BK121)) : gb123 ≠ gb121)); have n8_ := Aside0.mk ((by rw [hg]; exact Nat.ne_of_lt (blk_lt (g := gb122) (o := .cells #[.slice none 0 0] 28 (0, 0)) (lb BK122)) : gb122 ≠ gb123)); have n9_ := Aside0.mk ((by rw [hg]; exact Nat.ne_of_gt (blk_lt (g := gb122) (o := .cells #[.slice none 0 0] 28 (0, 0)) (lb BK122)) : gb123 ≠ gb122)); clear BK121; clear BK122; clear HB; have BK121 := n0_; have BK122 := n1_; have HB := n2_; have BK123 := n3_; have GW123 := n4_; have GE123 := n5_; have NB121_123 := n6_; have NB123_121 := n7_; have NB122_123 := n8_; have NB123_122 := n9_; clear n0_ n1_ n2_ n3_ n4_ n5_ n6_ n7_ n8_ n9_; clear hb hbox hg; have hnb6 := NB121_122.out; have hnc6 := NB122_121.out; have hnb7 := NB121_123.out; have hnc7 := NB123_121.out; have hcz8_0 : w5.cell? ⟨gb121, 0, none⟩ = some (.slice A0_0 l0_0.length c0_0) := (blk_cell BK121.out 0).trans rfl; have hfz8_0 := blk_frozen BK121.out 0) | ((with_reducible refine at_fn (f := 20) rfl ?_); refine goesL_ (some 6) rfl rfl Try.func20 (by kernel_rfl) rfl #[.slice A0_0 l0_0.length c0_0] rfl (by (try simp only [List.map_toArray, List.map_cons, List.map_nil]); first | done | rfl | (simp only [List.length_drop, List.length_take]; rfl)) ?_; (with_reducible refine (laws_toNodeS.calls k _ _ l0_0 t124 _ ?side1 ?side2 A2.out).mono ?_); (case side1 => repeat (first | exact (Kd.C_below HR0_0.out HB.out) | (with_reducible refine Kd.C_alloc ?_ _) | (with_reducible refine Kd.C_drewN ?_ _) | (with_reducible refine Kd.C_drew ?_))); (case side2 => exact HC0_0.out); rintro e w9 ⟨v125, rfl, ho0, hb⟩; refine ⟨_, rfl, ?_⟩; have n0_ := Aside0.mk (Kd.R_lower ho0 (below_size bw)); have n1_ := Aside0.mk (blk_below (g := gb121) (o := .cells #[.slice A0_0 l0_0.length c0_0] 24 (0, 0)) (lb BK121) hb); have n2_ := Aside0.mk (blk_below (g := gb122) (o := .cells #[.slice none 0 0] 28 (0, 0)) (lb BK122) hb); have n3_ := Aside0.mk (blk_below (g := gb123) (o := .cells #[.slice none 0 0] 28 (0, 0)) (lb BK123) hb); have n4_ := Aside0.mk (below_step bw hb); clear BK121; clear BK122; clear BK123; clear HB; have HO126 := n0_; have BK121 := n1_; have BK122 := n2_; have BK123 := n3_; have HB := n4_; clear n0_ n1_ n2_ n3_ n4_; (try clear hb); (try clear hb2); (try clear hk); (try clear hi); (try clear ho0); obtain ⟨Ao10, co10, eo10⟩ := Kd.R_slice HO126.out; subst eo10; have hnb11 := NB123_122.out; have hnc11 := NB122_123.out; have hcz12_0 : w9.cell? ⟨gb123, 0, none⟩ = some (.slice none 0 0) := (blk_cell BK123.out 0).trans rfl; have hfz12_0 := blk_frozen BK123.out 0; have hcz13_0 : w9.cell? ⟨gb122, 0, none⟩ = some (.slice none 0 0) := (blk_cell BK122.out 0).trans rfl; have hfz13_0 := blk_frozen BK122.out 0))
 refine bodyPost_ret (results_cell_row rfl _ _ gb122 28 #[.slice Ao10 t124.length co10] (0, 0) _ rfl (by (with_reducible repeat (first | refine blk_drewN ?_ _ | refine blk_drew ?_ | refine blk_alloc ?_ _)); refine blk_put (cs := #[.slice none 0 0]) ?_ 0 _ rfl; (with_reducible repeat (first | refine blk_drewN ?_ _ | refine blk_drew ?_ | refine blk_alloc ?_ _)); refine blk_far ?_ NB122_123.out _; (with_reducible repeat (first | refine blk_drewN ?_ _ | refine blk_drew ?_ | refine blk_alloc ?_ _)); exact BK122.out) Try.underlying28 rfl (by kernel_rfl)) rfl ?_
 exact ⟨_, by first | rfl | (simp [errW_none, errW_some] <;> rfl) | (simp [*, errW_none, errW_some] <;> rfl), by (with_reducible repeat (first | apply Kd.R_alloc | apply Kd.R_drewN | apply Kd.R_drew)); exact Kd.R_mono (Kd.R_far (p := ⟨gb122, 0, none⟩) (Kd.R_far (p := ⟨gb123, 0, none⟩) (Kd.R_types (Kd.R_types HO126.out BK123.out (by decide)) BK122.out (by decide)) (fun _ hk => hk.1.2) (.slice Ao10 t124.length co10)) (fun _ hk => hk.2) (.slice Ao10 t124.length co10)) (fun _ hk => trivial), bw⟩

end Go.Proofs.Ytpfehkkfakofaaa.Q

namespace Go.Proofs.Ytpfehkkfakofaaa.Q
open Go.RowKit Go.Proofs.YtpfehkkfakofaaaW.PrintWords Go.Proofs.YtpfehkkfakofaaaW.PrintLast
set_option linter.unusedVariables false
set_option linter.unusedSimpArgs false
def cvM (x : S72) : S63 := ⟨x.f0, x.f1, x.f2, x.f3, x.f4, x.f5, x.f6⟩
theorem szM_ok (x : S72) (n : Int) (hx : ok72 x) (h0 : 0 ≤ n) (h1 : n ≤ 1048576) : ∃ t, Ev (fun k => laws_szNode.f x.f0 x.f1 x.f2 x.f3 x.f4 x.f5 x.f6 n) t ∧ (t < 0 ∨ (0 ≤ t ∧ t ≤ n ∧ True)) := by
  obtain ⟨-, s1, -, s3, -⟩ := hx
  simp only [maxLen] at s1 s3
  unfold laws_szNode.f
  rw [wrap_id _ (by omega) (by omega)]
  by_cases h : n - (x.f1.size : Int) < 0
  · exact ⟨-1, Ev.of_all fun k => if_pos h, .inl (by omega)⟩
  · rw [if_neg h, wrap_id _ (by omega) (by omega)]
    by_cases h2 : n - (x.f1.size : Int) - (x.f3.size : Int) < 0
    · exact ⟨-1, Ev.of_all fun k => if_pos h2, .inl (by omega)⟩
    · exact ⟨_, Ev.of_all fun k => if_neg h2, .inr ⟨by omega, by omega, trivial⟩⟩
theorem szFilter_ok (xs : List S72) (n : Int) (hl : xs.length ≤ maxLen) (hok : ∀ x ∈ xs, ok72 x) (h0 : 0 ≤ n) (h1 : n ≤ 1048576) :
    ∃ t, Ev (fun k => laws_szFilter.f k xs n) t ∧ (t < 0 ∨ (0 ≤ t ∧ t ≤ n ∧ xs.length ≤ 1048576)) := by
  simp only [maxLen] at hl
  unfold laws_szFilter.f laws_szNodeS.f
  rw [wrap_id _ (by omega) (by omega)]
  by_cases h : n - (xs.length : Int) < 0
  · exact ⟨-1, Ev.bind (Ev.if_pos h (Ev.now (-1))) (Ev.if_pos (by omega) (Ev.now _)), .inl (by omega)⟩
  · obtain ⟨t, ht, h2⟩ := sz_all xs z72 (fun _ => True) (fun k x n => laws_szNode.f x.f0 x.f1 x.f2 x.f3 x.f4 x.f5 x.f6 n) (fun k n i => laws_szNodeS.l0 k xs n i) (by omega)
      (fun k n i hi => by simp only [laws_szNodeS.l0]; rw [if_pos (by omega), if_pos (by omega), wrap_nat _ (by omega)]; rfl)
      (fun k n => by simp only [laws_szNodeS.l0]; rw [if_neg (by omega)]) (fun x hx n h0 h1 => szM_ok x n (hok x hx) h0 h1) xs [] (n - xs.length) rfl (by omega) (by omega)
    rcases h2 with h2 | ⟨h2, h3, h4⟩
    · exact ⟨-1, Ev.bind (Ev.if_neg h ht) (Ev.if_pos h2 (Ev.now _)), .inl (by omega)⟩
    · exact ⟨t, Ev.bind (Ev.if_neg h ht) (Ev.if_neg (by omega) (Ev.now _)), .inr ⟨h2, by omega, by omega⟩⟩
theorem toFilter_is (xs : List S72) (hl : xs.length ≤ 1048576) : Ev (fun k => laws_toFilter.f k xs) (xs.map cvM) := by
  unfold laws_toFilter.f laws_toNodeS.f
  simp only [Int.toNat_natCast]
  have h := to_all xs z72 z63 (fun k x => laws_toNode.f x.f0 x.f1 x.f2 x.f3 x.f4 x.f5 x.f6) (fun t => (⟨t.1, t.2.1, t.2.2.1, t.2.2.2.1, t.2.2.2.2.1, t.2.2.2.2.2.1, t.2.2.2.2.2.2⟩ : S63)) cvM (fun k ys i => laws_toNodeS.l0 k xs ys i) (by omega)
    (fun k ys i hi hj => by
      simp only [laws_toNodeS.l0]; rw [if_pos (by omega), if_pos (by omega), wrap_nat _ (by omega)]
      have hj' : (i : Int) < (ys.length : Int) := by omega
      simp only [Int.toNat_natCast, hj', if_true]; rfl)
    (fun k ys => by simp only [laws_toNodeS.l0]; rw [if_neg (by omega)])
    (fun x hx => ⟨_, Ev.of_all fun k => by unfold laws_toNode.f; rfl, rfl⟩) xs [] rfl
  exact Ev.bind (Ev.if_pos (by omega) (Ev.if_pos (by omega) (by simpa using h))) (Ev.now _)
end Go.Proofs.Ytpfehkkfakofaaa.Q

namespace Go.Proofs.Ytpfehkkfakofaaa.Q
open Go.RowKit Go.Proofs.YtpfehkkfakofaaaW.PrintWords Go.Proofs.YtpfehkkfakofaaaW.PrintLast Go.Proofs.YtpfehkkfakofaaaW.PrintMore
set_option linter.unusedVariables false
set_option linter.unusedSimpArgs false
open Classical in
/-- What the law answers: true, for all that may come in. -/
noncomputable def laws_FnExactCompile.f (l : List S72) : Option Bool := if l.length ≤ maxLen ∧ ∀ x ∈ l, ok72 x then some true else none
theorem to_call (A : Option Addr) (c : Nat) (l : List S72) (w : World) (hr : Kd.C k72 w A l.length l) (hc : l.length ≤ c) (hl : l.length ≤ 1048576) :
    Calls Try.prog 7 #[.agg #[.slice A l.length c]] w fun e w' => ∃ B cb, e = .returned (.agg #[.slice B (l.map cvM).length cb]) ∧ (l.map cvM).length ≤ cb ∧ Kd.R k63 63 w' w.heap.size (fun _ => True) (.slice B (l.map cvM).length cb) (l.map cvM) ∧ Kd.C k63 w' B (l.map cvM).length (l.map cvM) ∧ Below w.heap.size w w' := by
  obtain ⟨K, hK⟩ := toFilter_is l hl
  refine (laws_toFilter.calls K A c l (l.map cvM) w hr hc (hK K (Nat.le_refl _))).mono ?_
  rintro e w' ⟨v, rfl, hR, hb⟩
  obtain ⟨B, cb, rfl, hle, hC⟩ := Kd.R_reads hR
  exact ⟨B, cb, rfl, hle, hR, hC, hb⟩
set_option maxHeartbeats 8000000 in
set_option maxRecDepth 100000 in
theorem law_call (A : Option Addr) (c : Nat) (l : List S72) (w : World) (hr : Kd.C k72 w A l.length l) (hc : l.length ≤ c) (hm : l.length ≤ maxLen) (hok : ∀ x ∈ l, ok72 x) :
    Calls Try.prog 4 #[.agg #[.slice A l.length c]] w fun e w' => e = .returned (.bool true) ∧ Below w.heap.size w w' := by
  have kr : K0 (Below w.heap.size w w) := ⟨Below.refl _ _⟩
  obtain ⟨tt, ⟨Kt, hKt⟩, ht⟩ := szFilter_ok l 1048576 hm hok (by omega) (by omega)
  obtain ⟨wb, hwb⟩ : ∃ wb, wb = w.alloc (.cells #[.slice A l.length c] 24) := ⟨_, rfl⟩
  have hb0 : Below w.heap.size w wb := hwb ▸ kk
  have h1 : wb.heap[w.heap.size]? = some (.cells #[.slice A l.length c] 24 (0, 0)) := hwb ▸ heap_alloc_new w _
  have b1 := clk ((blk_cell h1 0).trans rfl : wb.cell? ⟨w.heap.size, 0, none⟩ = some (.slice A l.length c))
  have HSz := Aside0.mk (laws_szFilter.calls Kt A c l 1048576 tt wb (Kd.C_below hr hb0) hc (hKt Kt (Nat.le_refl _)))
  have HT := Aside0.mk ht
  have H0 := Aside0.mk (And.intro hb0 (And.intro (Kd.C_below hr hb0) hc))
  have kb : K0 (Below wb.heap.size wb wb) := ⟨Below.refl _ _⟩
  clear hr hc hm hok hKt ht hb0 h1
  go_enter Try.func4, Try.ntmps4
  go_wp2_with fail
  rw [← hwb]
  clear hwb
  refine HSz.out.mono ?_
  rintro ex W1 ⟨rfl, hb⟩
  have k1 : K0 (Below wb.heap.size wb W1) := ⟨hb⟩
  clear hb
  rcases HT.out with ht | ⟨ht, ht2, hl⟩
  · have dt : decide (tt < 0) = true := decide_eq_true ht
    have HF := Aside0.mk (H0.out.1.trans (k1.out.mono H0.out.1.size))
    clear HSz HT
    go_wp2
    go_ret
    exact ⟨rfl, HF.out⟩
  have dt : decide (tt < 0) = false := decide_eq_false (by omega)
  have HL := Aside0.mk hl
  clear HSz HT ht ht2 hl
  go_wp2_with fail
  refine (to_call A c l W1 (Kd.C_below H0.out.2.1 k1.out) H0.out.2.2 HL.out).mono ?_
  obtain ⟨ns, hns⟩ : ∃ ns, l.map cvM = ns := ⟨_, rfl⟩
  rw [hns]
  rintro ex W2 ⟨B2, c2, rfl, hle, hR, hC, hb⟩
  have k2 : K0 (Below wb.heap.size wb W2) := ⟨k1.out.trans (hb.mono k1.out.size)⟩
  have HS := Aside0.mk (code_small ns)
  have HN := Aside0.mk hns
  have H2 := Aside0.mk (And.intro hC hle)
  clear hR hC hle hb
  go_wp2_with fail
  refine (compile_spec B2 c2 ns W2 H2.out.1 H2.out.2).mono ?_
  obtain ⟨⟨cs, li, qn⟩, hcode⟩ : ∃ z, codeOf ns = z := ⟨_, rfl⟩
  rw [hcode] at HS ⊢
  rintro ex W3 ⟨v0, v1, rfl, hR0, hR1, hb⟩
  obtain ⟨P0, p0, rfl⟩ := Kd.R_slice hR0
  obtain ⟨P1, p1, rfl⟩ := Kd.R_slice hR1
  have k3 : K0 (Below wb.heap.size wb W3) := ⟨k2.out.trans (hb.mono k2.out.size)⟩
  obtain ⟨D, hD⟩ : ∃ D, D = W3.alloc (.cells #[.slice P0 cs.length p0, .slice P1 li.length p1, .int .i64 qn] 39) := ⟨_, rfl⟩
  have hbD : Below W3.heap.size W3 D := hD ▸ Below.alloc (Below.refl _ _) (Nat.le_refl _) _
  have hD4 : D.heap[W3.heap.size]? = some (.cells #[.slice P0 cs.length p0, .slice P1 li.length p1, .int .i64 qn] 39 (0, 0)) := hD ▸ heap_alloc_new W3 _
  have d0 := clk ((blk_cell hD4 0).trans rfl : D.cell? ⟨W3.heap.size, 0, none⟩ = some (.slice P0 cs.length p0))
  have d1 := clk ((blk_cell hD4 1).trans rfl : D.cell? ⟨W3.heap.size, 1, none⟩ = some (.slice P1 li.length p1))
  have d2 := clk ((blk_cell hD4 2).trans rfl : D.cell? ⟨W3.heap.size, 2, none⟩ = some (.int .i64 qn))
  have kD : K0 (Below D.heap.size D D) := ⟨Below.refl _ _⟩
  have hbwD : Below wb.heap.size wb D := k3.out.trans (hbD.mono k3.out.size)
  have HD := Aside0.mk (And.intro hbwD (And.intro (Kd.R_reads' (Kd.R_below hR0 hbD)) (Kd.R_reads' (Kd.R_below hR1 hbD))))
  have tD : ∀ W [K0 (Below D.heap.size D W)], K0 (Below wb.heap.size wb W) := fun W k => ⟨HD.out.1.trans (k.out.mono HD.out.1.size)⟩
  clear hR0 hR1 hb hbD hD4 hbwD
  clear hns
  go_wp2_with fail
  rw [← hD]
  clear hD
  refine (to_call A c l D (Kd.C_below H0.out.2.1 HD.out.1) H0.out.2.2 HL.out).mono ?_
  rw [HN.out]
  rintro ex W4 ⟨B4, c4, rfl, hle, hR, hC, hb⟩
  have kD4 : K0 (Below D.heap.size D W4) := ⟨hb⟩
  obtain ⟨E, hE⟩ : ∃ E, E = W4.alloc (.cells #[.slice B4 ns.length c4] 28) := ⟨_, rfl⟩
  have hbE : Below W4.heap.size W4 E := hE ▸ Below.alloc (Below.refl _ _) (Nat.le_refl _) _
  have hE4 : E.heap[W4.heap.size]? = some (.cells #[.slice B4 ns.length c4] 28 (0, 0)) := hE ▸ heap_alloc_new W4 _
  have hEs : E.heap.size = W4.heap.size + 1 := hE ▸ sz_al W4 _
  have e0 := clk ((blk_cell hE4 0).trans rfl : E.cell? ⟨W4.heap.size, 0, none⟩ = some (.slice B4 ns.length c4))
  have hDE : Below D.heap.size D E := hb.trans (hbE.mono hb.size)
  have HE := Aside0.mk (And.intro hDE (And.intro (Kd.R_below (Kd.R_mono (ok' := fun k => D.heap.size ≤ k ∧ k < E.heap.size) (Kd.R_bound hR) (fun k hk => ⟨hk.2.1, by have := hk.2.2.1; omega⟩)) hbE) (And.intro hle (And.intro (Kd.C_below hC hbE) hEs))))
  have tE : ∀ W [K0 (Below E.heap.size E W)], K0 (Below D.heap.size D W) := fun W k => ⟨HE.out.1.trans (k.out.mono HE.out.1.size)⟩
  have kE : K0 (Below E.heap.size E E) := ⟨Below.refl _ _⟩
  clear hle hR hC hb hbE hE4 hDE hEs
  go_wp2_with fail
  rw [← hE]
  clear hE
  refine (compile_call B4 c4 ns E HE.out.2.2.2.1 HE.out.2.2.1).mono ?_
  rw [hcode]
  rintro ex W5 ⟨v0, v1, rfl, hS, hR1, hb⟩
  obtain ⟨G0, g0, rfl⟩ := Kd.S_slice hS
  obtain ⟨G1, g1, rfl⟩ := Kd.R_slice hR1
  have kE5 : K0 (Below E.heap.size E W5) := ⟨hb⟩
  obtain ⟨F, hF⟩ : ∃ F, F = W5.alloc (.cells #[.slice G0 cs.length g0, .slice G1 li.length g1, .int .i64 qn] 39) := ⟨_, rfl⟩
  have hbF : Below W5.heap.size W5 F := hF ▸ Below.alloc (Below.refl _ _) (Nat.le_refl _) _
  have hF4 : F.heap[W5.heap.size]? = some (.cells #[.slice G0 cs.length g0, .slice G1 li.length g1, .int .i64 qn] 39 (0, 0)) := hF ▸ heap_alloc_new W5 _
  have f0 := clk ((blk_cell hF4 0).trans rfl : F.cell? ⟨W5.heap.size, 0, none⟩ = some (.slice G0 cs.length g0))
  have f1 := clk ((blk_cell hF4 1).trans rfl : F.cell? ⟨W5.heap.size, 1, none⟩ = some (.slice G1 li.length g1))
  have f2 := clk ((blk_cell hF4 2).trans rfl : F.cell? ⟨W5.heap.size, 2, none⟩ = some (.int .i64 qn))
  have hEF : Below E.heap.size E F := hb.trans (hbF.mono hb.size)
  have HF := Aside0.mk (And.intro hEF (And.intro (Kd.S_below (Kd.S_mono (ok' := fun k => (E.heap.size ≤ k ∧ k < W5.heap.size) ∧ some k ≠ Value.ownBlock (.slice G1 li.length g1)) (Kd.S_bound hS) (fun k hk => ⟨⟨hk.2.1, hk.2.2.1⟩, hk.1⟩)) hbF) (And.intro (Kd.R_below (Kd.R_mono (ok' := fun k => E.heap.size ≤ k ∧ k < W5.heap.size) (Kd.R_bound hR1) (fun k hk => ⟨hk.2.1, hk.2.2.1⟩)) hbF) (And.intro hF4 (And.intro hb.size (lt_of_some hF4))))))
  have tF : ∀ W [K0 (Below F.heap.size F W)], K0 (Below E.heap.size E W) := fun W k => ⟨HF.out.1.trans (k.out.mono HF.out.1.size)⟩
  have kF : K0 (Below F.heap.size F F) := ⟨Below.refl _ _⟩
  have HCd := Aside0.mk hcode
  clear hS hR1 hb hbF hF4 hEF hcode
  go_wp2_with fail
  rw [← hF]
  clear hF
  have hDF : Below D.heap.size D F := HE.out.1.trans (HF.out.1.mono HE.out.1.size)
  have HDF := Aside0.mk hDF
  refine (eqCode_same G0 P0 G1 P1 cs.length g0 p0 li.length g1 p1 qn cs li F rfl (Kd.S_reads' HF.out.2.1).2.2 (Kd.C_below HD.out.2.1.2.2 hDF) (by have := HS.out; omega) (fun x hx => by have := HS.out.2.1 x hx; omega) rfl (Kd.R_reads' HF.out.2.2.1).2.2 (Kd.C_below HD.out.2.2.2.2 hDF) (by have := HS.out; omega)).mono ?_
  rintro ex W6 ⟨rfl, hb⟩
  have k6 : K0 (Below F.heap.size F W6) := ⟨hb⟩
  clear hb hDF
  go_upto_region 10 with (fail)
  have kd : K0 (Below F.heap.size F W6.drew) := ⟨below_drew1 k6.out⟩
  refine sq_region (S := fun W' => K0 (Below F.heap.size F W')) [(0, false), (1, false), (2, true), (3, true), (4, false)] (by kernel_rfl) (by kernel_rfl) kd (fun hS => ?_)
  repeat (refine sq_n ?_ ?_ rfl ?_ ?_ ?_; rotate_left 2; (intro W hW; go_simp; first | done | with_reducible rfl); (simp only [List.setIfInBounds_toArray, List.set_cons_zero, List.set_cons_succ]; try rfl))
  refine sq_1n rfl (fun hS KA hKA => ?_)
  go_simp
  go_at_call 7
  refine (to_call A c l W6.drew (Kd.C_below H0.out.2.1 ((tD _).out : Below wb.heap.size wb W6.drew)) H0.out.2.2 HL.out).mono ?_
  rw [HN.out]
  rintro ex W7 ⟨B7, c7, rfl, hle, -, hC, hb⟩
  have k7 : K0 (Below F.heap.size F W7) := ⟨kd.out.trans (hb.mono kd.out.size)⟩
  have H7 := Aside0.mk hC
  clear hle hC hb
  refine hKA.out _ _ k7 (fun hS => ?_)
  refine sq_1n rfl (fun hS KB hKB => ?_)
  go_simp
  go_at_call 9
  refine (eqFilter_same B4 B7 ns.length c4 c7 ns W7 rfl (Kd.C_below HE.out.2.2.2.1 ((tF _).out : Below E.heap.size E W7)) H7.out (by have := HL.out; have := HN.out; rw [← this, List.length_map]; omega)).mono ?_
  rintro ex W8 ⟨rfl, hb⟩
  have k8 : K0 (Below F.heap.size F W8) := ⟨k7.out.trans (hb.mono k7.out.size)⟩
  clear hb
  refine hKB.out _ _ k8 (fun hS => ?_)
  repeat (refine sq_n ?_ ?_ rfl ?_ ?_ ?_; rotate_left 2; (intro W hW; go_simp; first | done | with_reducible rfl); (simp only [List.setIfInBounds_toArray, List.set_cons_zero, List.set_cons_succ]; try rfl))
  refine sq_done (fun hS => ?_)
  go_wp2_with fail
  have hnl : ns.length ≤ 1048576 := by have := HL.out; have := HN.out; rw [← this, List.length_map]; omega
  obtain ⟨Km, hKm⟩ := mark_is ns (by omega)
  have hE8 : Below E.heap.size E W8 := (tF W8).out
  have hD8 : Below D.heap.size D W8 := (tE W8).out
  refine (laws_markFilter.calls Km (fun k => D.heap.size ≤ k ∧ k < E.heap.size) (.slice B4 ns.length c4) ns 1 (1 + 7 * (ns.length : Int)) (mNodes ns.length 1) D W8 hD8 (Kd.R_below HE.out.2.1 hE8) (hKm Km (Nat.le_refl _))).mono ?_
  rintro ex W9 ⟨rfl, -, hb9, hk9⟩
  have dk : decide (1 + 7 * (ns.length : Int) < 0) = false := decide_eq_false (by omega)
  have hF9 : W9.heap[W5.heap.size]? = some (.cells #[.slice G0 cs.length g0, .slice G1 li.length g1, .int .i64 qn] 39 (0, 0)) := blk_kept ((k8.out.block _ HF.out.2.2.2.2.2).trans HF.out.2.2.2.1) hk9 (fun h => by have := h.2; have := HF.out.2.2.2.2.1; omega)
  have h0 := clk ((blk_cell hF9 0).trans rfl : W9.cell? ⟨W5.heap.size, 0, none⟩ = some (.slice G0 cs.length g0))
  have h1 := clk ((blk_cell hF9 1).trans rfl : W9.cell? ⟨W5.heap.size, 1, none⟩ = some (.slice G1 li.length g1))
  have h2 := clk ((blk_cell hF9 2).trans rfl : W9.cell? ⟨W5.heap.size, 2, none⟩ = some (.int .i64 qn))
  have H9 := Aside0.mk (And.intro hb9 (And.intro (Kd.S_kept (Kd.S_below HF.out.2.1 k8.out) hk9 (fun k hk h => by have := hk.1.1; have := h.2; omega)) (And.intro (Kd.R_kept (Kd.R_below HF.out.2.2.1 k8.out) hk9 (fun k hk h => by have := hk.1; have := h.2; omega)) hF9)))
  have k9 : K0 (Below W9.heap.size W9 W9) := ⟨Below.refl _ _⟩
  have t9 : ∀ W [K0 (Below W9.heap.size W9 W)], K0 (Below D.heap.size D W) := fun W k => ⟨H9.out.1.trans (k.out.mono H9.out.1.size)⟩
  clear f0 f1 f2 hKm hE8 hD8 hb9 hk9 hF9 e0 hnl kE kF kE5 k6 kd k7 k8 tE tF
  go_wp2_with fail
  refine (eqCode_same G0 P0 G1 P1 cs.length g0 p0 li.length g1 p1 qn cs li W9 rfl (Kd.S_reads' H9.out.2.1).2.2 (Kd.C_below HD.out.2.1.2.2 H9.out.1) (by have := HS.out; omega) (fun x hx => by have := HS.out.2.1 x hx; omega) rfl (Kd.R_reads' H9.out.2.2.1).2.2 (Kd.C_below HD.out.2.2.2.2 H9.out.1) (by have := HS.out; omega)).mono ?_
  rintro ex W10 ⟨rfl, hb⟩
  have k10 : K0 (Below W9.heap.size W9 W10) := ⟨hb⟩
  clear hb
  go_wp2_with fail
  refine (markCode_call E.heap.size (fun k => E.heap.size ≤ k ∧ k < W5.heap.size) (.slice G0 cs.length g0) (.slice G1 li.length g1) cs li qn W10 (Kd.S_below H9.out.2.1 k10.out) (Kd.R_below H9.out.2.2.1 k10.out) HS.out.2.2.2 (by have := HS.out; omega)).mono ?_
  rintro ex W11 ⟨rfl, hS11, hR11, hb11, hk11⟩
  have hD10 : Below D.heap.size D W10 := (t9 W10).out
  have hD11 : Below D.heap.size D W11 := below_kept hD10 (Nat.le_refl _) hb11 hk11 (fun k hk => by have := hk.1; have := HE.out.1.size; omega)
  have hF11 : W11.heap[W5.heap.size]? = some (.cells #[.slice G0 cs.length g0, .slice G1 li.length g1, .int .i64 qn] 39 (0, 0)) := blk_kept ((k10.out.block _ (lt_of_some H9.out.2.2.2)).trans H9.out.2.2.2) hk11 (fun h => by have := h.2; omega)
  have j0 := clk ((blk_cell hF11 0).trans rfl : W11.cell? ⟨W5.heap.size, 0, none⟩ = some (.slice G0 cs.length g0))
  have j1 := clk ((blk_cell hF11 1).trans rfl : W11.cell? ⟨W5.heap.size, 1, none⟩ = some (.slice G1 li.length g1))
  have j2 := clk ((blk_cell hF11 2).trans rfl : W11.cell? ⟨W5.heap.size, 2, none⟩ = some (.int .i64 qn))
  have dm : decide (nBlks cs 1 + 11 * (li.length : Int) < 0) = false := decide_eq_false (by have := nBlks_ge cs 1; omega)
  have hlm := mBlks_len cs 1
  have hC11 := (Kd.S_reads' hS11).2.2
  have hC12 := (Kd.R_reads' hR11).2.2
  rw [hlm] at hC11
  rw [mInss_len] at hC12
  have H11 := Aside0.mk (And.intro hD11 (And.intro hC11 hC12))
  have k11 : K0 (Below W11.heap.size W11 W11) := ⟨Below.refl _ _⟩
  have t11 : ∀ W [K0 (Below W11.heap.size W11 W)], K0 (Below D.heap.size D W) := fun W k => ⟨H11.out.1.trans (k.out.mono H11.out.1.size)⟩
  clear h0 h1 h2 hS11 hR11 hb11 hk11 hD10 hD11 hF11 hlm hC11 hC12 k9 k10 t9
  go_wp2_with fail
  refine (heldCode_call G0 G1 cs li.length g0 g1 qn W11 H11.out.2.1 H11.out.2.2 HS.out.2.2.2 (by have := HS.out; omega)).mono ?_
  rintro ex W12 ⟨rfl, hb⟩
  have k12 : K0 (Below W11.heap.size W11 W12) := ⟨hb⟩
  clear hb
  go_wp2_with fail
  refine (to_call A c l W12 (Kd.C_below H0.out.2.1 ((tD _).out : Below wb.heap.size wb W12)) H0.out.2.2 HL.out).mono ?_
  rw [HN.out]
  rintro ex W13 ⟨B13, c13, rfl, hle, -, hC, hb⟩
  have k13 : K0 (Below W11.heap.size W11 W13) := ⟨k12.out.trans (hb.mono k12.out.size)⟩
  have H13 := Aside0.mk (And.intro hC hle)
  clear hle hC hb
  go_wp2_with fail
  refine (compile_call B13 c13 ns W13 H13.out.1 H13.out.2).mono ?_
  rw [HCd.out]
  rintro ex W14 ⟨v0, v1, rfl, hS, hR1, hb⟩
  obtain ⟨J0, r0, rfl⟩ := Kd.S_slice hS
  obtain ⟨J1, r1, rfl⟩ := Kd.R_slice hR1
  have k14 : K0 (Below W11.heap.size W11 W14) := ⟨k13.out.trans (hb.mono k13.out.size)⟩
  obtain ⟨Z, hZ⟩ : ∃ Z, Z = W14.alloc (.cells #[.slice J0 cs.length r0, .slice J1 li.length r1, .int .i64 qn] 39) := ⟨_, rfl⟩
  have hbZ : Below W14.heap.size W14 Z := hZ ▸ Below.alloc (Below.refl _ _) (Nat.le_refl _) _
  have hZ4 : Z.heap[W14.heap.size]? = some (.cells #[.slice J0 cs.length r0, .slice J1 li.length r1, .int .i64 qn] 39 (0, 0)) := hZ ▸ heap_alloc_new W14 _
  have kZ : K0 (Below W11.heap.size W11 Z) := ⟨k14.out.trans (hbZ.mono k14.out.size)⟩
  have n0 : Z.cell? ⟨W14.heap.size, 0, none⟩ = some (.slice J0 cs.length r0) := (blk_cell hZ4 0).trans rfl
  have n1 : Z.cell? ⟨W14.heap.size, 1, none⟩ = some (.slice J1 li.length r1) := (blk_cell hZ4 1).trans rfl
  have n2 : Z.cell? ⟨W14.heap.size, 2, none⟩ = some (.int .i64 qn) := (blk_cell hZ4 2).trans rfl
  have HZ := Aside0.mk (And.intro (Kd.S_reads' (Kd.S_below hS hbZ)).2.2 (Kd.R_reads' (Kd.R_below hR1 hbZ)).2.2)
  clear hS hR1 hb hbZ hZ4 j0 j1 j2
  go_wp2_with fail
  rw [← hZ]
  clear hZ
  have hDZ : Below D.heap.size D Z := (t11 Z).out
  have HDZ := Aside0.mk hDZ
  refine (eqCode_same J0 P0 J1 P1 cs.length r0 p0 li.length r1 p1 qn cs li Z rfl HZ.out.1 (Kd.C_below HD.out.2.1.2.2 hDZ) (by have := HS.out; omega) (fun x hx => by have := HS.out.2.1 x hx; omega) rfl HZ.out.2 (Kd.C_below HD.out.2.2.2.2 hDZ) (by have := HS.out; omega)).mono ?_
  rintro ex W15 ⟨rfl, hb⟩
  have HFin := Aside0.mk (H0.out.1.trans (((HD.out.1.trans ((hDZ.trans (hb.mono hDZ.size)).mono HD.out.1.size))).mono H0.out.1.size))
  clear hb hDZ
  go_wp2
  go_ret
  exact ⟨rfl, HFin.out⟩
theorem laws_FnExactCompile.calls (A0_0 : Option Addr) (c0_0 : Nat) (l0_0 : List S72) (r : Bool) (w : World) (hr0_0 : Kd.C k72 w A0_0 l0_0.length l0_0) (hc0_0 : l0_0.length ≤ c0_0) (h : laws_FnExactCompile.f l0_0 = some r) :
    Calls Try.prog 4 #[.agg #[.slice A0_0 l0_0.length c0_0]] w fun e w' => e = .returned (.bool r) ∧ Below w.heap.size w w' := by
  unfold laws_FnExactCompile.f at h
  split at h
  · rename_i hx
    cases h
    exact law_call A0_0 c0_0 l0_0 w hr0_0 hc0_0 hx.1 hx.2
  · cases h
end Go.Proofs.Ytpfehkkfakofaaa.Q

namespace Go.Proofs.Ytpfehkkfakofaaa.Q
open Go.RowKit Go.Proofs.YtpfehkkfakofaaaW.PrintWords Go.Proofs.YtpfehkkfakofaaaW.PrintLast
set_option linter.unusedVariables false

/-- The law over lists and numbers. -/
def laws_FnExactCompile.Pure : Prop := ∀ (l0_0 : List (S72)), (l0_0.length ≤ maxLen ∧ ∀ x_ ∈ l0_0, ok72 x_) → laws_FnExactCompile.f l0_0 = some true
end Go.Proofs.Ytpfehkkfakofaaa.Q

namespace Go.Proofs.Ytpfehkkfakofaaa.Pr
open Q Go.Proofs.YtpfehkkfakofaaaW.PrintWords
theorem FnExactCompile : laws_FnExactCompile.Pure := by
  intro xs h
  unfold laws_FnExactCompile.f
  exact if_pos h
end Go.Proofs.Ytpfehkkfakofaaa.Pr

namespace Go.Proofs.Ytpfehkkfakofaaa.fnExactCompile
open Go.ChangeShapes Go.WideShapes Go.ChangeAt Go.RowKit Go.Proofs.YtpfehkkfakofaaaW.PrintWords Go.Proofs.Ytpfehkkfakofaaa.RowK Go.Proofs.Ytpfehkkfakofaaa.Q
open Go.ChangeMaps (open_string shut_string)
set_option linter.unusedVariables false
theorem own : ownKnob Try.prog.godebug = none := by kernel_rfl
theorem laidOut : laidOutB Try.prog = true := by kernel_rfl
set_option maxRecDepth 100000 in
theorem lifted (os : Os) (started : os.Started) (H : Type) (enc : TypeId × Value → H) :
    ReturnsInHanded {} Try.checked os 4 .any (Rows.fnExactCompileSpec.pre6 enc Try.prog Try.f4 Rows.fnExactCompileRow.domain false) (Rows.fnExactCompileSpec.post enc Try.prog Try.f4 false true false false) := by
  refine returnsInHanded_of_change_sized (C := Try.checked) own started (by kernel_rfl) Try.func4
    (ChangeSpec.witness6 (enc := enc) (C := Try.checked) false ⟨#[], #[.agg #[.slice none 0 0]], []⟩ 8 (by kernel_rfl) (by kernel_rfl) (by kernel_rfl) (by kernel_rfl)) ?_
  intro W base args ds gs before hval0 hW hcnd hsz0 _
  have hval : ∀ (j : Nat) t v, Try.f4.params[j]? = some t → args[j]? = some v → Value.okWide Try.prog W .any base t v := hval0
  have hW' := hW
  obtain ⟨p, q, hA0, hV, rfl, hfz, hnd⟩ := hW
  have hA : DataW.TrodAll enc Try.prog W 0 (fun _ => true) true Try.f4.params.toList args.toList ds p := hA0
  rw [Try.params4] at hA hval
  obtain ⟨v0, vs0, d0, ds0, p0, q0, hargs, rfl, rfl, h0, r0⟩ := trodAll_cons hA
  obtain ⟨rfl, rfl, rfl⟩ := trodAll_nil r0
  obtain rfl : args = #[v0] := by cases args; simp_all
  obtain ⟨rfl, rfl⟩ := trodVars_none hV
  obtain ⟨cs0, rfl, _⟩ := okWide_struct Try.underlying24 (hval 0 24 v0 rfl rfl)
  have k0 := h0
  have lt0 : ∀ x ∈ p0, x.block < W.heap.size := by obtain ⟨m, hm⟩ := k0; exact DataW.trod_lt m _ _ _ hm
  obtain ⟨x0_, hK0, ok0_⟩ := Opens.arg (d := (Kd.slice 72 k72)) (opens_imp (opens_struct Try.underlying24 (by kernel_rfl) (opensF_last rfl (by kernel_rfl) (opens_slice Try.underlying22 (by kernel_rfl) opens72))) (fun _ h => h)) h0
  obtain ⟨A0_0, c0_0, hs0_0, hc0_0, hr0_0⟩ := hK0
  have hv0 : Value.agg cs0 = .agg #[.slice A0_0 (x0_).length c0_0] := agg_cells (l := [.slice A0_0 (x0_).length c0_0]) (by simp only [hs0_0] <;> rfl)
  have hp_ := Pr.FnExactCompile x0_ ok0_
  clear hA0 hval0 hsz0
  have hc_ := Q.laws_FnExactCompile.calls _ _ x0_ true W hr0_0 hc0_0 hp_
  rw [← hv0] at hc_
  refine hc_.mono fun e W' ⟨he, bel0⟩ => ?_
  subst he
  have bel : Below W.heap.size W W' := bel0
  exact ⟨_, rfl, _, _, _, [], _, [], hW', trodAll_mk1 (shut_bool Try.underlying4 _), (trodAll_cons_mk (Below.trod laidOut (by kernel_rfl) (of_decide_eq_true (by kernel_rfl)) k0 bel lt0) trodAll_mk0), rfl, bel.frame _, fun h => by cases h⟩
theorem over : Rows.fnExactCompileRow.holds Try.pinned (OpenSpec.ofChange Rows.fnExactCompileSpec) :=
  OpenClaim.holds_of_wide 4 Try.f4 rfl rfl rfl rfl rfl rfl rfl ⟨rfl, rfl, rfl, rfl, rfl⟩ rfl rfl rfl rfl rfl (by kernel_rfl) Try.func4 (by kernel_rfl)
    (of_decide_eq_true (by kernel_rfl)) (by unfold Func.isWrapper; first | (rw [if_pos (by decide +kernel)]; kernel_rfl) | (rw [if_neg (by decide +kernel)]; exact ⟨rfl, rfl⟩))
    (fun os started H enc _ => lifted os started H enc)
end Go.Proofs.Ytpfehkkfakofaaa.fnExactCompile
namespace Go.Proofs.Ytpfehkkfakofaaa
theorem fnExactCompile_holds : Rows.FnExactCompileSaid := fnExactCompile.over
#print axioms fnExactCompile_holds
end Go.Proofs.Ytpfehkkfakofaaa
