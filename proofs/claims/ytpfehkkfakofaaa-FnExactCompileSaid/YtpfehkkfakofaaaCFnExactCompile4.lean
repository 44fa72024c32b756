/- FnExactCompile: the row of the law: its arguments opened, its walk, its statement over lists (PrFnExactCompile). No condition. -/
import Derived.Test.YtpfehkkfakofaaaCFnExactCompile3
import Derived.ArgAppend
import Derived.WalkSpells

namespace Go.Proofs.Ytpfehkkfakofaaa.Q
open Go.RowKit Go.Proofs.YtpfehkkfakofaaaW.PrintWords Go.Proofs.YtpfehkkfakofaaaW.PrintLast Go.Proofs.YtpfehkkfakofaaaW.PrintMore
set_option linter.unusedVariables false
set_option linter.unusedSimpArgs false

/-! ### spec_l6Ifs: function 60 -/
def spec_l6Ifs.l0 : Nat → List (S63) → Int → Int → Option (Int)
 | 0, _, _, _ => none
 | k + 1, x0, x3, x4 => if x4 < (x0.length : Int) then (if 0 ≤ x4 then (if ((rd_T63 x0 x4).f0) = 16 then (spec_l6Ifs.l0 k x0 (wrap64 (x3 + 1)) (wrap64 (x4 + 1))) else (spec_l6Ifs.l0 k x0 x3 (wrap64 (x4 + 1)))) else (none)) else (some x3)
def spec_l6Ifs.f (k : Nat) (l0 : List (S63)) : Option (Int) := spec_l6Ifs.l0 k l0 0 0
set_option maxHeartbeats 8000000 in
set_option maxRecDepth 100000 in
theorem spec_l6Ifs.calls (k : Nat) (A0 : Option Addr) (c0 : Nat) (l0 : List (S63)) (r : Int) (w : World) (hr0 : Kd.C k63 w A0 l0.length l0) (hc0 : l0.length ≤ c0) (h : spec_l6Ifs.f k l0 = some r) :
  Calls Try.prog 60 #[.slice A0 l0.length c0] w fun e w' => e = .returned (.int .i64 r) ∧ Drawn0 w w' := by
 have HR0 := Aside0.mk hr0
 have HC0 := Aside0.mk hc0
 clear hr0 hc0
 have H : (spec_l6Ifs.l0 k l0 0 0) = some r := h
 clear h
 have H' := Aside0.mk H
 clear H
 go_enter Try.func60, Try.ntmps60
 go_wp2
 go_loopg [3, 4] k (fun kq v3 v4 w' => ∃ (x3_1 : Int) (x4_1 : Int), v3 = .int .i64 x3_1 ∧ v4 = .int .i64 x4_1 ∧ Aside0 (spec_l6Ifs.l0 kq l0 x3_1 x4_1 = some r) ∧ Aside0 (kq ≤ k) ∧ Drawn0 w w')
 case atStart => exact ⟨(0), (0), (by first | rfl | (simp; done) | (simp [*]; done)), (by first | rfl | (simp; done) | (simp [*]; done)), H', ⟨Nat.le_refl _⟩, by repeat (first | exact Drawn0.refl _ | apply Drawn0.step)⟩
 case round =>
  clear H'
  obtain ⟨x3_1, x4_1, rfl, rfl, HA, HK1, ⟨m1, rfl⟩⟩ := hrel
  cases gk with
  | zero => exact absurd HA.out (by simp [spec_l6Ifs.l0])
  | succ k1 =>
   have H := HA.out
   clear HA
   simp only [spec_l6Ifs.l0] at H
   by_cases c2 : x4_1 < (l0.length : Int)
   ·rw [if_pos c2] at H
    have c2b0 : decide (x4_1 < (l0.length : Int)) = true := decide_eq_true c2
    clear c2
    by_cases c3 : 0 ≤ x4_1
    ·rw [if_pos c3] at H
     have c3b0 : decide (0 ≤ x4_1) = true := decide_eq_true c3
     clear c3
     by_cases c4 : ((rd_T63 l0 x4_1).f0) = 16
     ·rw [if_pos c4] at H
      have c4b0 : (((rd_T63 l0 x4_1).f0) == 16) = true := beq_iff_eq.mpr c4
      have c4b1 : (((rd_T63 l0 x4_1).f0) != 16) = false := bne_eq_false_iff_eq.mpr c4
      clear c4
      have H' := Aside0.mk H
      clear H
      have p258 : 0 ≤ (x4_1 : Int) := of_decide_eq_true (by first | (with_reducible assumption) | assumption)
      have q258 : x4_1 < (l0.length : Int) := of_decide_eq_true (by first | (with_reducible assumption) | assumption)
      obtain ⟨ad258, e258, hx258_0, hx258_1, hx258_2, hx258_3, hx258_4, hx258_5, hx258_6⟩ := at_T63 HR0.out x4_1 p258 q258
      cases e258
      replace p258 := eq_true p258
      replace q258 := eq_true q258
      go_wp2
      go_roundg k1
      case measure => have := HK1.out; omega
      case rel => exact ⟨(wrap64 (x3_1 + 1)), (wrap64 (x4_1 + 1)), (by first | rfl | (simp; done) | (simp [*]; done)), (by first | rfl | (simp; done) | (simp [*]; done)), H', ⟨by have := HK1.out; omega⟩, by repeat (first | exact Drawn0.refl _ | apply Drawn0.step)⟩
     ·rw [if_neg c4] at H
      have c4b0 : (((rd_T63 l0 x4_1).f0) == 16) = false := beq_eq_false_iff_ne.mpr c4
      have c4b1 : (((rd_T63 l0 x4_1).f0) != 16) = true := bne_iff_ne.mpr c4
      have H' := Aside0.mk H
      clear H
      have p258 : 0 ≤ (x4_1 : Int) := of_decide_eq_true (by first | (with_reducible assumption) | assumption)
      have q258 : x4_1 < (l0.length : Int) := of_decide_eq_true (by first | (with_reducible assumption) | assumption)
      obtain ⟨ad258, e258, hx258_0, hx258_1, hx258_2, hx258_3, hx258_4, hx258_5, hx258_6⟩ := at_T63 HR0.out x4_1 p258 q258
      cases e258
      replace p258 := eq_true p258
      replace q258 := eq_true q258
      go_wp2
      go_roundg k1
      case measure => have := HK1.out; omega
      case rel => exact ⟨(x3_1), (wrap64 (x4_1 + 1)), (by first | rfl | (simp; done) | (simp [*]; done)), (by first | rfl | (simp; done) | (simp [*]; done)), H', ⟨by have := HK1.out; omega⟩, by repeat (first | exact Drawn0.refl _ | apply Drawn0.step)⟩
    ·rw [if_neg c3] at H
     exact absurd H (by simp)
   ·rw [if_neg c2] at H
    have c2b0 : decide (x4_1 < (l0.length : Int)) = false := decide_eq_false c2
    clear c2
    obtain rfl := Option.some.inj H
    go_wp2
    go_ret
    exact ⟨by first | rfl | (simp; done) | (simp [*]; done), by repeat (first | exact Drawn0.refl _ | apply Drawn0.step)⟩

end Go.Proofs.Ytpfehkkfakofaaa.Q

namespace Go.Proofs.Ytpfehkkfakofaaa.Q
open Go.RowKit Go.Proofs.YtpfehkkfakofaaaW.PrintWords Go.Proofs.YtpfehkkfakofaaaW.PrintLast Go.Proofs.YtpfehkkfakofaaaW.PrintMore
set_option linter.unusedVariables false
set_option linter.unusedSimpArgs false
theorem Ev.of_eq' {α : Type} {g : Nat → Option α} {r r' : α} (k : Ev g r) (h : r = r') : Ev g r' := h ▸ k
theorem wf_ar {n : S63} {ks : List Tr} (hw : wfT (.node n ks)) : (ks = [] ∧ n.f0 ≠ 14 ∧ n.f0 ≠ 15 ∧ n.f0 ≠ 16) ∨ (∃ a b, ks = [a, b] ∧ wfT a ∧ wfT b ∧ (n.f0 = 14 ∨ n.f0 = 15)) ∨ (∃ c a b, ks = [c, a, b] ∧ wfT c ∧ wfT a ∧ wfT b ∧ n.f0 = 16) := by
  obtain ⟨h1, h2⟩ : (ks.length : Int) = arB n.f0 ∧ wfTs ks := hw
  unfold arB at h1
  match ks, h1, h2 with
  | [], h1, h2 => left; refine ⟨rfl, ?_⟩; simp only [List.length_nil] at h1; split at h1 <;> (try split at h1) <;> omega
  | [a], h1, h2 => simp only [List.length_cons, List.length_nil] at h1; split at h1 <;> (try split at h1) <;> omega
  | [a, b], h1, h2 =>
    right; left
    refine ⟨a, b, rfl, h2.1, h2.2.1, ?_⟩
    simp only [List.length_cons, List.length_nil] at h1; split at h1 <;> (try split at h1) <;> omega
  | [c, a, b], h1, h2 =>
    right; right
    refine ⟨c, a, b, rfl, h2.1, h2.2.1, h2.2.2.1, ?_⟩
    simp only [List.length_cons, List.length_nil] at h1; split at h1 <;> (try split at h1) <;> omega
  | a :: b :: c :: d :: r, h1, h2 => simp only [List.length_cons] at h1; split at h1 <;> (try split at h1) <;> omega
def ifsL : List S63 → Int
  | [] => 0
  | x :: r => (if x.f0 = 16 then 1 else 0) + ifsL r
theorem ifsL_app : ∀ xs ys : List S63, ifsL (xs ++ ys) = ifsL xs + ifsL ys
  | [], ys => by simp [ifsL]
  | x :: xs, ys => by simp only [List.cons_append, ifsL, ifsL_app xs ys]; omega
mutual
theorem ifsL_flat : ∀ t : Tr, ifsL (flatT t) = ifsT t
  | .node n ks => by
    have := ifsL_flats ks
    simp only [flatT, ifsT, ifsL_app, ifsL]; omega
theorem ifsL_flats : ∀ ts : List Tr, ifsL (flatTs ts) = ifsTs ts
  | [] => rfl
  | t :: ts => by simp only [flatTs, ifsTs, ifsL_app, ifsL_flat t, ifsL_flats ts]
end
theorem ifs_loop (ns : List S63) (hn : ns.length ≤ 1000000) : ∀ (rest pre : List S63) (acc : Int), ns = pre ++ rest → 0 ≤ acc → acc ≤ pre.length → Ev (fun k => spec_l6Ifs.l0 k ns acc pre.length) (acc + ifsL rest) := by
  intro rest
  induction rest with
  | nil => intro pre acc e h0 h1; refine Ev.shift 1 fun k => ?_; simp only [spec_l6Ifs.l0]; rw [if_neg (by rw [e]; simp)]; simp [ifsL]
  | cons x rest ih =>
    intro pre acc e h0 h1
    have hlt : pre.length < ns.length := by rw [e]; exact len_cut _ _ _
    have hr : rd_T63 ns (pre.length : Int) = x := by unfold rd_T63; rw [Int.toNat_natCast, e, getD_cut]
    have h2 := fun q => ih (pre ++ [x]) q (by simp [e])
    rw [List.length_append, List.length_singleton] at h2
    refine Ev.round (fun k => spec_l6Ifs.l0.eq_2 ..) ?_
    refine Ev.if_pos (by omega) (Ev.if_pos (by omega) ?_)
    rw [hr]
    by_cases h : x.f0 = 16
    · refine Ev.if_pos h ?_
      rw [wrap_nat _ (by omega), wrap_id (acc + 1) (by omega) (by omega)]
      have h3 := h2 (acc + 1) (by omega) (by push_cast; omega)
      refine Ev.of_eq' h3 ?_
      simp only [ifsL, h, if_true]; omega
    · refine Ev.if_neg h ?_
      rw [wrap_nat _ (by omega)]
      have h3 := h2 acc (by omega) (by push_cast; omega)
      refine Ev.of_eq' h3 ?_
      simp only [ifsL, h, if_false]; omega
theorem ifs_is (t : Tr) (hn : (flatT t).length ≤ 1000000) : Ev (fun k => spec_l6Ifs.f k (flatT t)) (ifsT t) := by
  have h := ifs_loop (flatT t) hn (flatT t) [] 0 rfl (Int.le_refl _) (by simp)
  rw [ifsL_flat, Int.zero_add] at h
  exact h
theorem counts_is (n : S63) : spec_l6Counts.f n.f0 n.f1 n.f2 n.f3 n.f4 n.f5 n.f6 = some (cntN n) := by
  unfold spec_l6Counts.f cntN
  split
  · simp [*]
  · split
    · simp [*]
    · rename_i h1 h2; simp [h1, h2]; rfl
theorem has_is (n : S63) : Ev (fun k => spec_l6HasCounter.f k [n]) (cntN n) := by
  refine Ev.shift 2 fun k => ?_
  unfold spec_l6HasCounter.f
  rw [spec_l6HasCounter.l0.eq_2, if_pos (by simp), if_pos (by omega), show rd_T63 [n] 0 = n from rfl, counts_is, Option.bind_some]
  cases h : cntN n
  · rw [if_neg (by simp), show wrap64 (0 + 1) = 1 from (wrap_id (0 + 1) (by omega) (by omega)).trans rfl, spec_l6HasCounter.l0.eq_2, if_neg (by simp)]
  · rw [if_pos rfl]
theorem cat_is (ps : List (List S92)) (hp : ps.length ≤ 1000000) (hn : ps.flatten.length ≤ 1000000) : ∀ (rest pre : List (List S92)), ps = pre ++ rest → Ev (fun k => spec_l6Cat.l0 k ps pre.flatten pre.length) ps.flatten := by
  intro rest
  induction rest with
  | nil => intro pre e; refine Ev.shift 1 fun k => ?_; rw [spec_l6Cat.l0.eq_2, if_neg (by rw [e]; simp)]; simp [e]
  | cons x rest ih =>
    intro pre e
    have hlt : pre.length < ps.length := by rw [e]; exact len_cut _ _ _
    have hr : rd_L9 ps (pre.length : Int) = x := by unfold rd_L9; rw [Int.toNat_natCast, e, getD_cut]
    have h2 := ih (pre ++ [x]) (by simp [e])
    rw [List.length_append, List.length_singleton, List.flatten_append, List.flatten_cons, List.flatten_nil, List.append_nil] at h2
    have hlen : pre.flatten.length + x.length ≤ 1000000 := by
      rw [e, List.flatten_append, List.length_append, List.flatten_cons, List.length_append] at hn; omega
    refine Ev.round (fun k => spec_l6Cat.l0.eq_2 ..) ?_
    refine Ev.if_pos (by omega) (Ev.if_pos (by omega) ?_)
    rw [hr, wrap_nat _ (by omega)]
    exact Ev.if_pos (by omega) h2
theorem cats_is (ps : List (List S92)) (hp : ps.length ≤ 1000000) (hn : ps.flatten.length ≤ 1000000) : Ev (fun k => spec_l6Cat.f k ps) ps.flatten := cat_is ps hp hn ps [] rfl
theorem genT_tgt : ∀ (N : Nat) (t : Tr) (seen : Bool) (first : Int), (flatT t).length ≤ N → N ≤ 100000 → wfT t → ∀ x ∈ genT t seen first, x.f0 = 5 ∨ x.f0 = 6 → 0 ≤ x.f2 ∧ x.f2 ≤ 1000000
  | 0, t, seen, first, hl, hN, hw => by have := flatT_ne t; rcases h : flatT t with _ | _ <;> simp_all
  | N + 1, .node n ks, seen, first, hl, hN, hw => by
    rcases wf_ar hw with ⟨rfl, h1, h2, h3⟩ | ⟨a, b, rfl, wa, wb, h⟩ | ⟨c, a, b, rfl, wc, wa, wb, h⟩
    · intro x hx h5
      simp only [genT, genTs, genN, List.mem_singleton] at hx
      subst hx
      simp at h5
    · simp only [flatT, flatTs, List.length_append, List.length_cons, List.length_nil] at hl
      have ha := genT_tgt N a seen first (by omega) (by omega) wa
      have hb := fun s => genT_tgt N b s (first + ifsT a) (by omega) (by omega) wb
      intro x hx h5
      simp only [genT, genTs, genN] at hx
      split at hx
      · rcases List.mem_append.mp hx with hx | hx
        · exact ha x hx h5
        · exact hb _ x hx h5
      · simp only [List.mem_append, List.mem_singleton] at hx
        rcases hx with (((rfl | hx) | rfl) | hx) | rfl
        · simp at h5
        · exact ha x hx h5
        · simp at h5
        · exact hb _ x hx h5
        · simp at h5
    · simp only [flatT, flatTs, List.length_append, List.length_cons, List.length_nil] at hl
      have l1 := genT_le a seen (first + ifsT c + 1)
      have l2 := genT_le b seen (first + ifsT c + 1 + ifsT a)
      have ha := genT_tgt N a seen (first + ifsT c + 1) (by omega) (by omega) wa
      have hb := genT_tgt N b seen (first + ifsT c + 1 + ifsT a) (by omega) (by omega) wb
      intro x hx h5
      simp only [genT, genTs, genN, List.mem_append, List.mem_singleton] at hx
      rcases hx with ((rfl | hx) | rfl) | hx
      · exact ⟨by show 0 ≤ ((genT a seen (first + ifsT c + 1)).length : Int) + 2; omega, by show ((genT a seen (first + ifsT c + 1)).length : Int) + 2 ≤ 1000000; omega⟩
      · exact ha x hx h5
      · exact ⟨by show 0 ≤ ((genT b seen (first + ifsT c + 1 + ifsT a)).length : Int) + 1; omega, by show ((genT b seen (first + ifsT c + 1 + ifsT a)).length : Int) + 1 ≤ 1000000; omega⟩
      · exact hb x hx h5
end Go.Proofs.Ytpfehkkfakofaaa.Q

namespace Go.Proofs.Ytpfehkkfakofaaa.Q
open Go.RowKit Go.Proofs.YtpfehkkfakofaaaW.PrintWords Go.Proofs.YtpfehkkfakofaaaW.PrintLast Go.Proofs.YtpfehkkfakofaaaW.PrintMore
set_option linter.unusedVariables false
set_option linter.unusedSimpArgs false
theorem gen_all : ∀ (N : Nat) (t : Tr), (flatT t).length ≤ N → wfT t → GenP t
  | 0, t, hl, hw => absurd (List.eq_nil_of_length_eq_zero (by omega)) (flatT_ne t)
  | N + 1, .node n ks, hl, hw => by
    rcases wf_ar hw with ⟨rfl, g1, g2, g3⟩ | ⟨p, q, rfl, wp, wq, h⟩ | ⟨z, p, q, rfl, wz, wp, wq, h⟩
    · exact gen_leaf n g1 g2 g3
    · simp only [flatT, flatTs, List.length_append, List.length_cons, List.length_nil] at hl
      have hp := gen_all N p (by omega) wp
      have hq := gen_all N q (by omega) wq
      rcases h with h | h
      · exact gen_chain n p q h hp hq
      · exact gen_inter n p q h hp hq
    · simp only [flatT, flatTs, List.length_append, List.length_cons, List.length_nil] at hl
      exact gen_if n z p q h (gen_all N p (by omega) wp) (gen_all N q (by omega) wq)
theorem gen_call (t : Tr) (hw : wfT t) : GenP t := gen_all _ t (Nat.le_refl _) hw
end Go.Proofs.Ytpfehkkfakofaaa.Q

namespace Go.Proofs.Ytpfehkkfakofaaa.Q
open Go.RowKit Go.Proofs.YtpfehkkfakofaaaW.PrintWords Go.Proofs.YtpfehkkfakofaaaW.PrintLast Go.Proofs.YtpfehkkfakofaaaW.PrintMore
set_option linter.unusedVariables false
set_option linter.unusedSimpArgs false
def genB : List (Tr × Int) → Bool → List S92
  | [], _ => []
  | p :: ps, s => genT p.1 s p.2 ++ genB ps (s || passT p.1)
def seenB : List (Tr × Int) → Bool → Bool
  | [], s => s
  | p :: ps, s => seenB ps (s || passT p.1)
def lenB : List (Tr × Int) → Nat
  | [] => 0
  | p :: ps => (flatT p.1).length + lenB ps
theorem genB_app : ∀ (ps qs : List (Tr × Int)) (s : Bool), genB (ps ++ qs) s = genB ps s ++ genB qs (seenB ps s)
  | [], qs, s => rfl
  | p :: ps, qs, s => by simp only [List.cons_append, genB, seenB, genB_app ps qs, List.append_assoc]
theorem seenB_app : ∀ (ps qs : List (Tr × Int)) (s : Bool), seenB (ps ++ qs) s = seenB qs (seenB ps s)
  | [], qs, s => rfl
  | p :: ps, qs, s => by simp only [List.cons_append, seenB, seenB_app ps qs]
theorem lenB_app : ∀ (ps qs : List (Tr × Int)), lenB (ps ++ qs) = lenB ps + lenB qs
  | [], qs => by simp [lenB]
  | p :: ps, qs => by simp only [List.cons_append, lenB, lenB_app ps qs]; omega
theorem lenB_ge : ∀ (ps : List (Tr × Int)), ps.length ≤ lenB ps
  | [] => by simp [lenB]
  | p :: ps => by
    have h1 := lenB_ge ps
    have h2 := flatT_ne p.1
    have h3 : 0 < (flatT p.1).length := List.length_pos_iff.mpr h2
    simp only [lenB, List.length_cons]; omega
theorem genB_le : ∀ (ps : List (Tr × Int)) (s : Bool), (genB ps s).length ≤ 3 * lenB ps
  | [], s => by simp [genB, lenB]
  | p :: ps, s => by
    have h1 := genB_le ps (s || passT p.1)
    have h2 := genT_le p.1 s p.2
    simp only [genB, lenB, List.length_append]; omega
theorem findE_more (a : Nat) : ∀ (es fs : List (Nat × Int)) (i : Nat) (r : Nat × Value), findE a es i = some r → findE a (es ++ fs) i = some r
  | [], fs, i, r, h => by simp [findE] at h
  | p :: es, fs, i, r, h => by
    unfold findE at h
    show findE a (p :: (es ++ fs)) i = some r
    unfold findE
    split
    · rename_i e; rw [if_pos e] at h; exact h
    · rename_i e; rw [if_neg e] at h; exact findE_more a es fs (i + 1) r h
theorem findE_new (a : Nat) (k : Int) : ∀ (es fs : List (Nat × Int)) (i : Nat), (∀ p ∈ es, p.1 ≠ a) → ∃ j, findE a (es ++ (a, k) :: fs) i = some (j, .int .i64 k)
  | [], fs, i, h => ⟨i, by simp [findE]⟩
  | p :: es, fs, i, h => by
    obtain ⟨j, hj⟩ := findE_new a k es fs (i + 1) (fun q hq => h q (List.mem_cons_of_mem _ hq))
    refine ⟨j, ?_⟩
    show findE a (p :: (es ++ (a, k) :: fs)) i = _
    unfold findE
    rw [if_neg (fun e => h p (List.mem_cons_self ..) e.symm)]
    exact hj
mutual
theorem NumT_more {w : World} {ok : Nat → Prop} {es : List (Nat × Int)} (fs : List (Nat × Int)) : ∀ (x : Tr) (v : Value) (first : Int), NumT w ok es x v first → NumT w ok (es ++ fs) x v first
  | .node n ks, v, first, h => by
    unfold NumT at h ⊢
    obtain ⟨a, u, vs, h1, h2, h3, h4, h5, h6, h7⟩ := h
    exact ⟨a, u, vs, h1, h2, h3, h4, h5, fun e => (h6 e).imp (fun i hi => findE_more a es fs 0 _ hi), NumTs_more fs ks vs _ first h7⟩
theorem NumTs_more {w : World} {ok : Nat → Prop} {es : List (Nat × Int)} (fs : List (Nat × Int)) : ∀ (xs : List Tr) (vs : List Value) (z first : Int), NumTs w ok es z xs vs first → NumTs w ok (es ++ fs) z xs vs first
  | [], vs, z, first, h => by unfold NumTs at h ⊢; exact h
  | x :: xs, vs, z, first, h => by
    unfold NumTs at h ⊢
    obtain ⟨u, us, h1, h2, h3⟩ := h
    exact ⟨u, us, h1, NumT_more fs x u first h2, NumTs_more fs xs us 0 _ h3⟩
end
/-- The trees ahead, each with the number of its first if, at the values us. -/
def NumB (w : World) (ok : Nat → Prop) (es : List (Nat × Int)) : List (Tr × Int) → List Value → Prop
  | [], us => us = []
  | p :: ps, us => ∃ u vs, us = u :: vs ∧ NumT w ok es p.1 u p.2 ∧ wfT p.1 ∧ 0 ≤ p.2 ∧ p.2 + (flatT p.1).length ≤ 1000000 ∧ NumB w ok es ps vs
theorem NumB_more {w : World} {ok : Nat → Prop} {es : List (Nat × Int)} (fs : List (Nat × Int)) : ∀ (ps : List (Tr × Int)) (us : List Value), NumB w ok es ps us → NumB w ok (es ++ fs) ps us
  | [], us, h => h
  | p :: ps, us, h => by
    obtain ⟨u, vs, h1, h2, h3, h4, h5, h6⟩ := h
    exact ⟨u, vs, h1, NumT_more fs _ _ _ h2, h3, h4, h5, NumB_more fs ps vs h6⟩
theorem NumB_move {w w1 : World} {ok ok' : Nat → Prop} {es : List (Nat × Int)} (hm : ∀ k, ok k → k < w.heap.size → ok' k ∧ w1.heap[k]? = w.heap[k]?) : ∀ (ps : List (Tr × Int)) (us : List Value), NumB w ok es ps us → NumB w1 ok' es ps us
  | [], us, h => h
  | p :: ps, us, h => by
    obtain ⟨u, vs, h1, h2, h3, h4, h5, h6⟩ := h
    exact ⟨u, vs, h1, NumT_move hm _ _ _ h2, h3, h4, h5, NumB_move hm ps vs h6⟩
theorem NumB_len {w : World} {ok : Nat → Prop} {es : List (Nat × Int)} : ∀ (ps : List (Tr × Int)) (us : List Value), NumB w ok es ps us → us.length = ps.length
  | [], us, h => by rw [show us = [] from h]; rfl
  | p :: ps, us, h => by
    obtain ⟨u, vs, rfl, h2, h3, h4, h5, h6⟩ := h
    simp [NumB_len ps vs h6]
theorem NumB_snoc {w : World} {ok : Nat → Prop} {es : List (Nat × Int)} : ∀ (ps : List (Tr × Int)) (us : List Value) (t : Tr) (v : Value) (f : Int), NumB w ok es ps us → NumT w ok es t v f → wfT t → 0 ≤ f → f + (flatT t).length ≤ 1000000 → NumB w ok es (ps ++ [(t, f)]) (us ++ [v])
  | [], us, t, v, f, h, h2, h3, h4, h5 => by
    rw [show us = [] from h]
    exact ⟨v, [], rfl, h2, h3, h4, h5, rfl⟩
  | p :: ps, us, t, v, f, h, g2, g3, g4, g5 => by
    obtain ⟨u, vs, rfl, h2, h3, h4, h5, h6⟩ := h
    exact ⟨u, vs ++ [v], rfl, h2, h3, h4, h5, NumB_snoc ps vs t v f h6 g2 g3 g4 g5⟩
end Go.Proofs.Ytpfehkkfakofaaa.Q

namespace Go.Proofs.Ytpfehkkfakofaaa.Q
open Go.RowKit Go.Proofs.YtpfehkkfakofaaaW.PrintWords Go.Proofs.YtpfehkkfakofaaaW.PrintLast Go.Proofs.YtpfehkkfakofaaaW.PrintMore
set_option linter.unusedVariables false
set_option linter.unusedSimpArgs false
theorem NumB_get {w : World} {ok : Nat → Prop} {es : List (Nat × Int)} : ∀ (ps : List (Tr × Int)) (us : List Value) (j : Nat) (p : Tr × Int), NumB w ok es ps us → ps[j]? = some p → ∃ u, us[j]? = some u ∧ NumT w ok es p.1 u p.2 ∧ wfT p.1 ∧ 0 ≤ p.2 ∧ p.2 + (flatT p.1).length ≤ 1000000
  | [], us, j, p, h, hj => by simp at hj
  | q :: ps, us, j, p, h, hj => by
    obtain ⟨u, vs, rfl, h2, h3, h4, h5, h6⟩ := h
    cases j with
    | zero => simp at hj; subst hj; exact ⟨u, rfl, h2, h3, h4, h5⟩
    | succ j => exact NumB_get ps vs j p h6 (by simpa using hj)
theorem genB_take (ps : List (Tr × Int)) (j : Nat) (p : Tr × Int) (h : ps[j]? = some p) : genB (ps.take (j + 1)) false = genB (ps.take j) false ++ genT p.1 (seenB (ps.take j) false) p.2 ∧ seenB (ps.take (j + 1)) false = (seenB (ps.take j) false || passT p.1) ∧ lenB (ps.take (j + 1)) = lenB (ps.take j) + (flatT p.1).length := by
  rw [List.take_add_one, h, Option.toList_some, genB_app, seenB_app, lenB_app]
  exact ⟨by simp [genB], rfl, rfl⟩
theorem lenB_take (ps : List (Tr × Int)) (j : Nat) : lenB (ps.take j) ≤ lenB ps := by
  have h := lenB_app (ps.take j) (ps.drop j)
  rw [List.take_append_drop] at h
  omega
/-- Compile under way: the map m, its variable cm, the result under way o with the blocks of the conditions. -/
def NuS (w : World) (B m cm o : Nat) (es : List (Nat × Int)) (cs : List S37) (ov : Value) : Prop :=
  MapW w m es ∧ w.heap[cm]? = some (.cells #[.map (some m)] 55 (0, 0)) ∧ w.heap[o]? = some (.cells #[ov, .slice none 0 0, .int .i64 0] 39 (0, 0)) ∧ Kd.S k37 37 w B (fun k => k ≠ m ∧ k ≠ cm ∧ k ≠ o) ov cs ∧ B ≤ m ∧ B ≤ cm ∧ B ≤ o ∧ m ≠ cm ∧ m ≠ o ∧ cm ≠ o
def NuF (w w' : World) (m o : Nat) (ov ov' : Value) : Prop :=
  Below 0 w w' ∧ (∀ k, k < w.heap.size → k ≠ m → k ≠ o → ov.ownBlock ≠ some k → w'.heap[k]? = w.heap[k]?) ∧ ∀ k, ov'.ownBlock = some k → ov.ownBlock = some k ∨ w.heap.size ≤ k
theorem NuF.trans {w w1 w2 : World} {m o : Nat} {rv rv1 rv2 : Value} (h : NuF w w1 m o rv rv1) (h' : NuF w1 w2 m o rv1 rv2) : NuF w w2 m o rv rv2 := by
  have hs := h.1.size
  refine ⟨h.1.trans h'.1, fun k hk he ho hr => ?_, fun k hk => ?_⟩
  · refine (h'.2.1 k (by omega) he ho (fun e1 => ?_)).trans (h.2.1 k hk he ho hr)
    rcases h.2.2 k e1 with h1 | h1
    · exact hr h1
    · omega
  · rcases h'.2.2 k hk with h1 | h1
    · exact h.2.2 k h1
    · exact .inr (by omega)
theorem MapW_lt {w : World} {m : Nat} {es : List (Nat × Int)} (h : MapW w m es) : m < w.heap.size := by
  obtain ⟨L, clock, h1, -⟩ := h
  exact lt_of_some h1
theorem MapW_eq {w w1 : World} {m : Nat} {es : List (Nat × Int)} (h : MapW w m es) (hm : w1.heap[m]? = w.heap[m]?) (hk : ∀ p ∈ es, w1.heap[p.1]? = w.heap[p.1]?) : MapW w1 m es := by
  obtain ⟨L, clock, h1, h2, h3⟩ := h
  refine ⟨L, clock, hm.trans h1, h2, fun p hp => ?_⟩
  obtain ⟨cs, t, h4⟩ := h3 p hp
  exact ⟨cs, t, (hk p hp).trans h4⟩
set_option maxHeartbeats 8000000 in
set_option maxRecDepth 100000 in
theorem cond_call (ps : List (Tr × Int)) (us : List Value) (bv : Value) (z : Tr) (f : Int) (v0 : Value) (a g cap : Nat) (es : List (Nat × Int)) (cs : List S37) (ov : Value) (B m cm o : Nat) (w : World)
    (hc7 : w.cell? ⟨a, 7, none⟩ = some (.slice (some ⟨g, 0, none⟩) 3 cap)) (hd0 : w.cell? ⟨g, 0, none⟩ = some v0) (hz : NumT w (fun k => k < B) es z v0 f) (hwz : wfT z) (hps : NumB w (fun k => k < B) es ps us) (hbv : w.ownsRow 0 47 1 bv us.length us)
    (hS : NuS w B m cm o es cs ov) (hes : ∀ p ∈ es, p.1 < B) (hl : lenB ps + (flatT z).length ≤ 1000) (hf : 0 ≤ f) (hf1 : f + (flatT z).length ≤ 100000) (hcs : cs.length ≤ 1000) :
    Calls Try.prog 31 #[.pointer (some ⟨a, 0, none⟩), bv, .pointer (some ⟨cm, 0, none⟩), .pointer (some ⟨o, 0, none⟩)] w fun ex w' => ∃ ov', ex = .returned (.tuple #[]) ∧ NuS w' B m cm o es (cs ++ [blockI (genB ps false ++ genT z (seenB ps false) f)]) ov' ∧ NuF w w' m o ov ov' := by
  have kr : K0 (Below w.heap.size w w) := ⟨Below.refl _ _⟩
  have hul := NumB_len ps us hps
  have hBo : B ≤ w.heap.size := by have := lt_of_some hS.2.2.1; have := hS.2.2.2.2.2.2.1; omega
  have cc := clk ((blk_cell hS.2.1 0).trans rfl : w.cell? ⟨cm, 0, none⟩ = some (.map (some m)))
  have hc7 := clk hc7
  have hd0 := clk hd0
  obtain ⟨Ab, cb, rfl⟩ : ∃ Ab cb, bv = .slice Ab us.length cb := by
    rcases hbv.2 with ⟨rfl, h0⟩ | ⟨gb, cap', cur, rfl, _⟩
    · exact ⟨none, 0, by rw [h0]⟩
    · exact ⟨_, _, rfl⟩
  obtain ⟨wx, hwx⟩ : ∃ wx, wx = w.alloc (.cells #[.slice none 0 0, .int .i64 0, .map (some m)] 59) := ⟨_, rfl⟩
  have HB0 : Aside0 (Below w.heap.size w wx) := ⟨hwx ▸ kk⟩
  have HE0 : Aside0 (EmW wx w.heap.size w.heap.size ([], 0) (.map (some m)) (.slice none 0 0)) := ⟨hwx ▸ heap_alloc_new w _, Kd.R_nil ..⟩
  have HH := Aside0.mk (And.intro hS (And.intro hes (And.intro hl (And.intro hf (And.intro hf1 (And.intro hcs (And.intro hBo (And.intro hul hwz))))))))
  have HZ := Aside0.mk hz
  have HPS := Aside0.mk hps
  have HBV := Aside0.mk hbv
  clear hS hes hl hf hf1 hcs hBo hz hps hbv hwz hul
  go_enter Try.func31, Try.ntmps31
  go_wp2_with fail
  rw [← hwx]
  clear hwx
  go_loopw [7, 9, 14] (fun v7 v9 v14 W => ∃ (j : Nat) (rv : Value), j ≤ us.length ∧ v14 = .int .i64 j ∧ v7 = .bool (seenB (ps.take j) false) ∧ Aside0 (EmW W w.heap.size w.heap.size (putIs ([], 0) (genB (ps.take j) false)) (.map (some m)) rv) ∧ Aside0 (Below w.heap.size w W)) (fun _ _ v14 _ => us.length - (intOf v14).toNat)
  case atStart => exact ⟨0, _, by omega, rfl, rfl, HE0, HB0⟩
  case round =>
    clear HE0 HB0
    obtain ⟨j, rv, hj, rfl, rfl, HE, HB⟩ := hrel
    have kW : K0 (Below w.heap.size w wr) := ⟨HB.out⟩
    by_cases hlt : j < us.length
    · have dl : decide ((j : Int) < (us.length : Int)) = true := decide_eq_true (by omega)
      obtain ⟨p, hp⟩ : ∃ p, ps[j]? = some p := ⟨_, List.getElem?_eq_getElem (by have := HH.out.2.2.2.2.2.2.2.1; omega)⟩
      obtain ⟨u, hu, hn, hwp, hp0, hp1⟩ := NumB_get ps us j p HPS.out hp
      obtain ⟨gb, cb', hsl, hgb, hcell⟩ := row_at HBV.out (by omega)
      cases hsl
      have hcj := hcell j u hu
      have hcj := clk hcj
      have ht := genB_take ps j p hp
      have hw1 : IntKind.i64.wrap ((j : Int) + 1) = ((j + 1 : Nat) : Int) := by have := HH.out.2.2.1; have := HH.out.2.2.2.2.2.2.2.1; have := lenB_ge ps; rw [IntKind.wrap_i64]; omega
      have HHU := Aside0.mk (And.intro hn (And.intro hwp (And.intro hp0 (And.intro hp1 ht))))
      clear hu hn hwp hp0 hp1 ht hcell hp
      go_wp2_with fail
      have q1 := genB_le (ps.take j) false
      have q2 := lenB_take ps (j + 1)
      have q3 := putIs_len (genB (ps.take j) false) ([], 0)
      have q4 := putIs_cnt (genB (ps.take j) false) ([], 0)
      refine (gen_call p.1 HHU.out.2.1 u (seenB (ps.take j) false) p.2 (fun k => k < B) es w.heap.size w.heap.size m (putIs ([], 0) (genB (ps.take j) false)) rv wr (NumT_move (fun k hk hl => ⟨hk, HB.out.block k hl⟩) _ _ _ HHU.out.1) HE.out (MapW_move HH.out.1.1 (MapW_lt HH.out.1.1) (fun p hp => by have := HH.out.2.1 p hp; have := HH.out.2.2.2.2.2.2.1; omega) HB.out) (Nat.le_refl _) (fun k hk => by have := HH.out.2.2.2.2.2.2.1; omega) (MapW_lt HH.out.1.1) (fun p hp => by have := HH.out.2.1 p hp; have := HH.out.2.2.2.2.2.2.1; omega)
        (by have := HH.out; have := HHU.out; simp only [List.length_nil] at q3; omega) q4.1 (by have := HH.out; have := HHU.out; simp only [List.length_nil] at q4; omega) HHU.out.2.2.1 (by have := HHU.out; omega)).mono ?_
      clear q1 q2 q3 q4
      rintro ex W2 ⟨rv2, rfl, e2, f2⟩
      have hb2 := HB.out.trans (EmW_below HE.out f2 (Nat.le_refl _))
      rw [← putIs_app, ← HHU.out.2.2.2.2.1] at e2
      have HE2 := Aside0.mk e2
      have HB2 := Aside0.mk hb2
      clear e2 f2 hb2 hcj
      go_wp2_with fail
      go_roundw
      case measure => simp only [intOf]; omega
      case rel => exact ⟨j + 1, rv2, by omega, by rw [Int.natCast_add]; rfl, by rw [HHU.out.2.2.2.2.2.1], HE2, HB2⟩
    · obtain rfl : j = us.length := by omega
      have dl : decide ((us.length : Int) < (us.length : Int)) = false := decide_eq_false (by omega)
      rw [show ps.take us.length = ps from by rw [HH.out.2.2.2.2.2.2.2.1]; exact List.take_length] at HE ⊢
      have q1 := genB_le ps false
      have q3 := putIs_len (genB ps false) ([], 0)
      have q4 := putIs_cnt (genB ps false) ([], 0)
      have HQ := Aside0.mk (And.intro q1 (And.intro q3 q4))
      clear q1 q3 q4 hlt
      go_wp2_with fail
      refine (gen_call z HH.out.2.2.2.2.2.2.2.2 v0 (seenB ps false) f (fun k => k < B) es w.heap.size w.heap.size m (putIs ([], 0) (genB ps false)) rv wr (NumT_move (fun k hk hl => ⟨hk, HB.out.block k hl⟩) _ _ _ HZ.out) HE.out (MapW_move HH.out.1.1 (MapW_lt HH.out.1.1) (fun p hp => by have := HH.out.2.1 p hp; have := HH.out.2.2.2.2.2.2.1; omega) HB.out) (Nat.le_refl _) (fun k hk => by have := HH.out.2.2.2.2.2.2.1; omega) (MapW_lt HH.out.1.1) (fun p hp => by have := HH.out.2.1 p hp; have := HH.out.2.2.2.2.2.2.1; omega)
        (by have := HH.out; have := HQ.out; simp only [List.length_nil] at this; omega) HQ.out.2.2.1 (by have := HH.out; have := HQ.out; simp only [List.length_nil] at this; omega) HH.out.2.2.2.1 (by have := HH.out; omega)).mono ?_
      rintro ex W3 ⟨rv3, rfl, e3, f3⟩
      have hb3 := HB.out.trans (EmW_below HE.out f3 (Nat.le_refl _))
      rw [← putIs_app] at e3
      obtain ⟨⟨l, c⟩, hlc⟩ : ∃ b, putIs ([], 0) (genB ps false ++ genT z (seenB ps false) f) = b := ⟨_, rfl⟩
      have hblk : blockI (genB ps false ++ genT z (seenB ps false) f) = ⟨l, c⟩ := by unfold blockI; rw [hlc]
      rw [hlc] at e3
      obtain ⟨A3, c3, rfl⟩ := Kd.R_slice e3.2
      obtain ⟨Ao, co, rfl⟩ := Kd.S_slice HH.out.1.2.2.2.1
      have HROW : Aside0 (∀ k, Value.ownBlock (.slice Ao cs.length co) = some k → (k ≠ m ∧ k ≠ cm ∧ k ≠ o) ∧ k < w.heap.size ∧ B ≤ k) := ⟨fun k hk => by
        obtain ⟨inner, hown⟩ := Kd.S_own HH.out.1.2.2.2.1
        exact ⟨(Kd.S_R HH.out.1.2.2.2.1).1 k hk, (hown.lt k hk).2, (hown.lt k hk).1⟩⟩
      have HLT : Aside0 (m < w.heap.size ∧ cm < w.heap.size ∧ o < w.heap.size) := ⟨MapW_lt HH.out.1.1, lt_of_some HH.out.1.2.1, lt_of_some HH.out.1.2.2.1⟩
      have co0 : W3.cell? ⟨o, 0, none⟩ = some (.slice Ao cs.length co) := (blk_cell ((hb3.block o (lt_of_some HH.out.1.2.2.1)).trans HH.out.1.2.2.1) 0).trans rfl
      have ce0 : W3.cell? ⟨w.heap.size, 0, none⟩ = some (.slice A3 l.length c3) := (blk_cell e3.1 0).trans rfl
      have ce1 : W3.cell? ⟨w.heap.size, 1, none⟩ = some (.int .i64 c) := (blk_cell e3.1 1).trans rfl
      have HE3 := Aside0.mk e3
      have HB3 := Aside0.mk hb3
      have HBL := Aside0.mk hblk
      clear e3 f3 hb3 hlc hblk
      go_wp2_with (at_builtin; refine Kd.S_append k37 (w0 := w) B rfl (.tmp 31) (.tmp 34) 34 37 (.agg #[(.slice none 0 0), (.int .i64 0)]) 32 rfl Try.underlying34 info37 rfl (by decide) (by omega) (.slice Ao cs.length co) cs ⟨l, c⟩ [.slice A3 l.length c3, .int .i64 c] (fun k => k ≠ m ∧ k ≠ cm ∧ k ≠ o) (fun k => w.heap.size ≤ k) rfl rfl (k37_mkM _ _ _ ⟨l, c⟩ (Kd.R_lower (Kd.R_mono (Kd.R_bound HE3.out.2) (fun k hk => hk.2.1)) HH.out.2.2.2.2.2.2.1)) ?aQ ?aF (Kd.S_below (Kd.S_mono (Kd.S_bound HH.out.1.2.2.2.1) (fun k hk => ⟨hk.1, by have := hk.2.2.1; omega⟩)) HB3.out) (HB3.out.mono HH.out.2.2.2.2.2.2.1) (Nat.le_trans HH.out.2.2.2.2.2.2.1 HB3.out.size) (by have := HH.out; omega) ?_; (case aQ => exact fun k hk => ⟨by have := HLT.out; omega, fun e => by have := (HROW.out k e.symm).2.1; omega⟩); (case aF => exact fun k hk => by have := HLT.out; have := HB3.out.size; omega); intro v1 w1 ho hb hg hat; obtain ⟨A4, m4, c4, rfl⟩ : ∃ A m c, v1 = .slice A m c := (by obtain ⟨A, c, h⟩ := Kd.S_slice ho; exact ⟨_, _, _, h⟩); have HG := Aside0.mk (And.intro ho (And.intro hb (And.intro hg hat))); have hob := (hg.block o (by have := HLT.out; have := HB3.out.size; omega) (fun e => (HROW.out o e.symm).1.2.2 rfl)).trans ((HB3.out.block o HLT.out.2.2).trans HH.out.1.2.2.1); have HOB := Aside0.mk hob; have q0 : w1.cell? ⟨o, 0, none⟩ = some (.slice Ao cs.length co) := (blk_cell hob 0).trans rfl; have fq := blk_frozen hob 0; clear ho hb hg hat hob)
      refine bodyPost_end (results_none rfl _ _ _) rfl ?_
      have hfr : ∀ k, k < w.heap.size → k ≠ o → Value.ownBlock (.slice Ao cs.length co) ≠ some k → (w1.setCell ⟨o, 0, none⟩ (.slice A4 m4 c4)).heap[k]? = w.heap[k]? := fun k hk he hr =>
        (Below.heap_setCell w1 ⟨o, 0, none⟩ _ k he).trans ((HG.out.2.2.1.block k (by have := HB3.out.size; omega) (fun e1 => hr e1.symm)).trans (HB3.out.block k hk))
      have hS := HH.out.1
      have hlt := HLT.out
      have hnot : ∀ k, k = m ∨ k = cm ∨ k < B → Value.ownBlock (.slice Ao cs.length co) ≠ some k := fun k hk e1 => by have := HROW.out k e1; omega
      have hBB := HH.out.2.2.2.2.2.2.1
      refine ⟨.slice A4 m4 c4, rfl, ⟨MapW_eq hS.1 (hfr m hlt.1 hS.2.2.2.2.2.2.2.2.1 (hnot m (.inl rfl))) (fun p hp => ?_), (hfr cm hlt.2.1 hS.2.2.2.2.2.2.2.2.2 (hnot cm (.inr (.inl rfl)))).trans hS.2.1, blk_put HOB.out 0 _ rfl, ?_, hS.2.2.2.2⟩, ⟨?_, fun k hk _ he hr => hfr k hk he hr, fun k hk => ?_⟩⟩
      · have h1 := HH.out.2.1 p hp
        exact hfr p.1 (by omega) (by have := hS.2.2.2.2.2.2.1; omega) (hnot p.1 (.inr (.inr h1)))
      · rw [HBL.out]
        exact Kd.S_far (p := ⟨o, 0, none⟩) HG.out.1 (fun k hk => hk.2.2) _
      · exact ((HB3.out.mono (Nat.zero_le _)).trans ⟨HG.out.2.2.1.os, HG.out.2.2.1.tape, HG.out.2.2.1.output, HG.out.2.2.1.size, fun k hk => absurd hk (Nat.not_lt_zero k)⟩).setCell (Nat.zero_le _) _
      · rcases HG.out.2.2.2 with e1 | ⟨b, e1, h1⟩
        · exact .inl (e1 ▸ hk)
        · rw [e1] at hk; cases hk; exact .inr (by have := HB3.out.size; omega)
end Go.Proofs.Ytpfehkkfakofaaa.Q

namespace Go.Proofs.Ytpfehkkfakofaaa.Q
open Go.RowKit Go.Proofs.YtpfehkkfakofaaaW.PrintWords Go.Proofs.YtpfehkkfakofaaaW.PrintLast Go.Proofs.YtpfehkkfakofaaaW.PrintMore
set_option linter.unusedVariables false
set_option linter.unusedSimpArgs false
theorem condT_len : ∀ (N : Nat) (t : Tr), (flatT t).length ≤ N → wfT t → ∀ (b : List S92) (s : Bool) (f : Int), ((condT t b s f).length : Int) = ifsT t
  | 0, t, hl, hw => absurd (List.eq_nil_of_length_eq_zero (by omega)) (flatT_ne t)
  | N + 1, .node n ks, hl, hw => by
    intro b s f
    rcases wf_ar hw with ⟨rfl, g1, g2, g3⟩ | ⟨p, q, rfl, wp, wq, h⟩ | ⟨z, p, q, rfl, wz, wp, wq, h⟩
    · simp [condT, condTs, condN, ifsT, ifsTs, g3]
    · simp only [flatT, flatTs, List.length_append, List.length_cons, List.length_nil] at hl
      have hp := condT_len N p (by omega) wp
      have hq := condT_len N q (by omega) wq
      simp only [condT, condTs, condN, ifsT, ifsTs, if_neg (show ¬ n.f0 = 16 by omega)]
      split
      · rw [List.length_append]; push_cast; rw [hp, hq]; omega
      · rw [List.length_append]; push_cast; rw [hp, hq]; omega
    · simp only [flatT, flatTs, List.length_append, List.length_cons, List.length_nil] at hl
      have hz := condT_len N z (by omega) wz
      have hp := condT_len N p (by omega) wp
      have hq := condT_len N q (by omega) wq
      simp only [condT, condTs, condN, ifsT, ifsTs, if_pos h]
      rw [List.length_append, List.length_append, List.length_append, List.length_singleton]; push_cast; rw [hz, hp, hq]; omega
theorem NuF.below {w w' : World} {m o B : Nat} {ov ov' : Value} (h : NuF w w' m o ov ov') (hm : B ≤ m) (ho : B ≤ o) (hr : ∀ k, ov.ownBlock = some k → B ≤ k) (hs : B ≤ w.heap.size) : Below B w w' :=
  ⟨h.1.os, h.1.tape, h.1.output, h.1.size, fun k hk => h.2.1 k (by omega) (by omega) (by omega) (fun e1 => by have := hr k e1; omega)⟩
theorem NuS_below {w w' : World} {B m cm o : Nat} {es : List (Nat × Int)} {cs : List S37} {ov ov' : Value} (h : NuS w B m cm o es cs ov) (hF : NuF w w' m o ov ov') : Below B w w' :=
  hF.below h.2.2.2.2.1 h.2.2.2.2.2.2.1 (Kd.S_base h.2.2.2.1) (by have := lt_of_some h.2.2.1; have := h.2.2.2.2.2.2.1; omega)
theorem len_run (w : World) (m : Nat) (es : List (Nat × Int)) (hm : MapW w m es) : (Builtin.len_ #[55] 3 #[.map (some m)]).run Try.prog w = .ok (.int .i64 es.length) w := by
  obtain ⟨L, clock, hb, he, hc⟩ := hm
  have hl : L.length = es.length := by have := congrArg List.length he; simpa using this
  simp [Builtin.len_, run_underlying upm, MapKept.run_getObj_map hb, Result.andThen, hl, goInt]
/-- The row of what stands ahead: it is read alone. -/
def BefW (w : World) (m cm o : Nat) (ov bv : Value) (us : List Value) : Prop :=
  w.ownsRow 0 47 1 bv us.length us ∧ ∀ k, bv.ownBlock = some k → k ≠ m ∧ k ≠ cm ∧ k ≠ o ∧ ov.ownBlock ≠ some k
theorem BefW.step {w w' : World} {m cm o : Nat} {ov ov' bv : Value} {us : List Value} (h : BefW w m cm o ov bv us) (f : NuF w w' m o ov ov') : BefW w' m cm o ov' bv us := by
  refine ⟨own_move h.1 (fun k hk => ?_), fun k hk => ?_⟩
  · have h1 := h.2 k hk
    exact f.2.1 k (h.1.lt k hk).2 h1.1 h1.2.2.1 h1.2.2.2
  · have h1 := h.2 k hk
    have h2 := (h.1.lt k hk).2
    refine ⟨h1.1, h1.2.1, h1.2.2.1, fun e => ?_⟩
    rcases f.2.2 k e with h3 | h3
    · exact h1.2.2.2 h3
    · omega
def foundV (cm o : Nat) : Value := .func (.func 31) #[] #[.pointer (some ⟨cm, 0, none⟩), .pointer (some ⟨o, 0, none⟩)]
/-- What number does, for one tree. -/
def NumP (t : Tr) : Prop := ∀ (v : Value) (lo hi : Nat) (bs : List (Tr × Int)) (us : List Value) (bv : Value) (es : List (Nat × Int)) (cs : List S37) (ov : Value) (B m cm o : Nat) (w : World),
    OrdT w (fun k => k < B) lo hi t v → (∀ p ∈ es, p.1 < B ∧ (p.1 < lo ∨ hi ≤ p.1)) → NumB w (fun k => k < B) es bs us → BefW w m cm o ov bv us → NuS w B m cm o es cs ov →
    lenB bs + (flatT t).length ≤ 1000 → es.length + (flatT t).length ≤ 1000 → cs.length + (flatT t).length ≤ 1000 →
    Calls Try.prog 30 #[v, bv, .map (some m), foundV cm o] w fun ex w' => ∃ fs ov', ex = .returned (.tuple #[]) ∧ (fs.length : Int) = ifsT t ∧ (∀ p ∈ fs, p.1 < B ∧ lo ≤ p.1 ∧ p.1 < hi) ∧ NumT w' (fun k => k < B) (es ++ fs) t v es.length ∧
      NuS w' B m cm o (es ++ fs) (cs ++ condT t (genB bs false) (seenB bs false) es.length) ov' ∧ NuF w w' m o ov ov'
theorem kidsO0 {w : World} {B lo hi : Nat} {n : S63} {v : Value} (hT : OrdT w (fun k => k < B) lo hi (.node n []) v) :
    ∃ a, v = .pointer (some ⟨a, 0, none⟩) ∧ (∀ W [K0 (Below B w W)], W.cell? ⟨a, 0, none⟩ = some (.int .i64 n.f0)) ∧ (n.f0 ≠ 16 → ∀ es first, NumT w (fun k => k < B) es (.node n []) v first) := by
  unfold OrdT at hT
  obtain ⟨a, u, vs, rfl, h1, h2, h3, h4, h5, h6⟩ := hT
  unfold OrdTs at h6
  obtain ⟨rfl, h6⟩ := h6
  refine ⟨a, rfl, clkB (node_c0 h3) h2, fun h16 es first => ?_⟩
  unfold NumT
  exact ⟨a, u, [], rfl, h2, h3, h4, h5, fun e => absurd e h16, by unfold NumTs; rfl⟩
theorem kidsO2 {w : World} {B lo hi : Nat} {n : S63} {p q : Tr} {v : Value} (hT : OrdT w (fun k => k < B) lo hi (.node n [p, q]) v) (h16 : n.f0 ≠ 16) :
    ∃ a g cap v1 v2 mid m2, v = .pointer (some ⟨a, 0, none⟩) ∧ (∀ W [K0 (Below B w W)], W.cell? ⟨a, 0, none⟩ = some (.int .i64 n.f0)) ∧ (∀ W [K0 (Below B w W)], W.cell? ⟨a, 7, none⟩ = some (.slice (some ⟨g, 0, none⟩) 2 cap)) ∧
      (∀ W [K0 (Below B w W)], W.cell? ⟨g, 0, none⟩ = some v1) ∧ (∀ W [K0 (Below B w W)], W.cell? ⟨g, 1, none⟩ = some v2) ∧ OrdT w (fun k => k < B) lo mid p v1 ∧ (∀ W, Below B w W → OrdT W (fun k => k < B) mid m2 q v2) ∧ lo < mid ∧ mid < m2 ∧ m2 ≤ a ∧ a < hi ∧
      (∀ W es first, Below B w W → NumT W (fun k => k < B) es p v1 first → NumT W (fun k => k < B) es q v2 (first + ifsT p) → NumT W (fun k => k < B) es (.node n [p, q]) v first) := by
  unfold OrdT at hT
  obtain ⟨a, u, vs, rfl, h1, h2, h3, h4, h5, h6⟩ := hT
  simp only [OrdTs] at h6
  obtain ⟨mid, v1, us, rfl, n1, m2, v2, us2, rfl, n2, rfl, h7⟩ := h6
  obtain ⟨g, cap, rfl, hg, hc⟩ := row_at h4 (by simp)
  have hgB := h5 g rfl
  refine ⟨a, g, cap, v1, v2, mid, m2, rfl, clkB (node_c0 h3) h2, clkB (node_c7 h3) h2, clkB (hc 0 v1 rfl) hgB, clkB (hc 1 v2 rfl) hgB, n1, fun W hW => OrdT_move (fun k hk _ => ⟨hk, hW.block k hk⟩) _ _ _ _ n2, OrdT_le _ _ _ _ n1, OrdT_le _ _ _ _ n2, h7, h1, fun W es first hW a1 a2 => ?_⟩
  unfold NumT
  refine ⟨a, _, [v1, v2], rfl, h2, (hW.block a h2).trans h3, own_move h4 (fun k hk => hW.block k (h5 k hk)), h5, fun e => absurd e h16, ?_⟩
  simp only [NumTs, if_neg h16]
  exact ⟨v1, [v2], rfl, a1, v2, [], rfl, by rw [Int.add_zero]; exact a2, rfl⟩
theorem kidsO3 {w : World} {B lo hi : Nat} {n : S63} {z p q : Tr} {v : Value} (hT : OrdT w (fun k => k < B) lo hi (.node n [z, p, q]) v) (h16 : n.f0 = 16) :
    ∃ a g cap v0 v1 v2 m1 m2 m3, v = .pointer (some ⟨a, 0, none⟩) ∧ a < B ∧ CellB w a ∧ (∀ W [K0 (Below B w W)], W.cell? ⟨a, 0, none⟩ = some (.int .i64 n.f0)) ∧ (∀ W [K0 (Below B w W)], W.cell? ⟨a, 7, none⟩ = some (.slice (some ⟨g, 0, none⟩) 3 cap)) ∧
      (∀ W [K0 (Below B w W)], W.cell? ⟨g, 0, none⟩ = some v0) ∧ (∀ W [K0 (Below B w W)], W.cell? ⟨g, 1, none⟩ = some v1) ∧ (∀ W [K0 (Below B w W)], W.cell? ⟨g, 2, none⟩ = some v2) ∧ OrdT w (fun k => k < B) lo m1 z v0 ∧ (∀ W, Below B w W → OrdT W (fun k => k < B) m1 m2 p v1) ∧ (∀ W, Below B w W → OrdT W (fun k => k < B) m2 m3 q v2) ∧ lo < m1 ∧ m1 < m2 ∧ m2 < m3 ∧ m3 ≤ a ∧ a < hi ∧
      (∀ W es first, Below B w W → (∃ i, findE a es 0 = some (i, .int .i64 (first + ifsT z))) → NumT W (fun k => k < B) es z v0 first → NumT W (fun k => k < B) es p v1 (first + ifsT z + 1) → NumT W (fun k => k < B) es q v2 (first + ifsT z + 1 + ifsT p) → NumT W (fun k => k < B) es (.node n [z, p, q]) v first) := by
  unfold OrdT at hT
  obtain ⟨a, u, vs, rfl, h1, h2, h3, h4, h5, h6⟩ := hT
  simp only [OrdTs] at h6
  obtain ⟨m1, v0, us0, rfl, n0, m2, v1, us, rfl, n1, m3, v2, us2, rfl, n2, rfl, h7⟩ := h6
  obtain ⟨g, cap, rfl, hg, hc⟩ := row_at h4 (by simp)
  have hgB := h5 g rfl
  refine ⟨a, g, cap, v0, v1, v2, m1, m2, m3, rfl, h2, ⟨_, _, h3⟩, clkB (node_c0 h3) h2, clkB (node_c7 h3) h2, clkB (hc 0 v0 rfl) hgB, clkB (hc 1 v1 rfl) hgB, clkB (hc 2 v2 rfl) hgB, n0, fun W hW => OrdT_move (fun k hk _ => ⟨hk, hW.block k hk⟩) _ _ _ _ n1, fun W hW => OrdT_move (fun k hk _ => ⟨hk, hW.block k hk⟩) _ _ _ _ n2, OrdT_le _ _ _ _ n0, OrdT_le _ _ _ _ n1, OrdT_le _ _ _ _ n2, h7, h1, fun W es first hW hi a0 a1 a2 => ?_⟩
  unfold NumT
  refine ⟨a, _, [v0, v1, v2], rfl, h2, (hW.block a h2).trans h3, own_move h4 (fun k hk => hW.block k (h5 k hk)), h5, fun _ => ?_, ?_⟩
  · obtain ⟨i, hi⟩ := hi
    exact ⟨i, by rw [hi]; simp [ifsTs]⟩
  simp only [NumTs, if_pos h16]
  exact ⟨v0, [v1, v2], rfl, a0, v1, [v2], rfl, a1, v2, [], rfl, by rw [Int.add_zero]; exact a2, rfl⟩
set_option maxHeartbeats 4000000 in
set_option maxRecDepth 100000 in
theorem num_leaf (n : S63) (g1 : n.f0 ≠ 14) (g2 : n.f0 ≠ 15) (g3 : n.f0 ≠ 16) : NumP (.node n []) := by
  intro v lo hi bs us bv es cs ov B m cm o w hT hes hbs hbef hS hl1 hl2 hl3
  obtain ⟨a, rfl, c0, hN⟩ := kidsO0 hT
  have kr : K0 (Below B w w) := ⟨Below.refl _ _⟩
  have HN := Aside0.mk (hN g3)
  have HS := Aside0.mk hS
  clear hT hes hbs hbef hS hl1 hl2 hl3 hN
  go_enter Try.func30, Try.ntmps30
  go_wp2_with fail
  refine bodyPost_end (results_none rfl _ _ _) rfl ?_
  refine ⟨[], ov, rfl, by simp [ifsT, ifsTs, g3], by simp, by rw [List.append_nil]; exact HN.out _ _, ?_, Below.refl _ _, fun _ _ _ _ _ => rfl, fun k hk => .inl hk⟩
  rw [List.append_nil]
  simp only [condT, condTs, condN, List.append_nil]
  exact HS.out
end Go.Proofs.Ytpfehkkfakofaaa.Q

namespace Go.Proofs.Ytpfehkkfakofaaa.Q
open Go.RowKit Go.Proofs.YtpfehkkfakofaaaW.PrintWords Go.Proofs.YtpfehkkfakofaaaW.PrintLast Go.Proofs.YtpfehkkfakofaaaW.PrintMore
set_option linter.unusedVariables false
set_option linter.unusedSimpArgs false
set_option maxHeartbeats 4000000 in
set_option maxRecDepth 100000 in
theorem num_inter (n : S63) (p q : Tr) (h15 : n.f0 = 15) (wp : wfT p) (wq : wfT q) (hp : NumP p) (hq : NumP q) : NumP (.node n [p, q]) := by
  intro v lo hi bs us bv es cs ov B m cm o w hT hes hbs hbef hS hl1 hl2 hl3
  obtain ⟨a, g, cap, v1, v2, mid, m2, rfl, c0, c7, d0, d1, o1, o2, x1, x2, x3, x4, hN⟩ := kidsO2 hT (by omega)
  have kr : K0 (Below B w w) := ⟨Below.refl _ _⟩
  rw [h15] at c0
  simp only [flatT, flatTs, List.length_append, List.length_cons, List.length_nil] at hl1 hl2 hl3
  have HP := Aside0.mk hp
  have HQ := Aside0.mk hq
  have HO := Aside0.mk (And.intro o1 (And.intro o2 hN))
  have HX := Aside0.mk (And.intro x1 (And.intro x2 (And.intro x3 x4)))
  have HA := Aside0.mk (And.intro hes (And.intro hbs (And.intro hbef (And.intro hS (And.intro hl1 (And.intro hl2 hl3))))))
  clear hT hes hbs hbef hS hl1 hl2 hl3 hN o1 o2 x1 x2 x3 x4 hp hq
  unfold foundV
  go_enter Try.func30, Try.ntmps30
  go_wp2_with fail
  obtain ⟨hes, hbs, hbef, hS, hl1, hl2, hl3⟩ := HA.out
  refine (HP.out v1 lo mid bs us bv es cs ov B m cm o w HO.out.1 (fun x hx => ⟨(hes x hx).1, by have := (hes x hx).2; have := HX.out; omega⟩) hbs hbef hS (by omega) (by omega) (by omega)).mono ?_
  rintro ex W1 ⟨fs1, ov1, rfl, l1, k1, n1, s1, f1⟩
  have hb1 := NuS_below hS f1
  have kk1 : K0 (Below B w W1) := ⟨hb1⟩
  have E1 := Aside0.mk (And.intro l1 (And.intro k1 (And.intro n1 (And.intro s1 f1))))
  clear l1 k1 n1 s1 f1 hb1 hes hbs hbef hS hl1 hl2 hl3
  go_wp2_with fail
  obtain ⟨hes, hbs, hbef, hS, hl1, hl2, hl3⟩ := HA.out
  obtain ⟨l1, k1, n1, s1, f1⟩ := E1.out
  have ip := ifsT_le p
  have iq := ifsT_le q
  have cl := condT_len _ p (Nat.le_refl _) wp (genB bs false) (seenB bs false) es.length
  have hel : (((es ++ fs1).length : Nat) : Int) = es.length + ifsT p := by rw [List.length_append]; push_cast; omega
  refine (HQ.out v2 mid m2 bs us bv (es ++ fs1) (cs ++ condT p (genB bs false) (seenB bs false) es.length) ov1 B m cm o W1 (HO.out.2.1 W1 kk1.out) (fun x hx => ?_) (NumB_move (fun k hk _ => ⟨hk, kk1.out.block k hk⟩) _ _ (NumB_more fs1 _ _ hbs)) (hbef.step f1) s1 (by omega) (by omega) (by rw [List.length_append]; omega)).mono ?_
  · have := HX.out
    rcases List.mem_append.mp hx with h | h
    · exact ⟨(hes x h).1, by have := (hes x h).2; omega⟩
    · have := k1 x h; omega
  rintro ex W2 ⟨fs2, ov2, rfl, l2, k2, n2, s2, f2⟩
  have hb2 := NuS_below s1 f2
  rw [hel] at n2 s2
  have post : ∃ fs ov', Ending.returned (Value.tuple #[]) = .returned (.tuple #[]) ∧ (fs.length : Int) = ifsT (.node n [p, q]) ∧ (∀ p ∈ fs, p.1 < B ∧ lo ≤ p.1 ∧ p.1 < hi) ∧ NumT W2 (fun k => k < B) (es ++ fs) (.node n [p, q]) (.pointer (some ⟨a, 0, none⟩)) es.length ∧
      NuS W2 B m cm o (es ++ fs) (cs ++ condT (.node n [p, q]) (genB bs false) (seenB bs false) es.length) ov' ∧ NuF w W2 m o ov ov' := by
    refine ⟨fs1 ++ fs2, ov2, rfl, ?_, fun x hx => ?_, ?_, ?_, f1.trans f2⟩
    · rw [List.length_append]; simp only [ifsT, ifsTs, if_neg (show ¬ n.f0 = 16 by omega)]; push_cast; omega
    · have := HX.out
      rcases List.mem_append.mp hx with h | h
      · have := k1 x h; omega
      · have := k2 x h; omega
    · rw [← List.append_assoc]
      exact HO.out.2.2 W2 _ _ (kk1.out.trans hb2) (NumT_more fs2 _ _ _ (NumT_move (fun k hk _ => ⟨hk, hb2.block k hk⟩) _ _ _ n1)) n2
    · rw [← List.append_assoc]
      simp only [condT, condTs, condN, if_neg (show ¬ n.f0 = 14 by omega), ← List.append_assoc]
      exact s2
  have HPo := Aside0.mk post
  clear post l1 k1 n1 s1 f1 l2 k2 n2 s2 f2 hes hbs hbef hS hl1 hl2 hl3 ip iq cl hel hb2
  go_wp2_with fail
  refine bodyPost_end (results_none rfl _ _ _) rfl ?_
  obtain ⟨fs, ov3, h⟩ := HPo.out
  exact ⟨fs, ov3, rfl, h.2⟩
end Go.Proofs.Ytpfehkkfakofaaa.Q

namespace Go.Proofs.Ytpfehkkfakofaaa.Q
open Go.RowKit Go.Proofs.YtpfehkkfakofaaaW.PrintWords Go.Proofs.YtpfehkkfakofaaaW.PrintLast Go.Proofs.YtpfehkkfakofaaaW.PrintMore
set_option linter.unusedVariables false
set_option linter.unusedSimpArgs false
section
variable {P : Program} {w : World}
/-- append of one to a row that is cut to its length: a new row. -/
theorem append_cap (t ty e : TypeId) (i : TypeInfo) (z : Value) (bytes : Nat) (ht : P.underlying t = some (.slice e)) (hi : P.info? e = some i) (hz : i.zero = some z) (hsize : i.size = 1) (hby : i.bytes = bytes) (hzs : z.cells.size = 1)
    (A : Option Addr) (n c : Nat) (us : List Value) (hown : w.ownsRow 0 e 1 (.slice A n c) n us) (ad : Addr) (u : Value) (hu : w.cell? ad = some u) (h1 : u.oneCell' = true) (hn : n ≤ 1000000) (hbytes : bytes ≤ 1000) :
    ∃ v' w', (Builtin.append_ #[t, t] ty #[.slice A n n, .slice (some ad) 1 1]).run P w = .ok v' w' ∧ w'.ownsRow w.heap.size e 1 v' (n + 1) (us ++ [u]) ∧ w.grownBy w' none := by
  have hnews : ∀ j x, ([u] : List Value)[j]? = some x → w.cell? (ad.add j) = some x := by
    intro j x hj
    rcases j with _ | j
    · cases hj; exact hu
    · simp at hj
  have h63 : n + 1 ≤ maxLen := by simp only [maxLen]; omega
  have hbb : (n + 1) * bytes ≤ 140737488355328 := Nat.le_trans (Nat.mul_le_mul (show n + 1 ≤ 1000001 by omega) hbytes) (by decide)
  rcases hown.2 with ⟨he, h0⟩ | ⟨g, cap, cur, he, hbg, hg, r⟩
  · cases he
    obtain rfl : us = [] := List.eq_nil_of_length_eq_zero (by simpa using hown.1)
    obtain ⟨v', w', hr, h2, h3, -⟩ := run_append_own (P := P) w w.heap.size t ty e i z 1 bytes ht hi hz hsize hby hzs (by decide) (.slice none 0 0) 0 [] (World.ownsRow_nil w _ e 1) ad 1 1 [u] rfl hnews (by simpa using h1) h63 hbb (Nat.le_refl _)
    exact ⟨v', w', hr, h2, h3⟩
  · cases he
    have holds : ∀ j x, us[j]? = some x → w.cell? ((⟨g, 0, none⟩ : Addr).add j) = some x := hown.cells (g := g) rfl
    exact run_append_arg_grows (P := P) w t ty e i z 1 bytes ht hi hz hsize hby hzs (by decide) ⟨g, 0, none⟩ n n us hown.1 holds ad 1 1 [u] rfl hnews (by omega) h63 hbb
variable {ops : Array Oper} {o : Oper} {a : Act} {Q : Exit → Act → World → Prop}
theorem wp_append_cap {K : Act → World → Prop} (s x : Operand) (t : TypeId) (ho : o.op = .call { callee := .builtin .append, args := #[s, x], argTypes := #[t, t] })
    (e : TypeId) (i : TypeInfo) (z : Value) (bytes : Nat) (ht : P.underlying t = some (.slice e)) (hi : P.info? e = some i) (hz : i.zero = some z) (hsize : i.size = 1) (hby : i.bytes = bytes) (hzs : z.cells.size = 1)
    (A : Option Addr) (n c : Nat) (us : List Value) (hs : a.eval s = .slice A n n) (hown : w.ownsRow 0 e 1 (.slice A n c) n us) (ad : Addr) (u : Value) (hx : a.eval x = .slice (some ad) 1 1) (hu : w.cell? ad = some u) (h1 : u.oneCell' = true) (hn : n ≤ 1000000) (hbytes : bytes ≤ 1000)
    (h : ∀ v' w', w'.ownsRow w.heap.size e 1 v' (n + 1) (us ++ [u]) → w.grownBy w' none → K (a.put o.dst v') w') : o.wp P a w K Q := by
  obtain ⟨v', w', hr, h2, h3⟩ := append_cap (P := P) (w := w) t o.type e i z bytes ht hi hz hsize hby hzs A n c us hown ad u hu h1 hn hbytes
  unfold Oper.wp
  simp [execOp, ho, resolve, invoke, builtin, hs, hx, hr, Result.andThen]
  exact h v' w' h2 h3
end
set_option maxHeartbeats 4000000 in
set_option maxRecDepth 100000 in
theorem num_chain (n : S63) (p q : Tr) (h14 : n.f0 = 14) (wp : wfT p) (wq : wfT q) (hp : NumP p) (hq : NumP q) : NumP (.node n [p, q]) := by
  intro v lo hi bs us bv es cs ov B m cm o w hT hes hbs hbef hS hl1 hl2 hl3
  obtain ⟨a, g, cap, v1, v2, mid, m2, rfl, c0, c7, d0, d1, o1, o2, x1, x2, x3, x4, hN⟩ := kidsO2 hT (by omega)
  have kr : K0 (Below B w w) := ⟨Below.refl _ _⟩
  rw [h14] at c0
  simp only [flatT, flatTs, List.length_append, List.length_cons, List.length_nil] at hl1 hl2 hl3
  obtain ⟨Ab, cb, rfl⟩ : ∃ Ab cb, bv = .slice Ab us.length cb := by
    rcases hbef.1.2 with ⟨rfl, h0⟩ | ⟨gb, cap', cur, rfl, _⟩
    · exact ⟨none, 0, by rw [h0]⟩
    · exact ⟨_, _, rfl⟩
  have hcb : us.length ≤ cb := by
    rcases hbef.1.2 with ⟨he, h0⟩ | ⟨gb, cap', cur, he, h1, h2, h3, _⟩
    · injection he with _ _ h3; omega
    · cases he; exact h3
  have hul := NumB_len bs us hbs
  have hll := lenB_ge bs
  obtain ⟨a1, rfl⟩ : ∃ a1, v1 = .pointer (some ⟨a1, 0, none⟩) := by
    cases p
    unfold OrdT at o1
    obtain ⟨a, u, vs, h1, _⟩ := o1
    exact ⟨a, h1⟩
  obtain ⟨i0, hi, hz0, hz1, hz2⟩ := info_parts (show (Try.prog.info? 47).map (fun i => (i.zero, i.size, i.bytes)) = some (some (.pointer none), 1, 8) from by kernel_rfl)
  have HI := Aside0.mk (And.intro hi (And.intro hz0 (And.intro hz1 hz2)))
  have HP := Aside0.mk hp
  have HQ := Aside0.mk hq
  have HO := Aside0.mk (And.intro o1 (And.intro o2 hN))
  have HX := Aside0.mk (And.intro x1 (And.intro x2 (And.intro x3 x4)))
  have HU := Aside0.mk (And.intro hul hll)
  have HA := Aside0.mk (And.intro hes (And.intro hbs (And.intro hbef (And.intro hS (And.intro hl1 (And.intro hl2 hl3))))))
  clear hT hes hbs hbef hS hl1 hl2 hl3 hN o1 o2 x1 x2 x3 x4 hp hq hul hll hi hz0 hz1 hz2
  unfold foundV
  go_enter Try.func30, Try.ntmps30
  go_wp2_with fail
  obtain ⟨hes, hbs, hbef, hS, hl1, hl2, hl3⟩ := HA.out
  refine (HP.out (.pointer (some ⟨a1, 0, none⟩)) lo mid bs us _ es cs ov B m cm o w HO.out.1 (fun x hx => ⟨(hes x hx).1, by have := (hes x hx).2; have := HX.out; omega⟩) hbs hbef hS (by omega) (by omega) (by omega)).mono ?_
  rintro ex W1 ⟨fs1, ov1, rfl, l1, k1, n1, s1, f1⟩
  have hb1 := NuS_below hS f1
  have kk1 : K0 (Below B w W1) := ⟨hb1⟩
  have kd : K0 (Below B w W1.drew) := ⟨below_drew1 hb1⟩
  have E1 := Aside0.mk (And.intro l1 (And.intro k1 (And.intro n1 (And.intro s1 f1))))
  clear l1 k1 n1 s1 f1 hb1 hes hbs hbef hS hl1 hl2 hl3
  go_upto_region 3 with (fail)
  refine sq_region (S := fun W' => K0 (Below B w W')) [(0, false), (1, false), (2, false), (3, false), (4, false), (5, false), (6, false), (7, false), (8, false), (9, false), (10, false), (11, false), (12, false), (13, false), (14, false), (15, false), (16, false), (17, false), (20, false), (21, false), (18, true), (19, true), (22, true)] (by kernel_rfl) (by kernel_rfl) kd (fun hS => ?_)
  repeat (refine sq_n ?_ ?_ rfl ?_ ?_ ?_; rotate_left 2; (intro W hW; go_simp; first | done | with_reducible rfl); (simp only [List.setIfInBounds_toArray, List.set_cons_zero, List.set_cons_succ]; try rfl))
  have hsz1 : B ≤ W1.heap.size := by have h1 := E1.out.2.2.2.1; have := lt_of_some h1.2.2.1; have := h1.2.2.2.2.2.2.1; omega
  obtain ⟨wa, hwa⟩ : ∃ wa, wa = (W1.alloc (.cells #[.pointer (some ⟨a1, 0, none⟩)] 47)).drew := ⟨_, rfl⟩
  have ka : K0 (Below B w wa) := ⟨hwa ▸ below_drew1 (Below.alloc kk1.out hsz1 _)⟩
  have hba : Below W1.heap.size W1 wa := hwa ▸ below_drew1 (Below.alloc (Below.refl _ _) (Nat.le_refl _) _)
  have hca : wa.cell? ⟨W1.heap.size, 0, none⟩ = some (.pointer (some ⟨a1, 0, none⟩)) := by rw [hwa]; exact (blk_cell (blk_drew (heap_alloc_new W1 _)) 0).trans rfl
  have HB := Aside0.mk (And.intro hba hca)
  clear hba hca hsz1
  refine sq_1n rfl (fun hS K hK => ?_)
  go_wp2_with fail
  rw [← hwa]
  refine hK.out _ _ ka (fun hS => ?_)
  refine sq_1n rfl (fun hS K2 hK2 => ?_)
  obtain ⟨hes, hbs, hbef, hS0, hl1, hl2, hl3⟩ := HA.out
  refine wp_append_cap (.tmp 36) (.tmp 43) 57 rfl 47 i0 (.pointer none) 8 Try.underlying57 HI.out.1 HI.out.2.1 HI.out.2.2.1 HI.out.2.2.2 rfl Ab us.length cb us rfl (own_move (hbef.step E1.out.2.2.2.2).1 (fun k hk => HB.out.1.block k ((hbef.step E1.out.2.2.2.2).1.lt k hk).2)) ⟨W1.heap.size, 0, none⟩ (.pointer (some ⟨a1, 0, none⟩)) rfl HB.out.2 rfl (by have := HU.out; omega) (by decide) ?_
  intro v3 W2 hown hg
  have hb2 : Below W1.heap.size W1 W2 := HB.out.1.trans ⟨hg.os, hg.tape, hg.output, hg.size, fun k hk => hg.block k (by have := HB.out.1.size; omega) (by simp)⟩
  have k2 : K0 (Below B w W2) := ⟨kk1.out.trans (hb2.mono (by have h1 := E1.out.2.2.2.1; have := lt_of_some h1.2.2.1; have := h1.2.2.2.2.2.2.1; omega))⟩
  have H2 := Aside0.mk (And.intro hown hb2)
  clear hes hbs hbef hS0 hl1 hl2 hl3 hown hg hb2
  refine hK2.out _ _ k2 (fun hS => ?_)
  refine sq_1n rfl (fun hS K3 hK3 => ?_)
  go_simp
  go_at_call 30
  obtain ⟨hes, hbs, hbef, hS0, hl1, hl2, hl3⟩ := HA.out
  obtain ⟨l1, k1, n1, s1, f1⟩ := E1.out
  obtain ⟨hown, hb2⟩ := H2.out
  have hba := HB.out.1.size
  have ip := ifsT_le p
  have iq := ifsT_le q
  have cl := condT_len _ p (Nat.le_refl _) wp (genB bs false) (seenB bs false) es.length
  have hel : (((es ++ fs1).length : Nat) : Int) = es.length + ifsT p := by rw [List.length_append]; push_cast; omega
  have hrow : ∀ k, ov1.ownBlock = some k → k < W1.heap.size := fun k hk => by
    obtain ⟨inner, ho⟩ := Kd.S_own s1.2.2.2.1
    exact (ho.lt k hk).2
  have hlt := And.intro (MapW_lt s1.1) (And.intro (lt_of_some s1.2.1) (lt_of_some s1.2.2.1))
  have bef2 : BefW W2 m cm o ov1 v3 (us ++ [(.pointer (some ⟨a1, 0, none⟩))]) := by
    refine ⟨?_, fun k hk => ?_⟩
    · rw [List.length_append, List.length_singleton]; exact own_weaken hown (Nat.zero_le _)
    · have h1 := (hown.lt k hk).1
      exact ⟨by omega, by omega, by omega, fun e => by have := hrow k e; omega⟩
  have s12 : NuS W2 B m cm o (es ++ fs1) (cs ++ condT p (genB bs false) (seenB bs false) es.length) ov1 :=
    ⟨MapW_move s1.1 (MapW_lt s1.1) (fun x h => by have := (MapW_lt s1.1); have := s1.2.2.2.2.1; have : x.1 < B := (by rcases List.mem_append.mp h with h | h; exact (hes x h).1; exact (k1 x h).1); omega) hb2, (hb2.block cm hlt.2.1).trans s1.2.1, (hb2.block o hlt.2.2).trans s1.2.2.1, Kd.S_below s1.2.2.2.1 hb2, s1.2.2.2.2⟩
  have f12 : NuF W1 W2 m o ov1 ov1 := ⟨hb2.mono (Nat.zero_le _), fun k hk _ _ _ => hb2.block k hk, fun k hk => .inl hk⟩
  have nb2 : NumB W2 (fun k => k < B) (es ++ fs1) (bs ++ [(p, (es.length : Int))]) (us ++ [(.pointer (some ⟨a1, 0, none⟩))]) :=
    NumB_snoc _ _ _ _ _ (NumB_move (fun k hk _ => ⟨hk, k2.out.block k hk⟩) _ _ (NumB_more fs1 _ _ hbs)) (NumT_move (fun k hk _ => ⟨hk, (NuS_below s1 f12).block k hk⟩) _ _ _ n1) wp (by omega) (by omega)
  have gb : genB (bs ++ [(p, (es.length : Int))]) false = genB bs false ++ genT p (seenB bs false) es.length := by rw [genB_app]; simp [genB]
  have sb : seenB (bs ++ [(p, (es.length : Int))]) false = (seenB bs false || passT p) := by rw [seenB_app]; simp [seenB]
  have lb : lenB (bs ++ [(p, (es.length : Int))]) = lenB bs + (flatT p).length := by rw [lenB_app]; simp [lenB]
  have HQ2 := HQ.out v2 mid m2 (bs ++ [(p, (es.length : Int))]) (us ++ [(.pointer (some ⟨a1, 0, none⟩))]) v3 (es ++ fs1) (cs ++ condT p (genB bs false) (seenB bs false) es.length) ov1 B m cm o W2 (HO.out.2.1 W2 k2.out) (fun x h => by
    have := HX.out
    rcases List.mem_append.mp h with h | h
    · have := hes x h; omega
    · have := k1 x h; omega) nb2 bef2 s12 (by rw [lb]; omega) (by omega) (by rw [List.length_append]; omega)
  rw [gb, sb, hel] at HQ2
  refine HQ2.mono ?_
  clear HQ2
  rintro ex W3 ⟨fs2, ov2, rfl, l2, k2', n2, s2, f2⟩
  have hb3 := NuS_below s12 f2
  have k3 : K0 (Below B w W3) := ⟨k2.out.trans hb3⟩
  have post : (((fs1 ++ fs2).length : Nat) : Int) = ifsT (.node n [p, q]) ∧ (∀ p ∈ fs1 ++ fs2, p.1 < B ∧ lo ≤ p.1 ∧ p.1 < hi) ∧ NumT W3 (fun k => k < B) (es ++ (fs1 ++ fs2)) (.node n [p, q]) (.pointer (some ⟨a, 0, none⟩)) es.length ∧
      NuS W3 B m cm o (es ++ (fs1 ++ fs2)) (cs ++ condT (.node n [p, q]) (genB bs false) (seenB bs false) es.length) ov2 ∧ NuF w W3 m o ov ov2 := by
    refine ⟨?_, fun x hx => ?_, ?_, ?_, f1.trans (f12.trans f2)⟩
    · rw [List.length_append]; simp only [ifsT, ifsTs, if_neg (show ¬ n.f0 = 16 by omega)]; push_cast; omega
    · have := HX.out
      rcases List.mem_append.mp hx with h | h
      · have := k1 x h; omega
      · have := k2' x h; omega
    · rw [← List.append_assoc]
      exact HO.out.2.2 W3 _ _ k3.out (NumT_more fs2 _ _ _ (NumT_move (fun k hk _ => ⟨hk, ((NuS_below s1 f12).trans hb3).block k hk⟩) _ _ _ n1)) n2
    · rw [← List.append_assoc]
      simp only [condT, condTs, condN, if_pos h14]
      rw [← List.append_assoc]
      exact s2
  have HPo := Aside0.mk post
  clear post l1 k1 n1 s1 f1 l2 k2' n2 s2 f2 hes hbs hbef hS0 hl1 hl2 hl3 ip iq cl hel hb3 hba hown hb2 hrow hlt bef2 s12 f12 nb2 gb sb lb
  go_wp2_with fail
  refine hK3.out _ _ k3 (fun hS => ?_)
  refine sq_done (fun hS => ?_)
  go_wp2_with fail
  refine bodyPost_end (results_none rfl _ _ _) rfl ?_
  exact ⟨_, ov2, rfl, HPo.out⟩
end Go.Proofs.Ytpfehkkfakofaaa.Q

namespace Go.Proofs.Ytpfehkkfakofaaa.Q
open Go.RowKit Go.Proofs.YtpfehkkfakofaaaW.PrintWords Go.Proofs.YtpfehkkfakofaaaW.PrintLast Go.Proofs.YtpfehkkfakofaaaW.PrintMore
set_option linter.unusedVariables false
set_option linter.unusedSimpArgs false
set_option maxHeartbeats 4000000 in
set_option maxRecDepth 100000 in
theorem num_if (n : S63) (z p q : Tr) (h16 : n.f0 = 16) (wz : wfT z) (wp : wfT p) (wq : wfT q) (hz : NumP z) (hp : NumP p) (hq : NumP q) : NumP (.node n [z, p, q]) := by
  intro v lo hi bs us bv es cs ov B m cm o w hT hes hbs hbef hS hl1 hl2 hl3
  obtain ⟨a, g, cap, v0, v1, v2, m1, m2, m3, rfl, haB, hca, c0, c7, d0, d1, d2, o0, o1, o2, x1, x2, x3, x4, x5, hN⟩ := kidsO3 hT h16
  have kr : K0 (Below B w w) := ⟨Below.refl _ _⟩
  rw [h16] at c0
  simp only [flatT, flatTs, List.length_append, List.length_cons, List.length_nil] at hl1 hl2 hl3
  have HP := Aside0.mk hp
  have HQ := Aside0.mk hq
  have HZ := Aside0.mk hz
  have HO := Aside0.mk (And.intro o0 (And.intro o1 (And.intro o2 hN)))
  have HX := Aside0.mk (And.intro x1 (And.intro x2 (And.intro x3 (And.intro x4 (And.intro x5 haB)))))
  have HC := Aside0.mk hca
  have HA := Aside0.mk (And.intro hes (And.intro hbs (And.intro hbef (And.intro hS (And.intro hl1 (And.intro hl2 hl3))))))
  clear hT hes hbs hbef hS hl1 hl2 hl3 hN o0 o1 o2 x1 x2 x3 x4 x5 hp hq hz haB hca
  unfold foundV
  go_enter Try.func30, Try.ntmps30
  go_wp2_with fail
  obtain ⟨hes, hbs, hbef, hS, hl1, hl2, hl3⟩ := HA.out
  refine (HZ.out v0 lo m1 bs us bv es cs ov B m cm o w HO.out.1 (fun x hx => ⟨(hes x hx).1, by have := (hes x hx).2; have := HX.out; omega⟩) hbs hbef hS (by omega) (by omega) (by omega)).mono ?_
  rintro ex W1 ⟨fs1, ov1, rfl, l1, k1, n1, s1, f1⟩
  have hb1 := NuS_below hS f1
  have kk1 : K0 (Below B w W1) := ⟨hb1⟩
  have E1 := Aside0.mk (And.intro l1 (And.intro k1 (And.intro n1 (And.intro s1 f1))))
  clear l1 k1 n1 s1 f1 hb1 hes hbs hbef hS hl1 hl2 hl3
  have hlen := len_run W1 m (es ++ fs1) E1.out.2.2.2.1.1
  obtain ⟨hes, hbs, hbef, hS, hl1, hl2, hl3⟩ := HA.out
  have hcaW : CellB W1 a := by
    obtain ⟨cs', t', h⟩ := HC.out
    exact ⟨cs', t', (kk1.out.block a HX.out.2.2.2.2.2).trans h⟩
  have hna : ∀ x ∈ es ++ fs1, x.1 ≠ a := fun x hx e => by
    have h1 := HX.out
    rcases List.mem_append.mp hx with h | h
    · have h2 := hes x h
      rcases h2.2 with h3 | h3 <;> omega
    · have := E1.out.2.1 x h; omega
  obtain ⟨W2, hup, mw2, fr2, bl2, sz2⟩ := update_run W1 m a ((es.length : Int) + (fs1.length : Int)) (es ++ fs1) E1.out.2.2.2.1.1 hcaW hna (by have := E1.out.2.2.2.1.2.2.2.2.1; have := HX.out; omega)
  have F2 := Aside0.mk (And.intro mw2 (And.intro fr2 (And.intro bl2 sz2)))
  clear mw2 fr2 bl2 sz2 hcaW hna hes hbs hbef hS hl1 hl2 hl3
  go_wp2_with fail
  obtain ⟨hes, hbs, hbef, hS, hl1, hl2, hl3⟩ := HA.out
  obtain ⟨l1, k1, n1, s1, f1⟩ := E1.out
  obtain ⟨mw2, fr2, bl2, sz2⟩ := F2.out
  have hx := HX.out
  have ip := ifsT_le p
  have iq := ifsT_le q
  have iz := ifsT_le z
  have clz := condT_len _ z (Nat.le_refl _) wz (genB bs false) (seenB bs false) es.length
  have f2 : NuF W1 W2 m o ov1 ov1 := ⟨bl2, fun k _ hk _ _ => fr2 k hk, fun k hk => .inl hk⟩
  have s2 : NuS W2 B m cm o (es ++ fs1 ++ [(a, ((es.length : Int) + (fs1.length : Int)))]) (cs ++ condT z (genB bs false) (seenB bs false) es.length) ov1 := ⟨mw2, (fr2 cm (fun e => s1.2.2.2.2.2.2.2.1 e.symm)).trans s1.2.1, (fr2 o (fun e => s1.2.2.2.2.2.2.2.2.1 e.symm)).trans s1.2.2.1, Kd.S_step s1.2.2.2.1 (fun k hk _ => fr2 k hk.1), s1.2.2.2.2⟩
  have kk2 : K0 (Below B w W2) := ⟨kk1.out.trans (NuS_below s1 f2)⟩
  have hk2 : ∀ x ∈ (es ++ fs1 ++ [(a, ((es.length : Int) + (fs1.length : Int)))]), x.1 < B ∧ (x.1 < m1 ∨ m3 ≤ x.1) := fun x h => by
    rcases List.mem_append.mp h with h | h
    · rcases List.mem_append.mp h with h | h
      · have := hes x h; omega
      · have := k1 x h; omega
    · rw [List.mem_singleton.mp h]; exact ⟨hx.2.2.2.2.2, .inr hx.2.2.2.1⟩
  have nz2 : NumT W2 (fun k => k < B) (es ++ fs1 ++ [(a, ((es.length : Int) + (fs1.length : Int)))]) z v0 es.length := NumT_more _ _ _ _ (NumT_move (fun k hk _ => ⟨hk, (NuS_below s1 f2).block k hk⟩) _ _ _ n1)
  have bs2 : NumB W2 (fun k => k < B) (es ++ fs1 ++ [(a, ((es.length : Int) + (fs1.length : Int)))]) bs us := NumB_move (fun k hk _ => ⟨hk, kk2.out.block k hk⟩) _ _ (by rw [List.append_assoc]; exact NumB_more _ _ _ hbs)
  have bf2 := (hbef.step f1).step f2
  have el2 : (((es ++ fs1 ++ [(a, ((es.length : Int) + (fs1.length : Int)))]).length : Nat) : Int) = es.length + ifsT z + 1 := by rw [List.length_append, List.length_append, List.length_singleton]; push_cast; omega
  have E2 := Aside0.mk (And.intro f2 (And.intro s2 (And.intro hk2 (And.intro nz2 (And.intro bs2 (And.intro bf2 el2))))))
  refine (cond_call bs us bv z es.length v0 a g cap (es ++ fs1 ++ [(a, ((es.length : Int) + (fs1.length : Int)))]) (cs ++ condT z (genB bs false) (seenB bs false) es.length) ov1 B m cm o W2 (c7 W2) (d0 W2) nz2 wz bs2 bf2.1 s2 (fun x h => (hk2 x h).1) (by omega) (by omega) (by omega) (by rw [List.length_append]; omega)).mono ?_
  rintro ex W3 ⟨ov3, rfl, s3, f3⟩
  have kk3 : K0 (Below B w W3) := ⟨kk2.out.trans (NuS_below s2 f3)⟩
  have E3 := Aside0.mk (And.intro s3 f3)
  clear hes hbs hbef hS hl1 hl2 hl3 l1 k1 n1 s1 f1 mw2 fr2 bl2 sz2 hx ip iq iz clz f2 s2 hk2 nz2 bs2 bf2 el2 s3 f3 hup hlen
  go_wp2_with fail
  obtain ⟨hes, hbs, hbef, hS, hl1, hl2, hl3⟩ := HA.out
  obtain ⟨l1, k1, n1, s1, f1⟩ := E1.out
  obtain ⟨f2, s2, hk2, nz2, bs2, bf2, el2⟩ := E2.out
  obtain ⟨s3, f3⟩ := E3.out
  have hx := HX.out
  have ip := ifsT_le p
  have iz := ifsT_le z
  have clz := condT_len _ z (Nat.le_refl _) wz (genB bs false) (seenB bs false) es.length
  have h23 := NuS_below s2 f3
  have HP3 := HP.out v1 m1 m2 bs us bv (es ++ fs1 ++ [(a, ((es.length : Int) + (fs1.length : Int)))]) ((cs ++ condT z (genB bs false) (seenB bs false) es.length) ++ [blockI (genB bs false ++ genT z (seenB bs false) es.length)]) ov3 B m cm o W3 (HO.out.2.1 W3 kk3.out) (fun x h => by have := hk2 x h; omega) (NumB_move (fun k hk _ => ⟨hk, h23.block k hk⟩) _ _ bs2) (bf2.step f3) s3 (by omega) (by omega) (by rw [List.length_append, List.length_append, List.length_singleton]; omega)
  rw [el2] at HP3
  refine HP3.mono ?_
  clear HP3
  rintro ex W4 ⟨fs4, ov4, rfl, l4, k4, n4, s4, f4⟩
  have kk4 : K0 (Below B w W4) := ⟨kk3.out.trans (NuS_below s3 f4)⟩
  have E4 := Aside0.mk (And.intro l4 (And.intro k4 (And.intro n4 (And.intro s4 f4))))
  clear hes hbs hbef hS hl1 hl2 hl3 l1 k1 n1 s1 f1 hx ip iz clz f2 s2 hk2 nz2 bs2 bf2 el2 s3 f3 l4 k4 n4 s4 f4 h23
  go_wp2_with fail
  obtain ⟨hes, hbs, hbef, hS, hl1, hl2, hl3⟩ := HA.out
  obtain ⟨l1, k1, n1, s1, f1⟩ := E1.out
  obtain ⟨f2, s2, hk2, nz2, bs2, bf2, el2⟩ := E2.out
  obtain ⟨s3, f3⟩ := E3.out
  obtain ⟨l4, k4, n4, s4, f4⟩ := E4.out
  have hx := HX.out
  have ip := ifsT_le p
  have iz := ifsT_le z
  have iq := ifsT_le q
  have clz := condT_len _ z (Nat.le_refl _) wz (genB bs false) (seenB bs false) es.length
  have clp := condT_len _ p (Nat.le_refl _) wp (genB bs false) (seenB bs false) (es.length + ifsT z + 1)
  have h23 := NuS_below s2 f3
  have h34 := NuS_below s3 f4
  have el4 : ((((es ++ fs1 ++ [(a, ((es.length : Int) + (fs1.length : Int)))]) ++ fs4).length : Nat) : Int) = es.length + ifsT z + 1 + ifsT p := by rw [List.length_append]; push_cast; omega
  have HQ4 := HQ.out v2 m2 m3 bs us bv ((es ++ fs1 ++ [(a, ((es.length : Int) + (fs1.length : Int)))]) ++ fs4) ((cs ++ condT z (genB bs false) (seenB bs false) es.length) ++ [blockI (genB bs false ++ genT z (seenB bs false) es.length)] ++ condT p (genB bs false) (seenB bs false) (es.length + ifsT z + 1)) ov4 B m cm o W4 (HO.out.2.2.1 W4 kk4.out) (fun x h => by
      rcases List.mem_append.mp h with h | h
      · have := hk2 x h; omega
      · have := k4 x h; omega) (NumB_more _ _ _ (NumB_move (fun k hk _ => ⟨hk, h34.block k hk⟩) _ _ (NumB_move (fun k hk _ => ⟨hk, h23.block k hk⟩) _ _ bs2))) ((bf2.step f3).step f4) s4 (by omega) (by omega) (by rw [List.length_append, List.length_append, List.length_append, List.length_singleton]; omega)
  rw [el4] at HQ4
  refine HQ4.mono ?_
  clear HQ4
  rintro ex W5 ⟨fs5, ov5, rfl, l5, k5, n5, s5, f5⟩
  have h45 := NuS_below s4 f5
  have post : (((fs1 ++ [(a, ((es.length : Int) + (fs1.length : Int)))] ++ fs4 ++ fs5).length : Nat) : Int) = ifsT (.node n [z, p, q]) ∧ (∀ p ∈ fs1 ++ [(a, ((es.length : Int) + (fs1.length : Int)))] ++ fs4 ++ fs5, p.1 < B ∧ lo ≤ p.1 ∧ p.1 < hi) ∧ NumT W5 (fun k => k < B) (es ++ (fs1 ++ [(a, ((es.length : Int) + (fs1.length : Int)))] ++ fs4 ++ fs5)) (.node n [z, p, q]) (.pointer (some ⟨a, 0, none⟩)) es.length ∧
      NuS W5 B m cm o (es ++ (fs1 ++ [(a, ((es.length : Int) + (fs1.length : Int)))] ++ fs4 ++ fs5)) (cs ++ condT (.node n [z, p, q]) (genB bs false) (seenB bs false) es.length) ov5 ∧ NuF w W5 m o ov ov5 := by
    have hsp : es ++ (fs1 ++ [(a, ((es.length : Int) + (fs1.length : Int)))] ++ fs4 ++ fs5) = (es ++ fs1 ++ [(a, ((es.length : Int) + (fs1.length : Int)))]) ++ fs4 ++ fs5 := by simp only [List.append_assoc]
    refine ⟨?_, fun x h => ?_, ?_, ?_, f1.trans (f2.trans (f3.trans (f4.trans f5)))⟩
    · rw [List.length_append, List.length_append, List.length_append, List.length_singleton]; simp only [ifsT, ifsTs, if_pos h16]; push_cast; omega
    · rcases List.mem_append.mp h with h | h
      · rcases List.mem_append.mp h with h | h
        · rcases List.mem_append.mp h with h | h
          · have := k1 x h; omega
          · rw [List.mem_singleton.mp h]; simp only; omega
        · have := k4 x h; omega
      · have := k5 x h; omega
    · rw [hsp]
      refine HO.out.2.2.2 W5 _ _ (kk4.out.trans h45) ?_ (NumT_more _ _ _ _ (NumT_more _ _ _ _ (NumT_move (fun k hk _ => ⟨hk, h45.block k hk⟩) _ _ _ (NumT_move (fun k hk _ => ⟨hk, h34.block k hk⟩) _ _ _ (NumT_move (fun k hk _ => ⟨hk, h23.block k hk⟩) _ _ _ nz2))))) (NumT_more _ _ _ _ (NumT_move (fun k hk _ => ⟨hk, h45.block k hk⟩) _ _ _ n4)) n5
      have hna : ∀ x ∈ es ++ fs1, x.1 ≠ a := fun x h e => by
        rcases List.mem_append.mp h with h | h
        · have := hes x h; omega
        · have := k1 x h; omega
      obtain ⟨i, hi⟩ := findE_new a ((es.length : Int) + (fs1.length : Int)) (es ++ fs1) (fs4 ++ fs5) 0 hna
      refine ⟨i, ?_⟩
      rw [show (es ++ fs1 ++ [(a, ((es.length : Int) + (fs1.length : Int)))]) ++ fs4 ++ fs5 = (es ++ fs1) ++ (a, ((es.length : Int) + (fs1.length : Int))) :: (fs4 ++ fs5) from by simp only [List.append_assoc, List.singleton_append, List.cons_append, List.nil_append], hi, l1]
    · rw [hsp]
      simp only [condT, condTs, condN]
      rw [← List.append_assoc, ← List.append_assoc, ← List.append_assoc]
      exact s5
  have HPo := Aside0.mk post
  clear post hes hbs hbef hS hl1 hl2 hl3 l1 k1 n1 s1 f1 hx ip iz iq clz clp f2 s2 hk2 nz2 bs2 bf2 el2 s3 f3 l4 k4 n4 s4 f4 h23 h34 h45 l5 k5 n5 s5 f5 el4
  go_wp2_with fail
  refine bodyPost_end (results_none rfl _ _ _) rfl ?_
  exact ⟨_, ov5, rfl, HPo.out⟩
end Go.Proofs.Ytpfehkkfakofaaa.Q

namespace Go.Proofs.Ytpfehkkfakofaaa.Q
open Go.RowKit Go.Proofs.YtpfehkkfakofaaaW.PrintWords Go.Proofs.YtpfehkkfakofaaaW.PrintLast Go.Proofs.YtpfehkkfakofaaaW.PrintMore
set_option linter.unusedVariables false
set_option linter.unusedSimpArgs false
theorem num_all : ∀ (N : Nat) (t : Tr), (flatT t).length ≤ N → wfT t → NumP t
  | 0, t, hl, hw => absurd (List.eq_nil_of_length_eq_zero (by omega)) (flatT_ne t)
  | N + 1, .node n ks, hl, hw => by
    rcases wf_ar hw with ⟨rfl, g1, g2, g3⟩ | ⟨p, q, rfl, wp, wq, h⟩ | ⟨z, p, q, rfl, wz, wp, wq, h⟩
    · exact num_leaf n g1 g2 g3
    · simp only [flatT, flatTs, List.length_append, List.length_cons, List.length_nil] at hl
      have hp := num_all N p (by omega) wp
      have hq := num_all N q (by omega) wq
      rcases h with h | h
      · exact num_chain n p q h wp wq hp hq
      · exact num_inter n p q h wp wq hp hq
    · simp only [flatT, flatTs, List.length_append, List.length_cons, List.length_nil] at hl
      exact num_if n z p q h wz wp wq (num_all N z (by omega) wz) (num_all N p (by omega) wp) (num_all N q (by omega) wq)
theorem number_call (t : Tr) (hw : wfT t) : NumP t := num_all _ t (Nat.le_refl _) hw
end Go.Proofs.Ytpfehkkfakofaaa.Q

namespace Go.Proofs.Ytpfehkkfakofaaa.Q
open Go.RowKit Go.Proofs.YtpfehkkfakofaaaW.PrintWords Go.Proofs.YtpfehkkfakofaaaW.PrintLast Go.Proofs.YtpfehkkfakofaaaW.PrintMore
set_option linter.unusedVariables false
set_option linter.unusedSimpArgs false
theorem info70_is : (Try.prog.info? 47).map (fun i => (i.zero, i.size, i.bytes)) = some (some (.pointer none), 1, 8) := by kernel_rfl
theorem grown_own_below {w w2 : World} {o : Obj} (hg : (w.alloc o).grownBy w2 (some w.heap.size)) : Below w.heap.size w w2 :=
  ⟨hg.os, hg.tape, hg.output, by have := hg.size; rw [sz_al] at this; omega, fun k hk => (hg.block k (by rw [sz_al]; omega) (fun e => by cases e; omega)).trans (heap_alloc_old w _ hk)⟩
theorem nil152 (a : Option Addr) (n c : Nat) (W : World) : (binOp .eql 57 (.slice a n c) (.slice none 0 0)).run Try.prog W = .ok (.bool a.isNone) W := Lib.run_eql_slice_nil W 57 47 a n c 0 0 Try.underlying57
set_option maxRecDepth 100000 in
theorem clone_nil (w : World) : Calls Try.prog 78 #[.slice none 0 0] w fun e w' => e = .returned (.slice none 0 0) ∧ w' = w := by
  have hE := nil152
  go_enter Try.func78, Try.ntmps78
  go_wp2
  go_ret
  exact ⟨rfl, rfl⟩
set_option maxHeartbeats 4000000 in
set_option maxRecDepth 100000 in
theorem clone_call (ad : Addr) (m c : Nat) (news : List Value) (w : World) (hl : news.length = m) (hn : ∀ j u, news[j]? = some u → w.cell? (ad.add j) = some u) (h1 : ∀ u ∈ news, u.oneCell' = true) (hm : m ≤ 1000) :
    Calls Try.prog 78 #[.slice (some ad) m c] w fun e w' => ∃ v, e = .returned v ∧ w'.ownsRow w.heap.size 47 1 v m news ∧ Below w.heap.size w w' := by
  have kr : K0 (Below w.heap.size w w) := ⟨Below.refl _ _⟩
  obtain ⟨i0, hi, hz0, hz1, hz2⟩ := info_parts info70_is
  have HI := Aside0.mk hi
  have HZ := Aside0.mk (And.intro hz0 (And.intro hz1 hz2))
  have hown : (w.alloc (.cells #[] 47)).ownsRow w.heap.size 47 1 (.slice (some ⟨w.heap.size, 0, none⟩) 0 0) 0 [] :=
    ⟨rfl, .inr ⟨w.heap.size, 0, _, rfl, Nat.le_refl _, heap_alloc_new _ _, Nat.le_refl _, by decide, rfl, rfl⟩⟩
  have hn2 : ∀ j u, news[j]? = some u → (w.alloc (.cells #[] 47)).cell? (ad.add j) = some u := fun j u hj => clk (hn j u hj) _
  have HN := Aside0.mk hn2
  have HL := Aside0.mk (show news.length = m * 1 from by omega)
  have HO := Aside0.mk hown
  have H1 := Aside0.mk h1
  have HC3 := Aside0.mk (show 0 + m ≤ maxLen from by simp only [maxLen]; omega)
  have HC4 := Aside0.mk (show (0 + m) * 8 ≤ 140737488355328 from by omega)
  clear hn hn2 hl hown h1 hi hz0 hz1 hz2 kr
  have hE := nil152
  go_enter Try.func78, Try.ntmps78
  go_wp2_with (at_builtin; refine wpList_append_at rfl (.tmp 5) (.tmp 6) 57 rfl w.heap.size 47 i0 (.pointer none) 1 8 Try.underlying57 HI.out HZ.out.1 HZ.out.2.1 HZ.out.2.2 rfl (by decide) _ 0 [] rfl HO.out ad m c news rfl HL.out HN.out H1.out HC3.out HC4.out (by rw [sz_al]; omega) ?_; intro v2 w2 hown hgr hloc; have HG := Aside0.mk (And.intro hown hgr); clear hown hgr hloc)
  go_ret
  refine ⟨v2, rfl, ?_, grown_own_below HG.out.2⟩
  have := HG.out.1
  rw [Nat.zero_add, List.nil_append] at this
  exact this
theorem own_cut {w : World} {b e g n m c k : Nat} {xs : List Value} (h : w.ownsRow b e 1 (.slice (some ⟨g, 0, none⟩) n c) m xs) (hk : k ≤ m) : w.ownsRow b e 1 (.slice (some ⟨g, 0, none⟩) k c) k (xs.take k) := by
  obtain ⟨hl, h⟩ := h
  rcases h with ⟨e1, -⟩ | ⟨g', cap, cur, e1, hg, hh, h1, h2, h3, h4⟩
  · cases e1
  · cases e1
    refine ⟨by rw [List.length_take]; omega, .inr ⟨g, c, cur, rfl, hg, hh, by omega, h2, h3, ?_⟩⟩
    rw [← h4, List.take_take]
    congr 1; omega
theorem grown_below2 {w w1 w2 : World} {o : Obj} {row : Option Nat} (h : Below w.heap.size w w1) (hg : (w1.alloc o).grownBy w2 row) (hr : ∀ k, row = some k → w.heap.size ≤ k) : Below w.heap.size w w2 :=
  h.trans ⟨hg.os, hg.tape, hg.output, by have := hg.size; rw [sz_al] at this; omega, fun k hk => (hg.block k (by rw [sz_al]; have := h.size; omega) (fun e => by have := hr k e.symm; omega)).trans (heap_alloc_old w1 _ (by have := h.size; omega))⟩
end Go.Proofs.Ytpfehkkfakofaaa.Q

namespace Go.Proofs.Ytpfehkkfakofaaa.Q
open Go.RowKit Go.Proofs.YtpfehkkfakofaaaW.PrintWords Go.Proofs.YtpfehkkfakofaaaW.PrintLast Go.Proofs.YtpfehkkfakofaaaW.PrintMore
set_option linter.unusedVariables false
set_option linter.unusedSimpArgs false
/-- What both tests of a node say. -/
noncomputable def nodeOk (x : S63) : Bool := ndOk (Classical.choose (node_same x.f0 x.f1 x.f2 x.f3 x.f4 x.f5 x.f6)) x.f0 x.f1 x.f2 x.f3 x.f4 x.f5 x.f6
theorem nodeOk_spec (x : S63) : Ev (fun k => spec_l5GoodNode.f k x.f0 x.f1 x.f2 x.f3 x.f4 x.f5 x.f6) (nodeOk x) := (Classical.choose_spec (node_same x.f0 x.f1 x.f2 x.f3 x.f4 x.f5 x.f6)).2
theorem node_call (x : S63) (w : World) : Calls Try.prog 51 #[.agg #[.int .i64 x.f0, .string x.f1, .bool x.f2, .string x.f3, .int .u64 x.f4, .int .u64 x.f5, .int .i64 x.f6]] w fun e w' => e = .returned (.bool (nodeOk x)) ∧ Below w.heap.size w w' := by
  obtain ⟨K, hK⟩ := (Classical.choose_spec (node_same x.f0 x.f1 x.f2 x.f3 x.f4 x.f5 x.f6)).1
  exact impl_Node_good.calls K _ _ _ _ _ _ _ _ w (hK K (Nat.le_refl _))
set_option maxHeartbeats 4000000 in
set_option maxRecDepth 100000 in
theorem bad_call (x : S63) (w : World) : Calls Try.prog 50 #[.agg #[.int .i64 x.f0, .string x.f1, .bool x.f2, .string x.f3, .int .u64 x.f4, .int .u64 x.f5, .int .i64 x.f6]] w fun e w' => e = .returned (.bool (!nodeOk x)) ∧ Below w.heap.size w w' := by
  have kr : K0 (Below w.heap.size w w) := ⟨Below.refl _ _⟩
  have hk : Below w.heap.size w (w.alloc (.cells #[.int .i64 x.f0, .string x.f1, .bool x.f2, .string x.f3, .int .u64 x.f4, .int .u64 x.f5, .int .i64 x.f6] 63)) := kk
  go_enter Try.func50, Try.ntmps50
  go_wp2_with fail
  generalize w.alloc (.cells #[.int .i64 x.f0, .string x.f1, .bool x.f2, .string x.f3, .int .u64 x.f4, .int .u64 x.f5, .int .i64 x.f6] 63) = W at *
  refine (node_call x W).mono ?_
  rintro e W2 ⟨rfl, hb⟩
  have k2 : K0 (Below w.heap.size w W2) := ⟨hk.trans (hb.mono hk.size)⟩
  clear hb hk
  go_wp2
  go_ret
  exact ⟨rfl, kk⟩
noncomputable def firstBad : Nat → List S63 → Int
  | _, [] => -1
  | i, x :: xs => if nodeOk x = true then firstBad (i + 1) xs else i
theorem firstBad_all : ∀ (xs : List S63) (i : Nat), decide (0 ≤ firstBad i xs) = !(xs.all nodeOk)
  | [], i => by simp [firstBad]
  | x :: xs, i => by
    have e : firstBad i (x :: xs) = if nodeOk x = true then firstBad (i + 1) xs else i := rfl
    by_cases h : nodeOk x = true
    · rw [show firstBad i (x :: xs) = firstBad (i + 1) xs from by rw [e, if_pos h], firstBad_all xs (i + 1)]; simp [h]
    · rw [show firstBad i (x :: xs) = (i : Int) from by rw [e, if_neg h]]; simp at h; simp [h]
set_option maxHeartbeats 4000000 in
set_option maxRecDepth 100000 in
theorem index_call (A : Option Addr) (c : Nat) (ns : List S63) (w : World) (hr : Kd.C k63 w A ns.length ns) (hc : ns.length ≤ c) (hn : ns.length ≤ 1000) :
    Calls Try.prog 75 #[.slice A ns.length c, .func (.func 50) #[] #[]] w fun e w' => e = .returned (.int .i64 (firstBad 0 ns)) ∧ Below w.heap.size w w' := by
  have kr : K0 (Below w.heap.size w w) := ⟨Below.refl _ _⟩
  have HR := Aside0.mk hr
  have HC := Aside0.mk hc
  obtain ⟨r, hR⟩ : ∃ r, firstBad 0 ns = r := ⟨_, rfl⟩
  rw [hR]
  have HGO := Aside0.mk (show firstBad 0 (ns.drop 0) = r from hR)
  clear hr hc hR
  go_enter Try.func75, Try.ntmps75
  go_wp2_with fail
  go_loopw [8] (fun v8 W => ∃ (j : Nat), j ≤ ns.length ∧ v8 = .int .i64 j ∧ Aside0 (firstBad j (ns.drop j) = r) ∧ Aside0 (Below w.heap.size w W)) (fun v8 _ => ns.length - (intOf v8).toNat)
  case atStart => exact ⟨0, by omega, rfl, HGO, ⟨kk⟩⟩
  case round =>
    clear HGO kr
    obtain ⟨j, hj, rfl, HGO, HB⟩ := hrel
    have kW : K0 (Below w.heap.size w wr) := ⟨HB.out⟩
    by_cases hlt : j < ns.length
    · obtain ⟨ad, e0, hx⟩ := at_T63 HR.out (j : Int) (by omega) (by omega)
      subst e0
      rw [Int.toNat_natCast] at hx
      obtain ⟨x, hX⟩ : ∃ x, rd_T63 ns (j : Int) = x := ⟨_, rfl⟩
      have hgo := HGO.out
      rw [List.drop_eq_getElem_cons hlt, show ns[j] = x from by rw [← hX]; unfold rd_T63; rw [Int.toNat_natCast]; simp [hlt]] at hgo
      rw [hX] at hx
      obtain ⟨x0, x1, x2, x3, x4, x5, x6⟩ := hx
      have x0 := clk x0
      have x1 := clk x1
      have x2 := clk x2
      have x3 := clk x3
      have x4 := clk x4
      have x5 := clk x5
      have x6 := clk x6
      have hw1 : IntKind.i64.wrap ((j : Int) + 1) = ((j + 1 : Nat) : Int) := by rw [IntKind.wrap_i64]; omega
      simp only [firstBad] at hgo
      go_wp2_with fail
      refine (bad_call x wr).mono ?_
      rintro e W2 ⟨rfl, hb⟩
      have k2 : K0 (Below w.heap.size w W2) := ⟨HB.out.trans (hb.mono HB.out.size)⟩
      clear hb kW x0 x1 x2 x3 x4 x5 x6
      cases hz : nodeOk x
      · rw [hz, if_neg (by decide)] at hgo
        subst hgo
        go_wp2
        go_ret
        exact ⟨rfl, kk⟩
      · rw [hz, if_pos rfl] at hgo
        go_wp2_with fail
        go_roundw
        case measure => simp only [intOf]; omega
        case rel => exact ⟨j + 1, by omega, by rw [Int.natCast_add]; rfl, ⟨hgo⟩, ⟨kk⟩⟩
    · obtain rfl : j = ns.length := by omega
      have hgo := HGO.out
      rw [List.drop_length] at hgo
      simp only [firstBad] at hgo
      subst hgo
      go_wp2
      go_ret
      exact ⟨rfl, kk⟩
set_option maxRecDepth 100000 in
theorem contains_call (A : Option Addr) (c : Nat) (ns : List S63) (w : World) (hr : Kd.C k63 w A ns.length ns) (hc : ns.length ≤ c) (hn : ns.length ≤ 1000) :
    Calls Try.prog 49 #[.slice A ns.length c, .func (.func 50) #[] #[]] w fun e w' => e = .returned (.bool (!(ns.all nodeOk))) ∧ Below w.heap.size w w' := by
  have HI := Aside0.mk (index_call A c ns w hr hc hn)
  clear hr hc hn
  go_enter Try.func49, Try.ntmps49
  go_wp2_with fail
  refine HI.out.mono ?_
  rintro e W2 ⟨rfl, hb⟩
  have k2 : K0 (Below w.heap.size w W2) := ⟨hb⟩
  have hall := firstBad_all ns 0
  generalize firstBad 0 ns = r at *
  clear hb HI
  go_wp2
  go_ret
  refine ⟨?_, kk⟩
  rw [← hall]
  rfl
/-- The tree of a valid filter. -/
noncomputable def validT (ns : List S63) : Option Tr :=
  if (ns.length : Int) > 200 then none else if ns.all nodeOk = false then none else match treesOf ns [] with | some [t] => if nestT t > 20 then none else some t | _ => none
/-! the reference's -/
theorem spec_loop (ns : List S63) (hn : ns.length ≤ 200) (b : Bool) (hF : Ev (fun k => (spec_l5Tree.f k ns).bind fun t => if t = true then (spec_l5Nest.f k ns).bind fun q => some (decide (q ≤ 20)) else some false) b) :
    Ev (fun k => spec_ValidFilter.l0 k 0 ns) (ns.all nodeOk && b) :=
  all_loop ns z63 nodeOk (fun k x => spec_l5GoodNode.f k x.f0 x.f1 x.f2 x.f3 x.f4 x.f5 x.f6) (fun k i => spec_ValidFilter.l0 k i ns) _ b (by omega)
    (fun k i hi => by simp only [spec_ValidFilter.l0]; rw [if_pos (by omega), if_pos (by omega), wrap_nat _ (by omega)]; rfl)
    (fun k => by simp only [spec_ValidFilter.l0]; rw [if_neg (by omega)]) (fun x _ => nodeOk_spec x) hF ns [] rfl
theorem spec_filter_is (ns : List S63) : Ev (fun k => spec_ValidFilter.f k ns) (validT ns).isSome := by
  unfold spec_ValidFilter.f validT
  by_cases hl : (ns.length : Int) > 200
  · rw [if_pos hl]
    exact Ev.if_pos hl (Ev.now _)
  rw [if_neg hl]
  refine Ev.if_neg hl ?_
  have hfr := from_is ns (by omega)
  by_cases h1 : ∃ t, treesOf ns [] = some [t]
  · obtain ⟨t, ht⟩ := h1
    have hne : ns ≠ [] := by rintro rfl; cases ht
    have h0 := (scan_one ns hne).mpr ⟨t, ht⟩
    have hw := (treesOf_flat ns [] [t] ht trivial).2.1
    have hf : flatT t = ns := by simpa [flatTs] using (treesOf_flat ns [] [t] ht trivial).1
    rw [h0] at hfr
    have hlen : 0 < ns.length := List.length_pos_iff.mpr hne
    have htree : Ev (fun k => spec_l5Tree.f k ns) true := by
      unfold spec_l5Tree.f
      exact Ev.if_pos (by omega) (Ev.bind hfr (Ev.now _))
    have hnest : Ev (fun k => spec_l5Nest.f k ns) (nestT t) := by
      have h := nest_is t hw (by rw [hf]; omega)
      rw [hf] at h; exact h
    have h := spec_loop ns (by omega) _ (Ev.bind htree (Ev.if_pos rfl (Ev.bind hnest (Ev.now (decide (nestT t ≤ 20))))))
    rw [ht]
    cases hall : ns.all nodeOk
    · rw [hall] at h; simpa using h
    · rw [hall] at h
      by_cases h20 : nestT t > 20
      · rw [decide_eq_false (by omega)] at h
        simpa [h20] using h
      · rw [decide_eq_true (by omega)] at h
        simpa [h20] using h
  · have htree : Ev (fun k => spec_l5Tree.f k ns) false := by
      unfold spec_l5Tree.f
      by_cases hne : ns = []
      · subst hne
        exact Ev.if_neg (by simp) (Ev.now _)
      · have h0 : ¬ scanN 1 ns.reverse = 0 := fun h => h1 ((scan_one ns hne).mp h)
        have hlen : 0 < ns.length := List.length_pos_iff.mpr hne
        refine Ev.if_pos (by omega) (Ev.bind hfr ?_)
        rw [beq_eq_false_iff_ne.mpr h0]
        exact Ev.now _
    have h := spec_loop ns (by omega) false (Ev.bind htree (Ev.if_neg (by decide) (Ev.now _)))
    rw [Bool.and_false] at h
    have e : (match treesOf ns [] with | some [t] => if nestT t > 20 then none else some t | _ => (none : Option Tr)) = none := by
      split
      · rename_i t he
        exact absurd ⟨t, he⟩ h1
      · rfl
    rw [e]
    simpa using h
end Go.Proofs.Ytpfehkkfakofaaa.Q

namespace Go.Proofs.Ytpfehkkfakofaaa.Q
open Go.RowKit Go.Proofs.YtpfehkkfakofaaaW.PrintWords Go.Proofs.YtpfehkkfakofaaaW.PrintLast Go.Proofs.YtpfehkkfakofaaaW.PrintMore
set_option linter.unusedVariables false
set_option linter.unusedSimpArgs false
/-- The stack of trees under way; the trees lie in order. -/
def StkO (w : World) (B : Nat) (st : List Tr) (v : Value) (vs : List Value) : Prop :=
  w.ownsRow B 47 1 v vs.length vs ∧ OrdTs w (fun k => B ≤ k ∧ v.ownBlock ≠ some k) B w.heap.size st vs
def oneOrd (o : Option (List Tr)) (w : World) (B : Nat) (v : Value) : Prop :=
  match o with
  | some [t] => OrdT w (fun k => B ≤ k) B w.heap.size t v
  | _ => v = .pointer none
theorem stko_push {W4 w' : World} {B k : Nat} {st : List Tr} {sv cut v' ptr : Value} {svs : List Value} {t : Tr}
    (hS : True) (ht : ∃ mid, OrdTs W4 (fun b => B ≤ b ∧ sv.ownBlock ≠ some b) B mid (st.take k) (svs.take k) ∧ OrdT W4 (fun b => B ≤ b ∧ sv.ownBlock ≠ some b) mid W4.heap.size t ptr) (hcut : ∀ b, cut.ownBlock = some b → sv.ownBlock = some b)
    (hk : (svs.take k).length = k) (ho : w'.ownsRow B 47 1 v' (k + 1) (svs.take k ++ [ptr])) (hg : (W4.alloc (.cells #[ptr] 47)).grownBy w' cut.ownBlock)
    (hl : ∀ b, v'.ownBlock = some b → cut.ownBlock = some b ∨ (W4.alloc (.cells #[ptr] 47)).heap.size ≤ b) : StkO w' B (st.take k ++ [t]) v' (svs.take k ++ [ptr]) := by
  have hsz := sz_al W4 (.cells #[ptr] 47)
  have hm : ∀ b, (B ≤ b ∧ sv.ownBlock ≠ some b) → b < W4.heap.size → (B ≤ b ∧ v'.ownBlock ≠ some b) ∧ w'.heap[b]? = W4.heap[b]? := by
    intro b ⟨h1, h2⟩ h3
    refine ⟨⟨h1, fun e => ?_⟩, ?_⟩
    · rcases hl b e with h | h
      · exact h2 (hcut b h)
      · omega
    · exact (hg.block b (by omega) (fun e => h2 (hcut b e.symm))).trans (heap_alloc_old W4 _ h3)
  obtain ⟨mid, h1, h2⟩ := ht
  have hgs := hg.size
  refine ⟨?_, OrdTs_app _ _ B mid _ _ _ (OrdTs_move hm _ _ _ _ h1) ?_⟩
  · rw [List.length_append, hk]; exact ho
  · unfold OrdTs
    exact ⟨W4.heap.size, ptr, [], rfl, OrdT_move hm _ _ _ _ h2, by unfold OrdTs; exact ⟨rfl, by omega⟩⟩
theorem stko_node {wr wt W3 : World} {B k n : Nat} {st : List Tr} {sv u : Value} {svs : List Value} (x : S63) (hS : StkO wr B st sv svs) (hmv : ∀ b, b < wr.heap.size → wt.heap[b]? = wr.heap[b]?) (hsz : wr.heap.size ≤ wt.heap.size) (hB : B ≤ wt.heap.size)
    (h3 : Below wt.heap.size wt W3) (hu : W3.ownsRow wt.heap.size 47 1 u n (svs.drop k)) (hn : (svs.drop k).length = n) :
    True ∧ (∃ mid, OrdTs (W3.alloc (.cells (nodeV x u) 65)) (fun b => B ≤ b ∧ sv.ownBlock ≠ some b) B mid (st.take k) (svs.take k) ∧ OrdT (W3.alloc (.cells (nodeV x u) 65)) (fun b => B ≤ b ∧ sv.ownBlock ≠ some b) mid (W3.alloc (.cells (nodeV x u) 65)).heap.size (.node x (st.drop k)) (.pointer (some ⟨W3.heap.size, 0, none⟩))) ∧ (W3.alloc (.cells (nodeV x u) 65)).ownsRow B 47 1 sv svs.length svs ∧ Below wt.heap.size wt (W3.alloc (.cells (nodeV x u) 65)) := by
  subst hn
  have hsz4 := sz_al W3 (.cells (nodeV x u) 65)
  have h3s := h3.size
  have hm : ∀ b, b < wr.heap.size → (W3.alloc (.cells (nodeV x u) 65)).heap[b]? = wr.heap[b]? := fun b hb =>
    ((heap_alloc_old W3 _ (by omega)).trans (h3.block b (by omega))).trans (hmv b hb)
  have hg : ∀ b, sv.ownBlock = some b → b < wr.heap.size := fun b hb => (hS.1.lt b hb).2
  have h6 := OrdTs_move (w1 := W3.alloc (.cells (nodeV x u) 65)) (ok' := fun b => B ≤ b ∧ sv.ownBlock ≠ some b) (fun b hb hl => ⟨hb, hm b hl⟩) _ _ _ _ hS.2
  obtain ⟨mid, h7, h8⟩ := OrdTs_cut st svs k _ _ h6
  refine ⟨trivial, ⟨mid, h7, ?_⟩, own_move hS.1 (fun b hb => hm b (hg b hb)), Below.alloc h3 h3.size _⟩
  unfold OrdT
  refine ⟨W3.heap.size, u, svs.drop k, rfl, by omega, ⟨by omega, fun e => by have := hg _ e; omega⟩, heap_alloc_new _ _, ?_, ?_, OrdTs_up _ _ _ _ _ h8 (by omega)⟩
  · exact own_lower (own_move hu (fun b hb => heap_alloc_old _ _ (hu.lt b hb).2)) (Nat.zero_le _)
  · intro b hb
    have := (hu.lt b hb).1
    exact ⟨by omega, fun e => by have := hg _ e; omega⟩
set_option maxHeartbeats 4000000 in
set_option maxRecDepth 100000 in
theorem treeOf_ord (A : Option Addr) (c : Nat) (ns : List S63) (w : World) (hr : Kd.C k63 w A ns.length ns) (hc : ns.length ≤ c) (hn : ns.length ≤ 1000) :
    Calls Try.prog 52 #[.slice A ns.length c] w fun e w' => ∃ v, e = .returned v ∧ oneOrd (treesOf ns []) w' w.heap.size v ∧ Below w.heap.size w w' := by
  have kr : K0 (Below w.heap.size w w) := ⟨Below.refl _ _⟩
  have HR := Aside0.mk hr
  have HC := Aside0.mk hc
  obtain ⟨R, hR⟩ : ∃ R, treesOf ns [] = R := ⟨_, rfl⟩
  rw [hR]
  obtain ⟨i0, hi, hz0, hz1, hz2⟩ := info_parts info70_is
  have HI := Aside0.mk hi
  have HZ := Aside0.mk (And.intro hz0 (And.intro hz1 hz2))
  have HGO := Aside0.mk (show treesOf (ns.drop 0) [] = R from hR)
  have HS := Aside0.mk (show StkO w w.heap.size [] (.slice none 0 0) [] from ⟨World.ownsRow_nil _ _ _ _, by unfold OrdTs; exact ⟨rfl, Nat.le_refl _⟩⟩)
  clear hr hc hR hi hz0 hz1 hz2
  go_enter Try.func52, Try.ntmps52
  go_wp2_with fail
  go_loopw [3, 10] (fun v3 v10 W => ∃ (j : Nat) (st : List Tr) (svs : List Value), j ≤ ns.length ∧ v10 = .int .i64 j ∧ Aside0 (treesOf (ns.drop j) st = R) ∧ Aside0 (StkO W w.heap.size st v3 svs) ∧ Aside0 (st.length ≤ j) ∧ Aside0 (Below w.heap.size w W)) (fun _ v10 _ => ns.length - (intOf v10).toNat)
  case atStart => exact ⟨0, [], [], by omega, rfl, HGO, HS, ⟨Nat.le_refl _⟩, ⟨kk⟩⟩
  case round =>
    clear HGO HS kr
    obtain ⟨j, st, svs, hj, rfl, HGO, HS, HJ, HB⟩ := hrel
    have kW : K0 (Below w.heap.size w wr) := ⟨HB.out⟩
    have hsl := OrdTs_len HS.out.2
    obtain ⟨A3, m3, c3, rfl⟩ := own_sl HS.out.1
    have hm3 : m3 = st.length := by
      rcases HS.out.1.2 with ⟨e, h0⟩ | ⟨g, cap, cur, e, _⟩
      · cases e; omega
      · cases e; omega
    subst hm3
    by_cases hlt : j < ns.length
    · obtain ⟨ad, e0, hx⟩ := at_T63 HR.out (j : Int) (by omega) (by omega)
      subst e0
      rw [Int.toNat_natCast] at hx
      obtain ⟨x, hX⟩ : ∃ x, rd_T63 ns (j : Int) = x := ⟨_, rfl⟩
      have hgo := HGO.out
      rw [List.drop_eq_getElem_cons hlt, show ns[j] = x from by rw [← hX]; unfold rd_T63; rw [Int.toNat_natCast]; simp [hlt]] at hgo
      rw [hX] at hx
      obtain ⟨x0, x1, x2, x3, x4, x5, x6⟩ := hx
      have x0 := clk x0
      have x1 := clk x1
      have x2 := clk x2
      have x3 := clk x3
      have x4 := clk x4
      have x5 := clk x5
      have x6 := clk x6
      have hjj := HJ.out
      have ha := arB_nn x.f0
      have ha3 := arB_le x.f0
      go_upto_region 5 with (fail)
      clear x0 x1 x2 x3 x4 x5 x6
      have hwt : Below w.heap.size w (wr.alloc (.cells #[.int .i64 x.f0, .string x.f1, .bool x.f2, .string x.f3, .int .u64 x.f4, .int .u64 x.f5, .int .i64 x.f6] 63)) := kk
      have hh := heap_alloc_new wr (.cells #[.int .i64 x.f0, .string x.f1, .bool x.f2, .string x.f3, .int .u64 x.f4, .int .u64 x.f5, .int .i64 x.f6] 63)
      have hmv : ∀ k, k < wr.heap.size → (wr.alloc (.cells #[.int .i64 x.f0, .string x.f1, .bool x.f2, .string x.f3, .int .u64 x.f4, .int .u64 x.f5, .int .i64 x.f6] 63)).heap[k]? = wr.heap[k]? := fun k hk => heap_alloc_old _ _ hk
      have hwz := sz_al wr (.cells #[.int .i64 x.f0, .string x.f1, .bool x.f2, .string x.f3, .int .u64 x.f4, .int .u64 x.f5, .int .i64 x.f6] 63)
      generalize wr.alloc (.cells #[.int .i64 x.f0, .string x.f1, .bool x.f2, .string x.f3, .int .u64 x.f4, .int .u64 x.f5, .int .i64 x.f6] 63) = wt at *
      have z0 : wt.cell? ⟨wr.heap.size, 0, none⟩ = some (.int .i64 x.f0) := (blk_cell hh 0).trans rfl
      have z1 : wt.cell? ⟨wr.heap.size, 1, none⟩ = some (.string x.f1) := (blk_cell hh 1).trans rfl
      have z2 : wt.cell? ⟨wr.heap.size, 2, none⟩ = some (.bool x.f2) := (blk_cell hh 2).trans rfl
      have z3 : wt.cell? ⟨wr.heap.size, 3, none⟩ = some (.string x.f3) := (blk_cell hh 3).trans rfl
      have z4 : wt.cell? ⟨wr.heap.size, 4, none⟩ = some (.int .u64 x.f4) := (blk_cell hh 4).trans rfl
      have z5 : wt.cell? ⟨wr.heap.size, 5, none⟩ = some (.int .u64 x.f5) := (blk_cell hh 5).trans rfl
      have z6 : wt.cell? ⟨wr.heap.size, 6, none⟩ = some (.int .i64 x.f6) := (blk_cell hh 6).trans rfl
      have z0 := clk z0
      have z1 := clk z1
      have z2 := clk z2
      have z3 := clk z3
      have z4 := clk z4
      have z5 := clk z5
      have z6 := clk z6
      have kt : K0 (Below wt.heap.size wt wt) := ⟨Below.refl _ _⟩
      have HWT := Aside0.mk hwt
      have HMV := Aside0.mk hmv
      clear hwt hmv hh kW
      go_wp2_with fail
      refine (impl_Node_arity.calls 1 x.f0 x.f1 x.f2 x.f3 x.f4 x.f5 x.f6 (arB x.f0) wt (ar_impl ..)).mono ?_
      rintro e W2 ⟨rfl, hb2⟩
      have k2 : K0 (Below wt.heap.size wt W2) := ⟨hb2⟩
      have HB2 := Aside0.mk hb2
      have tr1 : ∀ W [K0 (Below wt.heap.size wt W)], K0 (Below w.heap.size w W) := fun W k => ⟨HWT.out.trans (k.out.mono HWT.out.size)⟩
      clear hb2 kt
      obtain ⟨q, hq⟩ : ∃ q : Nat, arB x.f0 = q := ⟨(arB x.f0).toNat, by omega⟩
      simp only [treesOf, pushT] at hgo
      rw [hq] at hgo ha ha3 ⊢
      by_cases hlt2 : (st.length : Int) < q
      · rw [if_pos hlt2] at hgo
        obtain rfl : R = none := by rw [← hgo]; rfl
        have d1 : decide ((st.length : Int) - (q : Int) < 0) = true := decide_eq_true (by omega)
        go_wp2
        go_ret
        exact ⟨.pointer none, rfl, rfl, kk⟩
      rw [if_neg hlt2, Int.toNat_natCast, Option.bind_some] at hgo
      obtain ⟨k, hk⟩ : ∃ k, st.length = k + q := ⟨st.length - q, by omega⟩
      rw [show st.length - q = k by omega] at hgo
      have HGO2 := Aside0.mk hgo
      have hsub : (st.length : Int) - (q : Int) = (k : Int) := by omega
      clear hgo HGO
      go_upto_region 6 with (fail)
      try rw [hsub]
      have d1 : decide ((k : Int) < 0) = false := decide_eq_false (by omega)
      clear d1
      go_upto_region 8 with (fail)
      have hkl : k ≤ st.length := by omega
      rcases HS.out.1.2 with ⟨e, h0⟩ | ⟨g, cap, cur, e, hg, hh, h1, h2, h3, h4⟩
      case' inl =>
        injection e with e1 e2 e3
        subst e1 e3
        obtain rfl : k = 0 := by omega
        obtain rfl : q = 0 := by omega
      case' inr =>
        injection e with e1 e2 e3
        subst e1 e3
        have q1 : k ≤ c3 := by omega
        have q2 : k + q ≤ c3 := by omega
        have q3 : (k : Int) ≤ (k : Int) + (q : Int) := by omega
      all_goals (
        refine sq_region (S := fun W' => K0 (Below wt.heap.size wt W')) [(0, false), (1, false), (2, false), (3, false), (4, true), (5, false), (6, true), (7, false)] (by kernel_rfl) (by kernel_rfl) (by exact inferInstance) (fun hS => ?_)
        repeat (first | (refine sq_n ?_ ?_ rfl ?_ ?_ ?_; rotate_left 2; (intro W hW; go_simp; first | done | with_reducible rfl); (simp only [List.setIfInBounds_toArray, List.set_cons_zero, List.set_cons_succ]; try rfl)) | (refine sq_g ?_ ?_ rfl rfl rfl ?_ ?_ ?_; rotate_left 2; (intro W hW; go_simp; first | done | with_reducible rfl); (simp only [List.setIfInBounds_toArray, List.set_cons_zero, List.set_cons_succ]; try rfl))))
      case' inl =>
        have hnil : svs = [] := List.eq_nil_of_length_eq_zero (by omega)
        refine sq_1n rfl (fun hS K hK => ?_)
        go_simp
        go_at_call 78
        refine (clone_nil _).mono ?_
        rintro e W3 ⟨rfl, rfl⟩
        have F1 := Aside0.mk (show W2.drew.ownsRow wt.heap.size 47 1 (.slice none 0 0) 0 (svs.drop 0) from by rw [hnil]; exact World.ownsRow_nil _ _ _ _)
        have k3 : K0 (Below wt.heap.size wt W2.drew) := hS
        refine hK.out _ _ k3 (fun hS => ?_)
        generalize W2.drew = W3 at *
        have hv2 : ∃ v2, Value.slice none 0 0 = v2 := ⟨_, rfl⟩
      case' inr =>
        obtain ⟨ad3, hif⟩ : ∃ ad3, (if c3 = k then some (⟨g, 0, none⟩ : Addr) else some ⟨g, k, none⟩) = some ad3 := by split <;> exact ⟨_, rfl⟩
        rw [hif]
        have hcells : ∀ (i : Nat) (u : Value), (svs.drop k)[i]? = some u → wt.cell? (ad3.add i) = some u := by
          intro i u hi
          have hlt5 := (List.getElem?_eq_some_iff.mp hi).1
          rw [List.length_drop] at hlt5
          rw [if_neg (by omega)] at hif
          cases hif
          rw [List.getElem?_drop] at hi
          obtain ⟨g', e', hcl, -⟩ := own_cell (own_move HS.out.1 (fun b hb => HMV.out b (HS.out.1.lt b hb).2)) hi
          cases e'
          rw [show (⟨g, k, none⟩ : Addr).add i = ⟨g, k + i, none⟩ from by simp [Addr.add]]
          exact hcl
        have hones : ∀ u ∈ svs.drop k, u.oneCell' = true := fun u hu => RepTs_one _ _ (OrdTs_rep _ _ _ _ HS.out.2) u (List.mem_of_mem_drop hu)
        refine sq_1n rfl (fun hS K hK => ?_)
        go_simp
        go_at_call 78
        refine (clone_call ad3 q (c3 - k) (svs.drop k) _ (by rw [List.length_drop]; omega) (fun i u hi => clk (hcells i u hi) _) hones (by omega)).mono ?_
        rintro e W3 ⟨v2, rfl, ho3, hb3⟩
        obtain ⟨A4, m4, c4, rfl⟩ := own_sl ho3
        have k3 : K0 (Below wt.heap.size wt W3) := ⟨hS.out.trans (hb3.mono hS.out.size)⟩
        have F1 := Aside0.mk (own_lower ho3 hS.out.size)
        refine hK.out _ _ k3 (fun hS => ?_)
        clear ho3 hb3 hcells hones
      all_goals (
        repeat (first | (refine sq_n ?_ ?_ rfl ?_ ?_ ?_; rotate_left 2; (intro W hW; go_simp; first | done | with_reducible rfl); (simp only [List.setIfInBounds_toArray, List.set_cons_zero, List.set_cons_succ]; try rfl)) | (refine sq_g ?_ ?_ rfl rfl rfl ?_ ?_ ?_; rotate_left 2; (intro W hW; go_simp; first | done | with_reducible rfl); (simp only [List.setIfInBounds_toArray, List.set_cons_zero, List.set_cons_succ]; try rfl)))
        refine sq_1n rfl (fun hS K2 hK2 => ?_)
        go_wp2_with fail
        refine hK2.out _ _ inferInstance (fun hS => ?_)
        repeat (first | (refine sq_n ?_ ?_ rfl ?_ ?_ ?_; rotate_left 2; (intro W hW; go_simp; first | done | with_reducible rfl); (simp only [List.setIfInBounds_toArray, List.set_cons_zero, List.set_cons_succ]; try rfl)) | (refine sq_g ?_ ?_ rfl rfl rfl ?_ ?_ ?_; rotate_left 2; (intro W hW; go_simp; first | done | with_reducible rfl); (simp only [List.setIfInBounds_toArray, List.set_cons_zero, List.set_cons_succ]; try rfl)))
        refine sq_done (fun hS => ?_))
      case' inl =>
        have HF := Aside0.mk (stko_node x HS.out HMV.out (by omega) (by have := HWT.out.size; omega) k3.out F1.out (by simp [hnil]))
        have HCUT := Aside0.mk (fun (W : World) (hW : W.ownsRow w.heap.size 47 1 (Value.slice none st.length 0) svs.length svs) => (by rw [hnil]; exact World.ownsRow_nil _ _ _ _ : W.ownsRow w.heap.size 47 1 (Value.slice none 0 0) 0 (svs.take 0)))
      case' inr =>
        have HF := Aside0.mk (stko_node x HS.out HMV.out (by omega) (by have := HWT.out.size; omega) k3.out F1.out (by rw [List.length_drop]; omega))
        have HCUT := Aside0.mk (fun (W : World) (hW : W.ownsRow w.heap.size 47 1 (Value.slice (some ⟨g, 0, none⟩) st.length c3) svs.length svs) => own_cut hW (show k ≤ svs.length by omega))
      all_goals (
        unfold nodeV at HF)
      case' inl =>
        generalize W3.alloc (.cells #[.int .i64 x.f0, .string x.f1, .bool x.f2, .string x.f3, .int .u64 x.f4, .int .u64 x.f5, .int .i64 x.f6, .slice none 0 0] 65) = W4 at *
      case' inr =>
        generalize W3.alloc (.cells #[.int .i64 x.f0, .string x.f1, .bool x.f2, .string x.f3, .int .u64 x.f4, .int .u64 x.f5, .int .i64 x.f6, .slice A4 m4 c4] 65) = W4 at *
      all_goals (
        generalize hptr : W3.heap.size = ptr at *
        have HO4 := Aside0.mk (HCUT.out _ (HF.out.2.2.1.alloc (.cells #[.pointer (some ⟨ptr, 0, none⟩)] 47)))
        have hc1 : ∀ i u, ([.pointer (some ⟨ptr, 0, none⟩)] : List Value)[i]? = some u → (W4.alloc (.cells #[.pointer (some ⟨ptr, 0, none⟩)] 47)).cell? ((⟨W4.heap.size, 0, none⟩ : Addr).add i) = some u := by
          intro i u hi
          rcases i with _ | i
          · cases hi
            exact cell_of_row _ W4.heap.size 0 _ 47 _ (heap_alloc_new _ _)
          · simp at hi
        have HC1 := Aside0.mk hc1
        have HC2 := Aside0.mk (show ∀ u ∈ ([.pointer (some ⟨ptr, 0, none⟩)] : List Value), u.oneCell' = true from by simp [Value.oneCell'])
        have HC5 := Aside0.mk (show w.heap.size ≤ (W4.alloc (.cells #[.pointer (some ⟨ptr, 0, none⟩)] 47)).heap.size from by rw [sz_al]; have := HF.out.2.2.2.size; have := HWT.out.size; omega)
        clear hc1)
      case' inl =>
        have HC3 := Aside0.mk (show 0 + 1 ≤ maxLen from by simp only [maxLen]; omega)
        have HC4 := Aside0.mk (show (0 + 1) * 8 ≤ 140737488355328 from by omega)
        go_wp2_with (at_builtin; refine wpList_append_at rfl (.tmp 30) (.tmp 32) 57 rfl w.heap.size 47 i0 (.pointer none) 1 8 Try.underlying57 HI.out HZ.out.1 HZ.out.2.1 HZ.out.2.2 rfl (by decide) (.slice none 0 0) 0 (svs.take 0) rfl HO4.out ⟨W4.heap.size, 0, none⟩ 1 1 [.pointer (some ⟨ptr, 0, none⟩)] rfl rfl HC1.out HC2.out HC3.out HC4.out HC5.out ?_; intro v5 w5 hown hgr hloc; have HG := Aside0.mk (stko_push HF.out.1 HF.out.2.1 (fun b hb => hb) rfl hown hgr hloc); have HGR := Aside0.mk (grown_below2 (tr1 _).out hgr (fun b hb => by cases hb)); clear hown hgr hloc)
      case' inr =>
        have HC3 := Aside0.mk (show k + 1 ≤ maxLen from by simp only [maxLen]; omega)
        have HC4 := Aside0.mk (show (k + 1) * 8 ≤ 140737488355328 from by omega)
        go_wp2_with (at_builtin; refine wpList_append_at rfl (.tmp 30) (.tmp 32) 57 rfl w.heap.size 47 i0 (.pointer none) 1 8 Try.underlying57 HI.out HZ.out.1 HZ.out.2.1 HZ.out.2.2 rfl (by decide) (.slice (some ⟨g, 0, none⟩) k c3) k (svs.take k) rfl HO4.out ⟨W4.heap.size, 0, none⟩ 1 1 [.pointer (some ⟨ptr, 0, none⟩)] rfl rfl HC1.out HC2.out HC3.out HC4.out HC5.out ?_; intro v5 w5 hown hgr hloc; have HG := Aside0.mk (stko_push HF.out.1 HF.out.2.1 (fun b hb => hb) (by rw [List.length_take]; omega) hown hgr hloc); have HGR := Aside0.mk (grown_below2 (tr1 _).out hgr (fun b hb => by cases hb; exact hg)); clear hown hgr hloc)
      all_goals (
        go_roundw
        case' measure => simp only [intOf]; omega
        case' rel => exact ⟨j + 1, _, _, by omega, by rw [Int.natCast_add]; rfl, HGO2, HG, ⟨by rw [List.length_append, List.length_take]; simp only [List.length_cons, List.length_nil]; omega⟩, HGR⟩)
    · obtain rfl : j = ns.length := by omega
      have hgo := HGO.out
      rw [List.drop_length] at hgo
      simp only [treesOf] at hgo
      subst hgo
      by_cases h1 : st.length = 1
      · obtain ⟨t, rfl⟩ := List.length_eq_one_iff.mp h1
        have hrs := HS.out.2
        unfold OrdTs at hrs
        obtain ⟨mid, v, us, rfl, hrt, hus⟩ := hrs
        have hrt := OrdT_up hrt (OrdTs_le _ _ _ _ hus)
        obtain ⟨g, rfl, hcl, -⟩ := own_cell HS.out.1 (i := 0) (u := v) rfl
        simp only [List.length_cons, List.length_nil, Nat.zero_add] at *
        have HRT := Aside0.mk hrt
        clear hrt HS
        go_wp2
        go_ret
        exact ⟨v, rfl, OrdT_move (fun k hk hl => ⟨hk.1, rfl⟩) _ _ _ _ HRT.out, kk⟩
      · have d1 : ((st.length : Int) != 1) = true := by simp; omega
        go_wp2
        go_ret
        refine ⟨.pointer none, rfl, ?_, kk⟩
        unfold oneOrd
        split
        · rename_i t he
          have := Option.some.inj he
          subst this
          exact absurd rfl h1
        · rfl
end Go.Proofs.Ytpfehkkfakofaaa.Q

namespace Go.Proofs.Ytpfehkkfakofaaa.Q
open Go.RowKit Go.Proofs.YtpfehkkfakofaaaW.PrintWords Go.Proofs.YtpfehkkfakofaaaW.PrintLast Go.Proofs.YtpfehkkfakofaaaW.PrintMore
set_option linter.unusedVariables false
set_option linter.unusedSimpArgs false
def optO (o : Option Tr) (w : World) (B : Nat) (v : Value) : Prop :=
  match o with
  | some t => OrdT w (fun k => B ≤ k) B w.heap.size t v
  | none => v = .pointer none
set_option maxHeartbeats 4000000 in
set_option maxRecDepth 100000 in
theorem valid_ord (A : Option Addr) (c : Nat) (ns : List S63) (w : World) (hr : Kd.C k63 w A ns.length ns) (hc : ns.length ≤ c) :
    Calls Try.prog 21 #[.agg #[.slice A ns.length c]] w fun e w' => ∃ v, e = .returned v ∧ optO (validT ns) w' w.heap.size v ∧ Below w.heap.size w w' := by
  have kr : K0 (Below w.heap.size w w) := ⟨Below.refl _ _⟩
  obtain ⟨r, hR⟩ : ∃ r, validT ns = r := ⟨_, rfl⟩
  rw [hR]
  unfold validT at hR
  have HR := Aside0.mk hr
  have HC := Aside0.mk hc
  clear hr hc
  by_cases hl : (ns.length : Int) > 200
  · rw [if_pos hl] at hR
    subst hR
    have e1 : decide ((200 : Int) < (ns.length : Int)) = true := decide_eq_true hl
    go_enter Try.func21, Try.ntmps21
    go_wp2
    go_ret
    exact ⟨.pointer none, rfl, rfl, kk⟩
  rw [if_neg hl] at hR
  have e1 : decide ((200 : Int) < (ns.length : Int)) = false := decide_eq_false hl
  have hB : Below w.heap.size w (w.alloc (.cells #[.slice A ns.length c] 28)) := kk
  have x0 : (w.alloc (.cells #[.slice A ns.length c] 28)).cell? ⟨w.heap.size, 0, none⟩ = some (.slice A ns.length c) := cell_of_row _ w.heap.size 0 _ 28 _ (heap_alloc_new w _)
  have hr2 := Kd.C_alloc HR.out (.cells #[.slice A ns.length c] 28)
  go_enter Try.func21, Try.ntmps21
  go_wp2_with fail
  generalize w.alloc (.cells #[.slice A ns.length c] 28) = wb at *
  have HB := Aside0.mk hB
  have HR2 := Aside0.mk hr2
  have y0 := clk x0
  clear hB x0 hr2 kr
  have tr1 : ∀ W [K0 (Below wb.heap.size wb W)], K0 (Below w.heap.size w W) := fun W k => ⟨HB.out.trans (k.out.mono HB.out.size)⟩
  refine (contains_call A c ns wb HR2.out HC.out (by omega)).mono ?_
  rintro e W2 ⟨rfl, hb⟩
  have k2 : K0 (Below wb.heap.size wb W2) := ⟨hb⟩
  cases ha : ns.all nodeOk
  · rw [ha, if_pos rfl] at hR
    subst hR
    go_wp2
    go_ret
    exact ⟨.pointer none, rfl, rfl, kk⟩
  rw [ha, if_neg (by decide)] at hR
  have HQ := Aside0.mk hR
  clear hb hR
  go_wp2_with fail
  refine (treeOf_ord A c ns W2 (Kd.C_below HR2.out k2.out) HC.out (by omega)).mono ?_
  rintro e W3 ⟨v, rfl, ht, hb⟩
  have k3 : K0 (Below wb.heap.size wb W3) := ⟨k2.out.trans (hb.mono k2.out.size)⟩
  have hb2 := k2.out.size
  have hb1 := HB.out.size
  have hq := HQ.out
  clear hb
  have key : (∃ t, treesOf ns [] = some [t]) ∨ (v = .pointer none ∧ r = none) := by
    by_cases h1 : ∃ t, treesOf ns [] = some [t]
    · exact .inl h1
    · right
      constructor
      · unfold oneOrd at ht
        split at ht
        · rename_i t he
          exact absurd ⟨t, he⟩ h1
        · exact ht
      · rw [← hq]
        split
        · rename_i t he
          exact absurd ⟨t, he⟩ h1
        · rfl
  rcases key with ⟨t, hto⟩ | ⟨rfl, rfl⟩
  · have hw := (treesOf_flat ns [] [t] hto trivial).2.1
    have hf := (treesOf_flat ns [] [t] hto trivial).1
    have hfl : (flatT t).length = ns.length := by
      have : flatT t = ns := by simpa [flatTs] using hf
      rw [this]
    rw [hto] at ht hq
    have ho : OrdT W3 (fun k => W2.heap.size ≤ k) W2.heap.size W3.heap.size t v := ht
    have ht := OrdT_rep _ _ _ _ ho
    obtain ⟨a, rfl⟩ : ∃ a, v = .pointer (some ⟨a, 0, none⟩) := by
      cases t; unfold RepT at ht; obtain ⟨a, u, vs, rfl, -⟩ := ht; exact ⟨a, rfl⟩
    have HT := Aside0.mk ho
    have HN := Aside0.mk (nest_call ns.length t (.pointer (some ⟨a, 0, none⟩)) _ W3 (by omega) (by omega) hw ht)
    have hnn := nestT_le t
    clear ht ho hf hfl hw
    go_wp2_with fail
    refine HN.out.mono ?_
    rintro e W4 ⟨rfl, hb⟩
    have k4 : K0 (Below wb.heap.size wb W4) := ⟨k3.out.trans (hb.mono k3.out.size)⟩
    have hbs := hb.size
    have hfin : OrdT W4 (fun k => w.heap.size ≤ k) w.heap.size W4.heap.size t (.pointer (some ⟨a, 0, none⟩)) := OrdT_up (OrdT_down _ _ _ _ _ (OrdT_move (fun k hk hl => ⟨by omega, hb.block k hl⟩) _ _ _ _ HT.out) (by omega)) hbs
    have HF := Aside0.mk hfin
    clear hb hfin HN HT
    have hq : (if nestT t > 20 then none else some t) = r := hq
    generalize nestT t = q at *
    by_cases h20 : q > 20
    · rw [if_pos h20] at hq
      subst hq
      have d1 : decide ((20 : Int) < q) = true := decide_eq_true h20
      go_wp2
      go_ret
      exact ⟨.pointer none, rfl, rfl, kk⟩
    · rw [if_neg h20] at hq
      subst hq
      have d1 : decide ((20 : Int) < q) = false := decide_eq_false h20
      go_wp2
      go_ret
      exact ⟨_, rfl, HF.out, kk⟩
  · clear ht hq
    go_wp2
    go_ret
    exact ⟨.pointer none, rfl, rfl, kk⟩
end Go.Proofs.Ytpfehkkfakofaaa.Q

namespace Go.Proofs.Ytpfehkkfakofaaa.Q
open Go.RowKit Go.Proofs.YtpfehkkfakofaaaW.PrintWords Go.Proofs.YtpfehkkfakofaaaW.PrintLast Go.Proofs.YtpfehkkfakofaaaW.PrintMore
set_option linter.unusedVariables false
set_option linter.unusedSimpArgs false
/-- What Compile answers: the blocks of the ifs, the main block's instructions and counters. -/
noncomputable def codeOf (ns : List S63) : List S37 × List S92 × Int :=
  match validT ns with
  | none => ([], [], 0)
  | some t => (condT t [] false 0, putIs ([], 0) (genT t false 0))
theorem validT_yes {ns : List S63} {t : Tr} (h : validT ns = some t) : wfT t ∧ flatT t = ns ∧ ns.length ≤ 200 := by
  unfold validT at h
  split at h
  · cases h
  · split at h
    · cases h
    · rename_i hl hall
      split at h
      · rename_i u hu
        split at h
        · cases h
        · cases h
          have hf := treesOf_flat ns [] [t] hu trivial
          exact ⟨hf.2.1, by simpa [flatTs] using hf.1, by omega⟩
      · cases h
set_option maxHeartbeats 4000000 in
set_option maxRecDepth 100000 in
theorem compile_call (A : Option Addr) (c : Nat) (ns : List S63) (w : World) (hr : Kd.C k63 w A ns.length ns) (hc : ns.length ≤ c) :
    Calls Try.prog 13 #[.agg #[.slice A ns.length c]] w fun e w' => ∃ v0 v1, e = .returned (.agg #[v0, v1, .int .i64 (codeOf ns).2.2]) ∧ Kd.S k37 37 w' w.heap.size (fun k => some k ≠ v1.ownBlock) v0 (codeOf ns).1 ∧ Kd.R k92 92 w' w.heap.size (fun _ => True) v1 (codeOf ns).2.1 ∧ Below w.heap.size w w' := by
  have kr : K0 (Below w.heap.size w w) := ⟨Below.refl _ _⟩
  have hmm : ∀ w : World, (Instr.makeMap 55 none).run Try.prog w = .ok (.map (some w.heap.size)) (w.alloc (.map #[] 0)) := fun _ => rfl
  have hmf : ∀ (fn : Fn) (first cap : Array Value) (w : World), (Instr.makeFunc fn first cap).run Try.prog w = .ok (.func fn first cap) w := fun _ _ _ _ => rfl
  obtain ⟨wb, hwb⟩ : ∃ wb, wb = (w.alloc (.cells #[.slice A ns.length c] 28)).alloc (.cells #[.slice none 0 0, .slice none 0 0, .int .i64 0] 39) := ⟨_, rfl⟩
  have hb0 : Below w.heap.size w wb := hwb ▸ kk
  have hsz : wb.heap.size = w.heap.size + 2 := by rw [hwb, sz_al, sz_al]
  have h1 : wb.heap[w.heap.size]? = some (.cells #[.slice A ns.length c] 28 (0, 0)) := hwb ▸ blk_alloc (heap_alloc_new w _) _
  have h2 : wb.heap[w.heap.size + 1]? = some (.cells #[.slice none 0 0, .slice none 0 0, .int .i64 0] 39 (0, 0)) := by
    have := heap_alloc_new (w.alloc (.cells #[.slice A ns.length c] 28)) (.cells #[.slice none 0 0, .slice none 0 0, .int .i64 0] 39)
    rw [sz_al] at this
    rw [hwb]; exact this
  have hcw := Kd.C_below hr hb0
  have c1 : wb.cell? ⟨w.heap.size, 0, none⟩ = some (.slice A ns.length c) := (blk_cell h1 0).trans rfl
  have H := Aside0.mk (And.intro hb0 (And.intro hsz (And.intro h2 hcw)))
  have HC := Aside0.mk hc
  clear hb0 hsz h1 h2 hcw hr hc
  go_enter Try.func13, Try.ntmps13
  go_wp2_with fail
  rw [← hwb]
  clear hwb
  refine (valid_ord A c ns wb H.out.2.2.2 HC.out).mono ?_
  rintro ex W1 ⟨v, rfl, hv, hb⟩
  have hb1 : Below w.heap.size w W1 := H.out.1.trans (hb.mono (by have := H.out.2.1; omega))
  have h21 := (hb.block (w.heap.size + 1) (by have := H.out.2.1; omega)).trans H.out.2.2.1
  have H1 := Aside0.mk (And.intro hb (And.intro hb1 h21))
  clear hb hb1 h21 c1 kr
  cases ht : validT ns with
  | none =>
    have hcode : codeOf ns = ([], [], 0) := by unfold codeOf; rw [ht]
    rw [ht] at hv
    obtain rfl : v = .pointer none := hv
    have h21 := H1.out.2.2
    have r0 : W1.cell? ⟨w.heap.size + 1, 0, none⟩ = some (.slice none 0 0) := (blk_cell h21 0).trans rfl
    have r1 : W1.cell? ⟨w.heap.size + 1, 1, none⟩ = some (.slice none 0 0) := (blk_cell h21 1).trans rfl
    have r2 : W1.cell? ⟨w.heap.size + 1, 2, none⟩ = some (.int .i64 0) := (blk_cell h21 2).trans rfl
    have f0 := blk_frozen h21 0
    have f1 := blk_frozen h21 1
    have f2 := blk_frozen h21 2
    go_wp2_with fail
    have b1 := blk_put h21 0 (.slice none 0 0) (cs' := #[.slice none 0 0, .slice none 0 0, .int .i64 0]) rfl
    have b2 := blk_put b1 1 (.slice none 0 0) (cs' := #[.slice none 0 0, .slice none 0 0, .int .i64 0]) rfl
    have b3 := blk_put b2 2 (.int .i64 0) (cs' := #[.slice none 0 0, .slice none 0 0, .int .i64 0]) rfl
    rw [hcode]
    refine bodyPost_ret (results_cell_row rfl _ _ (w.heap.size + 1) 39 _ (0, 0) _ rfl b3 Try.underlying39 rfl (by kernel_rfl)) rfl ⟨_, _, rfl, Kd.S_nil _ _ _ _ _, Kd.R_nil _ _ _ _ _, ((H1.out.2.1.setCell (by show w.heap.size ≤ w.heap.size + 1; omega) _).setCell (by show w.heap.size ≤ w.heap.size + 1; omega) _).setCell (by show w.heap.size ≤ w.heap.size + 1; omega) _⟩
  | some t =>
    rw [ht] at hv
    have hcode : codeOf ns = (condT t [] false 0, putIs ([], 0) (genT t false 0)) := by unfold codeOf; rw [ht]
    obtain ⟨a, rfl⟩ : ∃ a, v = .pointer (some ⟨a, 0, none⟩) := by
      have hv' : OrdT W1 (fun k => wb.heap.size ≤ k) wb.heap.size W1.heap.size t v := hv
      cases t
      unfold OrdT at hv'
      obtain ⟨a, u, vs, h1, _⟩ := hv'
      exact ⟨a, h1⟩
    go_wp2_with fail
    obtain ⟨W2, hW2⟩ : ∃ W2, W2 = (((W1.alloc (.cells #[.slice none 0 0, .slice none 0 0, .int .i64 0] 39)).alloc (.map #[] 0)).alloc (.cells #[.map (some (W1.heap.size + 1))] 55)) := ⟨_, rfl⟩
    have ho : W2.heap[W1.heap.size]? = some (.cells #[.slice none 0 0, .slice none 0 0, .int .i64 0] 39 (0, 0)) := hW2 ▸ blk_alloc (blk_alloc (heap_alloc_new W1 _) _) _
    have hm : W2.heap[W1.heap.size + 1]? = some (.map #[] 0) := by
      have := heap_alloc_new (W1.alloc (.cells #[.slice none 0 0, .slice none 0 0, .int .i64 0] 39)) (.map #[] 0)
      rw [sz_al] at this
      rw [hW2]; exact blk_alloc this _
    have hcm : W2.heap[W1.heap.size + 1 + 1]? = some (.cells #[.map (some (W1.heap.size + 1))] 55 (0, 0)) := hW2 ▸ new2 W1 _ _ _
    have hb2 : Below W1.heap.size W1 W2 := hW2 ▸ Below.alloc (Below.alloc (Below.alloc (Below.refl _ _) (Nat.le_refl _) _) (by rw [sz_al]; omega) _) (by rw [sz_al, sz_al]; omega) _
    rw [← hW2]
    obtain ⟨o, hoo⟩ : ∃ o, o = W1.heap.size := ⟨_, rfl⟩
    obtain ⟨hw, hf, hl⟩ := validT_yes ht
    have hOrd : OrdT W2 (fun k => k < W1.heap.size) wb.heap.size W1.heap.size t (.pointer (some ⟨a, 0, none⟩)) := OrdT_move (fun k _ hk => ⟨hk, hb2.block k hk⟩) _ _ _ _ (show OrdT W1 (fun k => wb.heap.size ≤ k) wb.heap.size W1.heap.size t _ from hv)
    have hS : NuS W2 W1.heap.size (W1.heap.size + 1) (W1.heap.size + 1 + 1) W1.heap.size [] [] (.slice none 0 0) :=
      ⟨⟨[], 0, hm, rfl, by simp⟩, hcm, ho, Kd.S_nil _ _ _ _ _, by omega, by omega, Nat.le_refl _, by omega, by omega, by omega⟩
    have hlen : (flatT t).length ≤ 200 := by rw [hf]; exact hl
    refine (number_call t hw (.pointer (some ⟨a, 0, none⟩)) wb.heap.size W1.heap.size [] [] (.slice none 0 0) [] [] (.slice none 0 0) W1.heap.size (W1.heap.size + 1) (W1.heap.size + 1 + 1) W1.heap.size W2 hOrd (by simp) rfl ⟨World.ownsRow_nil W2 0 _ 1, by simp [Value.ownBlock]⟩ hS (by simp only [lenB]; omega) (by simp only [List.length_nil]; omega) (by simp only [List.length_nil]; omega)).mono ?_
    rintro ex W3 ⟨fs, ov, rfl, l3, k3, n3, s3, f3⟩
    have n3 : NumT W3 (fun k => k < W1.heap.size) fs t (.pointer (some ⟨a, 0, none⟩)) 0 := n3
    have s3 : NuS W3 W1.heap.size (W1.heap.size + 1) (W1.heap.size + 1 + 1) W1.heap.size fs (condT t [] false 0) ov := s3
    have hb13 := hb2.trans (NuS_below hS f3)
    have c3 : W3.cell? ⟨W1.heap.size + 1 + 1, 0, none⟩ = some (.map (some (W1.heap.size + 1))) := (blk_cell s3.2.1 0).trans rfl
    obtain ⟨We, hWe⟩ : ∃ We, We = W3.alloc (.cells #[.slice none 0 0, .int .i64 0, .map (some (W1.heap.size + 1))] 59) := ⟨_, rfl⟩
    have hE : EmW We W3.heap.size W3.heap.size ([], 0) (.map (some (W1.heap.size + 1))) (.slice none 0 0) := ⟨hWe ▸ heap_alloc_new W3 _, Kd.R_nil ..⟩
    have hb3e : Below W3.heap.size W3 We := hWe ▸ Below.alloc (Below.refl _ _) (Nat.le_refl _) _
    have H3 := Aside0.mk (And.intro hw (And.intro hlen (And.intro k3 (And.intro n3 (And.intro s3 (And.intro hb13 (And.intro hE hb3e)))))))
    clear ho hm hcm hb2 hW2 hoo hf hl hOrd hS hlen l3 k3 n3 s3 f3 hb13 hE hb3e hw hv hmm hmf
    go_wp2_with fail
    rw [← hWe]
    clear hWe c3
    obtain ⟨hw, hlen, k3, n3, s3, hb13, hE, hb3e⟩ := H3.out
    have hBo := lt_of_some s3.2.2.1
    refine (gen_call t hw (.pointer (some ⟨a, 0, none⟩)) false 0 (fun k => k < W1.heap.size) fs W3.heap.size W3.heap.size (W1.heap.size + 1) ([], 0) (.slice none 0 0) We (NumT_move (fun k hk hl => ⟨hk, hb3e.block k hl⟩) _ _ _ n3) hE (MapW_move s3.1 (MapW_lt s3.1) (fun p hp => by have := k3 p hp; omega) hb3e) (Nat.le_refl _) (fun k hk => by omega) (MapW_lt s3.1) (fun p hp => by have := k3 p hp; omega) (by simp only [List.length_nil]; omega) (Int.le_refl _) (by simp only; omega) (Int.le_refl _) (by omega)).mono ?_
    obtain ⟨⟨l, cn⟩, hlc⟩ : ∃ b, putIs ([], 0) (genT t false 0) = b := ⟨_, rfl⟩
    rw [hlc] at hcode ⊢
    rintro ex W4 ⟨rv, rfl, e4, f4⟩
    have hb4 := hb3e.trans (EmW_below hE f4 (Nat.le_refl _))
    obtain ⟨A3, q3, rfl⟩ := Kd.R_slice e4.2
    obtain ⟨Ao, qo, rfl⟩ := Kd.S_slice s3.2.2.2.1
    have r21 := (((hb13.trans (hb4.mono hb13.size)).block (w.heap.size + 1) (by have := H.out.2.1; have := H1.out.1.size; omega))).trans H1.out.2.2
    have o4 := (hb4.block W1.heap.size hBo).trans s3.2.2.1
    have o0 : W4.cell? ⟨W1.heap.size, 0, none⟩ = some (.slice Ao (condT t [] false 0).length qo) := (blk_cell o4 0).trans rfl
    have o1 : W4.cell? ⟨W1.heap.size, 1, none⟩ = some (.slice none 0 0) := (blk_cell o4 1).trans rfl
    have o2 : W4.cell? ⟨W1.heap.size, 2, none⟩ = some (.int .i64 0) := (blk_cell o4 2).trans rfl
    have of1 := blk_frozen o4 1
    have of2 := blk_frozen o4 2
    have e0 : W4.cell? ⟨W3.heap.size, 0, none⟩ = some (.slice A3 l.length q3) := (blk_cell e4.1 0).trans rfl
    have e1 : W4.cell? ⟨W3.heap.size, 1, none⟩ = some (.int .i64 cn) := (blk_cell e4.1 1).trans rfl
    have o5 := blk_put (blk_put o4 1 (.slice A3 l.length q3) (cs' := #[.slice Ao (condT t [] false 0).length qo, .slice A3 l.length q3, .int .i64 0]) rfl) 2 (.int .i64 cn) (cs' := #[.slice Ao (condT t [] false 0).length qo, .slice A3 l.length q3, .int .i64 cn]) rfl
    have u0 : ((W4.setCell ⟨W1.heap.size, 1, none⟩ (.slice A3 l.length q3)).setCell ⟨W1.heap.size, 2, none⟩ (.int .i64 cn)).cell? ⟨W1.heap.size, 0, none⟩ = some (.slice Ao (condT t [] false 0).length qo) := (blk_cell o5 0).trans rfl
    have u1 : ((W4.setCell ⟨W1.heap.size, 1, none⟩ (.slice A3 l.length q3)).setCell ⟨W1.heap.size, 2, none⟩ (.int .i64 cn)).cell? ⟨W1.heap.size, 1, none⟩ = some (.slice A3 l.length q3) := (blk_cell o5 1).trans rfl
    have u2 : ((W4.setCell ⟨W1.heap.size, 1, none⟩ (.slice A3 l.length q3)).setCell ⟨W1.heap.size, 2, none⟩ (.int .i64 cn)).cell? ⟨W1.heap.size, 2, none⟩ = some (.int .i64 cn) := (blk_cell o5 2).trans rfl
    have hne : w.heap.size + 1 ≠ W1.heap.size := by have := H.out.2.1; have := H1.out.1.size; omega
    have r25 := blk_far (p := ⟨W1.heap.size, 2, none⟩) (blk_far (p := ⟨W1.heap.size, 1, none⟩) r21 hne (.slice A3 l.length q3)) hne (.int .i64 cn)
    have r0 : ((W4.setCell ⟨W1.heap.size, 1, none⟩ (.slice A3 l.length q3)).setCell ⟨W1.heap.size, 2, none⟩ (.int .i64 cn)).cell? ⟨w.heap.size + 1, 0, none⟩ = some (.slice none 0 0) := (blk_cell r25 0).trans rfl
    have r1 : ((W4.setCell ⟨W1.heap.size, 1, none⟩ (.slice A3 l.length q3)).setCell ⟨W1.heap.size, 2, none⟩ (.int .i64 cn)).cell? ⟨w.heap.size + 1, 1, none⟩ = some (.slice none 0 0) := (blk_cell r25 1).trans rfl
    have r2 : ((W4.setCell ⟨W1.heap.size, 1, none⟩ (.slice A3 l.length q3)).setCell ⟨W1.heap.size, 2, none⟩ (.int .i64 cn)).cell? ⟨w.heap.size + 1, 2, none⟩ = some (.int .i64 0) := (blk_cell r25 2).trans rfl
    have rf0 := blk_frozen r25 0
    have rf1 := blk_frozen r25 1
    have rf2 := blk_frozen r25 2
    have HF := Aside0.mk (And.intro r25 (And.intro e4 (And.intro hb4 (And.intro hcode hne))))
    clear hw hlen k3 n3 s3 hb13 hE hb3e e4 f4 hb4 r21 o4 o5 r25 hcode hlc hne hBo
    go_wp2_with fail
    obtain ⟨hw, hlen, k3, n3, s3, hb13, hE, hb3e⟩ := H3.out
    obtain ⟨r25, e4, hb4, hcode, hne⟩ := HF.out
    have b1 := blk_put r25 0 (.slice Ao (condT t [] false 0).length qo) (cs' := #[.slice Ao (condT t [] false 0).length qo, .slice none 0 0, .int .i64 0]) rfl
    have b2 := blk_put b1 1 (.slice A3 l.length q3) (cs' := #[.slice Ao (condT t [] false 0).length qo, .slice A3 l.length q3, .int .i64 0]) rfl
    have b3 := blk_put b2 2 (.int .i64 cn) (cs' := #[.slice Ao (condT t [] false 0).length qo, .slice A3 l.length q3, .int .i64 cn]) rfl
    have hs1 := H1.out.1.size
    have hsw := H.out.2.1
    have hs4 := hb4.size
    have hs3 := hb13.size
    have hB14 : Below W1.heap.size W1 W4 := hb13.trans (hb4.mono hb13.size)
    have hBw : Below w.heap.size w W4 := H1.out.2.1.trans (hB14.mono (by omega))
    rw [hcode]
    refine bodyPost_ret (results_cell_row rfl _ _ (w.heap.size + 1) 39 _ (0, 0) _ rfl b3 Try.underlying39 rfl (by kernel_rfl)) rfl ⟨_, _, rfl, ?_, ?_, ?_⟩
    · have q1 := Kd.S_below (Kd.S_bound s3.2.2.2.1) hb4
      have q2 := Kd.S_mono (ok' := fun k => (k ≠ W1.heap.size ∧ k ≠ w.heap.size + 1) ∧ some k ≠ (Value.slice A3 l.length q3).ownBlock) q1 (fun k hk => ⟨⟨hk.1.2.2, by have := hk.2.1; omega⟩, fun e => by have h5 := Kd.R_base e4.2 k e.symm; have := hk.2.2.1; omega⟩)
      have q3 := Kd.S_lower q2 (show w.heap.size ≤ W1.heap.size by omega)
      exact Kd.S_mono (Kd.S_far (p := ⟨w.heap.size + 1, 2, none⟩) (Kd.S_far (p := ⟨w.heap.size + 1, 1, none⟩) (Kd.S_far (p := ⟨w.heap.size + 1, 0, none⟩) (Kd.S_far (p := ⟨W1.heap.size, 2, none⟩) (Kd.S_far (p := ⟨W1.heap.size, 1, none⟩) q3 (fun k hk => hk.1.1) _) (fun k hk => hk.1.1) _) (fun k hk => hk.1.2) _) (fun k hk => hk.1.2) _) (fun k hk => hk.1.2) _) (fun k hk => hk.2)
    · have q1 := Kd.R_mono (ok' := fun k => k ≠ W1.heap.size ∧ k ≠ w.heap.size + 1) (Kd.R_bound e4.2) (fun k hk => by have h5 := hk.2.1; have h6 := lt_of_some s3.2.2.1; constructor <;> omega)
      have q3 := Kd.R_lower q1 (show w.heap.size ≤ W3.heap.size by omega)
      exact Kd.R_mono (Kd.R_far (p := ⟨w.heap.size + 1, 2, none⟩) (Kd.R_far (p := ⟨w.heap.size + 1, 1, none⟩) (Kd.R_far (p := ⟨w.heap.size + 1, 0, none⟩) (Kd.R_far (p := ⟨W1.heap.size, 2, none⟩) (Kd.R_far (p := ⟨W1.heap.size, 1, none⟩) q3 (fun k hk => hk.1) _) (fun k hk => hk.1) _) (fun k hk => hk.2) _) (fun k hk => hk.2) _) (fun k hk => hk.2) _) (fun k hk => trivial)
    · exact ((((hBw.setCell (p := ⟨W1.heap.size, 1, none⟩) (by show w.heap.size ≤ W1.heap.size; omega) _).setCell (p := ⟨W1.heap.size, 2, none⟩) (by show w.heap.size ≤ W1.heap.size; omega) _).setCell (p := ⟨w.heap.size + 1, 0, none⟩) (by show w.heap.size ≤ w.heap.size + 1; omega) _).setCell (p := ⟨w.heap.size + 1, 1, none⟩) (by show w.heap.size ≤ w.heap.size + 1; omega) _).setCell (p := ⟨w.heap.size + 1, 2, none⟩) (by show w.heap.size ≤ w.heap.size + 1; omega) _
end Go.Proofs.Ytpfehkkfakofaaa.Q

namespace Go.Proofs.Ytpfehkkfakofaaa.Q
open Go.RowKit Go.Proofs.YtpfehkkfakofaaaW.PrintWords Go.Proofs.YtpfehkkfakofaaaW.PrintLast Go.Proofs.YtpfehkkfakofaaaW.PrintMore
set_option linter.unusedVariables false
set_option linter.unusedSimpArgs false

/-! ### laws_markText: function 57 -/
def laws_markText.l0 : Nat → Int → ByteArray → Option (ByteArray)
 | 0, _, _ => none
 | k + 1, x0, x3 => if x0 > 0 then ((some (([(wrap64 (48 + (Int.tmod x0 10))) % 256] : List Int) : List Int)).bind fun y135 => (if (strOfNums y135).size + x3.size ≤ 9223372036854775807 then (laws_markText.l0 k (wrap64 (Int.tdiv x0 10)) ((strOfNums y135) ++ x3)) else (none))) else (if 1 + x3.size ≤ 9223372036854775807 then (some ((⟨#[109]⟩ : ByteArray) ++ x3)) else (none))
def laws_markText.f (k : Nat) (a0 : Int) : Option (ByteArray) := if a0 ≤ 0 then (some (⟨#[109, 48]⟩ : ByteArray)) else (laws_markText.l0 k a0 (⟨#[]⟩ : ByteArray))
set_option maxHeartbeats 8000000 in
set_option maxRecDepth 100000 in
theorem laws_markText.calls (k : Nat) (a0 : Int) (r : ByteArray) (w : World) (h : laws_markText.f k a0 = some r) :
  Calls Try.prog 57 #[.int .i64 a0] w fun e w' => e = .returned (.string r) ∧ Below w.heap.size w w' := by
 have HB := Aside0.mk (Below.refl w.heap.size w)
 have H : (if a0 ≤ 0 then (some (⟨#[109, 48]⟩ : ByteArray)) else (laws_markText.l0 k a0 (⟨#[]⟩ : ByteArray))) = some r := h
 clear h
 by_cases c2 : a0 ≤ 0
 ·rw [if_pos c2] at H
  have c2b0 : decide (a0 ≤ 0) = true := decide_eq_true c2
  clear c2
  obtain rfl := Option.some.inj H
  go_enter Try.func57, Try.ntmps57
  go_wp2
  go_ret
  exact ⟨by first | rfl | (simp [errW_none, errW_some] <;> rfl) | (simp [*, errW_none, errW_some] <;> rfl), bw⟩
 ·rw [if_neg c2] at H
  have c2b0 : decide (a0 ≤ 0) = false := decide_eq_false c2
  clear c2
  have H' := Aside0.mk H
  clear H
  go_enter Try.func57, Try.ntmps57
  go_wp2
  go_loopg [0, 3] k (fun kq v0 v3 w' => ∃ (x0_1 : Int) (x3_1 : ByteArray), v0 = .int .i64 x0_1 ∧ v3 = .string x3_1 ∧ Aside0 (laws_markText.l0 kq x0_1 x3_1 = some r) ∧ Aside0 (kq ≤ k) ∧ Aside0 (Below w.heap.size w w'))
  case atStart => exact ⟨(a0), ((⟨#[]⟩ : ByteArray)), (by first | rfl | (simp; done) | (simp [*]; done)), (by first | rfl | (simp; done) | (simp [*]; done)), H', ⟨Nat.le_refl _⟩, ⟨bw⟩⟩
  case round =>
   clear H'
   try clear c2
   try clear c2b0
   try clear p2
   obtain ⟨x0_1, x3_1, rfl, rfl, HA, HK1, HB⟩ := hrel
   cases gk with
   | zero => exact absurd HA.out (by simp [laws_markText.l0])
   | succ k1 =>
    have H := HA.out
    clear HA
    simp only [laws_markText.l0] at H
    by_cases c3 : x0_1 > 0
    ·rw [if_pos c3] at H
     have c3b0 : decide (0 < x0_1) = true := decide_eq_true c3
     clear c3
     obtain ⟨y135, hy135⟩ : ∃ y_ : List Int, y_ = (([(wrap64 (48 + (Int.tmod x0_1 10))) % 256] : List Int)) := ⟨_, rfl⟩
     replace H : (if (strOfNums y135).size + x3_1.size ≤ 9223372036854775807 then (laws_markText.l0 k1 (wrap64 (Int.tdiv x0_1 10)) ((strOfNums y135) ++ x3_1)) else (none)) = some r := by first | (rw [hy135]; with_reducible exact H) | (have H2_ := (Option.bind_some _ _).symm.trans H; rw [hy135]; with_reducible exact H2_) | (have H2_ := (Option.bind_some _ _).symm.trans H; with_reducible exact H2_) | with_reducible exact H | (rw [hy135]; exact H) | exact H
     have Ny135 := Aside0.mk hy135
     clear hy135
     by_cases c4 : (strOfNums y135).size + x3_1.size ≤ 9223372036854775807
     ·rw [if_pos c4] at H
      have c4b0 := eq_true c4
      have c4b1 : decide ((strOfNums y135).size + x3_1.size ≤ 9223372036854775807) = true := decide_eq_true c4
      try have c4b2 : (9223372036854775807 < (strOfNums y135).size + x3_1.size) = False := eq_false (Nat.not_lt.2 c4)
      have H' := Aside0.mk H
      clear H
      go_wp2_with (first | ((with_reducible refine gate_dst (N := 12) rfl ?_); refine Kd.R_lit (Kd.int .u8) _ 5 ?hg (N := 12) ?hd (xs := ([(wrap64 (48 + (Int.tmod x0_1 10))) % 256] : List Int)) (inner := [.int .u8 ((wrap64 (48 + (Int.tmod x0_1 10))) % 256)]) (ok := fun _ => True) (okp := fun _ => True) ?hr ?hp (fun _ hk => hk) trivial (Below.refl _ _) (Nat.le_refl _) (by simp) ?_; (case hd => rfl); (case hg => rfl); (case hr => first | (go_simp; done) | (go_simp; rfl)); (case hp => exact (Reps.one (show Kd.M (Kd.int .u8) _ _ _ ((wrap64 (48 + (Int.tmod x0_1 10))) % 256) [.int .u8 ((wrap64 (48 + (Int.tmod x0_1 10))) % 256)] from rfl) (Reps.none _ _))); intro v136 w5 ho6 hb hg_ hnew_; clear hg_ hnew_; (first | rw [← Ny135.out] at ho6 | (simp only [Int.reduceToNat] at ho6; rw [← Ny135.out] at ho6)); have n0_ := Aside0.mk (Kd.R_lower ho6 (below_size bw)); have n1_ := Aside0.mk (below_step bw hb); clear HB; have HO137 := n0_; have HB := n1_; clear n0_ n1_; clear hb ho6; have hcv7 := own_string (P := Try.prog) Try.underlying109 Try.underlying5 Try.underlying9 (Kd.own_of_R HO137.out)))
      go_roundg k1
      case measure => have := HK1.out; omega
      case rel => exact ⟨(wrap64 (Int.tdiv x0_1 10)), ((strOfNums y135) ++ x3_1), (by first | rfl | (simp; done) | (simp [*]; done)), (by first | rfl | (simp; done) | (simp [*]; done)), H', ⟨by have := HK1.out; omega⟩, ⟨bw⟩⟩
     ·rw [if_neg c4] at H
      exact absurd H (by simp)
    ·rw [if_neg c3] at H
     have c3b0 : decide (0 < x0_1) = false := decide_eq_false c3
     clear c3
     by_cases c8 : 1 + x3_1.size ≤ 9223372036854775807
     ·rw [if_pos c8] at H
      have c8b0 := eq_true c8
      have c8b1 : decide (1 + x3_1.size ≤ 9223372036854775807) = true := decide_eq_true c8
      try have c8b2 : (9223372036854775807 < 1 + x3_1.size) = False := eq_false (Nat.not_lt.2 c8)
      obtain rfl := Option.some.inj H
      go_wp2
      go_ret
      exact ⟨by first | rfl | (simp [errW_none, errW_some] <;> rfl) | (simp [*, errW_none, errW_some] <;> rfl), bw⟩
     ·rw [if_neg c8] at H
      exact absurd H (by simp)

end Go.Proofs.Ytpfehkkfakofaaa.Q

namespace Go.Proofs.Ytpfehkkfakofaaa.Q
open Go.RowKit Go.Proofs.YtpfehkkfakofaaaW.PrintWords Go.Proofs.YtpfehkkfakofaaaW.PrintLast Go.Proofs.YtpfehkkfakofaaaW.PrintMore
set_option linter.unusedVariables false
set_option linter.unusedSimpArgs false

/-! ### laws_markNodeS: function 25 -/
def laws_markNodeS.l0 : Nat → List (S63) → Int → Int → Option (Int × (List (S63)))
 | 0, _, _, _ => none
 | k + 1, x0, x1, x5 => if x5 < (x0.length : Int) then (if 0 ≤ x5 then ((some (x0.set (x5 : Int).toNat (⟨x1, (rd_T63 x0 x5).f1, (rd_T63 x0 x5).f2, (rd_T63 x0 x5).f3, (rd_T63 x0 x5).f4, (rd_T63 x0 x5).f5, (rd_T63 x0 x5).f6⟩ : S63) : List (S63))).bind fun y138 => ((laws_markText.f k (wrap64 (x1 + 1))).bind fun t139 => ((some (y138.set (x5 : Int).toNat (⟨(rd_T63 y138 x5).f0, t139, (rd_T63 y138 x5).f2, (rd_T63 y138 x5).f3, (rd_T63 y138 x5).f4, (rd_T63 y138 x5).f5, (rd_T63 y138 x5).f6⟩ : S63) : List (S63))).bind fun y140 => ((some (y140.set (x5 : Int).toNat (⟨(rd_T63 y140 x5).f0, (rd_T63 y140 x5).f1, ((Int.tmod (wrap64 ((wrap64 (x1 + 1)) + 1)) 3) == 0), (rd_T63 y140 x5).f3, (rd_T63 y140 x5).f4, (rd_T63 y140 x5).f5, (rd_T63 y140 x5).f6⟩ : S63) : List (S63))).bind fun y141 => ((laws_markText.f k (wrap64 ((wrap64 ((wrap64 (x1 + 1)) + 1)) + 1))).bind fun t142 => ((some (y141.set (x5 : Int).toNat (⟨(rd_T63 y141 x5).f0, (rd_T63 y141 x5).f1, (rd_T63 y141 x5).f2, t142, (rd_T63 y141 x5).f4, (rd_T63 y141 x5).f5, (rd_T63 y141 x5).f6⟩ : S63) : List (S63))).bind fun y143 => ((some (y143.set (x5 : Int).toNat (⟨(rd_T63 y143 x5).f0, (rd_T63 y143 x5).f1, (rd_T63 y143 x5).f2, (rd_T63 y143 x5).f3, IntKind.u64.wrap (wrap64 ((wrap64 ((wrap64 ((wrap64 (x1 + 1)) + 1)) + 1)) + 1)), (rd_T63 y143 x5).f5, (rd_T63 y143 x5).f6⟩ : S63) : List (S63))).bind fun y144 => ((some (y144.set (x5 : Int).toNat (⟨(rd_T63 y144 x5).f0, (rd_T63 y144 x5).f1, (rd_T63 y144 x5).f2, (rd_T63 y144 x5).f3, (rd_T63 y144 x5).f4, IntKind.u64.wrap (wrap64 ((wrap64 ((wrap64 ((wrap64 ((wrap64 (x1 + 1)) + 1)) + 1)) + 1)) + 1)), (rd_T63 y144 x5).f6⟩ : S63) : List (S63))).bind fun y145 => (laws_markNodeS.l0 k (y145.set (x5 : Int).toNat (⟨(rd_T63 y145 x5).f0, (rd_T63 y145 x5).f1, (rd_T63 y145 x5).f2, (rd_T63 y145 x5).f3, (rd_T63 y145 x5).f4, (rd_T63 y145 x5).f5, wrap64 ((wrap64 ((wrap64 ((wrap64 ((wrap64 ((wrap64 (x1 + 1)) + 1)) + 1)) + 1)) + 1)) + 1)⟩ : S63)) (wrap64 ((wrap64 ((wrap64 ((wrap64 ((wrap64 ((wrap64 ((wrap64 (x1 + 1)) + 1)) + 1)) + 1)) + 1)) + 1)) + 1)) (wrap64 (x5 + 1))))))))))) else (none)) else (some (x1, x0))
def laws_markNodeS.f (k : Nat) (l0 : List (S63)) (a1 : Int) : Option (Int × (List (S63))) := laws_markNodeS.l0 k l0 a1 0
set_option maxHeartbeats 8000000 in
set_option maxRecDepth 100000 in
theorem laws_markNodeS.calls (k : Nat) (P0_ : Nat → Prop) (u9000_ : Value) (l0 : List (S63)) (a1 : Int) (r1 : Int) (r2 : List (S63)) (w0 w : World) (hB : Below w0.heap.size w0 w) (ho0 : Kd.R k63 63 w w0.heap.size P0_ u9000_ l0) (h : laws_markNodeS.f k l0 a1 = some (r1, r2)) :
  Calls Try.prog 25 #[u9000_, .int .i64 a1] w fun e w' => e = .returned (.int .i64 r1) ∧ Kd.R k63 63 w' w0.heap.size (fun k_ => (P0_ k_ ∨ w.heap.size ≤ k_)) u9000_ r2 ∧ Below w0.heap.size w0 w' ∧ Kept w w' (fun k_ => P0_ k_) := by
 have HO0 := Aside0.mk (show Kd.R k63 63 w w0.heap.size (fun k_ => (P0_ k_ ∨ w.heap.size ≤ k_)) u9000_ l0 from Kd.R_mono ho0 (fun k_ hk => (.inl hk)))
 have HK := Aside0.mk (Kept.refl w (fun k_ => P0_ k_))
 have HW0 := Aside0.mk hB.size
 have HB := Aside0.mk hB
 clear hB
 have H : (laws_markNodeS.l0 k l0 a1 0) = some (r1, r2) := h
 clear h
 have H' := Aside0.mk H
 clear H
 go_enter Try.func25, Try.ntmps25
 go_wp2
 go_loopg [1, 5] k (fun kq v1 v5 w' => ∃ (x0_1 : List (S63)) (x1_1 : Int) (x5_1 : Int), v1 = .int .i64 x1_1 ∧ v5 = .int .i64 x5_1 ∧ Aside0 (laws_markNodeS.l0 kq x0_1 x1_1 x5_1 = some (r1, r2)) ∧ Aside0 (kq ≤ k) ∧ Aside0 (Kd.R k63 63 w' w0.heap.size (fun k_ => (P0_ k_ ∨ w.heap.size ≤ k_)) u9000_ x0_1) ∧ Aside0 (Kept w w' (fun k_ => P0_ k_)) ∧ Aside0 (Below w0.heap.size w0 w'))
 case atStart => exact ⟨(l0), (a1), (0), (by first | rfl | (simp; done) | (simp [*]; done)), (by first | rfl | (simp; done) | (simp [*]; done)), H', ⟨Nat.le_refl _⟩, ⟨lf HO0⟩, ⟨by repeat (first | (with_reducible first | exact HK.out | apply Kept.alloc | apply Kept.drewN | apply Kept.drew) | exact HK.out)⟩, ⟨bw⟩⟩
 case round =>
  clear H'
  try clear c2
  try clear p2
  obtain ⟨x0_1, x1_1, x5_1, rfl, rfl, HA, HK1, HO_0, HK, HB⟩ := hrel
  cases gk with
  | zero => exact absurd HA.out (by simp [laws_markNodeS.l0])
  | succ k1 =>
   have H := HA.out
   clear HA
   simp only [laws_markNodeS.l0] at H
   by_cases c3 : x5_1 < (x0_1.length : Int)
   ·rw [if_pos c3] at H
    have c3b0 : decide (x5_1 < (x0_1.length : Int)) = true := decide_eq_true c3
    clear c3
    by_cases c4 : 0 ≤ x5_1
    ·rw [if_pos c4] at H
     have c4b0 : decide (0 ≤ x5_1) = true := decide_eq_true c4
     clear c4
     obtain ⟨y138, hy138⟩ : ∃ y_ : List (S63), y_ = (x0_1.set (x5_1 : Int).toNat (⟨x1_1, (rd_T63 x0_1 x5_1).f1, (rd_T63 x0_1 x5_1).f2, (rd_T63 x0_1 x5_1).f3, (rd_T63 x0_1 x5_1).f4, (rd_T63 x0_1 x5_1).f5, (rd_T63 x0_1 x5_1).f6⟩ : S63)) := ⟨_, rfl⟩
     replace H : ((laws_markText.f k1 (wrap64 (x1_1 + 1))).bind fun t139 => ((some (y138.set (x5_1 : Int).toNat (⟨(rd_T63 y138 x5_1).f0, t139, (rd_T63 y138 x5_1).f2, (rd_T63 y138 x5_1).f3, (rd_T63 y138 x5_1).f4, (rd_T63 y138 x5_1).f5, (rd_T63 y138 x5_1).f6⟩ : S63) : List (S63))).bind fun y140 => ((some (y140.set (x5_1 : Int).toNat (⟨(rd_T63 y140 x5_1).f0, (rd_T63 y140 x5_1).f1, ((Int.tmod (wrap64 ((wrap64 (x1_1 + 1)) + 1)) 3) == 0), (rd_T63 y140 x5_1).f3, (rd_T63 y140 x5_1).f4, (rd_T63 y140 x5_1).f5, (rd_T63 y140 x5_1).f6⟩ : S63) : List (S63))).bind fun y141 => ((laws_markText.f k1 (wrap64 ((wrap64 ((wrap64 (x1_1 + 1)) + 1)) + 1))).bind fun t142 => ((some (y141.set (x5_1 : Int).toNat (⟨(rd_T63 y141 x5_1).f0, (rd_T63 y141 x5_1).f1, (rd_T63 y141 x5_1).f2, t142, (rd_T63 y141 x5_1).f4, (rd_T63 y141 x5_1).f5, (rd_T63 y141 x5_1).f6⟩ : S63) : List (S63))).bind fun y143 => ((some (y143.set (x5_1 : Int).toNat (⟨(rd_T63 y143 x5_1).f0, (rd_T63 y143 x5_1).f1, (rd_T63 y143 x5_1).f2, (rd_T63 y143 x5_1).f3, IntKind.u64.wrap (wrap64 ((wrap64 ((wrap64 ((wrap64 (x1_1 + 1)) + 1)) + 1)) + 1)), (rd_T63 y143 x5_1).f5, (rd_T63 y143 x5_1).f6⟩ : S63) : List (S63))).bind fun y144 => ((some (y144.set (x5_1 : Int).toNat (⟨(rd_T63 y144 x5_1).f0, (rd_T63 y144 x5_1).f1, (rd_T63 y144 x5_1).f2, (rd_T63 y144 x5_1).f3, (rd_T63 y144 x5_1).f4, IntKind.u64.wrap (wrap64 ((wrap64 ((wrap64 ((wrap64 ((wrap64 (x1_1 + 1)) + 1)) + 1)) + 1)) + 1)), (rd_T63 y144 x5_1).f6⟩ : S63) : List (S63))).bind fun y145 => (laws_markNodeS.l0 k1 (y145.set (x5_1 : Int).toNat (⟨(rd_T63 y145 x5_1).f0, (rd_T63 y145 x5_1).f1, (rd_T63 y145 x5_1).f2, (rd_T63 y145 x5_1).f3, (rd_T63 y145 x5_1).f4, (rd_T63 y145 x5_1).f5, wrap64 ((wrap64 ((wrap64 ((wrap64 ((wrap64 ((wrap64 (x1_1 + 1)) + 1)) + 1)) + 1)) + 1)) + 1)⟩ : S63)) (wrap64 ((wrap64 ((wrap64 ((wrap64 ((wrap64 ((wrap64 ((wrap64 (x1_1 + 1)) + 1)) + 1)) + 1)) + 1)) + 1)) + 1)) (wrap64 (x5_1 + 1)))))))))) = some (r1, r2) := by first | (rw [hy138]; with_reducible exact H) | (have H2_ := (Option.bind_some _ _).symm.trans H; rw [hy138]; with_reducible exact H2_) | (have H2_ := (Option.bind_some _ _).symm.trans H; with_reducible exact H2_) | with_reducible exact H | (rw [hy138]; exact H) | exact H
     have Ny138 := Aside0.mk hy138
     clear hy138
     replace H := Option.bind_eq_some_iff.mp H
     obtain ⟨t139, A60, H⟩ := H
     replace H : ((some (y138.set (x5_1 : Int).toNat (⟨(rd_T63 y138 x5_1).f0, t139, (rd_T63 y138 x5_1).f2, (rd_T63 y138 x5_1).f3, (rd_T63 y138 x5_1).f4, (rd_T63 y138 x5_1).f5, (rd_T63 y138 x5_1).f6⟩ : S63) : List (S63))).bind fun y140 => ((some (y140.set (x5_1 : Int).toNat (⟨(rd_T63 y140 x5_1).f0, (rd_T63 y140 x5_1).f1, ((Int.tmod (wrap64 ((wrap64 (x1_1 + 1)) + 1)) 3) == 0), (rd_T63 y140 x5_1).f3, (rd_T63 y140 x5_1).f4, (rd_T63 y140 x5_1).f5, (rd_T63 y140 x5_1).f6⟩ : S63) : List (S63))).bind fun y141 => ((laws_markText.f k1 (wrap64 ((wrap64 ((wrap64 (x1_1 + 1)) + 1)) + 1))).bind fun t142 => ((some (y141.set (x5_1 : Int).toNat (⟨(rd_T63 y141 x5_1).f0, (rd_T63 y141 x5_1).f1, (rd_T63 y141 x5_1).f2, t142, (rd_T63 y141 x5_1).f4, (rd_T63 y141 x5_1).f5, (rd_T63 y141 x5_1).f6⟩ : S63) : List (S63))).bind fun y143 => ((some (y143.set (x5_1 : Int).toNat (⟨(rd_T63 y143 x5_1).f0, (rd_T63 y143 x5_1).f1, (rd_T63 y143 x5_1).f2, (rd_T63 y143 x5_1).f3, IntKind.u64.wrap (wrap64 ((wrap64 ((wrap64 ((wrap64 (x1_1 + 1)) + 1)) + 1)) + 1)), (rd_T63 y143 x5_1).f5, (rd_T63 y143 x5_1).f6⟩ : S63) : List (S63))).bind fun y144 => ((some (y144.set (x5_1 : Int).toNat (⟨(rd_T63 y144 x5_1).f0, (rd_T63 y144 x5_1).f1, (rd_T63 y144 x5_1).f2, (rd_T63 y144 x5_1).f3, (rd_T63 y144 x5_1).f4, IntKind.u64.wrap (wrap64 ((wrap64 ((wrap64 ((wrap64 ((wrap64 (x1_1 + 1)) + 1)) + 1)) + 1)) + 1)), (rd_T63 y144 x5_1).f6⟩ : S63) : List (S63))).bind fun y145 => (laws_markNodeS.l0 k1 (y145.set (x5_1 : Int).toNat (⟨(rd_T63 y145 x5_1).f0, (rd_T63 y145 x5_1).f1, (rd_T63 y145 x5_1).f2, (rd_T63 y145 x5_1).f3, (rd_T63 y145 x5_1).f4, (rd_T63 y145 x5_1).f5, wrap64 ((wrap64 ((wrap64 ((wrap64 ((wrap64 ((wrap64 (x1_1 + 1)) + 1)) + 1)) + 1)) + 1)) + 1)⟩ : S63)) (wrap64 ((wrap64 ((wrap64 ((wrap64 ((wrap64 ((wrap64 ((wrap64 (x1_1 + 1)) + 1)) + 1)) + 1)) + 1)) + 1)) + 1)) (wrap64 (x5_1 + 1))))))))) = some (r1, r2) := H
     have A6 := Aside0.mk A60
     clear A60
     obtain ⟨y140, hy140⟩ : ∃ y_ : List (S63), y_ = (y138.set (x5_1 : Int).toNat (⟨(rd_T63 y138 x5_1).f0, t139, (rd_T63 y138 x5_1).f2, (rd_T63 y138 x5_1).f3, (rd_T63 y138 x5_1).f4, (rd_T63 y138 x5_1).f5, (rd_T63 y138 x5_1).f6⟩ : S63)) := ⟨_, rfl⟩
     replace H : ((some (y140.set (x5_1 : Int).toNat (⟨(rd_T63 y140 x5_1).f0, (rd_T63 y140 x5_1).f1, ((Int.tmod (wrap64 ((wrap64 (x1_1 + 1)) + 1)) 3) == 0), (rd_T63 y140 x5_1).f3, (rd_T63 y140 x5_1).f4, (rd_T63 y140 x5_1).f5, (rd_T63 y140 x5_1).f6⟩ : S63) : List (S63))).bind fun y141 => ((laws_markText.f k1 (wrap64 ((wrap64 ((wrap64 (x1_1 + 1)) + 1)) + 1))).bind fun t142 => ((some (y141.set (x5_1 : Int).toNat (⟨(rd_T63 y141 x5_1).f0, (rd_T63 y141 x5_1).f1, (rd_T63 y141 x5_1).f2, t142, (rd_T63 y141 x5_1).f4, (rd_T63 y141 x5_1).f5, (rd_T63 y141 x5_1).f6⟩ : S63) : List (S63))).bind fun y143 => ((some (y143.set (x5_1 : Int).toNat (⟨(rd_T63 y143 x5_1).f0, (rd_T63 y143 x5_1).f1, (rd_T63 y143 x5_1).f2, (rd_T63 y143 x5_1).f3, IntKind.u64.wrap (wrap64 ((wrap64 ((wrap64 ((wrap64 (x1_1 + 1)) + 1)) + 1)) + 1)), (rd_T63 y143 x5_1).f5, (rd_T63 y143 x5_1).f6⟩ : S63) : List (S63))).bind fun y144 => ((some (y144.set (x5_1 : Int).toNat (⟨(rd_T63 y144 x5_1).f0, (rd_T63 y144 x5_1).f1, (rd_T63 y144 x5_1).f2, (rd_T63 y144 x5_1).f3, (rd_T63 y144 x5_1).f4, IntKind.u64.wrap (wrap64 ((wrap64 ((wrap64 ((wrap64 ((wrap64 (x1_1 + 1)) + 1)) + 1)) + 1)) + 1)), (rd_T63 y144 x5_1).f6⟩ : S63) : List (S63))).bind fun y145 => (laws_markNodeS.l0 k1 (y145.set (x5_1 : Int).toNat (⟨(rd_T63 y145 x5_1).f0, (rd_T63 y145 x5_1).f1, (rd_T63 y145 x5_1).f2, (rd_T63 y145 x5_1).f3, (rd_T63 y145 x5_1).f4, (rd_T63 y145 x5_1).f5, wrap64 ((wrap64 ((wrap64 ((wrap64 ((wrap64 ((wrap64 (x1_1 + 1)) + 1)) + 1)) + 1)) + 1)) + 1)⟩ : S63)) (wrap64 ((wrap64 ((wrap64 ((wrap64 ((wrap64 ((wrap64 ((wrap64 (x1_1 + 1)) + 1)) + 1)) + 1)) + 1)) + 1)) + 1)) (wrap64 (x5_1 + 1)))))))) = some (r1, r2) := by first | (rw [hy140]; with_reducible exact H) | (have H2_ := (Option.bind_some _ _).symm.trans H; rw [hy140]; with_reducible exact H2_) | (have H2_ := (Option.bind_some _ _).symm.trans H; with_reducible exact H2_) | with_reducible exact H | (rw [hy140]; exact H) | exact H
     have Ny140 := Aside0.mk hy140
     clear hy140
     obtain ⟨y141, hy141⟩ : ∃ y_ : List (S63), y_ = (y140.set (x5_1 : Int).toNat (⟨(rd_T63 y140 x5_1).f0, (rd_T63 y140 x5_1).f1, ((Int.tmod (wrap64 ((wrap64 (x1_1 + 1)) + 1)) 3) == 0), (rd_T63 y140 x5_1).f3, (rd_T63 y140 x5_1).f4, (rd_T63 y140 x5_1).f5, (rd_T63 y140 x5_1).f6⟩ : S63)) := ⟨_, rfl⟩
     replace H : ((laws_markText.f k1 (wrap64 ((wrap64 ((wrap64 (x1_1 + 1)) + 1)) + 1))).bind fun t142 => ((some (y141.set (x5_1 : Int).toNat (⟨(rd_T63 y141 x5_1).f0, (rd_T63 y141 x5_1).f1, (rd_T63 y141 x5_1).f2, t142, (rd_T63 y141 x5_1).f4, (rd_T63 y141 x5_1).f5, (rd_T63 y141 x5_1).f6⟩ : S63) : List (S63))).bind fun y143 => ((some (y143.set (x5_1 : Int).toNat (⟨(rd_T63 y143 x5_1).f0, (rd_T63 y143 x5_1).f1, (rd_T63 y143 x5_1).f2, (rd_T63 y143 x5_1).f3, IntKind.u64.wrap (wrap64 ((wrap64 ((wrap64 ((wrap64 (x1_1 + 1)) + 1)) + 1)) + 1)), (rd_T63 y143 x5_1).f5, (rd_T63 y143 x5_1).f6⟩ : S63) : List (S63))).bind fun y144 => ((some (y144.set (x5_1 : Int).toNat (⟨(rd_T63 y144 x5_1).f0, (rd_T63 y144 x5_1).f1, (rd_T63 y144 x5_1).f2, (rd_T63 y144 x5_1).f3, (rd_T63 y144 x5_1).f4, IntKind.u64.wrap (wrap64 ((wrap64 ((wrap64 ((wrap64 ((wrap64 (x1_1 + 1)) + 1)) + 1)) + 1)) + 1)), (rd_T63 y144 x5_1).f6⟩ : S63) : List (S63))).bind fun y145 => (laws_markNodeS.l0 k1 (y145.set (x5_1 : Int).toNat (⟨(rd_T63 y145 x5_1).f0, (rd_T63 y145 x5_1).f1, (rd_T63 y145 x5_1).f2, (rd_T63 y145 x5_1).f3, (rd_T63 y145 x5_1).f4, (rd_T63 y145 x5_1).f5, wrap64 ((wrap64 ((wrap64 ((wrap64 ((wrap64 ((wrap64 (x1_1 + 1)) + 1)) + 1)) + 1)) + 1)) + 1)⟩ : S63)) (wrap64 ((wrap64 ((wrap64 ((wrap64 ((wrap64 ((wrap64 ((wrap64 (x1_1 + 1)) + 1)) + 1)) + 1)) + 1)) + 1)) + 1)) (wrap64 (x5_1 + 1))))))) = some (r1, r2) := by first | (rw [hy141]; with_reducible exact H) | (have H2_ := (Option.bind_some _ _).symm.trans H; rw [hy141]; with_reducible exact H2_) | (have H2_ := (Option.bind_some _ _).symm.trans H; with_reducible exact H2_) | with_reducible exact H | (rw [hy141]; exact H) | exact H
     have Ny141 := Aside0.mk hy141
     clear hy141
     replace H := Option.bind_eq_some_iff.mp H
     obtain ⟨t142, A90, H⟩ := H
     replace H : ((some (y141.set (x5_1 : Int).toNat (⟨(rd_T63 y141 x5_1).f0, (rd_T63 y141 x5_1).f1, (rd_T63 y141 x5_1).f2, t142, (rd_T63 y141 x5_1).f4, (rd_T63 y141 x5_1).f5, (rd_T63 y141 x5_1).f6⟩ : S63) : List (S63))).bind fun y143 => ((some (y143.set (x5_1 : Int).toNat (⟨(rd_T63 y143 x5_1).f0, (rd_T63 y143 x5_1).f1, (rd_T63 y143 x5_1).f2, (rd_T63 y143 x5_1).f3, IntKind.u64.wrap (wrap64 ((wrap64 ((wrap64 ((wrap64 (x1_1 + 1)) + 1)) + 1)) + 1)), (rd_T63 y143 x5_1).f5, (rd_T63 y143 x5_1).f6⟩ : S63) : List (S63))).bind fun y144 => ((some (y144.set (x5_1 : Int).toNat (⟨(rd_T63 y144 x5_1).f0, (rd_T63 y144 x5_1).f1, (rd_T63 y144 x5_1).f2, (rd_T63 y144 x5_1).f3, (rd_T63 y144 x5_1).f4, IntKind.u64.wrap (wrap64 ((wrap64 ((wrap64 ((wrap64 ((wrap64 (x1_1 + 1)) + 1)) + 1)) + 1)) + 1)), (rd_T63 y144 x5_1).f6⟩ : S63) : List (S63))).bind fun y145 => (laws_markNodeS.l0 k1 (y145.set (x5_1 : Int).toNat (⟨(rd_T63 y145 x5_1).f0, (rd_T63 y145 x5_1).f1, (rd_T63 y145 x5_1).f2, (rd_T63 y145 x5_1).f3, (rd_T63 y145 x5_1).f4, (rd_T63 y145 x5_1).f5, wrap64 ((wrap64 ((wrap64 ((wrap64 ((wrap64 ((wrap64 (x1_1 + 1)) + 1)) + 1)) + 1)) + 1)) + 1)⟩ : S63)) (wrap64 ((wrap64 ((wrap64 ((wrap64 ((wrap64 ((wrap64 ((wrap64 (x1_1 + 1)) + 1)) + 1)) + 1)) + 1)) + 1)) + 1)) (wrap64 (x5_1 + 1)))))) = some (r1, r2) := H
     have A9 := Aside0.mk A90
     clear A90
     obtain ⟨y143, hy143⟩ : ∃ y_ : List (S63), y_ = (y141.set (x5_1 : Int).toNat (⟨(rd_T63 y141 x5_1).f0, (rd_T63 y141 x5_1).f1, (rd_T63 y141 x5_1).f2, t142, (rd_T63 y141 x5_1).f4, (rd_T63 y141 x5_1).f5, (rd_T63 y141 x5_1).f6⟩ : S63)) := ⟨_, rfl⟩
     replace H : ((some (y143.set (x5_1 : Int).toNat (⟨(rd_T63 y143 x5_1).f0, (rd_T63 y143 x5_1).f1, (rd_T63 y143 x5_1).f2, (rd_T63 y143 x5_1).f3, IntKind.u64.wrap (wrap64 ((wrap64 ((wrap64 ((wrap64 (x1_1 + 1)) + 1)) + 1)) + 1)), (rd_T63 y143 x5_1).f5, (rd_T63 y143 x5_1).f6⟩ : S63) : List (S63))).bind fun y144 => ((some (y144.set (x5_1 : Int).toNat (⟨(rd_T63 y144 x5_1).f0, (rd_T63 y144 x5_1).f1, (rd_T63 y144 x5_1).f2, (rd_T63 y144 x5_1).f3, (rd_T63 y144 x5_1).f4, IntKind.u64.wrap (wrap64 ((wrap64 ((wrap64 ((wrap64 ((wrap64 (x1_1 + 1)) + 1)) + 1)) + 1)) + 1)), (rd_T63 y144 x5_1).f6⟩ : S63) : List (S63))).bind fun y145 => (laws_markNodeS.l0 k1 (y145.set (x5_1 : Int).toNat (⟨(rd_T63 y145 x5_1).f0, (rd_T63 y145 x5_1).f1, (rd_T63 y145 x5_1).f2, (rd_T63 y145 x5_1).f3, (rd_T63 y145 x5_1).f4, (rd_T63 y145 x5_1).f5, wrap64 ((wrap64 ((wrap64 ((wrap64 ((wrap64 ((wrap64 (x1_1 + 1)) + 1)) + 1)) + 1)) + 1)) + 1)⟩ : S63)) (wrap64 ((wrap64 ((wrap64 ((wrap64 ((wrap64 ((wrap64 ((wrap64 (x1_1 + 1)) + 1)) + 1)) + 1)) + 1)) + 1)) + 1)) (wrap64 (x5_1 + 1))))) = some (r1, r2) := by first | (rw [hy143]; with_reducible exact H) | (have H2_ := (Option.bind_some _ _).symm.trans H; rw [hy143]; with_reducible exact H2_) | (have H2_ := (Option.bind_some _ _).symm.trans H; with_reducible exact H2_) | with_reducible exact H | (rw [hy143]; exact H) | exact H
     have Ny143 := Aside0.mk hy143
     clear hy143
     obtain ⟨y144, hy144⟩ : ∃ y_ : List (S63), y_ = (y143.set (x5_1 : Int).toNat (⟨(rd_T63 y143 x5_1).f0, (rd_T63 y143 x5_1).f1, (rd_T63 y143 x5_1).f2, (rd_T63 y143 x5_1).f3, IntKind.u64.wrap (wrap64 ((wrap64 ((wrap64 ((wrap64 (x1_1 + 1)) + 1)) + 1)) + 1)), (rd_T63 y143 x5_1).f5, (rd_T63 y143 x5_1).f6⟩ : S63)) := ⟨_, rfl⟩
     replace H : ((some (y144.set (x5_1 : Int).toNat (⟨(rd_T63 y144 x5_1).f0, (rd_T63 y144 x5_1).f1, (rd_T63 y144 x5_1).f2, (rd_T63 y144 x5_1).f3, (rd_T63 y144 x5_1).f4, IntKind.u64.wrap (wrap64 ((wrap64 ((wrap64 ((wrap64 ((wrap64 (x1_1 + 1)) + 1)) + 1)) + 1)) + 1)), (rd_T63 y144 x5_1).f6⟩ : S63) : List (S63))).bind fun y145 => (laws_markNodeS.l0 k1 (y145.set (x5_1 : Int).toNat (⟨(rd_T63 y145 x5_1).f0, (rd_T63 y145 x5_1).f1, (rd_T63 y145 x5_1).f2, (rd_T63 y145 x5_1).f3, (rd_T63 y145 x5_1).f4, (rd_T63 y145 x5_1).f5, wrap64 ((wrap64 ((wrap64 ((wrap64 ((wrap64 ((wrap64 (x1_1 + 1)) + 1)) + 1)) + 1)) + 1)) + 1)⟩ : S63)) (wrap64 ((wrap64 ((wrap64 ((wrap64 ((wrap64 ((wrap64 ((wrap64 (x1_1 + 1)) + 1)) + 1)) + 1)) + 1)) + 1)) + 1)) (wrap64 (x5_1 + 1)))) = some (r1, r2) := by first | (rw [hy144]; with_reducible exact H) | (have H2_ := (Option.bind_some _ _).symm.trans H; rw [hy144]; with_reducible exact H2_) | (have H2_ := (Option.bind_some _ _).symm.trans H; with_reducible exact H2_) | with_reducible exact H | (rw [hy144]; exact H) | exact H
     have Ny144 := Aside0.mk hy144
     clear hy144
     obtain ⟨y145, hy145⟩ : ∃ y_ : List (S63), y_ = (y144.set (x5_1 : Int).toNat (⟨(rd_T63 y144 x5_1).f0, (rd_T63 y144 x5_1).f1, (rd_T63 y144 x5_1).f2, (rd_T63 y144 x5_1).f3, (rd_T63 y144 x5_1).f4, IntKind.u64.wrap (wrap64 ((wrap64 ((wrap64 ((wrap64 ((wrap64 (x1_1 + 1)) + 1)) + 1)) + 1)) + 1)), (rd_T63 y144 x5_1).f6⟩ : S63)) := ⟨_, rfl⟩
     replace H : (laws_markNodeS.l0 k1 (y145.set (x5_1 : Int).toNat (⟨(rd_T63 y145 x5_1).f0, (rd_T63 y145 x5_1).f1, (rd_T63 y145 x5_1).f2, (rd_T63 y145 x5_1).f3, (rd_T63 y145 x5_1).f4, (rd_T63 y145 x5_1).f5, wrap64 ((wrap64 ((wrap64 ((wrap64 ((wrap64 ((wrap64 (x1_1 + 1)) + 1)) + 1)) + 1)) + 1)) + 1)⟩ : S63)) (wrap64 ((wrap64 ((wrap64 ((wrap64 ((wrap64 ((wrap64 ((wrap64 (x1_1 + 1)) + 1)) + 1)) + 1)) + 1)) + 1)) + 1)) (wrap64 (x5_1 + 1))) = some (r1, r2) := by first | (rw [hy145]; with_reducible exact H) | (have H2_ := (Option.bind_some _ _).symm.trans H; rw [hy145]; with_reducible exact H2_) | (have H2_ := (Option.bind_some _ _).symm.trans H; with_reducible exact H2_) | with_reducible exact H | (rw [hy145]; exact H) | exact H
     have Ny145 := Aside0.mk hy145
     clear hy145
     obtain ⟨y146, hy146⟩ : ∃ y_ : List (S63), y_ = (y145.set (x5_1 : Int).toNat (⟨(rd_T63 y145 x5_1).f0, (rd_T63 y145 x5_1).f1, (rd_T63 y145 x5_1).f2, (rd_T63 y145 x5_1).f3, (rd_T63 y145 x5_1).f4, (rd_T63 y145 x5_1).f5, wrap64 ((wrap64 ((wrap64 ((wrap64 ((wrap64 ((wrap64 (x1_1 + 1)) + 1)) + 1)) + 1)) + 1)) + 1)⟩ : S63)) := ⟨_, rfl⟩
     replace H : (laws_markNodeS.l0 k1 y146 (wrap64 ((wrap64 ((wrap64 ((wrap64 ((wrap64 ((wrap64 ((wrap64 (x1_1 + 1)) + 1)) + 1)) + 1)) + 1)) + 1)) + 1)) (wrap64 (x5_1 + 1))) = some (r1, r2) := by first | (rw [hy146]; with_reducible exact H) | (have H2_ := (Option.bind_some _ _).symm.trans H; rw [hy146]; with_reducible exact H2_) | (have H2_ := (Option.bind_some _ _).symm.trans H; with_reducible exact H2_) | with_reducible exact H | (rw [hy146]; exact H) | exact H
     have Ny146 := Aside0.mk hy146
     clear hy146
     have H' := Aside0.mk H
     clear H
     obtain ⟨Ao14, co14, eo14⟩ := Kd.R_slice HO_0.out
     subst eo14
     have p5 : 0 ≤ (x5_1 : Int) := of_decide_eq_true (by first | (with_reducible assumption) | assumption)
     have q5 : (x5_1 : Int) < ((x0_1.length : Int) : Int) := of_decide_eq_true (by first | (with_reducible assumption) | assumption)
     obtain ⟨go5, co5, eo5, gb5, gl5, cl5, HG5⟩ := Kd.R_form HO_0.out (by omega)
     (first | cases eo5 | (injection eo5 with ea_ en_ ec_; (first | subst ea_ | (injection ea_ with ea_; subst ea_)); subst ec_; clear en_))
     have GB5 := Aside0.mk gb5
     have GG5 := Aside0.mk HG5
     clear gb5 gl5 HG5
     have HMgo5 := Aside0.mk (show (P0_ go5 ∨ w.heap.size ≤ go5) from (HO_0.out.1 _ rfl))
     obtain ⟨ce5, hcl5, hM5, hcc5, hfr5⟩ := Kd.R_elem HO_0.out z63 (x5_1 : Int) p5 q5
     obtain rfl := k63_openM hM5
     have hx5_0 : wr.cell? ⟨go5, (x5_1 : Int).toNat * 7, none⟩ = some (.int .i64 ((rd_T63 x0_1 x5_1).f0)) := hcc5 0 _ rfl
     have hx5_1 : wr.cell? ⟨go5, (x5_1 : Int).toNat * 7 + 1, none⟩ = some (.string ((rd_T63 x0_1 x5_1).f1)) := hcc5 1 _ rfl
     have hx5_2 : wr.cell? ⟨go5, (x5_1 : Int).toNat * 7 + 2, none⟩ = some (.bool ((rd_T63 x0_1 x5_1).f2)) := hcc5 2 _ rfl
     have hx5_3 : wr.cell? ⟨go5, (x5_1 : Int).toNat * 7 + 3, none⟩ = some (.string ((rd_T63 x0_1 x5_1).f3)) := hcc5 3 _ rfl
     have hx5_4 : wr.cell? ⟨go5, (x5_1 : Int).toNat * 7 + 4, none⟩ = some (.int .u64 ((rd_T63 x0_1 x5_1).f4)) := hcc5 4 _ rfl
     have hx5_5 : wr.cell? ⟨go5, (x5_1 : Int).toNat * 7 + 5, none⟩ = some (.int .u64 ((rd_T63 x0_1 x5_1).f5)) := hcc5 5 _ rfl
     have hx5_6 : wr.cell? ⟨go5, (x5_1 : Int).toNat * 7 + 6, none⟩ = some (.int .i64 ((rd_T63 x0_1 x5_1).f6)) := hcc5 6 _ rfl
     have hf5_0 : wr.frozen? ⟨go5, (x5_1 : Int).toNat * 7, none⟩ = false := hfr5 0
     have hf5_1 : wr.frozen? ⟨go5, (x5_1 : Int).toNat * 7 + 1, none⟩ = false := hfr5 1
     have hf5_2 : wr.frozen? ⟨go5, (x5_1 : Int).toNat * 7 + 2, none⟩ = false := hfr5 2
     have hf5_3 : wr.frozen? ⟨go5, (x5_1 : Int).toNat * 7 + 3, none⟩ = false := hfr5 3
     have hf5_4 : wr.frozen? ⟨go5, (x5_1 : Int).toNat * 7 + 4, none⟩ = false := hfr5 4
     have hf5_5 : wr.frozen? ⟨go5, (x5_1 : Int).toNat * 7 + 5, none⟩ = false := hfr5 5
     have hf5_6 : wr.frozen? ⟨go5, (x5_1 : Int).toNat * 7 + 6, none⟩ = false := hfr5 6
     clear hcl5 hcc5 hfr5 hM5
     replace p5 := eq_true p5
     replace q5 := eq_true q5
     have HX15 := Aside0.mk (show Kd.R k63 63 wr w0.heap.size (fun k_ => (P0_ k_ ∨ w.heap.size ≤ k_)) (.slice (some ⟨go5, 0, none⟩) x0_1.length co14) x0_1 from (lf HO_0))
     obtain ⟨ce15, hcl15, hM15, hcc15, hfr15⟩ := Kd.R_elem HX15.out z63 (x5_1 : Int) (of_decide_eq_true (by first | (with_reducible assumption) | assumption)) (by have h_ : (x5_1 : Int) < ((x0_1.length : Int) : Int) := of_decide_eq_true (by first | (with_reducible assumption) | assumption); first | exact h_ | (have e_ := (Kd.R_reads' HO_0.out).1; omega) | simpa using h_)
     obtain rfl := k63_openM hM15
     have HP15 := Kd.R_seg HX15.out (x5_1 : Int) (of_decide_eq_true (by first | (with_reducible assumption) | assumption)) (by have h_ : (x5_1 : Int) < ((x0_1.length : Int) : Int) := of_decide_eq_true (by first | (with_reducible assumption) | assumption); first | exact h_ | (have e_ := (Kd.R_reads' HO_0.out).1; omega) | simpa using h_) (seg := [.int .i64 x1_1]) (j := 0) hcl15 hcc15 (show 1 ≤ 7 from by decide) (x' := (⟨x1_1, (rd_T63 x0_1 x5_1).f1, (rd_T63 x0_1 x5_1).f2, (rd_T63 x0_1 x5_1).f3, (rd_T63 x0_1 x5_1).f4, (rd_T63 x0_1 x5_1).f5, (rd_T63 x0_1 x5_1).f6⟩ : S63)) (k63_mkM _ _ _ (⟨x1_1, (rd_T63 x0_1 x5_1).f1, (rd_T63 x0_1 x5_1).f2, (rd_T63 x0_1 x5_1).f3, (rd_T63 x0_1 x5_1).f4, (rd_T63 x0_1 x5_1).f5, (rd_T63 x0_1 x5_1).f6⟩ : S63) ) (fun _ hk => hk)
     have hx15_0 := hcc15 0 _ rfl
     (try simp only [show (k63).sz = 7 from rfl, Nat.mul_one, Nat.add_zero] at hx15_0)
     have hf15_0 := hfr15 0
     (try simp only [show (k63).sz = 7 from rfl, Nat.mul_one, Nat.add_zero] at hf15_0)
     clear hcl15 hcc15 hfr15 hM15
     go_wp2_with (first | ((with_reducible refine gate_store (t := 2) (p := 16) rfl ?_); refine store_event (t := 2) (p := 16) (v := ?vo_w16) (w1 := (wr.setCell ⟨go5, (x5_1 : Int).toNat * 7, none⟩ (.int .i64 x1_1))) ?hg ?ho ?hn ?hr ?_; (case ho => rfl); (case hg => rfl); (case hn => rfl); (case hr => first | (go_simp; done) | (go_simp; rfl)); intro w16 hw; have hg : wr.grownBy w16 (some go5) := (by rw [hw]; exact HP15.2); have hp_ : Kd.R k63 63 w16 w0.heap.size (fun k_ => (P0_ k_ ∨ w.heap.size ≤ k_)) (.slice (some ⟨go5, 0, none⟩) x0_1.length co14) y138 := (by rw [hw, Ny138.out]; exact HP15.1); clear HP15; have n0_ := Aside0.mk (hp_); have n1_ := Aside0.mk ((by rw [hw]; exact below_set (HB.out) GB5.out : Below w0.heap.size w0 w16)); have n2_ := Aside0.mk (Kept.of_grown (S := (fun k_ => P0_ k_)) hg (by repeat (first | (with_reducible first | exact HK.out | apply Kept.alloc | apply Kept.drewN | apply Kept.drew) | exact HK.out)) (fun k_ e_ => (HO_0.out.1 k_ e_))); clear HO_0; clear HB; clear HK; have HO_0 := n0_; have HB := n1_; have HK := n2_; clear n0_ n1_ n2_; clear hg hw hp_) | ((with_reducible refine at_fn (f := 57) rfl ?_); refine goesL_ (some 22) rfl rfl Try.func57 (by kernel_rfl) rfl #[.int .i64 (wrap64 (x1_1 + 1))] rfl (by (try simp only [List.map_toArray, List.map_cons, List.map_nil]); first | done | rfl | (simp only [List.length_drop, List.length_take]; rfl)) ?_; (with_reducible refine (laws_markText.calls k1 (wrap64 (x1_1 + 1)) t139 _ A6.out).mono ?_); rintro e w17 ⟨rfl, hb⟩; refine ⟨_, rfl, ?_⟩; have n0_ := Aside0.mk (Kd.R_below (lf HO_0) hb); have n1_ := Aside0.mk (Kept.below (S := (fun k_ => P0_ k_)) (by repeat (first | (with_reducible first | exact HK.out | apply Kept.alloc | apply Kept.drewN | apply Kept.drew) | exact HK.out)) hb); have n2_ := Aside0.mk (below_step bw hb); clear HO_0; clear HK; clear HB; have HO_0 := n0_; have HK := n1_; have HB := n2_; clear n0_ n1_ n2_; (try clear hb); (try clear hb2); (try clear hk); (try clear hi); have p7 : 0 ≤ (x5_1 : Int) := of_decide_eq_true (by first | (with_reducible assumption) | assumption); have q7 : (x5_1 : Int) < ((x0_1.length : Int) : Int) := of_decide_eq_true (by first | (with_reducible assumption) | assumption); obtain ⟨ce7, hcl7, hM7, hcc7, hfr7⟩ := Kd.R_elem HO_0.out z63 (x5_1 : Int) p7 q7; obtain rfl := k63_openM hM7; have hx7_0 : w17.cell? ⟨go5, (x5_1 : Int).toNat * 7, none⟩ = some (.int .i64 ((rd_T63 y138 x5_1).f0)) := hcc7 0 _ rfl; have hx7_1 : w17.cell? ⟨go5, (x5_1 : Int).toNat * 7 + 1, none⟩ = some (.string ((rd_T63 y138 x5_1).f1)) := hcc7 1 _ rfl; have hx7_2 : w17.cell? ⟨go5, (x5_1 : Int).toNat * 7 + 2, none⟩ = some (.bool ((rd_T63 y138 x5_1).f2)) := hcc7 2 _ rfl; have hx7_3 : w17.cell? ⟨go5, (x5_1 : Int).toNat * 7 + 3, none⟩ = some (.string ((rd_T63 y138 x5_1).f3)) := hcc7 3 _ rfl; have hx7_4 : w17.cell? ⟨go5, (x5_1 : Int).toNat * 7 + 4, none⟩ = some (.int .u64 ((rd_T63 y138 x5_1).f4)) := hcc7 4 _ rfl; have hx7_5 : w17.cell? ⟨go5, (x5_1 : Int).toNat * 7 + 5, none⟩ = some (.int .u64 ((rd_T63 y138 x5_1).f5)) := hcc7 5 _ rfl; have hx7_6 : w17.cell? ⟨go5, (x5_1 : Int).toNat * 7 + 6, none⟩ = some (.int .i64 ((rd_T63 y138 x5_1).f6)) := hcc7 6 _ rfl; have hf7_0 : w17.frozen? ⟨go5, (x5_1 : Int).toNat * 7, none⟩ = false := hfr7 0; have hf7_1 : w17.frozen? ⟨go5, (x5_1 : Int).toNat * 7 + 1, none⟩ = false := hfr7 1; have hf7_2 : w17.frozen? ⟨go5, (x5_1 : Int).toNat * 7 + 2, none⟩ = false := hfr7 2; have hf7_3 : w17.frozen? ⟨go5, (x5_1 : Int).toNat * 7 + 3, none⟩ = false := hfr7 3; have hf7_4 : w17.frozen? ⟨go5, (x5_1 : Int).toNat * 7 + 4, none⟩ = false := hfr7 4; have hf7_5 : w17.frozen? ⟨go5, (x5_1 : Int).toNat * 7 + 5, none⟩ = false := hfr7 5; have hf7_6 : w17.frozen? ⟨go5, (x5_1 : Int).toNat * 7 + 6, none⟩ = false := hfr7 6; clear hcl7 hcc7 hfr7 hM7; replace p7 := eq_true p7; replace q7 := eq_true q7; have HX18 := Aside0.mk (show Kd.R k63 63 w17 w0.heap.size (fun k_ => (P0_ k_ ∨ w.heap.size ≤ k_)) (.slice (some ⟨go5, 0, none⟩) x0_1.length co14) y138 from (lf HO_0)); obtain ⟨ce18, hcl18, hM18, hcc18, hfr18⟩ := Kd.R_elem HX18.out z63 (x5_1 : Int) (of_decide_eq_true (by first | (with_reducible assumption) | assumption)) (by have h_ : (x5_1 : Int) < ((x0_1.length : Int) : Int) := of_decide_eq_true (by first | (with_reducible assumption) | assumption); first | exact h_ | (have e_ := (Kd.R_reads' HO_0.out).1; omega) | simpa using h_); obtain rfl := k63_openM hM18; have HP18 := Kd.R_seg HX18.out (x5_1 : Int) (of_decide_eq_true (by first | (with_reducible assumption) | assumption)) (by have h_ : (x5_1 : Int) < ((x0_1.length : Int) : Int) := of_decide_eq_true (by first | (with_reducible assumption) | assumption); first | exact h_ | (have e_ := (Kd.R_reads' HO_0.out).1; omega) | simpa using h_) (seg := [.string t139]) (j := 1) hcl18 hcc18 (show 2 ≤ 7 from by decide) (x' := (⟨(rd_T63 y138 x5_1).f0, t139, (rd_T63 y138 x5_1).f2, (rd_T63 y138 x5_1).f3, (rd_T63 y138 x5_1).f4, (rd_T63 y138 x5_1).f5, (rd_T63 y138 x5_1).f6⟩ : S63)) (k63_mkM _ _ _ (⟨(rd_T63 y138 x5_1).f0, t139, (rd_T63 y138 x5_1).f2, (rd_T63 y138 x5_1).f3, (rd_T63 y138 x5_1).f4, (rd_T63 y138 x5_1).f5, (rd_T63 y138 x5_1).f6⟩ : S63) ) (fun _ hk => hk); have hx18_1 := hcc18 1 _ rfl; (try simp only [show (k63).sz = 7 from rfl, Nat.mul_one, Nat.add_zero] at hx18_1); have hf18_1 := hfr18 1; (try simp only [show (k63).sz = 7 from rfl, Nat.mul_one, Nat.add_zero] at hf18_1); clear hcl18 hcc18 hfr18 hM18) | ((with_reducible refine gate_store (t := 9) (p := 24) rfl ?_); refine store_event (t := 9) (p := 24) (v := ?vo_w19) (w1 := (w17.setCell ⟨go5, (x5_1 : Int).toNat * 7 + 1, none⟩ (.string t139))) ?hg ?ho ?hn ?hr ?_; (case ho => rfl); (case hg => rfl); (case hn => rfl); (case hr => first | (go_simp; done) | (go_simp; rfl)); intro w19 hw; have hg : w17.grownBy w19 (some go5) := (by rw [hw]; exact HP18.2); have hp_ : Kd.R k63 63 w19 w0.heap.size (fun k_ => (P0_ k_ ∨ w.heap.size ≤ k_)) (.slice (some ⟨go5, 0, none⟩) x0_1.length co14) y140 := (by rw [hw, Ny140.out]; exact HP18.1); clear HP18; have n0_ := Aside0.mk (hp_); have n1_ := Aside0.mk ((by rw [hw]; exact below_set (HB.out) GB5.out : Below w0.heap.size w0 w19)); have n2_ := Aside0.mk (Kept.of_grown (S := (fun k_ => P0_ k_)) hg (by repeat (first | (with_reducible first | exact HK.out | apply Kept.alloc | apply Kept.drewN | apply Kept.drew) | exact HK.out)) (fun k_ e_ => (HO_0.out.1 k_ e_))); clear HO_0; clear HB; clear HK; have HO_0 := n0_; have HB := n1_; have HK := n2_; clear n0_ n1_ n2_; clear hg hw hp_; have p8 : 0 ≤ (x5_1 : Int) := of_decide_eq_true (by first | (with_reducible assumption) | assumption); have q8 : (x5_1 : Int) < ((x0_1.length : Int) : Int) := of_decide_eq_true (by first | (with_reducible assumption) | assumption); obtain ⟨ce8, hcl8, hM8, hcc8, hfr8⟩ := Kd.R_elem HO_0.out z63 (x5_1 : Int) p8 q8; obtain rfl := k63_openM hM8; have hx8_0 : w19.cell? ⟨go5, (x5_1 : Int).toNat * 7, none⟩ = some (.int .i64 ((rd_T63 y140 x5_1).f0)) := hcc8 0 _ rfl; have hx8_1 : w19.cell? ⟨go5, (x5_1 : Int).toNat * 7 + 1, none⟩ = some (.string ((rd_T63 y140 x5_1).f1)) := hcc8 1 _ rfl; have hx8_2 : w19.cell? ⟨go5, (x5_1 : Int).toNat * 7 + 2, none⟩ = some (.bool ((rd_T63 y140 x5_1).f2)) := hcc8 2 _ rfl; have hx8_3 : w19.cell? ⟨go5, (x5_1 : Int).toNat * 7 + 3, none⟩ = some (.string ((rd_T63 y140 x5_1).f3)) := hcc8 3 _ rfl; have hx8_4 : w19.cell? ⟨go5, (x5_1 : Int).toNat * 7 + 4, none⟩ = some (.int .u64 ((rd_T63 y140 x5_1).f4)) := hcc8 4 _ rfl; have hx8_5 : w19.cell? ⟨go5, (x5_1 : Int).toNat * 7 + 5, none⟩ = some (.int .u64 ((rd_T63 y140 x5_1).f5)) := hcc8 5 _ rfl; have hx8_6 : w19.cell? ⟨go5, (x5_1 : Int).toNat * 7 + 6, none⟩ = some (.int .i64 ((rd_T63 y140 x5_1).f6)) := hcc8 6 _ rfl; have hf8_0 : w19.frozen? ⟨go5, (x5_1 : Int).toNat * 7, none⟩ = false := hfr8 0; have hf8_1 : w19.frozen? ⟨go5, (x5_1 : Int).toNat * 7 + 1, none⟩ = false := hfr8 1; have hf8_2 : w19.frozen? ⟨go5, (x5_1 : Int).toNat * 7 + 2, none⟩ = false := hfr8 2; have hf8_3 : w19.frozen? ⟨go5, (x5_1 : Int).toNat * 7 + 3, none⟩ = false := hfr8 3; have hf8_4 : w19.frozen? ⟨go5, (x5_1 : Int).toNat * 7 + 4, none⟩ = false := hfr8 4; have hf8_5 : w19.frozen? ⟨go5, (x5_1 : Int).toNat * 7 + 5, none⟩ = false := hfr8 5; have hf8_6 : w19.frozen? ⟨go5, (x5_1 : Int).toNat * 7 + 6, none⟩ = false := hfr8 6; clear hcl8 hcc8 hfr8 hM8; replace p8 := eq_true p8; replace q8 := eq_true q8; have HX20 := Aside0.mk (show Kd.R k63 63 w19 w0.heap.size (fun k_ => (P0_ k_ ∨ w.heap.size ≤ k_)) (.slice (some ⟨go5, 0, none⟩) x0_1.length co14) y140 from (lf HO_0)); obtain ⟨ce20, hcl20, hM20, hcc20, hfr20⟩ := Kd.R_elem HX20.out z63 (x5_1 : Int) (of_decide_eq_true (by first | (with_reducible assumption) | assumption)) (by have h_ : (x5_1 : Int) < ((x0_1.length : Int) : Int) := of_decide_eq_true (by first | (with_reducible assumption) | assumption); first | exact h_ | (have e_ := (Kd.R_reads' HO_0.out).1; omega) | simpa using h_); obtain rfl := k63_openM hM20; have HP20 := Kd.R_seg HX20.out (x5_1 : Int) (of_decide_eq_true (by first | (with_reducible assumption) | assumption)) (by have h_ : (x5_1 : Int) < ((x0_1.length : Int) : Int) := of_decide_eq_true (by first | (with_reducible assumption) | assumption); first | exact h_ | (have e_ := (Kd.R_reads' HO_0.out).1; omega) | simpa using h_) (seg := [.bool ((Int.tmod (wrap64 ((wrap64 (x1_1 + 1)) + 1)) 3) == 0)]) (j := 2) hcl20 hcc20 (show 3 ≤ 7 from by decide) (x' := (⟨(rd_T63 y140 x5_1).f0, (rd_T63 y140 x5_1).f1, ((Int.tmod (wrap64 ((wrap64 (x1_1 + 1)) + 1)) 3) == 0), (rd_T63 y140 x5_1).f3, (rd_T63 y140 x5_1).f4, (rd_T63 y140 x5_1).f5, (rd_T63 y140 x5_1).f6⟩ : S63)) (k63_mkM _ _ _ (⟨(rd_T63 y140 x5_1).f0, (rd_T63 y140 x5_1).f1, ((Int.tmod (wrap64 ((wrap64 (x1_1 + 1)) + 1)) 3) == 0), (rd_T63 y140 x5_1).f3, (rd_T63 y140 x5_1).f4, (rd_T63 y140 x5_1).f5, (rd_T63 y140 x5_1).f6⟩ : S63) ) (fun _ hk => hk); have hx20_2 := hcc20 2 _ rfl; (try simp only [show (k63).sz = 7 from rfl, Nat.mul_one, Nat.add_zero] at hx20_2); have hf20_2 := hfr20 2; (try simp only [show (k63).sz = 7 from rfl, Nat.mul_one, Nat.add_zero] at hf20_2); clear hcl20 hcc20 hfr20 hM20) | ((with_reducible refine gate_store (t := 4) (p := 33) rfl ?_); refine store_event (t := 4) (p := 33) (v := ?vo_w21) (w1 := (w19.setCell ⟨go5, (x5_1 : Int).toNat * 7 + 2, none⟩ (.bool ((Int.tmod (wrap64 ((wrap64 (x1_1 + 1)) + 1)) 3) == 0)))) ?hg ?ho ?hn ?hr ?_; (case ho => rfl); (case hg => rfl); (case hn => rfl); (case hr => first | (go_simp; done) | (go_simp; rfl)); intro w21 hw; have hg : w19.grownBy w21 (some go5) := (by rw [hw]; exact HP20.2); have hp_ : Kd.R k63 63 w21 w0.heap.size (fun k_ => (P0_ k_ ∨ w.heap.size ≤ k_)) (.slice (some ⟨go5, 0, none⟩) x0_1.length co14) y141 := (by rw [hw, Ny141.out]; exact HP20.1); clear HP20; have n0_ := Aside0.mk (hp_); have n1_ := Aside0.mk ((by rw [hw]; exact below_set (HB.out) GB5.out : Below w0.heap.size w0 w21)); have n2_ := Aside0.mk (Kept.of_grown (S := (fun k_ => P0_ k_)) hg (by repeat (first | (with_reducible first | exact HK.out | apply Kept.alloc | apply Kept.drewN | apply Kept.drew) | exact HK.out)) (fun k_ e_ => (HO_0.out.1 k_ e_))); clear HO_0; clear HB; clear HK; have HO_0 := n0_; have HB := n1_; have HK := n2_; clear n0_ n1_ n2_; clear hg hw hp_) | ((with_reducible refine at_fn (f := 57) rfl ?_); refine goesL_ (some 39) rfl rfl Try.func57 (by kernel_rfl) rfl #[.int .i64 (wrap64 ((wrap64 ((wrap64 (x1_1 + 1)) + 1)) + 1))] rfl (by (try simp only [List.map_toArray, List.map_cons, List.map_nil]); first | done | rfl | (simp only [List.length_drop, List.length_take]; rfl)) ?_; (with_reducible refine (laws_markText.calls k1 (wrap64 ((wrap64 ((wrap64 (x1_1 + 1)) + 1)) + 1)) t142 _ A9.out).mono ?_); rintro e w22 ⟨rfl, hb⟩; refine ⟨_, rfl, ?_⟩; have n0_ := Aside0.mk (Kd.R_below (lf HO_0) hb); have n1_ := Aside0.mk (Kept.below (S := (fun k_ => P0_ k_)) (by repeat (first | (with_reducible first | exact HK.out | apply Kept.alloc | apply Kept.drewN | apply Kept.drew) | exact HK.out)) hb); have n2_ := Aside0.mk (below_step bw hb); clear HO_0; clear HK; clear HB; have HO_0 := n0_; have HK := n1_; have HB := n2_; clear n0_ n1_ n2_; (try clear hb); (try clear hb2); (try clear hk); (try clear hi); have p10 : 0 ≤ (x5_1 : Int) := of_decide_eq_true (by first | (with_reducible assumption) | assumption); have q10 : (x5_1 : Int) < ((x0_1.length : Int) : Int) := of_decide_eq_true (by first | (with_reducible assumption) | assumption); obtain ⟨ce10, hcl10, hM10, hcc10, hfr10⟩ := Kd.R_elem HO_0.out z63 (x5_1 : Int) p10 q10; obtain rfl := k63_openM hM10; have hx10_0 : w22.cell? ⟨go5, (x5_1 : Int).toNat * 7, none⟩ = some (.int .i64 ((rd_T63 y141 x5_1).f0)) := hcc10 0 _ rfl; have hx10_1 : w22.cell? ⟨go5, (x5_1 : Int).toNat * 7 + 1, none⟩ = some (.string ((rd_T63 y141 x5_1).f1)) := hcc10 1 _ rfl; have hx10_2 : w22.cell? ⟨go5, (x5_1 : Int).toNat * 7 + 2, none⟩ = some (.bool ((rd_T63 y141 x5_1).f2)) := hcc10 2 _ rfl; have hx10_3 : w22.cell? ⟨go5, (x5_1 : Int).toNat * 7 + 3, none⟩ = some (.string ((rd_T63 y141 x5_1).f3)) := hcc10 3 _ rfl; have hx10_4 : w22.cell? ⟨go5, (x5_1 : Int).toNat * 7 + 4, none⟩ = some (.int .u64 ((rd_T63 y141 x5_1).f4)) := hcc10 4 _ rfl; have hx10_5 : w22.cell? ⟨go5, (x5_1 : Int).toNat * 7 + 5, none⟩ = some (.int .u64 ((rd_T63 y141 x5_1).f5)) := hcc10 5 _ rfl; have hx10_6 : w22.cell? ⟨go5, (x5_1 : Int).toNat * 7 + 6, none⟩ = some (.int .i64 ((rd_T63 y141 x5_1).f6)) := hcc10 6 _ rfl; have hf10_0 : w22.frozen? ⟨go5, (x5_1 : Int).toNat * 7, none⟩ = false := hfr10 0; have hf10_1 : w22.frozen? ⟨go5, (x5_1 : Int).toNat * 7 + 1, none⟩ = false := hfr10 1; have hf10_2 : w22.frozen? ⟨go5, (x5_1 : Int).toNat * 7 + 2, none⟩ = false := hfr10 2; have hf10_3 : w22.frozen? ⟨go5, (x5_1 : Int).toNat * 7 + 3, none⟩ = false := hfr10 3; have hf10_4 : w22.frozen? ⟨go5, (x5_1 : Int).toNat * 7 + 4, none⟩ = false := hfr10 4; have hf10_5 : w22.frozen? ⟨go5, (x5_1 : Int).toNat * 7 + 5, none⟩ = false := hfr10 5; have hf10_6 : w22.frozen? ⟨go5, (x5_1 : Int).toNat * 7 + 6, none⟩ = false := hfr10 6; clear hcl10 hcc10 hfr10 hM10; replace p10 := eq_true p10; replace q10 := eq_true q10; have HX23 := Aside0.mk (show Kd.R k63 63 w22 w0.heap.size (fun k_ => (P0_ k_ ∨ w.heap.size ≤ k_)) (.slice (some ⟨go5, 0, none⟩) x0_1.length co14) y141 from (lf HO_0)); obtain ⟨ce23, hcl23, hM23, hcc23, hfr23⟩ := Kd.R_elem HX23.out z63 (x5_1 : Int) (of_decide_eq_true (by first | (with_reducible assumption) | assumption)) (by have h_ : (x5_1 : Int) < ((x0_1.length : Int) : Int) := of_decide_eq_true (by first | (with_reducible assumption) | assumption); first | exact h_ | (have e_ := (Kd.R_reads' HO_0.out).1; omega) | simpa using h_); obtain rfl := k63_openM hM23; have HP23 := Kd.R_seg HX23.out (x5_1 : Int) (of_decide_eq_true (by first | (with_reducible assumption) | assumption)) (by have h_ : (x5_1 : Int) < ((x0_1.length : Int) : Int) := of_decide_eq_true (by first | (with_reducible assumption) | assumption); first | exact h_ | (have e_ := (Kd.R_reads' HO_0.out).1; omega) | simpa using h_) (seg := [.string t142]) (j := 3) hcl23 hcc23 (show 4 ≤ 7 from by decide) (x' := (⟨(rd_T63 y141 x5_1).f0, (rd_T63 y141 x5_1).f1, (rd_T63 y141 x5_1).f2, t142, (rd_T63 y141 x5_1).f4, (rd_T63 y141 x5_1).f5, (rd_T63 y141 x5_1).f6⟩ : S63)) (k63_mkM _ _ _ (⟨(rd_T63 y141 x5_1).f0, (rd_T63 y141 x5_1).f1, (rd_T63 y141 x5_1).f2, t142, (rd_T63 y141 x5_1).f4, (rd_T63 y141 x5_1).f5, (rd_T63 y141 x5_1).f6⟩ : S63) ) (fun _ hk => hk); have hx23_3 := hcc23 3 _ rfl; (try simp only [show (k63).sz = 7 from rfl, Nat.mul_one, Nat.add_zero] at hx23_3); have hf23_3 := hfr23 3; (try simp only [show (k63).sz = 7 from rfl, Nat.mul_one, Nat.add_zero] at hf23_3); clear hcl23 hcc23 hfr23 hM23) | ((with_reducible refine gate_store (t := 9) (p := 41) rfl ?_); refine store_event (t := 9) (p := 41) (v := ?vo_w24) (w1 := (w22.setCell ⟨go5, (x5_1 : Int).toNat * 7 + 3, none⟩ (.string t142))) ?hg ?ho ?hn ?hr ?_; (case ho => rfl); (case hg => rfl); (case hn => rfl); (case hr => first | (go_simp; done) | (go_simp; rfl)); intro w24 hw; have hg : w22.grownBy w24 (some go5) := (by rw [hw]; exact HP23.2); have hp_ : Kd.R k63 63 w24 w0.heap.size (fun k_ => (P0_ k_ ∨ w.heap.size ≤ k_)) (.slice (some ⟨go5, 0, none⟩) x0_1.length co14) y143 := (by rw [hw, Ny143.out]; exact HP23.1); clear HP23; have n0_ := Aside0.mk (hp_); have n1_ := Aside0.mk ((by rw [hw]; exact below_set (HB.out) GB5.out : Below w0.heap.size w0 w24)); have n2_ := Aside0.mk (Kept.of_grown (S := (fun k_ => P0_ k_)) hg (by repeat (first | (with_reducible first | exact HK.out | apply Kept.alloc | apply Kept.drewN | apply Kept.drew) | exact HK.out)) (fun k_ e_ => (HO_0.out.1 k_ e_))); clear HO_0; clear HB; clear HK; have HO_0 := n0_; have HB := n1_; have HK := n2_; clear n0_ n1_ n2_; clear hg hw hp_; have p11 : 0 ≤ (x5_1 : Int) := of_decide_eq_true (by first | (with_reducible assumption) | assumption); have q11 : (x5_1 : Int) < ((x0_1.length : Int) : Int) := of_decide_eq_true (by first | (with_reducible assumption) | assumption); obtain ⟨ce11, hcl11, hM11, hcc11, hfr11⟩ := Kd.R_elem HO_0.out z63 (x5_1 : Int) p11 q11; obtain rfl := k63_openM hM11; have hx11_0 : w24.cell? ⟨go5, (x5_1 : Int).toNat * 7, none⟩ = some (.int .i64 ((rd_T63 y143 x5_1).f0)) := hcc11 0 _ rfl; have hx11_1 : w24.cell? ⟨go5, (x5_1 : Int).toNat * 7 + 1, none⟩ = some (.string ((rd_T63 y143 x5_1).f1)) := hcc11 1 _ rfl; have hx11_2 : w24.cell? ⟨go5, (x5_1 : Int).toNat * 7 + 2, none⟩ = some (.bool ((rd_T63 y143 x5_1).f2)) := hcc11 2 _ rfl; have hx11_3 : w24.cell? ⟨go5, (x5_1 : Int).toNat * 7 + 3, none⟩ = some (.string ((rd_T63 y143 x5_1).f3)) := hcc11 3 _ rfl; have hx11_4 : w24.cell? ⟨go5, (x5_1 : Int).toNat * 7 + 4, none⟩ = some (.int .u64 ((rd_T63 y143 x5_1).f4)) := hcc11 4 _ rfl; have hx11_5 : w24.cell? ⟨go5, (x5_1 : Int).toNat * 7 + 5, none⟩ = some (.int .u64 ((rd_T63 y143 x5_1).f5)) := hcc11 5 _ rfl; have hx11_6 : w24.cell? ⟨go5, (x5_1 : Int).toNat * 7 + 6, none⟩ = some (.int .i64 ((rd_T63 y143 x5_1).f6)) := hcc11 6 _ rfl; have hf11_0 : w24.frozen? ⟨go5, (x5_1 : Int).toNat * 7, none⟩ = false := hfr11 0; have hf11_1 : w24.frozen? ⟨go5, (x5_1 : Int).toNat * 7 + 1, none⟩ = false := hfr11 1; have hf11_2 : w24.frozen? ⟨go5, (x5_1 : Int).toNat * 7 + 2, none⟩ = false := hfr11 2; have hf11_3 : w24.frozen? ⟨go5, (x5_1 : Int).toNat * 7 + 3, none⟩ = false := hfr11 3; have hf11_4 : w24.frozen? ⟨go5, (x5_1 : Int).toNat * 7 + 4, none⟩ = false := hfr11 4; have hf11_5 : w24.frozen? ⟨go5, (x5_1 : Int).toNat * 7 + 5, none⟩ = false := hfr11 5; have hf11_6 : w24.frozen? ⟨go5, (x5_1 : Int).toNat * 7 + 6, none⟩ = false := hfr11 6; clear hcl11 hcc11 hfr11 hM11; replace p11 := eq_true p11; replace q11 := eq_true q11; have HX25 := Aside0.mk (show Kd.R k63 63 w24 w0.heap.size (fun k_ => (P0_ k_ ∨ w.heap.size ≤ k_)) (.slice (some ⟨go5, 0, none⟩) x0_1.length co14) y143 from (lf HO_0)); obtain ⟨ce25, hcl25, hM25, hcc25, hfr25⟩ := Kd.R_elem HX25.out z63 (x5_1 : Int) (of_decide_eq_true (by first | (with_reducible assumption) | assumption)) (by have h_ : (x5_1 : Int) < ((x0_1.length : Int) : Int) := of_decide_eq_true (by first | (with_reducible assumption) | assumption); first | exact h_ | (have e_ := (Kd.R_reads' HO_0.out).1; omega) | simpa using h_); obtain rfl := k63_openM hM25; have HP25 := Kd.R_seg HX25.out (x5_1 : Int) (of_decide_eq_true (by first | (with_reducible assumption) | assumption)) (by have h_ : (x5_1 : Int) < ((x0_1.length : Int) : Int) := of_decide_eq_true (by first | (with_reducible assumption) | assumption); first | exact h_ | (have e_ := (Kd.R_reads' HO_0.out).1; omega) | simpa using h_) (seg := [.int .u64 (IntKind.u64.wrap (wrap64 ((wrap64 ((wrap64 ((wrap64 (x1_1 + 1)) + 1)) + 1)) + 1)))]) (j := 4) hcl25 hcc25 (show 5 ≤ 7 from by decide) (x' := (⟨(rd_T63 y143 x5_1).f0, (rd_T63 y143 x5_1).f1, (rd_T63 y143 x5_1).f2, (rd_T63 y143 x5_1).f3, IntKind.u64.wrap (wrap64 ((wrap64 ((wrap64 ((wrap64 (x1_1 + 1)) + 1)) + 1)) + 1)), (rd_T63 y143 x5_1).f5, (rd_T63 y143 x5_1).f6⟩ : S63)) (k63_mkM _ _ _ (⟨(rd_T63 y143 x5_1).f0, (rd_T63 y143 x5_1).f1, (rd_T63 y143 x5_1).f2, (rd_T63 y143 x5_1).f3, IntKind.u64.wrap (wrap64 ((wrap64 ((wrap64 ((wrap64 (x1_1 + 1)) + 1)) + 1)) + 1)), (rd_T63 y143 x5_1).f5, (rd_T63 y143 x5_1).f6⟩ : S63) ) (fun _ hk => hk); have hx25_4 := hcc25 4 _ rfl; (try simp only [show (k63).sz = 7 from rfl, Nat.mul_one, Nat.add_zero] at hx25_4); have hf25_4 := hfr25 4; (try simp only [show (k63).sz = 7 from rfl, Nat.mul_one, Nat.add_zero] at hf25_4); clear hcl25 hcc25 hfr25 hM25) | ((with_reducible refine gate_store (t := 61) (p := 49) rfl ?_); refine store_event (t := 61) (p := 49) (v := ?vo_w26) (w1 := (w24.setCell ⟨go5, (x5_1 : Int).toNat * 7 + 4, none⟩ (.int .u64 (IntKind.u64.wrap (wrap64 ((wrap64 ((wrap64 ((wrap64 (x1_1 + 1)) + 1)) + 1)) + 1)))))) ?hg ?ho ?hn ?hr ?_; (case ho => rfl); (case hg => rfl); (case hn => rfl); (case hr => first | (go_simp; done) | (go_simp; rfl)); intro w26 hw; have hg : w24.grownBy w26 (some go5) := (by rw [hw]; exact HP25.2); have hp_ : Kd.R k63 63 w26 w0.heap.size (fun k_ => (P0_ k_ ∨ w.heap.size ≤ k_)) (.slice (some ⟨go5, 0, none⟩) x0_1.length co14) y144 := (by rw [hw, Ny144.out]; exact HP25.1); clear HP25; have n0_ := Aside0.mk (hp_); have n1_ := Aside0.mk ((by rw [hw]; exact below_set (HB.out) GB5.out : Below w0.heap.size w0 w26)); have n2_ := Aside0.mk (Kept.of_grown (S := (fun k_ => P0_ k_)) hg (by repeat (first | (with_reducible first | exact HK.out | apply Kept.alloc | apply Kept.drewN | apply Kept.drew) | exact HK.out)) (fun k_ e_ => (HO_0.out.1 k_ e_))); clear HO_0; clear HB; clear HK; have HO_0 := n0_; have HB := n1_; have HK := n2_; clear n0_ n1_ n2_; clear hg hw hp_; have p12 : 0 ≤ (x5_1 : Int) := of_decide_eq_true (by first | (with_reducible assumption) | assumption); have q12 : (x5_1 : Int) < ((x0_1.length : Int) : Int) := of_decide_eq_true (by first | (with_reducible assumption) | assumption); obtain ⟨ce12, hcl12, hM12, hcc12, hfr12⟩ := Kd.R_elem HO_0.out z63 (x5_1 : Int) p12 q12; obtain rfl := k63_openM hM12; have hx12_0 : w26.cell? ⟨go5, (x5_1 : Int).toNat * 7, none⟩ = some (.int .i64 ((rd_T63 y144 x5_1).f0)) := hcc12 0 _ rfl; have hx12_1 : w26.cell? ⟨go5, (x5_1 : Int).toNat * 7 + 1, none⟩ = some (.string ((rd_T63 y144 x5_1).f1)) := hcc12 1 _ rfl; have hx12_2 : w26.cell? ⟨go5, (x5_1 : Int).toNat * 7 + 2, none⟩ = some (.bool ((rd_T63 y144 x5_1).f2)) := hcc12 2 _ rfl; have hx12_3 : w26.cell? ⟨go5, (x5_1 : Int).toNat * 7 + 3, none⟩ = some (.string ((rd_T63 y144 x5_1).f3)) := hcc12 3 _ rfl; have hx12_4 : w26.cell? ⟨go5, (x5_1 : Int).toNat * 7 + 4, none⟩ = some (.int .u64 ((rd_T63 y144 x5_1).f4)) := hcc12 4 _ rfl; have hx12_5 : w26.cell? ⟨go5, (x5_1 : Int).toNat * 7 + 5, none⟩ = some (.int .u64 ((rd_T63 y144 x5_1).f5)) := hcc12 5 _ rfl; have hx12_6 : w26.cell? ⟨go5, (x5_1 : Int).toNat * 7 + 6, none⟩ = some (.int .i64 ((rd_T63 y144 x5_1).f6)) := hcc12 6 _ rfl; have hf12_0 : w26.frozen? ⟨go5, (x5_1 : Int).toNat * 7, none⟩ = false := hfr12 0; have hf12_1 : w26.frozen? ⟨go5, (x5_1 : Int).toNat * 7 + 1, none⟩ = false := hfr12 1; have hf12_2 : w26.frozen? ⟨go5, (x5_1 : Int).toNat * 7 + 2, none⟩ = false := hfr12 2; have hf12_3 : w26.frozen? ⟨go5, (x5_1 : Int).toNat * 7 + 3, none⟩ = false := hfr12 3; have hf12_4 : w26.frozen? ⟨go5, (x5_1 : Int).toNat * 7 + 4, none⟩ = false := hfr12 4; have hf12_5 : w26.frozen? ⟨go5, (x5_1 : Int).toNat * 7 + 5, none⟩ = false := hfr12 5; have hf12_6 : w26.frozen? ⟨go5, (x5_1 : Int).toNat * 7 + 6, none⟩ = false := hfr12 6; clear hcl12 hcc12 hfr12 hM12; replace p12 := eq_true p12; replace q12 := eq_true q12; have HX27 := Aside0.mk (show Kd.R k63 63 w26 w0.heap.size (fun k_ => (P0_ k_ ∨ w.heap.size ≤ k_)) (.slice (some ⟨go5, 0, none⟩) x0_1.length co14) y144 from (lf HO_0)); obtain ⟨ce27, hcl27, hM27, hcc27, hfr27⟩ := Kd.R_elem HX27.out z63 (x5_1 : Int) (of_decide_eq_true (by first | (with_reducible assumption) | assumption)) (by have h_ : (x5_1 : Int) < ((x0_1.length : Int) : Int) := of_decide_eq_true (by first | (with_reducible assumption) | assumption); first | exact h_ | (have e_ := (Kd.R_reads' HO_0.out).1; omega) | simpa using h_); obtain rfl := k63_openM hM27; have HP27 := Kd.R_seg HX27.out (x5_1 : Int) (of_decide_eq_true (by first | (with_reducible assumption) | assumption)) (by have h_ : (x5_1 : Int) < ((x0_1.length : Int) : Int) := of_decide_eq_true (by first | (with_reducible assumption) | assumption); first | exact h_ | (have e_ := (Kd.R_reads' HO_0.out).1; omega) | simpa using h_) (seg := [.int .u64 (IntKind.u64.wrap (wrap64 ((wrap64 ((wrap64 ((wrap64 ((wrap64 (x1_1 + 1)) + 1)) + 1)) + 1)) + 1)))]) (j := 5) hcl27 hcc27 (show 6 ≤ 7 from by decide) (x' := (⟨(rd_T63 y144 x5_1).f0, (rd_T63 y144 x5_1).f1, (rd_T63 y144 x5_1).f2, (rd_T63 y144 x5_1).f3, (rd_T63 y144 x5_1).f4, IntKind.u64.wrap (wrap64 ((wrap64 ((wrap64 ((wrap64 ((wrap64 (x1_1 + 1)) + 1)) + 1)) + 1)) + 1)), (rd_T63 y144 x5_1).f6⟩ : S63)) (k63_mkM _ _ _ (⟨(rd_T63 y144 x5_1).f0, (rd_T63 y144 x5_1).f1, (rd_T63 y144 x5_1).f2, (rd_T63 y144 x5_1).f3, (rd_T63 y144 x5_1).f4, IntKind.u64.wrap (wrap64 ((wrap64 ((wrap64 ((wrap64 ((wrap64 (x1_1 + 1)) + 1)) + 1)) + 1)) + 1)), (rd_T63 y144 x5_1).f6⟩ : S63) ) (fun _ hk => hk); have hx27_5 := hcc27 5 _ rfl; (try simp only [show (k63).sz = 7 from rfl, Nat.mul_one, Nat.add_zero] at hx27_5); have hf27_5 := hfr27 5; (try simp only [show (k63).sz = 7 from rfl, Nat.mul_one, Nat.add_zero] at hf27_5); clear hcl27 hcc27 hfr27 hM27) | ((with_reducible refine gate_store (t := 61) (p := 57) rfl ?_); refine store_event (t := 61) (p := 57) (v := ?vo_w28) (w1 := (w26.setCell ⟨go5, (x5_1 : Int).toNat * 7 + 5, none⟩ (.int .u64 (IntKind.u64.wrap (wrap64 ((wrap64 ((wrap64 ((wrap64 ((wrap64 (x1_1 + 1)) + 1)) + 1)) + 1)) + 1)))))) ?hg ?ho ?hn ?hr ?_; (case ho => rfl); (case hg => rfl); (case hn => rfl); (case hr => first | (go_simp; done) | (go_simp; rfl)); intro w28 hw; have hg : w26.grownBy w28 (some go5) := (by rw [hw]; exact HP27.2); have hp_ : Kd.R k63 63 w28 w0.heap.size (fun k_ => (P0_ k_ ∨ w.heap.size ≤ k_)) (.slice (some ⟨go5, 0, none⟩) x0_1.length co14) y145 := (by rw [hw, Ny145.out]; exact HP27.1); clear HP27; have n0_ := Aside0.mk (hp_); have n1_ := Aside0.mk ((by rw [hw]; exact below_set (HB.out) GB5.out : Below w0.heap.size w0 w28)); have n2_ := Aside0.mk (Kept.of_grown (S := (fun k_ => P0_ k_)) hg (by repeat (first | (with_reducible first | exact HK.out | apply Kept.alloc | apply Kept.drewN | apply Kept.drew) | exact HK.out)) (fun k_ e_ => (HO_0.out.1 k_ e_))); clear HO_0; clear HB; clear HK; have HO_0 := n0_; have HB := n1_; have HK := n2_; clear n0_ n1_ n2_; clear hg hw hp_; have p13 : 0 ≤ (x5_1 : Int) := of_decide_eq_true (by first | (with_reducible assumption) | assumption); have q13 : (x5_1 : Int) < ((x0_1.length : Int) : Int) := of_decide_eq_true (by first | (with_reducible assumption) | assumption); obtain ⟨ce13, hcl13, hM13, hcc13, hfr13⟩ := Kd.R_elem HO_0.out z63 (x5_1 : Int) p13 q13; obtain rfl := k63_openM hM13; have hx13_0 : w28.cell? ⟨go5, (x5_1 : Int).toNat * 7, none⟩ = some (.int .i64 ((rd_T63 y145 x5_1).f0)) := hcc13 0 _ rfl; have hx13_1 : w28.cell? ⟨go5, (x5_1 : Int).toNat * 7 + 1, none⟩ = some (.string ((rd_T63 y145 x5_1).f1)) := hcc13 1 _ rfl; have hx13_2 : w28.cell? ⟨go5, (x5_1 : Int).toNat * 7 + 2, none⟩ = some (.bool ((rd_T63 y145 x5_1).f2)) := hcc13 2 _ rfl; have hx13_3 : w28.cell? ⟨go5, (x5_1 : Int).toNat * 7 + 3, none⟩ = some (.string ((rd_T63 y145 x5_1).f3)) := hcc13 3 _ rfl; have hx13_4 : w28.cell? ⟨go5, (x5_1 : Int).toNat * 7 + 4, none⟩ = some (.int .u64 ((rd_T63 y145 x5_1).f4)) := hcc13 4 _ rfl; have hx13_5 : w28.cell? ⟨go5, (x5_1 : Int).toNat * 7 + 5, none⟩ = some (.int .u64 ((rd_T63 y145 x5_1).f5)) := hcc13 5 _ rfl; have hx13_6 : w28.cell? ⟨go5, (x5_1 : Int).toNat * 7 + 6, none⟩ = some (.int .i64 ((rd_T63 y145 x5_1).f6)) := hcc13 6 _ rfl; have hf13_0 : w28.frozen? ⟨go5, (x5_1 : Int).toNat * 7, none⟩ = false := hfr13 0; have hf13_1 : w28.frozen? ⟨go5, (x5_1 : Int).toNat * 7 + 1, none⟩ = false := hfr13 1; have hf13_2 : w28.frozen? ⟨go5, (x5_1 : Int).toNat * 7 + 2, none⟩ = false := hfr13 2; have hf13_3 : w28.frozen? ⟨go5, (x5_1 : Int).toNat * 7 + 3, none⟩ = false := hfr13 3; have hf13_4 : w28.frozen? ⟨go5, (x5_1 : Int).toNat * 7 + 4, none⟩ = false := hfr13 4; have hf13_5 : w28.frozen? ⟨go5, (x5_1 : Int).toNat * 7 + 5, none⟩ = false := hfr13 5; have hf13_6 : w28.frozen? ⟨go5, (x5_1 : Int).toNat * 7 + 6, none⟩ = false := hfr13 6; clear hcl13 hcc13 hfr13 hM13; replace p13 := eq_true p13; replace q13 := eq_true q13; have HX29 := Aside0.mk (show Kd.R k63 63 w28 w0.heap.size (fun k_ => (P0_ k_ ∨ w.heap.size ≤ k_)) (.slice (some ⟨go5, 0, none⟩) x0_1.length co14) y145 from (lf HO_0)); obtain ⟨ce29, hcl29, hM29, hcc29, hfr29⟩ := Kd.R_elem HX29.out z63 (x5_1 : Int) (of_decide_eq_true (by first | (with_reducible assumption) | assumption)) (by have h_ : (x5_1 : Int) < ((x0_1.length : Int) : Int) := of_decide_eq_true (by first | (with_reducible assumption) | assumption); first | exact h_ | (have e_ := (Kd.R_reads' HO_0.out).1; omega) | simpa using h_); obtain rfl := k63_openM hM29; have HP29 := Kd.R_seg HX29.out (x5_1 : Int) (of_decide_eq_true (by first | (with_reducible assumption) | assumption)) (by have h_ : (x5_1 : Int) < ((x0_1.length : Int) : Int) := of_decide_eq_true (by first | (with_reducible assumption) | assumption); first | exact h_ | (have e_ := (Kd.R_reads' HO_0.out).1; omega) | simpa using h_) (seg := [.int .i64 (wrap64 ((wrap64 ((wrap64 ((wrap64 ((wrap64 ((wrap64 (x1_1 + 1)) + 1)) + 1)) + 1)) + 1)) + 1))]) (j := 6) hcl29 hcc29 (show 7 ≤ 7 from by decide) (x' := (⟨(rd_T63 y145 x5_1).f0, (rd_T63 y145 x5_1).f1, (rd_T63 y145 x5_1).f2, (rd_T63 y145 x5_1).f3, (rd_T63 y145 x5_1).f4, (rd_T63 y145 x5_1).f5, wrap64 ((wrap64 ((wrap64 ((wrap64 ((wrap64 ((wrap64 (x1_1 + 1)) + 1)) + 1)) + 1)) + 1)) + 1)⟩ : S63)) (k63_mkM _ _ _ (⟨(rd_T63 y145 x5_1).f0, (rd_T63 y145 x5_1).f1, (rd_T63 y145 x5_1).f2, (rd_T63 y145 x5_1).f3, (rd_T63 y145 x5_1).f4, (rd_T63 y145 x5_1).f5, wrap64 ((wrap64 ((wrap64 ((wrap64 ((wrap64 ((wrap64 (x1_1 + 1)) + 1)) + 1)) + 1)) + 1)) + 1)⟩ : S63) ) (fun _ hk => hk); have hx29_6 := hcc29 6 _ rfl; (try simp only [show (k63).sz = 7 from rfl, Nat.mul_one, Nat.add_zero] at hx29_6); have hf29_6 := hfr29 6; (try simp only [show (k63).sz = 7 from rfl, Nat.mul_one, Nat.add_zero] at hf29_6); clear hcl29 hcc29 hfr29 hM29) | ((with_reducible refine gate_store (t := 2) (p := 64) rfl ?_); refine store_event (t := 2) (p := 64) (v := ?vo_w30) (w1 := (w28.setCell ⟨go5, (x5_1 : Int).toNat * 7 + 6, none⟩ (.int .i64 (wrap64 ((wrap64 ((wrap64 ((wrap64 ((wrap64 ((wrap64 (x1_1 + 1)) + 1)) + 1)) + 1)) + 1)) + 1))))) ?hg ?ho ?hn ?hr ?_; (case ho => rfl); (case hg => rfl); (case hn => rfl); (case hr => first | (go_simp; done) | (go_simp; rfl)); intro w30 hw; have hg : w28.grownBy w30 (some go5) := (by rw [hw]; exact HP29.2); have hp_ : Kd.R k63 63 w30 w0.heap.size (fun k_ => (P0_ k_ ∨ w.heap.size ≤ k_)) (.slice (some ⟨go5, 0, none⟩) x0_1.length co14) y146 := (by rw [hw, Ny146.out]; exact HP29.1); clear HP29; have n0_ := Aside0.mk (hp_); have n1_ := Aside0.mk ((by rw [hw]; exact below_set (HB.out) GB5.out : Below w0.heap.size w0 w30)); have n2_ := Aside0.mk (Kept.of_grown (S := (fun k_ => P0_ k_)) hg (by repeat (first | (with_reducible first | exact HK.out | apply Kept.alloc | apply Kept.drewN | apply Kept.drew) | exact HK.out)) (fun k_ e_ => (HO_0.out.1 k_ e_))); clear HO_0; clear HB; clear HK; have HO_0 := n0_; have HB := n1_; have HK := n2_; clear n0_ n1_ n2_; clear hg hw hp_))
     go_roundg k1
     case measure => have := HK1.out; omega
     case rel => exact ⟨(y146), (wrap64 ((wrap64 ((wrap64 ((wrap64 ((wrap64 ((wrap64 ((wrap64 (x1_1 + 1)) + 1)) + 1)) + 1)) + 1)) + 1)) + 1)), (wrap64 (x5_1 + 1)), (by first | rfl | (simp; done) | (simp [*]; done)), (by first | rfl | (simp; done) | (simp [*]; done)), H', ⟨by have := HK1.out; omega⟩, ⟨lf HO_0⟩, ⟨by repeat (first | (with_reducible first | exact HK.out | apply Kept.alloc | apply Kept.drewN | apply Kept.drew) | exact HK.out)⟩, ⟨bw⟩⟩
    ·rw [if_neg c4] at H
     exact absurd H (by simp)
   ·rw [if_neg c3] at H
    have c3b0 : decide (x5_1 < (x0_1.length : Int)) = false := decide_eq_false c3
    clear c3
    simp only [Option.some.injEq, Prod.mk.injEq] at H
    obtain ⟨rfl, rfl⟩ := H
    obtain ⟨Ao31, co31, eo31⟩ := Kd.R_slice HO_0.out
    subst eo31
    go_wp2
    go_ret
    exact ⟨by first | rfl | (simp [errW_none, errW_some] <;> rfl) | (simp [*, errW_none, errW_some] <;> rfl), lf HO_0, bw, by repeat (first | (with_reducible first | exact HK.out | apply Kept.alloc | apply Kept.drewN | apply Kept.drew) | exact HK.out)⟩

end Go.Proofs.Ytpfehkkfakofaaa.Q

namespace Go.Proofs.Ytpfehkkfakofaaa.Q
open Go.RowKit Go.Proofs.YtpfehkkfakofaaaW.PrintWords Go.Proofs.YtpfehkkfakofaaaW.PrintLast Go.Proofs.YtpfehkkfakofaaaW.PrintMore
set_option linter.unusedVariables false
set_option linter.unusedSimpArgs false

/-! ### laws_markFilter: function 10 -/
def laws_markFilter.f (k : Nat) (l0_0 : List (S63)) (a1 : Int) : Option (Int × (List (S63))) := (laws_markNodeS.f k l0_0 a1).bind fun bt148 => (some (bt148.1, bt148.2))
set_option maxHeartbeats 8000000 in
set_option maxRecDepth 100000 in
theorem laws_markFilter.calls (k : Nat) (P0_0_ : Nat → Prop) (u9000_ : Value) (l0_0 : List (S63)) (a1 : Int) (r1 : Int) (r2 : List (S63)) (w0 w : World) (hB : Below w0.heap.size w0 w) (ho0_0 : Kd.R k63 63 w w0.heap.size P0_0_ u9000_ l0_0) (h : laws_markFilter.f k l0_0 a1 = some (r1, r2)) :
  Calls Try.prog 10 #[.agg #[u9000_], .int .i64 a1] w fun e w' => e = .returned (.int .i64 r1) ∧ Kd.R k63 63 w' w0.heap.size (fun k_ => (P0_0_ k_ ∨ w.heap.size ≤ k_)) u9000_ r2 ∧ Below w0.heap.size w0 w' ∧ Kept w w' (fun k_ => P0_0_ k_) := by
 have hu28 := Try.underlying28
 have HO0_0 := Aside0.mk (show Kd.R k63 63 w w0.heap.size (fun k_ => (P0_0_ k_ ∨ w.heap.size ≤ k_)) u9000_ l0_0 from Kd.R_mono ho0_0 (fun k_ hk => (.inl hk)))
 have HK := Aside0.mk (Kept.refl w (fun k_ => P0_0_ k_))
 have HW0 := Aside0.mk hB.size
 have HB := Aside0.mk hB
 clear hB
 have H : ((laws_markNodeS.f k l0_0 a1).bind fun bt148 => (some (bt148.1, bt148.2))) = some (r1, r2) := h
 clear h
 replace H := Option.bind_eq_some_iff.mp H
 obtain ⟨⟨t148, t149⟩, A30, H⟩ := H
 replace H : (some (t148, t149)) = some (r1, r2) := H
 have A3 := Aside0.mk A30
 clear A30
 simp only [Option.some.injEq, Prod.mk.injEq] at H
 obtain ⟨rfl, rfl⟩ := H
 obtain ⟨Ao4, co4, eo4⟩ := Kd.R_slice HO0_0.out
 subst eo4
 go_enter Try.func10, Try.ntmps10
 go_wp2_with (first | ((with_reducible refine gate_dst (N := 2) rfl ?_); refine box_event ?hg (N := 2) ?hd (cs := #[.slice Ao4 l0_0.length co4]) (t := 28) ?hr ?_; (case hd => rfl); (case hg => rfl); (case hr => first | (go_simp; done) | (go_simp; rfl)); intro gb147 hg w5 hbox hb; have n0_ := Aside0.mk (Kd.R_below (lf HO0_0) hb); have n1_ := Aside0.mk (Kept.below (S := (fun k_ => P0_0_ k_)) (by repeat (first | (with_reducible first | exact HK.out | apply Kept.alloc | apply Kept.drewN | apply Kept.drew) | exact HK.out)) hb); have n2_ := Aside0.mk (below_step bw hb); have n3_ := Aside0.mk (hbox); have n4_ := Aside0.mk ((by rw [hg]; exact (by first | exact HK.out.1 | exact (show Kept w _ (fun k_ => P0_0_ k_) from by repeat (first | (with_reducible first | exact HK.out | apply Kept.alloc | apply Kept.drewN | apply Kept.drew) | exact HK.out)).1) : w.heap.size ≤ gb147)); have n5_ := Aside0.mk ((by rw [hg]; exact (below_size bw) : w0.heap.size ≤ gb147)); clear HO0_0; clear HK; clear HB; have HO0_0 := n0_; have HK := n1_; have HB := n2_; have BK147 := n3_; have GW147 := n4_; have GE147 := n5_; clear n0_ n1_ n2_ n3_ n4_ n5_; clear hb hbox hg; have hcz6_0 : w5.cell? ⟨gb147, 0, none⟩ = some (.slice Ao4 l0_0.length co4) := (blk_cell BK147.out 0).trans rfl; have hfz6_0 := blk_frozen BK147.out 0) | ((with_reducible refine at_fn (f := 25) rfl ?_); refine goesL_ (some 8) rfl rfl Try.func25 (by kernel_rfl) rfl #[.slice Ao4 l0_0.length co4, .int .i64 a1] rfl (by (try simp only [List.map_toArray, List.map_cons, List.map_nil]); first | done | rfl | (simp only [List.length_drop, List.length_take]; rfl)) ?_; (with_reducible refine (laws_markNodeS.calls k (fun k_ => some k_ = (.slice Ao4 l0_0.length co4 : Value).ownBlock) (.slice Ao4 l0_0.length co4) l0_0 a1 t148 t149 w0 _ ?side1 ?side2 A3.out).mono ?_); (case side1 => repeat (first | (with_reducible first | exact HB.out | apply below_alloc | apply pw_below_drewN | apply below_drew1 | refine below_set ?_ GE147.out) | exact HB.out)); (case side2 => exact Kd.R_tight rfl HO0_0.out); rintro e w7 ⟨rfl, hy0, hb, hkp⟩; refine ⟨_, rfl, ?_⟩; have n0_ := Aside0.mk (Kd.R_reok rfl hy0 (fun k_ e_ => HO0_0.out.1 k_ e_)); have n1_ := Aside0.mk (blk_kept (lb BK147) hkp (fun hs_ => (fun e_ => (Kd.R_ne HO0_0.out BK147.out (by decide)) e_) hs_)); have n2_ := Aside0.mk (Kept.then_ (S := (fun k_ => P0_0_ k_)) (by repeat (first | (with_reducible first | exact HK.out | apply Kept.alloc | apply Kept.drewN | apply Kept.drew | refine Kept.setCell ?_ (.inr GW147.out) _) | exact HK.out)) hkp (fun k_ hs_ => (fun e_ => (HO0_0.out.1 k_ e_.symm)) hs_)); have n3_ := Aside0.mk (hb); clear HO0_0; clear BK147; clear HK; clear HB; have HO0_0 := n0_; have BK147 := n1_; have HK := n2_; have HB := n3_; clear n0_ n1_ n2_ n3_; (try clear hb); (try clear hkp); (try clear hy0)))
 go_ret
 exact ⟨by first | rfl | (simp [errW_none, errW_some] <;> rfl) | (simp [*, errW_none, errW_some] <;> rfl), lf HO0_0, bw, by repeat (first | (with_reducible first | exact HK.out | apply Kept.alloc | apply Kept.drewN | apply Kept.drew | refine Kept.setCell ?_ (.inr GW147.out) _) | exact HK.out)⟩

end Go.Proofs.Ytpfehkkfakofaaa.Q

namespace Go.Proofs.Ytpfehkkfakofaaa.Q
open Go.RowKit Go.Proofs.YtpfehkkfakofaaaW.PrintWords Go.Proofs.YtpfehkkfakofaaaW.PrintLast
set_option linter.unusedVariables false
set_option linter.unusedSimpArgs false
theorem strOne (x : Int) : (strOfNums [x]).size = 1 := by first | rfl | simp [strOfNums]
theorem markText_loop : ∀ (f : Nat) (x : Int) (s : ByteArray), 0 ≤ x → x ≤ 9223372036854775807 → x < 10 ^ f → s.size + f < 1000 → ∃ t, Ev (fun k => laws_markText.l0 k x s) t
  | 0, x, s, h0, hm, h1, hs => by
    have h2 : x = 0 := by simp at h1; omega
    subst h2
    exact ⟨_, Ev.shift 1 fun k => by simp only [laws_markText.l0]; rw [if_neg (by omega), if_pos (by omega)]⟩
  | f + 1, x, s, h0, hm, h1, hs => by
    by_cases h2 : x > 0
    · have hx : wrap64 (Int.tdiv x 10) = x / 10 := by
        rw [Int.tdiv_eq_ediv_of_nonneg h0]
        exact wrap_id _ (by omega) (by omega)
      obtain ⟨t, ht⟩ := markText_loop f (x / 10) (strOfNums [(wrap64 (48 + (Int.tmod x 10))) % 256] ++ s) (by omega) (by omega) (by rw [Int.pow_succ] at h1; omega) (by rw [ByteArray.size_append, strOne]; omega)
      refine ⟨t, Ev.round (fun k => ?_) ht⟩
      simp only [laws_markText.l0]; rw [if_pos h2]; simp only [Option.bind_some]; rw [if_pos (by rw [strOne]; omega), hx]
    · exact ⟨_, Ev.shift 1 fun k => by simp only [laws_markText.l0]; rw [if_neg h2, if_pos (by omega)]⟩
theorem markText_ev (x : Int) (h0 : 0 ≤ x) (h1 : x < 1000000000000) : ∃ t, Ev (fun k => laws_markText.f k x) t := by
  unfold laws_markText.f
  by_cases h : x ≤ 0
  · exact ⟨_, Ev.if_pos h (Ev.now _)⟩
  · obtain ⟨t, ht⟩ := markText_loop 12 x ⟨#[]⟩ h0 (by omega) (by omega) (by decide)
    exact ⟨t, Ev.if_neg h ht⟩
noncomputable def mText (x : Int) : ByteArray := if h : 0 ≤ x ∧ x < 1000000000000 then Classical.choose (markText_ev x h.1 h.2) else ⟨#[]⟩
theorem mText_ev (x : Int) (h0 : 0 ≤ x) (h1 : x < 1000000000000) : Ev (fun k => laws_markText.f k x) (mText x) := by
  unfold mText
  rw [dif_pos ⟨h0, h1⟩]
  exact Classical.choose_spec (markText_ev x h0 h1)
noncomputable def mNode (x : Int) : S63 := ⟨x, mText (x + 1), (Int.tmod (x + 1 + 1) 3 == 0), mText (x + 1 + 1 + 1), IntKind.u64.wrap (x + 1 + 1 + 1 + 1), IntKind.u64.wrap (x + 1 + 1 + 1 + 1 + 1), x + 1 + 1 + 1 + 1 + 1 + 1⟩
noncomputable def mNodes : Nat → Int → List S63
  | 0, _ => []
  | d + 1, x => mNode x :: mNodes d (x + 1 + 1 + 1 + 1 + 1 + 1 + 1)
theorem mark_loop : ∀ (rest pre : List S63) (x : Int), 0 ≤ x → x + 7 * rest.length < 1000000000 → pre.length + rest.length < 1000000000 → Ev (fun k => laws_markNodeS.l0 k (pre ++ rest) x (pre.length : Int)) (x + 7 * rest.length, pre ++ mNodes rest.length x)
  | [], pre, x, h0, h1, h2 => Ev.shift 1 fun k => by
    simp only [laws_markNodeS.l0]; rw [if_neg (by simp)]; simp [mNodes]
  | y :: rest, pre, x, h0, h1, h2 => by
    have hl : ((y :: rest).length : Int) = (rest.length : Int) + 1 := by simp
    have hl2 : (y :: rest).length = rest.length + 1 := by simp
    rw [hl] at h1
    rw [hl2] at h2
    have ih := mark_loop rest (pre ++ [mNode x]) (x + 1 + 1 + 1 + 1 + 1 + 1 + 1) (by omega) (by omega) (by rw [List.length_append, List.length_singleton]; omega)
    rw [List.append_assoc, List.append_assoc, List.singleton_append, List.singleton_append, List.length_append, List.length_singleton] at ih
    have hs : ∀ b c : S63, (pre ++ b :: rest).set pre.length c = pre ++ c :: rest := fun b c => by rw [List.set_append_right _ _ (Nat.le_refl _), Nat.sub_self, List.set_cons_zero]
    have hr : ∀ b : S63, rd_T63 (pre ++ b :: rest) (pre.length : Int) = b := fun b => by unfold rd_T63; rw [Int.toNat_natCast]; simp
    have w1 : wrap64 (x + 1) = x + 1 := wrap_id _ (by omega) (by omega)
    have w2 : wrap64 (x + 1 + 1) = x + 1 + 1 := wrap_id _ (by omega) (by omega)
    have w3 : wrap64 (x + 1 + 1 + 1) = x + 1 + 1 + 1 := wrap_id _ (by omega) (by omega)
    have w4 : wrap64 (x + 1 + 1 + 1 + 1) = x + 1 + 1 + 1 + 1 := wrap_id _ (by omega) (by omega)
    have w5 : wrap64 (x + 1 + 1 + 1 + 1 + 1) = x + 1 + 1 + 1 + 1 + 1 := wrap_id _ (by omega) (by omega)
    have w6 : wrap64 (x + 1 + 1 + 1 + 1 + 1 + 1) = x + 1 + 1 + 1 + 1 + 1 + 1 := wrap_id _ (by omega) (by omega)
    have w7 : wrap64 (x + 1 + 1 + 1 + 1 + 1 + 1 + 1) = x + 1 + 1 + 1 + 1 + 1 + 1 + 1 := wrap_id _ (by omega) (by omega)
    refine Ev.round (f := fun k => (laws_markText.f k (x + 1)).bind fun t => (laws_markText.f k (x + 1 + 1 + 1)).bind fun u => laws_markNodeS.l0 k (pre ++ (⟨x, t, (Int.tmod (x + 1 + 1) 3 == 0), u, IntKind.u64.wrap (x + 1 + 1 + 1 + 1), IntKind.u64.wrap (x + 1 + 1 + 1 + 1 + 1), x + 1 + 1 + 1 + 1 + 1 + 1⟩ : S63) :: rest) (x + 1 + 1 + 1 + 1 + 1 + 1 + 1) ((pre.length + 1 : Nat) : Int)) (fun k => ?_) (Ev.bind (mText_ev (x + 1) (by omega) (by omega)) (Ev.bind (mText_ev (x + 1 + 1 + 1) (by omega) (by omega)) ?_))
    · simp only [laws_markNodeS.l0]
      rw [if_pos (by simp; omega), if_pos (by omega)]
      simp only [Option.bind_some, Int.toNat_natCast, hs, hr, w1, w2, w3, w4, w5, w6, w7, wrap_nat pre.length (by omega)]
    · have e1 : x + 7 * ((y :: rest).length : Int) = x + 1 + 1 + 1 + 1 + 1 + 1 + 1 + 7 * (rest.length : Int) := by rw [hl]; omega
      have e2 : pre ++ mNodes (y :: rest).length x = pre ++ mNode x :: mNodes rest.length (x + 1 + 1 + 1 + 1 + 1 + 1 + 1) := rfl
      rw [e1, e2]
      exact ih
theorem mark_is (xs : List S63) (hl : xs.length < 100000000) : Ev (fun k => laws_markFilter.f k xs 1) (1 + 7 * (xs.length : Int), mNodes xs.length 1) := by
  have h := mark_loop xs [] 1 (by omega) (by omega) (by simp; omega)
  exact Ev.bind h (Ev.now _)
end Go.Proofs.Ytpfehkkfakofaaa.Q

namespace Go.Proofs.Ytpfehkkfakofaaa.Q
open Go.RowKit Go.Proofs.YtpfehkkfakofaaaW.PrintWords Go.Proofs.YtpfehkkfakofaaaW.PrintLast Go.Proofs.YtpfehkkfakofaaaW.PrintMore
set_option linter.unusedVariables false
set_option linter.unusedSimpArgs false
def insC (x : S92) : List Value := [(.int .i64 x.f0), (.int .i64 x.f1), (.int .i64 x.f2), (.bool x.f3), (.int .i64 x.f4.f0), (.string x.f4.f1), (.bool x.f4.f2), (.string x.f4.f3), (.int .u64 x.f4.f4), (.int .u64 x.f4.f5), (.int .i64 x.f4.f6)]
theorem ins_put {w : World} {B g n cap : Nat} {P : Nat → Prop} {l : List S92} (h : Kd.R k92 92 w B P (.slice (some ⟨g, 0, none⟩) n cap) l) {i : Nat} {x : S92} (hx : l[i]? = some x) (j : Nat) (hj : j < 11) (u : Value) (x' : S92) (hs : (insC x).set j u = insC x') :
    Kd.R k92 92 (w.setCell ⟨g, i * 11 + j, none⟩ u) B P (.slice (some ⟨g, 0, none⟩) n cap) (l.set i x') ∧ (∃ v, w.cell? ⟨g, i * 11 + j, none⟩ = some v ∧ (insC x)[j]? = some v) ∧ w.frozen? ⟨g, i * 11 + j, none⟩ = false ∧ w.grownBy (w.setCell ⟨g, i * 11 + j, none⟩ u) (some g) := by
  obtain ⟨hn, hnc, hC⟩ := Kd.R_reads' h
  have hil := (List.getElem?_eq_some_iff.mp hx).1
  have hat := at_T92 hC (i : Int) (by omega) (by omega)
  have hr : rd_T92 l (i : Int) = x := by unfold rd_T92; rw [Int.toNat_natCast]; simp [List.getD_eq_getElem?_getD, hx]
  rw [hr, Int.toNat_natCast] at hat
  obtain ⟨ad, ha, q0, q1, q2, q3, q4, q5, q6, q7, q8, q9, q10⟩ := hat
  cases ha
  have hadd : (⟨g, 0, none⟩ : Addr).add (i * 11) = ⟨g, i * 11, none⟩ := by
    unfold Addr.add; by_cases h0 : i * 11 = 0 <;> simp [h0]
  rw [hadd] at q0 q1 q2 q3 q4 q5 q6 q7 q8 q9 q10
  have hcell : ∀ (q : Nat) (v : Value), (insC x)[q]? = some v → w.cell? ⟨g, i * 11 + q, none⟩ = some v := by
    intro q v hq
    match q, hq with
    | 0, hq => cases hq; exact q0
    | 1, hq => cases hq; exact q1
    | 2, hq => cases hq; exact q2
    | 3, hq => cases hq; exact q3
    | 4, hq => cases hq; exact q4
    | 5, hq => cases hq; exact q5
    | 6, hq => cases hq; exact q6
    | 7, hq => cases hq; exact q7
    | 8, hq => cases hq; exact q8
    | 9, hq => cases hq; exact q9
    | 10, hq => cases hq; exact q10
    | (m + 11), hq => simp [insC] at hq
  have hfz : w.frozen? ⟨g, i * 11 + j, none⟩ = false := by
    obtain ⟨_, inner, hown, _⟩ := h
    rcases hown.2 with ⟨hv, _⟩ | ⟨g', cap', cur, hv, hb, hh, _⟩
    · cases hv
    · cases hv; exact blk_frozen hh _
  have hlen : (insC x).length = 11 := rfl
  have hM : k92.M w B (fun _ => False) x' ((insC x).take j ++ [u] ++ (insC x).drop (j + 1)) := by
    have e : (insC x).take j ++ [u] ++ (insC x).drop (j + 1) = insC x' := by
      rw [← hs, List.set_eq_take_append_cons_drop, if_pos (by omega)]; simp
    rw [e]; exact k92_mkM w B (fun _ => False) x'
  have := Kd.R_seg h (i : Int) (by omega) (by omega) (c := insC x) (seg := [u]) (j := j) rfl (fun q v hq => by rw [Int.toNat_natCast]; exact hcell q v hq) (by show j + 1 ≤ 11; omega) (x' := x') hM (fun _ h => h.elim)
  rw [Int.toNat_natCast] at this
  refine ⟨this.1, ⟨(insC x)[j]'(by omega), hcell j _ (List.getElem?_eq_getElem (by omega)), List.getElem?_eq_getElem (by omega)⟩, hfz, this.2⟩
/-- The instruction whose cells are marked from x on. -/
noncomputable def mIns (x : Int) : S92 := ⟨x, (x + 1), (x + 2), (Int.tmod (x + 3) 3 == 0), ⟨(x + 4), (mText (x + 5)), (Int.tmod (x + 6) 3 == 0), (mText (x + 7)), (IntKind.u64.wrap (x + 8)), (IntKind.u64.wrap (x + 9)), (x + 10)⟩⟩
noncomputable def mInss : Nat → Int → List S92
  | 0, _ => []
  | d + 1, x => mInss d x ++ [mIns (x + 11 * (d : Nat))]
theorem mInss_len : ∀ (d : Nat) (x : Int), (mInss d x).length = d
  | 0, _ => rfl
  | d + 1, x => by simp [mInss, mInss_len d]
theorem mInss_get : ∀ (d : Nat) (x : Int) (j : Nat), j < d → (mInss d x)[j]? = some (mIns (x + 11 * (j : Nat)))
  | 0, _, j, h => absurd h (Nat.not_lt_zero j)
  | d + 1, x, j, h => by
    simp only [mInss]
    by_cases h1 : j < d
    · rw [List.getElem?_append_left (by rw [mInss_len]; omega)]; exact mInss_get d x j h1
    · obtain rfl : j = d := by omega
      rw [List.getElem?_append_right (by rw [mInss_len]; omega), mInss_len, Nat.sub_self]; rfl
theorem text_call (x : Int) (h0 : 0 ≤ x) (h1 : x < 1000000000000) (w : World) : Calls Try.prog 57 #[.int .i64 x] w fun e w' => e = .returned (.string (mText x)) ∧ Below w.heap.size w w' := by
  obtain ⟨K, hK⟩ := mText_ev x h0 h1
  exact laws_markText.calls K x (mText x) w (hK K (Nat.le_refl _))
theorem wrap_up (k : Int) (h0 : 0 ≤ k) (h1 : k < 2000000000) : IntKind.i64.wrap (k + 1) = k + 1 := by rw [IntKind.wrap_i64]; omega
theorem grown_trans {w w1 w2 : World} {r : Option Nat} (h : w.grownBy w1 r) (h' : w1.grownBy w2 r) : w.grownBy w2 r :=
  ⟨h'.os.trans h.os, h'.tape.trans h.tape, h'.output.trans h.output, Nat.le_trans h.size h'.size, fun k hk hr => (h'.block k (Nat.lt_of_lt_of_le hk h.size) hr).trans (h.block k hk hr)⟩
theorem grown_of_below {w w1 : World} {r : Option Nat} (h : Below w.heap.size w w1) : w.grownBy w1 r := ⟨h.os, h.tape, h.output, h.size, fun k hk _ => h.block k hk⟩
set_option maxHeartbeats 8000000 in
set_option maxRecDepth 100000 in
theorem markIns_call (B : Nat) (P : Nat → Prop) (v : Value) (l : List S92) (x : Int) (w : World) (h : Kd.R k92 92 w B P v l) (h0 : 0 ≤ x) (h1 : x + 11 * l.length < 1000000000) :
    Calls Try.prog 68 #[v, .int .i64 x] w fun e w' => e = .returned (.int .i64 (x + 11 * l.length)) ∧ Kd.R k92 92 w' B P v (mInss l.length x) ∧ w.grownBy w' v.ownBlock := by
  obtain ⟨Av, cv, rfl⟩ := Kd.R_slice h
  have HS := Aside0.mk (show Kd.R k92 92 w B P (.slice Av l.length cv) (mInss 0 x ++ l.drop 0) from h)
  have HG := Aside0.mk (show w.grownBy w (Value.ownBlock (.slice Av l.length cv)) from ⟨rfl, rfl, rfl, Nat.le_refl _, fun _ _ _ => rfl⟩)
  have H0 := Aside0.mk (And.intro h0 h1)
  clear h h0 h1
  go_enter Try.func68, Try.ntmps68
  go_wp2_with fail
  go_loopw [1, 5] (fun v1 v5 W => ∃ (j : Nat), j ≤ l.length ∧ v5 = .int .i64 j ∧ v1 = .int .i64 (x + 11 * (j : Nat)) ∧ Aside0 (Kd.R k92 92 W B P (.slice Av l.length cv) (mInss j x ++ l.drop j)) ∧ Aside0 (w.grownBy W (Value.ownBlock (.slice Av l.length cv)))) (fun _ v5 _ => l.length - (intOf v5).toNat)
  case atStart => exact ⟨0, by omega, rfl, by simp, HS, HG⟩
  case round =>
    clear HS HG
    obtain ⟨j, hj, rfl, rfl, HS, HG⟩ := hrel
    by_cases hlt : j < l.length
    · have dl : decide ((j : Int) < (l.length : Int)) = true := decide_eq_true (by omega)
      have hwj : IntKind.i64.wrap ((j : Int) + 1) = ((j + 1 : Nat) : Int) := by have := H0.out; rw [IntKind.wrap_i64]; omega
      obtain ⟨K0', hK0⟩ : ∃ k : Int, k = x + 11 * (j : Nat) := ⟨_, rfl⟩
      obtain ⟨K1', hK1⟩ : ∃ k : Int, k = K0' + 1 := ⟨_, rfl⟩
      obtain ⟨K2', hK2⟩ : ∃ k : Int, k = K1' + 1 := ⟨_, rfl⟩
      obtain ⟨K3', hK3⟩ : ∃ k : Int, k = K2' + 1 := ⟨_, rfl⟩
      obtain ⟨K4', hK4⟩ : ∃ k : Int, k = K3' + 1 := ⟨_, rfl⟩
      obtain ⟨K5', hK5⟩ : ∃ k : Int, k = K4' + 1 := ⟨_, rfl⟩
      obtain ⟨K6', hK6⟩ : ∃ k : Int, k = K5' + 1 := ⟨_, rfl⟩
      obtain ⟨K7', hK7⟩ : ∃ k : Int, k = K6' + 1 := ⟨_, rfl⟩
      obtain ⟨K8', hK8⟩ : ∃ k : Int, k = K7' + 1 := ⟨_, rfl⟩
      obtain ⟨K9', hK9⟩ : ∃ k : Int, k = K8' + 1 := ⟨_, rfl⟩
      obtain ⟨K10', hK10⟩ : ∃ k : Int, k = K9' + 1 := ⟨_, rfl⟩
      obtain ⟨K11', hK11⟩ : ∃ k : Int, k = K10' + 1 := ⟨_, rfl⟩
      have hKb : 0 ≤ K0' ∧ K0' + 11 < 1000000000 := by have := H0.out; omega
      have hw1 : IntKind.i64.wrap (K0' + 1) = K1' := (wrap_up K0' hKb.1 (by clear hwj dl hj; omega)).trans hK1.symm
      have hq1 : 0 ≤ K1' ∧ K1' ≤ 1000000000 - 11 + 1 := (by clear hwj dl hj hw1; omega)
      have hw2 : IntKind.i64.wrap (K1' + 1) = K2' := (wrap_up K1' hq1.1 (by clear hwj dl hj hw1; omega)).trans hK2.symm
      have hq2 : 0 ≤ K2' ∧ K2' ≤ 1000000000 - 11 + 2 := (by clear hwj dl hj hw1 hw2; omega)
      have hw3 : IntKind.i64.wrap (K2' + 1) = K3' := (wrap_up K2' hq2.1 (by clear hwj dl hj hw1 hw2; omega)).trans hK3.symm
      have hq3 : 0 ≤ K3' ∧ K3' ≤ 1000000000 - 11 + 3 := (by clear hwj dl hj hw1 hw2 hw3; omega)
      have hw4 : IntKind.i64.wrap (K3' + 1) = K4' := (wrap_up K3' hq3.1 (by clear hwj dl hj hw1 hw2 hw3; omega)).trans hK4.symm
      have hq4 : 0 ≤ K4' ∧ K4' ≤ 1000000000 - 11 + 4 := (by clear hwj dl hj hw1 hw2 hw3 hw4; omega)
      have hw5 : IntKind.i64.wrap (K4' + 1) = K5' := (wrap_up K4' hq4.1 (by clear hwj dl hj hw1 hw2 hw3 hw4; omega)).trans hK5.symm
      have hq5 : 0 ≤ K5' ∧ K5' ≤ 1000000000 - 11 + 5 := (by clear hwj dl hj hw1 hw2 hw3 hw4 hw5; omega)
      have hw6 : IntKind.i64.wrap (K5' + 1) = K6' := (wrap_up K5' hq5.1 (by clear hwj dl hj hw1 hw2 hw3 hw4 hw5; omega)).trans hK6.symm
      have hq6 : 0 ≤ K6' ∧ K6' ≤ 1000000000 - 11 + 6 := (by clear hwj dl hj hw1 hw2 hw3 hw4 hw5 hw6; omega)
      have hw7 : IntKind.i64.wrap (K6' + 1) = K7' := (wrap_up K6' hq6.1 (by clear hwj dl hj hw1 hw2 hw3 hw4 hw5 hw6; omega)).trans hK7.symm
      have hq7 : 0 ≤ K7' ∧ K7' ≤ 1000000000 - 11 + 7 := (by clear hwj dl hj hw1 hw2 hw3 hw4 hw5 hw6 hw7; omega)
      have hw8 : IntKind.i64.wrap (K7' + 1) = K8' := (wrap_up K7' hq7.1 (by clear hwj dl hj hw1 hw2 hw3 hw4 hw5 hw6 hw7; omega)).trans hK8.symm
      have hq8 : 0 ≤ K8' ∧ K8' ≤ 1000000000 - 11 + 8 := (by clear hwj dl hj hw1 hw2 hw3 hw4 hw5 hw6 hw7 hw8; omega)
      have hw9 : IntKind.i64.wrap (K8' + 1) = K9' := (wrap_up K8' hq8.1 (by clear hwj dl hj hw1 hw2 hw3 hw4 hw5 hw6 hw7 hw8; omega)).trans hK9.symm
      have hq9 : 0 ≤ K9' ∧ K9' ≤ 1000000000 - 11 + 9 := (by clear hwj dl hj hw1 hw2 hw3 hw4 hw5 hw6 hw7 hw8 hw9; omega)
      have hw10 : IntKind.i64.wrap (K9' + 1) = K10' := (wrap_up K9' hq9.1 (by clear hwj dl hj hw1 hw2 hw3 hw4 hw5 hw6 hw7 hw8 hw9; omega)).trans hK10.symm
      have hq10 : 0 ≤ K10' ∧ K10' ≤ 1000000000 - 11 + 10 := (by clear hwj dl hj hw1 hw2 hw3 hw4 hw5 hw6 hw7 hw8 hw9 hw10; omega)
      have hw11 : IntKind.i64.wrap (K10' + 1) = K11' := (wrap_up K10' hq10.1 (by clear hwj dl hj hw1 hw2 hw3 hw4 hw5 hw6 hw7 hw8 hw9 hw10; omega)).trans hK11.symm
      have hq11 : 0 ≤ K11' ∧ K11' ≤ 1000000000 - 11 + 11 := (by clear hwj dl hj hw1 hw2 hw3 hw4 hw5 hw6 hw7 hw8 hw9 hw10 hw11; omega)
      clear hq1 hq2 hq3 hq4 hq5 hq6 hq7 hq8 hq9 hq10 hq11
      have HKs := Aside0.mk (And.intro hK0 (And.intro hKb (And.intro hK1 (And.intro hK2 (And.intro hK3 (And.intro hK4 (And.intro hK5 (And.intro hK6 (And.intro hK7 (And.intro hK8 (And.intro hK9 (And.intro hK10 hK11))))))))))))
      obtain ⟨y, hy⟩ : ∃ y, l[j]? = some y := ⟨_, List.getElem?_eq_getElem hlt⟩
      obtain ⟨g, rfl⟩ : ∃ g, Av = some ⟨g, 0, none⟩ := by
        obtain ⟨_, inner, hown, _⟩ := HS.out
        rcases hown.2 with ⟨hv, hz⟩ | ⟨g', cap', cur, hv, _⟩
        · injection hv with _ e2 _; rw [e2] at hlt; exact absurd hlt (Nat.not_lt_zero _)
        · injection hv with e1 _ _; exact ⟨_, e1⟩
      have hpl := mInss_len j x
      have hset : ∀ b c : S92, (mInss j x ++ b :: l.drop (j + 1)).set j c = mInss j x ++ c :: l.drop (j + 1) := fun b c => by rw [List.set_append_right _ _ (by omega), hpl, Nat.sub_self, List.set_cons_zero]
      have hget : ∀ b : S92, (mInss j x ++ b :: l.drop (j + 1))[j]? = some b := fun b => by rw [List.getElem?_append_right (by omega), hpl, Nat.sub_self]; rfl
      have hR0 : Kd.R k92 92 wr B P (.slice (some ⟨g, 0, none⟩) l.length cv) (mInss j x ++ (⟨y.f0, y.f1, y.f2, y.f3, ⟨y.f4.f0, y.f4.f1, y.f4.f2, y.f4.f3, y.f4.f4, y.f4.f5, y.f4.f6⟩⟩ : S92) :: l.drop (j + 1)) := by
        have := HS.out
        rw [List.drop_eq_getElem_cons hlt, show l[j] = y from by rw [List.getElem?_eq_getElem hlt] at hy; exact Option.some.inj hy] at this
        exact this
      rw [← hK0]
      clear hy hpl hKb hK0 hK1 hK2 hK3 hK4 hK5 hK6 hK7 hK8 hK9 hK10 hK11
      have HR0 := Aside0.mk hR0
      have HSET := Aside0.mk (And.intro hset hget)
      clear hR0 hset hget
      obtain ⟨W0, hW0⟩ : ∃ W, W = wr := ⟨_, rfl⟩
      subst hW0
      have HG0 := HG
      have hp := ins_put HR0.out (HSET.out.2 (⟨y.f0, y.f1, y.f2, y.f3, ⟨y.f4.f0, y.f4.f1, y.f4.f2, y.f4.f3, y.f4.f4, y.f4.f5, y.f4.f6⟩⟩ : S92)) 0 (by decide) (.int .i64 K0') (⟨K0', y.f1, y.f2, y.f3, ⟨y.f4.f0, y.f4.f1, y.f4.f2, y.f4.f3, y.f4.f4, y.f4.f5, y.f4.f6⟩⟩ : S92) rfl
      rw [HSET.out.1, Nat.add_zero] at hp
      obtain ⟨hR, ⟨u0, hc, -⟩, hf, hg⟩ := hp
      have HR1 := Aside0.mk hR
      have HG1 := Aside0.mk (grown_trans HG0.out hg)
      clear hR hg
      go_upto_region 6 with (fail)
      clear hc hf
      generalize W0.setCell ⟨g, j * 11, none⟩ (.int .i64 K0') = W1 at *
      have hp := ins_put HR1.out (HSET.out.2 (⟨K0', y.f1, y.f2, y.f3, ⟨y.f4.f0, y.f4.f1, y.f4.f2, y.f4.f3, y.f4.f4, y.f4.f5, y.f4.f6⟩⟩ : S92)) 1 (by decide) (.int .i64 K1') (⟨K0', K1', y.f2, y.f3, ⟨y.f4.f0, y.f4.f1, y.f4.f2, y.f4.f3, y.f4.f4, y.f4.f5, y.f4.f6⟩⟩ : S92) rfl
      rw [HSET.out.1] at hp
      obtain ⟨hR, ⟨u1, hc, -⟩, hf, hg⟩ := hp
      have HR2 := Aside0.mk hR
      have HG2 := Aside0.mk (grown_trans HG1.out hg)
      clear hR hg
      go_upto_region 8 with (fail)
      clear hc hf
      generalize W1.setCell ⟨g, j * 11 + 1, none⟩ (.int .i64 K1') = W2 at *
      have hp := ins_put HR2.out (HSET.out.2 (⟨K0', K1', y.f2, y.f3, ⟨y.f4.f0, y.f4.f1, y.f4.f2, y.f4.f3, y.f4.f4, y.f4.f5, y.f4.f6⟩⟩ : S92)) 2 (by decide) (.int .i64 K2') (⟨K0', K1', K2', y.f3, ⟨y.f4.f0, y.f4.f1, y.f4.f2, y.f4.f3, y.f4.f4, y.f4.f5, y.f4.f6⟩⟩ : S92) rfl
      rw [HSET.out.1] at hp
      obtain ⟨hR, ⟨u2, hc, -⟩, hf, hg⟩ := hp
      have HR3 := Aside0.mk hR
      have HG3 := Aside0.mk (grown_trans HG2.out hg)
      clear hR hg
      go_upto_region 10 with (fail)
      clear hc hf
      generalize W2.setCell ⟨g, j * 11 + 2, none⟩ (.int .i64 K2') = W3 at *
      have hp := ins_put HR3.out (HSET.out.2 (⟨K0', K1', K2', y.f3, ⟨y.f4.f0, y.f4.f1, y.f4.f2, y.f4.f3, y.f4.f4, y.f4.f5, y.f4.f6⟩⟩ : S92)) 3 (by decide) (.bool (Int.tmod K3' 3 == 0)) (⟨K0', K1', K2', (Int.tmod K3' 3 == 0), ⟨y.f4.f0, y.f4.f1, y.f4.f2, y.f4.f3, y.f4.f4, y.f4.f5, y.f4.f6⟩⟩ : S92) rfl
      rw [HSET.out.1] at hp
      obtain ⟨hR, ⟨u3, hc, -⟩, hf, hg⟩ := hp
      have HR4 := Aside0.mk hR
      have HG4 := Aside0.mk (grown_trans HG3.out hg)
      clear hR hg
      go_upto_region 12 with (fail)
      clear hc hf
      generalize W3.setCell ⟨g, j * 11 + 3, none⟩ (.bool (Int.tmod K3' 3 == 0)) = W4 at *
      have hp := ins_put HR4.out (HSET.out.2 (⟨K0', K1', K2', (Int.tmod K3' 3 == 0), ⟨y.f4.f0, y.f4.f1, y.f4.f2, y.f4.f3, y.f4.f4, y.f4.f5, y.f4.f6⟩⟩ : S92)) 4 (by decide) (.int .i64 K4') (⟨K0', K1', K2', (Int.tmod K3' 3 == 0), ⟨K4', y.f4.f1, y.f4.f2, y.f4.f3, y.f4.f4, y.f4.f5, y.f4.f6⟩⟩ : S92) rfl
      rw [HSET.out.1] at hp
      obtain ⟨hR, ⟨u4, hc, -⟩, hf, hg⟩ := hp
      have HR5 := Aside0.mk hR
      have HG5 := Aside0.mk (grown_trans HG4.out hg)
      clear hR hg
      go_upto_region 14 with (fail)
      clear hc hf
      generalize W4.setCell ⟨g, j * 11 + 4, none⟩ (.int .i64 K4') = W5 at *
      go_wp2_with fail
      refine (text_call K5' (by have := HKs.out; omega) (by have := HKs.out; omega) W5).mono ?_
      rintro ex T5 ⟨rfl, hb⟩
      have HR5 := Aside0.mk (Kd.R_below HR5.out hb)
      have HG5 := Aside0.mk (grown_trans HG5.out (grown_of_below (r := Value.ownBlock (.slice (some ⟨g, 0, none⟩) l.length cv)) hb))
      clear hb
      have hp := ins_put HR5.out (HSET.out.2 (⟨K0', K1', K2', (Int.tmod K3' 3 == 0), ⟨K4', y.f4.f1, y.f4.f2, y.f4.f3, y.f4.f4, y.f4.f5, y.f4.f6⟩⟩ : S92)) 5 (by decide) (.string (mText K5')) (⟨K0', K1', K2', (Int.tmod K3' 3 == 0), ⟨K4', (mText K5'), y.f4.f2, y.f4.f3, y.f4.f4, y.f4.f5, y.f4.f6⟩⟩ : S92) rfl
      rw [HSET.out.1] at hp
      obtain ⟨hR, ⟨u5, hc, -⟩, hf, hg⟩ := hp
      have HR6 := Aside0.mk hR
      have HG6 := Aside0.mk (grown_trans HG5.out hg)
      clear hR hg
      go_upto_region 16 with (fail)
      clear hc hf
      generalize T5.setCell ⟨g, j * 11 + 5, none⟩ (.string (mText K5')) = W6 at *
      have hp := ins_put HR6.out (HSET.out.2 (⟨K0', K1', K2', (Int.tmod K3' 3 == 0), ⟨K4', (mText K5'), y.f4.f2, y.f4.f3, y.f4.f4, y.f4.f5, y.f4.f6⟩⟩ : S92)) 6 (by decide) (.bool (Int.tmod K6' 3 == 0)) (⟨K0', K1', K2', (Int.tmod K3' 3 == 0), ⟨K4', (mText K5'), (Int.tmod K6' 3 == 0), y.f4.f3, y.f4.f4, y.f4.f5, y.f4.f6⟩⟩ : S92) rfl
      rw [HSET.out.1] at hp
      obtain ⟨hR, ⟨u6, hc, -⟩, hf, hg⟩ := hp
      have HR7 := Aside0.mk hR
      have HG7 := Aside0.mk (grown_trans HG6.out hg)
      clear hR hg
      go_upto_region 18 with (fail)
      clear hc hf
      generalize W6.setCell ⟨g, j * 11 + 6, none⟩ (.bool (Int.tmod K6' 3 == 0)) = W7 at *
      go_wp2_with fail
      refine (text_call K7' (by have := HKs.out; omega) (by have := HKs.out; omega) W7).mono ?_
      rintro ex T7 ⟨rfl, hb⟩
      have HR7 := Aside0.mk (Kd.R_below HR7.out hb)
      have HG7 := Aside0.mk (grown_trans HG7.out (grown_of_below (r := Value.ownBlock (.slice (some ⟨g, 0, none⟩) l.length cv)) hb))
      clear hb
      have hp := ins_put HR7.out (HSET.out.2 (⟨K0', K1', K2', (Int.tmod K3' 3 == 0), ⟨K4', (mText K5'), (Int.tmod K6' 3 == 0), y.f4.f3, y.f4.f4, y.f4.f5, y.f4.f6⟩⟩ : S92)) 7 (by decide) (.string (mText K7')) (⟨K0', K1', K2', (Int.tmod K3' 3 == 0), ⟨K4', (mText K5'), (Int.tmod K6' 3 == 0), (mText K7'), y.f4.f4, y.f4.f5, y.f4.f6⟩⟩ : S92) rfl
      rw [HSET.out.1] at hp
      obtain ⟨hR, ⟨u7, hc, -⟩, hf, hg⟩ := hp
      have HR8 := Aside0.mk hR
      have HG8 := Aside0.mk (grown_trans HG7.out hg)
      clear hR hg
      go_upto_region 20 with (fail)
      clear hc hf
      generalize T7.setCell ⟨g, j * 11 + 7, none⟩ (.string (mText K7')) = W8 at *
      have hp := ins_put HR8.out (HSET.out.2 (⟨K0', K1', K2', (Int.tmod K3' 3 == 0), ⟨K4', (mText K5'), (Int.tmod K6' 3 == 0), (mText K7'), y.f4.f4, y.f4.f5, y.f4.f6⟩⟩ : S92)) 8 (by decide) (.int .u64 (IntKind.u64.wrap K8')) (⟨K0', K1', K2', (Int.tmod K3' 3 == 0), ⟨K4', (mText K5'), (Int.tmod K6' 3 == 0), (mText K7'), (IntKind.u64.wrap K8'), y.f4.f5, y.f4.f6⟩⟩ : S92) rfl
      rw [HSET.out.1] at hp
      obtain ⟨hR, ⟨u8, hc, -⟩, hf, hg⟩ := hp
      have HR9 := Aside0.mk hR
      have HG9 := Aside0.mk (grown_trans HG8.out hg)
      clear hR hg
      go_upto_region 22 with (fail)
      clear hc hf
      generalize W8.setCell ⟨g, j * 11 + 8, none⟩ (.int .u64 (IntKind.u64.wrap K8')) = W9 at *
      have hp := ins_put HR9.out (HSET.out.2 (⟨K0', K1', K2', (Int.tmod K3' 3 == 0), ⟨K4', (mText K5'), (Int.tmod K6' 3 == 0), (mText K7'), (IntKind.u64.wrap K8'), y.f4.f5, y.f4.f6⟩⟩ : S92)) 9 (by decide) (.int .u64 (IntKind.u64.wrap K9')) (⟨K0', K1', K2', (Int.tmod K3' 3 == 0), ⟨K4', (mText K5'), (Int.tmod K6' 3 == 0), (mText K7'), (IntKind.u64.wrap K8'), (IntKind.u64.wrap K9'), y.f4.f6⟩⟩ : S92) rfl
      rw [HSET.out.1] at hp
      obtain ⟨hR, ⟨u9, hc, -⟩, hf, hg⟩ := hp
      have HR10 := Aside0.mk hR
      have HG10 := Aside0.mk (grown_trans HG9.out hg)
      clear hR hg
      go_upto_region 24 with (fail)
      clear hc hf
      generalize W9.setCell ⟨g, j * 11 + 9, none⟩ (.int .u64 (IntKind.u64.wrap K9')) = W10 at *
      have hp := ins_put HR10.out (HSET.out.2 (⟨K0', K1', K2', (Int.tmod K3' 3 == 0), ⟨K4', (mText K5'), (Int.tmod K6' 3 == 0), (mText K7'), (IntKind.u64.wrap K8'), (IntKind.u64.wrap K9'), y.f4.f6⟩⟩ : S92)) 10 (by decide) (.int .i64 K10') (⟨K0', K1', K2', (Int.tmod K3' 3 == 0), ⟨K4', (mText K5'), (Int.tmod K6' 3 == 0), (mText K7'), (IntKind.u64.wrap K8'), (IntKind.u64.wrap K9'), K10'⟩⟩ : S92) rfl
      rw [HSET.out.1] at hp
      obtain ⟨hR, ⟨u10, hc, -⟩, hf, hg⟩ := hp
      have HR11 := Aside0.mk hR
      have HG11 := Aside0.mk (grown_trans HG10.out hg)
      clear hR hg
      go_wp2_with fail
      go_roundw
      case measure => simp only [intOf]; omega
      case rel =>
        have hk := HKs.out
        refine ⟨j + 1, by omega, by rw [Int.natCast_add]; rfl, ?_, ⟨?_⟩, HG11⟩
        · refine congrArg (Value.int .i64) ?_
          push_cast; omega
        · have := HR11.out
          simp only [mInss, List.append_assoc, List.singleton_append]
          rw [show mIns (x + 11 * (j : Nat)) = (⟨K0', K1', K2', (Int.tmod K3' 3 == 0), ⟨K4', (mText K5'), (Int.tmod K6' 3 == 0), (mText K7'), (IntKind.u64.wrap K8'), (IntKind.u64.wrap K9'), K10'⟩⟩ : S92) from by
            unfold mIns
            rw [← hk.1]
            rw [show K0' + 1 = K1' from by omega]
            rw [show K0' + 2 = K2' from by omega]
            rw [show K0' + 3 = K3' from by omega]
            rw [show K0' + 4 = K4' from by omega]
            rw [show K0' + 5 = K5' from by omega]
            rw [show K0' + 6 = K6' from by omega]
            rw [show K0' + 7 = K7' from by omega]
            rw [show K0' + 8 = K8' from by omega]
            rw [show K0' + 9 = K9' from by omega]
            rw [show K0' + 10 = K10' from by omega]
            ]
          exact this
    · obtain rfl : j = l.length := by omega
      have dl : decide ((l.length : Int) < (l.length : Int)) = false := decide_eq_false (by omega)
      go_wp2
      go_ret
      refine ⟨rfl, ?_, HG.out⟩
      have := HS.out
      rw [List.drop_length, List.append_nil] at this
      exact this
end Go.Proofs.Ytpfehkkfakofaaa.Q

namespace Go.Proofs.Ytpfehkkfakofaaa.Q
open Go.RowKit Go.Proofs.YtpfehkkfakofaaaW.PrintWords Go.Proofs.YtpfehkkfakofaaaW.PrintLast Go.Proofs.YtpfehkkfakofaaaW.PrintMore
set_option linter.unusedVariables false
set_option linter.unusedSimpArgs false
noncomputable def mBlks : List S37 → Int → List S37
  | [], _ => []
  | b :: bs, x => ⟨mInss b.f0.length x, x + 11 * b.f0.length⟩ :: mBlks bs (x + 11 * b.f0.length + 1)
def nBlks : List S37 → Int → Int
  | [], x => x
  | b :: bs, x => nBlks bs (x + 11 * b.f0.length + 1)
theorem mBlks_len : ∀ (bs : List S37) (x : Int), (mBlks bs x).length = bs.length
  | [], x => rfl
  | b :: bs, x => by simp [mBlks, mBlks_len bs]
theorem nBlks_ge : ∀ (bs : List S37) (x : Int), x + bs.length ≤ nBlks bs x
  | [], x => by simp [nBlks]
  | b :: bs, x => by
    have := nBlks_ge bs (x + 11 * b.f0.length + 1)
    simp only [nBlks, List.length_cons]
    push_cast
    omega
theorem Below.zero_of_grown {w w1 : World} {r : Option Nat} (h : w.grownBy w1 r) : Below 0 w w1 := ⟨h.os, h.tape, h.output, h.size, fun k hk => absurd hk (Nat.not_lt_zero k)⟩
set_option maxHeartbeats 4000000 in
set_option maxRecDepth 100000 in
theorem markBlkS_call (B : Nat) (P : Nat → Prop) (v : Value) (l : List S37) (x : Int) (w : World) (h : Kd.S k37 37 w B P v l) (h0 : 0 ≤ x) (h1 : nBlks l x < 100000000) :
    Calls Try.prog 35 #[v, .int .i64 x] w fun e w' => e = .returned (.int .i64 (nBlks l x)) ∧ Kd.S k37 37 w' B P v (mBlks l x) ∧ Below 0 w w' ∧ Kept w w' P := by
  obtain ⟨Av, cv, rfl⟩ := Kd.S_slice h
  have HS := Aside0.mk h
  have HK := Aside0.mk (And.intro (Below.refl 0 w) (Kept.refl w P))
  have H0 := Aside0.mk (And.intro h0 h1)
  clear h h0 h1
  obtain ⟨n, hn⟩ : ∃ n, l.length = n := ⟨_, rfl⟩
  rw [hn] at HS ⊢
  go_enter Try.func35, Try.ntmps35
  go_wp2_with fail
  go_loopw [1, 5] (fun v1 v5 W => ∃ (j : Nat) (pre bs : List S37) (y : Int), v5 = .int .i64 j ∧ v1 = .int .i64 y ∧ pre.length = j ∧ pre.length + bs.length = n ∧ Aside0 (mBlks l x = pre ++ mBlks bs y ∧ nBlks l x = nBlks bs y ∧ 0 ≤ y) ∧ Aside0 (Kd.S k37 37 W B P (.slice Av n cv) (pre ++ bs)) ∧ Aside0 (Below 0 w W ∧ Kept w W P)) (fun _ v5 _ => n - (intOf v5).toNat)
  case atStart => exact ⟨0, [], l, x, rfl, rfl, rfl, by simpa using hn, ⟨rfl, rfl, H0.out.1⟩, HS, HK⟩
  case round =>
    clear HS HK
    obtain ⟨j, pre, bs, y, rfl, rfl, hp, hpb, HM, HS, HK⟩ := hrel
    cases bs with
    | nil =>
      obtain rfl : j = n := by simpa [hp] using hpb
      have dl : decide ((j : Int) < (j : Int)) = false := decide_eq_false (by omega)
      go_wp2
      go_ret
      refine ⟨?_, ?_, HK.out⟩
      · rw [HM.out.2.1]; rfl
      · have := HM.out.1
        simp only [mBlks, List.append_nil] at this
        rw [this]
        have h2 := HS.out
        rw [List.append_nil] at h2
        exact h2
    | cons b rest =>
      have hlt : j < n := by rw [List.length_cons] at hpb; omega
      have dl : decide ((j : Int) < (n : Int)) = true := decide_eq_true (by omega)
      have hge := nBlks_ge (b :: rest) y
      have hge2 := nBlks_ge rest (y + 11 * b.f0.length + 1)
      have hy : 0 ≤ y ∧ y + 11 * b.f0.length + 1 < 100000000 ∧ n < 100000000 := by
        have h2 := HM.out
        have h3 := H0.out
        rw [h2.2.1] at h3
        have h5 := nBlks_ge l x
        rw [h2.2.1, hn] at h5
        simp only [nBlks] at hge h3 h5
        omega
      have hwj : IntKind.i64.wrap ((j : Int) + 1) = ((j + 1 : Nat) : Int) := by clear hge hge2; rw [IntKind.wrap_i64]; omega
      have hwy : IntKind.i64.wrap (y + 11 * b.f0.length + 1) = y + 11 * b.f0.length + 1 := by clear hge hge2 hwj; rw [IntKind.wrap_i64]; omega
      obtain ⟨g, cap, e4, hgB, hgl, -⟩ := Kd.S_form HS.out (by rw [List.length_append, List.length_cons]; omega)
      injection e4 with e5 e6 e7
      clear e6 e7
      subst e5
      obtain ⟨oki, c, hcl, hM, hcc, hfr, hoki, hH⟩ := Kd.S_elem HS.out b (j : Int) (by omega) (by omega)
      rw [Int.toNat_natCast, show (pre ++ b :: rest).getD j b = b from by simp [List.getD_eq_getElem?_getD, ← hp]] at hM
      obtain ⟨v0, rfl, hR⟩ := k37_openM hM
      obtain ⟨A0, c0, rfl⟩ := Kd.R_slice hR
      have y0 : wr.cell? ⟨g, j * 2, none⟩ = some (.slice A0 b.f0.length c0) := by have := hcc 0 _ rfl; rw [Int.toNat_natCast] at this; exact this
      have y1 : wr.cell? ⟨g, j * 2 + 1, none⟩ = some (.int .i64 b.f1) := by have := hcc 1 _ rfl; rw [Int.toNat_natCast] at this; exact this
      have f1 : wr.frozen? ⟨g, j * 2 + 1, none⟩ = false := by have := hfr 1; rw [Int.toNat_natCast] at this; exact this
      have hPg : P g := (Kd.S_R HS.out).1 g rfl
      have HX := Aside0.mk (And.intro hR (And.intro hoki (And.intro hH (And.intro hPg (And.intro hy (And.intro f1 hgl))))))
      have HPB := Aside0.mk (And.intro hp (And.intro hpb hlt))
      clear hM hcc hfr hoki hH hR hge hge2 hcl hPg hgB hgl hy f1 hp hpb
      go_wp2_with fail
      refine (markIns_call B oki (.slice A0 b.f0.length c0) b.f0 y wr HX.out.1 HX.out.2.2.2.2.1.1 (by have := HX.out.2.2.2.2.1; omega)).mono ?_
      rintro ex W1 ⟨rfl, hR1, hg1⟩
      have hne : some g ≠ Value.ownBlock (.slice A0 b.f0.length c0) := fun e => (HX.out.2.1 g (HX.out.1.1 g e.symm)).2 rfl
      have z1 : W1.cell? ⟨g, j * 2 + 1, none⟩ = some (.int .i64 b.f1) := hg1.cell y1 hne
      have fz : W1.frozen? ⟨g, j * 2 + 1, none⟩ = false := (World.frozen?_of_block (hg1.block g HX.out.2.2.2.2.2.2 hne)).trans HX.out.2.2.2.2.2.1
      have HY := Aside0.mk (And.intro hR1 hg1)
      clear hR1 hg1 hne y0 y1
      go_wp2_with fail
      go_roundw
      case measure => have := HPB.out.2.2; simp only [intOf]; omega
      case rel =>
        obtain ⟨hp, hpb, hlt⟩ := HPB.out
        have hH1 := Kd.H_mono (ok' := fun k => P k ∧ ¬ (fun _ => False) k) (Kd.H_grown HX.out.2.2.1 HY.out.2 (fun k hk => HX.out.1.1 k hk)) (fun k hk => ⟨hk, fun h => h⟩)
        obtain ⟨hS2, hg2⟩ := Kd.S_seg (okg := fun _ => False) (okp := oki) hH1 (by omega) (by omega) (seg := [.int .i64 (y + 11 * (b.f0.length : Nat))]) (j := 1) (show 1 + 1 ≤ 2 by omega) (x' := (⟨mInss b.f0.length y, y + 11 * b.f0.length⟩ : S37))
          (show k37.M W1 B oki (⟨mInss b.f0.length y, y + 11 * b.f0.length⟩ : S37) [.slice A0 b.f0.length c0, .int .i64 (y + 11 * (b.f0.length : Nat))] from k37_mkM W1 B oki ⟨mInss b.f0.length y, y + 11 * b.f0.length⟩ HY.out.1) (fun k hk => .inl hk) (fun k hk => hk.elim)
        rw [Int.toNat_natCast, show (pre ++ b :: rest).set j (⟨mInss b.f0.length y, y + 11 * b.f0.length⟩ : S37) = (pre ++ [⟨mInss b.f0.length y, y + 11 * b.f0.length⟩]) ++ rest from by rw [← hp, List.set_append_right _ _ (Nat.le_refl _), Nat.sub_self, List.set_cons_zero]; simp] at hS2
        have hS3 : Kd.S k37 37 (W1.setCell ⟨g, j * 2 + 1, none⟩ (.int .i64 (y + 11 * (b.f0.length : Nat)))) B P (.slice (some ⟨g, 0, none⟩) n cv) ((pre ++ [⟨mInss b.f0.length y, y + 11 * b.f0.length⟩]) ++ rest) := hS2
        have hg3 : W1.grownBy (W1.setCell ⟨g, j * 2 + 1, none⟩ (.int .i64 (y + 11 * (b.f0.length : Nat)))) (some g) := by rw [Int.toNat_natCast] at hg2; exact hg2
        refine ⟨j + 1, pre ++ [⟨mInss b.f0.length y, y + 11 * b.f0.length⟩], rest, y + 11 * b.f0.length + 1, by rw [Int.natCast_add]; rfl, rfl, by rw [List.length_append, List.length_singleton, hp], by rw [List.length_append, List.length_singleton]; rw [List.length_cons] at hpb; omega, ⟨?_, ?_, ?_⟩, ⟨hS3⟩, ⟨HK.out.1.trans ((Below.zero_of_grown HY.out.2).trans (Below.zero_of_grown hg3)), ?_⟩⟩
        · rw [HM.out.1]; simp [mBlks]
        · rw [HM.out.2.1]; rfl
        · have := HX.out.2.2.2.2.1; omega
        · exact Kept.of_grown hg3 (Kept.of_grown HY.out.2 HK.out.2 (fun k hk => .inl (HX.out.2.1 k (HX.out.1.1 k hk)).1)) (fun k hk => by cases hk; exact .inl HX.out.2.2.2.1)
set_option maxHeartbeats 4000000 in
set_option maxRecDepth 100000 in
theorem markBlk_call (B : Nat) (P : Nat → Prop) (v : Value) (l : List S92) (c x : Int) (w : World) (h : Kd.R k92 92 w B P v l) (h0 : 0 ≤ x) (h1 : x + 11 * l.length < 1000000000) :
    Calls Try.prog 36 #[.agg #[v, .int .i64 c], .int .i64 x] w fun e w' => e = .returned (.int .i64 (x + 11 * l.length)) ∧ Kd.R k92 92 w' B P v (mInss l.length x) ∧ w.grownBy w' v.ownBlock := by
  have kr : K0 (Below w.heap.size w w) := ⟨Below.refl _ _⟩
  obtain ⟨Av, cv, rfl⟩ := Kd.R_slice h
  obtain ⟨wb, hwb⟩ : ∃ wb, wb = w.alloc (.cells #[.slice Av l.length cv, .int .i64 c] 37) := ⟨_, rfl⟩
  have hb : Below w.heap.size w wb := hwb ▸ kk
  have hh : wb.heap[w.heap.size]? = some (.cells #[.slice Av l.length cv, .int .i64 c] 37 (0, 0)) := hwb ▸ heap_alloc_new w _
  have c0 : wb.cell? ⟨w.heap.size, 0, none⟩ = some (.slice Av l.length cv) := (blk_cell hh 0).trans rfl
  have H := Aside0.mk (And.intro hb (And.intro (Kd.R_below h hb) (And.intro h0 h1)))
  clear hb hh h h0 h1
  go_enter Try.func36, Try.ntmps36
  go_wp2_with fail
  rw [← hwb]
  clear hwb
  refine (markIns_call B P _ l x wb H.out.2.1 H.out.2.2.1 H.out.2.2.2).mono ?_
  rintro ex W1 ⟨rfl, hR1, hg1⟩
  have HY := Aside0.mk (And.intro hR1 (grown_trans (grown_of_below H.out.1) hg1))
  clear hR1 hg1
  go_wp2
  go_ret
  exact ⟨rfl, HY.out⟩
set_option maxHeartbeats 4000000 in
set_option maxRecDepth 100000 in
theorem markCode_call (B : Nat) (P : Nat → Prop) (v0 v1 : Value) (cs : List S37) (l : List S92) (c : Int) (w : World) (h : Kd.S k37 37 w B (fun k => P k ∧ some k ≠ v1.ownBlock) v0 cs) (hm : Kd.R k92 92 w B P v1 l) (h1 : nBlks cs 1 < 100000000) (h2 : l.length < 10000000) :
    Calls Try.prog 15 #[.agg #[v0, v1, .int .i64 c], .int .i64 1] w fun e w' => e = .returned (.int .i64 (nBlks cs 1 + 11 * l.length)) ∧ Kd.S k37 37 w' B (fun k => P k ∧ some k ≠ v1.ownBlock) v0 (mBlks cs 1) ∧ Kd.R k92 92 w' B P v1 (mInss l.length (nBlks cs 1)) ∧ Below 0 w w' ∧ Kept w w' P := by
  have kr : K0 (Below w.heap.size w w) := ⟨Below.refl _ _⟩
  obtain ⟨A0, c0, rfl⟩ := Kd.S_slice h
  obtain ⟨A1, c1, rfl⟩ := Kd.R_slice hm
  obtain ⟨wb, hwb⟩ : ∃ wb, wb = w.alloc (.cells #[.slice A0 cs.length c0, .slice A1 l.length c1, .int .i64 c] 39) := ⟨_, rfl⟩
  have hb : Below w.heap.size w wb := hwb ▸ kk
  have hh : wb.heap[w.heap.size]? = some (.cells #[.slice A0 cs.length c0, .slice A1 l.length c1, .int .i64 c] 39 (0, 0)) := hwb ▸ heap_alloc_new w _
  have y0 : wb.cell? ⟨w.heap.size, 0, none⟩ = some (.slice A0 cs.length c0) := (blk_cell hh 0).trans rfl
  have hm2 := Kd.R_mono (ok' := fun k => P k ∧ k < w.heap.size) (Kd.R_bound hm) (fun k hk => ⟨hk.1, hk.2.2.1⟩)
  have hs2 := Kd.S_mono (ok' := fun k => (P k ∧ some k ≠ Value.ownBlock (.slice A1 l.length c1)) ∧ k < w.heap.size) (Kd.S_bound h) (fun k hk => ⟨hk.1, hk.2.2.1⟩)
  have hs := lt_of_some hh
  have H := Aside0.mk (And.intro hb (And.intro hh (And.intro (Kd.S_below hs2 hb) (And.intro (Kd.R_below hm2 hb) (And.intro h1 (And.intro h2 hs))))))
  have hge := nBlks_ge cs 1
  have HGe := Aside0.mk hge
  clear hb hh h hm hm2 hs2 h1 h2 hge hs
  go_enter Try.func15, Try.ntmps15
  go_wp2_with fail
  rw [← hwb]
  clear hwb
  refine (markBlkS_call B _ _ cs 1 wb H.out.2.2.1 (by omega) H.out.2.2.2.2.1).mono ?_
  rintro ex W1 ⟨rfl, hS1, hb1, hk1⟩
  have hh1 := (hk1.2 w.heap.size H.out.2.2.2.2.2.2 (fun h => by have := h.2; omega)).trans H.out.2.1
  have z1 : W1.cell? ⟨w.heap.size, 1, none⟩ = some (.slice A1 l.length c1) := (blk_cell hh1 1).trans rfl
  have z2 : W1.cell? ⟨w.heap.size, 2, none⟩ = some (.int .i64 c) := (blk_cell hh1 2).trans rfl
  have hR1 := Kd.R_step (w1 := W1) (Kd.R_tight rfl H.out.2.2.2.1) (fun k hk hlt => hk1.2 k hlt (fun h => h.1.2 hk))
  have HX := Aside0.mk (And.intro hS1 (And.intro hb1 (And.intro hk1 hR1)))
  clear hS1 hb1 hk1 hh1 hR1 y0
  go_wp2_with fail
  refine (markBlk_call B _ _ l c (nBlks cs 1) W1 HX.out.2.2.2 (by have := HGe.out; omega) (by have := H.out.2.2.2.2; omega)).mono ?_
  rintro ex W2 ⟨rfl, hR2, hg2⟩
  have HY := Aside0.mk (And.intro hR2 hg2)
  clear hR2 hg2
  go_wp2
  go_ret
  have hP1 : ∀ k, some k = Value.ownBlock (.slice A1 l.length c1) → P k := fun k hk => (H.out.2.2.2.1.1 k hk.symm).1
  refine ⟨rfl, ?_, Kd.R_mono HY.out.1 hP1, (H.out.1.mono (Nat.zero_le _)).trans (HX.out.2.1.trans (Below.zero_of_grown HY.out.2)), ?_⟩
  · exact Kd.S_mono (Kd.S_grown HX.out.1 HY.out.2 (fun k hk => hk.1.2)) (fun k hk => hk.1)
  · exact Kept.of_grown HY.out.2 ((Kept.of_below H.out.1 P).then_ HX.out.2.2.1 (fun k hk => .inl hk.1.1)) (fun k hk => .inl (hP1 k hk.symm))
end Go.Proofs.Ytpfehkkfakofaaa.Q

namespace Go.Proofs.Ytpfehkkfakofaaa.Q
open Go.RowKit Go.Proofs.YtpfehkkfakofaaaW.PrintWords Go.Proofs.YtpfehkkfakofaaaW.PrintLast Go.Proofs.YtpfehkkfakofaaaW.PrintMore
set_option linter.unusedVariables false
set_option linter.unusedSimpArgs false
theorem block_len (xs : List S92) : (blockI xs).f0.length = xs.length := by
  unfold blockI
  have := putIs_len xs ([], 0)
  simpa using this
theorem condT_small (M : Nat) : ∀ (N : Nat) (t : Tr), (flatT t).length ≤ N → wfT t → ∀ (b : List S92) (s : Bool) (f : Int), b.length + 3 * (flatT t).length ≤ M → ∀ x ∈ condT t b s f, x.f0.length ≤ M
  | 0, t, hl, hw => absurd (List.eq_nil_of_length_eq_zero (by omega)) (flatT_ne t)
  | N + 1, .node n ks, hl, hw => by
    intro b s f hb x hx
    rcases wf_ar hw with ⟨rfl, g1, g2, g3⟩ | ⟨p, q, rfl, wp, wq, h⟩ | ⟨z, p, q, rfl, wz, wp, wq, h⟩
    · simp [condT, condTs, condN] at hx
    · simp only [flatT, flatTs, List.length_append, List.length_cons, List.length_nil] at hl hb
      have hp := condT_small M N p (by omega) wp
      have hq := condT_small M N q (by omega) wq
      simp only [condT, condTs, condN] at hx
      split at hx
      · rcases List.mem_append.mp hx with h | h
        · exact hp _ _ _ (by omega) x h
        · exact hq _ _ _ (by rw [List.length_append]; have := genT_le p s f; omega) x h
      · rcases List.mem_append.mp hx with h | h
        · exact hp _ _ _ (by omega) x h
        · exact hq _ _ _ (by omega) x h
    · simp only [flatT, flatTs, List.length_append, List.length_cons, List.length_nil] at hl hb
      have hz := condT_small M N z (by omega) wz
      have hp := condT_small M N p (by omega) wp
      have hq := condT_small M N q (by omega) wq
      simp only [condT, condTs, condN] at hx
      rcases List.mem_append.mp hx with h | h
      · rcases List.mem_append.mp h with h | h
        · rcases List.mem_append.mp h with h | h
          · exact hz _ _ _ (by omega) x h
          · rw [List.mem_singleton.mp h, block_len, List.length_append]; have := genT_le z s f; omega
        · exact hp _ _ _ (by omega) x h
      · exact hq _ _ _ (by omega) x h
theorem nBlks_le (M : Nat) : ∀ (bs : List S37) (x : Int), (∀ b ∈ bs, b.f0.length ≤ M) → nBlks bs x ≤ x + (11 * M + 1) * bs.length
  | [], x, h => by simp [nBlks]
  | b :: bs, x, h => by
    have h1 := nBlks_le M bs (x + 11 * b.f0.length + 1) (fun c hc => h c (List.mem_cons_of_mem _ hc))
    have h2 := h b (List.mem_cons_self ..)
    simp only [nBlks, List.length_cons]
    push_cast
    have e : ((11 * (M : Int) + 1) * ((bs.length : Int) + 1)) = (11 * (M : Int) + 1) * bs.length + 11 * (M : Int) + 1 := by rw [Int.mul_add, Int.mul_one]; omega
    rw [e]
    omega
theorem code_small (ns : List S63) : (codeOf ns).1.length ≤ 200 ∧ (∀ x ∈ (codeOf ns).1, x.f0.length ≤ 600) ∧ (codeOf ns).2.1.length ≤ 600 ∧ nBlks (codeOf ns).1 1 < 100000000 := by
  have key : (codeOf ns).1.length ≤ 200 ∧ (∀ x ∈ (codeOf ns).1, x.f0.length ≤ 600) ∧ (codeOf ns).2.1.length ≤ 600 := by
    unfold codeOf
    cases h : validT ns with
    | none => simp
    | some t =>
      obtain ⟨hw, hf, hl⟩ := validT_yes h
      have h1 := condT_len _ t (Nat.le_refl _) hw [] false 0
      have h2 := ifsT_le t
      have h3 := putIs_len (genT t false 0) ([], 0)
      have h4 := genT_le t false 0
      rw [hf] at h2 h4
      simp only [List.length_nil, Nat.zero_add] at h3
      refine ⟨by show (condT t [] false 0).length ≤ 200; omega, condT_small 600 _ t (Nat.le_refl _) hw [] false 0 (by rw [hf]; simp only [List.length_nil]; omega), by show (putIs ([], 0) (genT t false 0)).1.length ≤ 600; omega⟩
  refine ⟨key.1, key.2.1, key.2.2, ?_⟩
  have := nBlks_le 600 (codeOf ns).1 1 key.2.1
  have h5 : ((11 * ((600 : Nat) : Int) + 1) * (codeOf ns).1.length) ≤ 6601 * 200 := by
    have := key.1
    have h6 : ((codeOf ns).1.length : Int) ≤ 200 := by omega
    calc (11 * ((600 : Nat) : Int) + 1) * (codeOf ns).1.length = 6601 * ((codeOf ns).1.length : Int) := by rfl
      _ ≤ 6601 * 200 := by omega
  omega
theorem below_kept {b : Nat} {w W W2 : World} {P : Nat → Prop} (h : Below b w W) (hb : b ≤ w.heap.size) (h0 : Below 0 W W2) (hk : Kept W W2 P) (hP : ∀ k, P k → b ≤ k) : Below b w W2 :=
  ⟨h0.os.trans h.os, h0.tape.trans h.tape, h0.output.trans h.output, Nat.le_trans h.size h0.size, fun k hlt => (hk.2 k (by have := h.size; omega) (fun hp => by have := hP k hp; omega)).trans (h.block k hlt)⟩
end Go.Proofs.Ytpfehkkfakofaaa.Q

namespace Go.Proofs.Ytpfehkkfakofaaa.Q
open Go.RowKit Go.Proofs.YtpfehkkfakofaaaW.PrintWords Go.Proofs.YtpfehkkfakofaaaW.PrintLast Go.Proofs.YtpfehkkfakofaaaW.PrintMore
set_option linter.unusedVariables false
set_option linter.unusedSimpArgs false
theorem kidsC (n : S63) (ks : List Tr) (hw : wfT (.node n ks)) (hl : (flatT (.node n ks)).length ≤ 1000000) (A : Option Addr) (c : Nat) (w : World) (hr : Kd.C k63 w A (flatT (.node n ks)).length (flatT (.node n ks))) (hc : (flatT (.node n ks)).length ≤ c) :
    Calls Try.prog 43 #[.slice A (flatT (.node n ks)).length c] w fun e w' => ∃ A' c', e = .returned (.slice A' ks.length c') ∧ (∀ i t, ks[i]? = some t → ∃ g A5 c5, A' = some ⟨g, 0, none⟩ ∧ w'.cell? ⟨g, i, none⟩ = some (.slice A5 (flatT t).length c5) ∧ (flatT t).length ≤ c5 ∧ Kd.C k63 w' A5 (flatT t).length (flatT t)) ∧ Below w.heap.size w w' := by
  obtain ⟨Kk, hKk⟩ := kids_is n ks hw hl
  refine (spec_l5Kids.calls Kk (fun k => k < w.heap.size) A c (flatT (.node n ks)) (ks.map flatT) w (Kd.V_mk hc (Kd.C_F k63_heap hr)) (hKk Kk (Nat.le_refl _))).mono ?_
  rintro e w' ⟨v, rfl, hN, hb⟩
  obtain ⟨A', c', rfl⟩ := Kd.N_slice hN
  have hlen : (ks.map flatT).length = ks.length := List.length_map _
  rw [hlen] at hN ⊢
  refine ⟨A', c', rfl, fun i t hi => ?_, hb⟩
  have hil : i < ks.length := (List.getElem?_eq_some_iff.mp hi).1
  obtain ⟨g, cap, e4, -, -, -⟩ := Kd.N_form hN (by rw [hlen]; omega)
  injection e4 with e5 e6 e7
  subst e5
  have hC := (Kd.N_reads' hN).2.2
  obtain ⟨ad, cs, he, hcl, hK, hcc⟩ := Kd.C_get hC [] (i : Int) (by omega) (by omega)
  cases he
  rw [Int.toNat_natCast, show (ks.map flatT).getD i [] = flatT t from by simp [List.getD_eq_getElem?_getD, hi]] at hK
  obtain ⟨A5, c5, rfl, h5, h6⟩ := hK
  refine ⟨g, A5, c5, rfl, ?_, h5, h6⟩
  have := hcc 0 _ rfl
  rw [Int.toNat_natCast, show (Kd.slice 63 k63).sz = 1 from rfl, Nat.mul_one, Nat.add_zero] at this
  unfold Addr.add at this
  by_cases h0 : i = 0
  · subst h0; exact this
  · simpa [h0] using this
theorem top_call (t : Tr) (hl : (flatT t).length ≤ 1000000) (A : Option Addr) (c : Nat) (w : World) (hr : Kd.C k63 w A (flatT t).length (flatT t)) (hc : (flatT t).length ≤ c) :
    Calls Try.prog 44 #[.slice A (flatT t).length c] w fun e w' => e = .returned (.int .i64 t.top.f0) ∧ Below w.heap.size w w' := by
  refine (spec_l5Top.calls A c (flatT t) t.top.f0 w hr hc (top_is t hl)).mono ?_
  rintro e w' ⟨rfl, hb⟩
  exact ⟨rfl, hb.below⟩
theorem ifs_call (t : Tr) (hl : (flatT t).length ≤ 100000) (A : Option Addr) (c : Nat) (w : World) (hr : Kd.C k63 w A (flatT t).length (flatT t)) (hc : (flatT t).length ≤ c) :
    Calls Try.prog 60 #[.slice A (flatT t).length c] w fun e w' => e = .returned (.int .i64 (ifsT t)) ∧ Below w.heap.size w w' := by
  obtain ⟨K, hK⟩ := ifs_is t (by omega)
  refine (spec_l6Ifs.calls K A c (flatT t) (ifsT t) w hr hc (hK K (Nat.le_refl _))).mono ?_
  rintro e w' ⟨rfl, hb⟩
  exact ⟨rfl, hb.below⟩
end Go.Proofs.Ytpfehkkfakofaaa.Q

namespace Go.Proofs.Ytpfehkkfakofaaa.Q
open Go.RowKit Go.Proofs.YtpfehkkfakofaaaW.PrintWords Go.Proofs.YtpfehkkfakofaaaW.PrintLast Go.Proofs.YtpfehkkfakofaaaW.PrintMore
set_option linter.unusedVariables false
set_option linter.unusedSimpArgs false
/-- What l6Passes does, for one tree. -/
def PaP (t : Tr) : Prop := ∀ (A : Option Addr) (c : Nat) (w : World), Kd.C k63 w A (flatT t).length (flatT t) → (flatT t).length ≤ c → (flatT t).length ≤ 100000 →
    Calls Try.prog 59 #[.slice A (flatT t).length c] w fun e w' => e = .returned (.bool (passT t)) ∧ Below w.heap.size w w'
set_option maxHeartbeats 4000000 in
set_option maxRecDepth 100000 in
theorem pa_leaf (n : S63) (g3 : n.f0 ≠ 16) (hw : wfT (.node n [])) : PaP (.node n []) := by
  intro A c w hr hc hl2
  have kr : K0 (Below w.heap.size w w) := ⟨Below.refl _ _⟩
  have HK := Aside0.mk (kidsC n [] hw (by omega) A c w hr hc)
  have HT := Aside0.mk (And.intro hr (And.intro hc hl2))
  obtain ⟨Kh, hKh⟩ := has_is n
  have HH := Aside0.mk (fun W (hb : Below w.heap.size w W) => spec_l6HasCounter.calls Kh A c [n] (cntN n) W (Kd.C_below hr hb) hc (hKh Kh (Nat.le_refl _)))
  clear hKh
  clear hr hc hl2
  go_enter Try.func59, Try.ntmps59
  go_wp2_with fail
  refine HK.out.mono ?_
  rintro ex w2 ⟨A2, c2, rfl, hks, hb⟩
  have k2 : K0 (Below w.heap.size w w2) := ⟨hb⟩
  have HB2 := Aside0.mk hb
  clear hb hks HK
  go_wp2_with fail
  refine (top_call (.node n []) (by have := HT.out; omega) A c w2 (Kd.C_below HT.out.1 HB2.out) HT.out.2.1).mono ?_
  rintro ex W0 ⟨rfl, hb⟩
  rw [show Tr.top (.node n []) = n from rfl]
  have k0 : K0 (Below w2.heap.size w2 W0) := ⟨hb⟩
  clear hb
  have kw : K0 (Below w.heap.size w W0) := ⟨HB2.out.trans (k0.out.mono HB2.out.size)⟩
  rw [show flatT (.node n []) = [n] from rfl]
  go_wp2_with fail
  refine (HH.out W0 kw.out).mono ?_
  rintro ex W1 ⟨rfl, hb⟩
  have HF := Aside0.mk (kw.out.trans ((show Below W0.heap.size W0 W1 from hb).mono kw.out.size))
  clear hb
  go_wp2
  go_ret
  exact ⟨rfl, HF.out⟩
set_option maxHeartbeats 4000000 in
set_option maxRecDepth 100000 in
theorem pa_two (n : S63) (p q : Tr) (h16 : n.f0 ≠ 16) (hw : wfT (.node n [p, q])) (hp : PaP p) (hq : PaP q) : PaP (.node n [p, q]) := by
  intro A c w hr hc hl2
  have kr : K0 (Below w.heap.size w w) := ⟨Below.refl _ _⟩
  have HK := Aside0.mk (kidsC n [p, q] hw (by omega) A c w hr hc)
  have HT := Aside0.mk (And.intro hr (And.intro hc hl2))
  simp only [flatT, flatTs, List.length_append, List.length_cons, List.length_nil] at hl2
  have HL := Aside0.mk hl2
  have HP := Aside0.mk hp
  have HQ := Aside0.mk hq
  clear hp hq
  rw [show passT (.node n [p, q]) = (passT p || passT q) from by simp only [passT, passTs, passN]]
  clear hr hc hl2
  go_enter Try.func59, Try.ntmps59
  go_wp2_with fail
  refine HK.out.mono ?_
  rintro ex w2 ⟨A2, c2, rfl, hks, hb⟩
  have k2 : K0 (Below w.heap.size w w2) := ⟨hb⟩
  have HB2 := Aside0.mk hb
  obtain ⟨g, B0, q0, rfl, y0, l0, C0⟩ := hks 0 p rfl
  have y0 := clk y0
  obtain ⟨g', B1, q1, he, y1, l1, C1⟩ := hks 1 q rfl
  cases he
  have y1 := clk y1
  have HKd := Aside0.mk (And.intro (And.intro l0 C0) (And.intro l1 C1))
  clear l0 C0 l1 C1
  clear hb hks HK
  go_wp2_with fail
  refine (top_call (.node n [p, q]) (by have := HT.out; omega) A c w2 (Kd.C_below HT.out.1 HB2.out) HT.out.2.1).mono ?_
  rintro ex W0 ⟨rfl, hb⟩
  rw [show Tr.top (.node n [p, q]) = n from rfl]
  have k0 : K0 (Below w2.heap.size w2 W0) := ⟨hb⟩
  clear hb
  go_wp2_with fail
  refine (HP.out B0 q0 W0 (Kd.C_below HKd.out.1.2 k0.out) HKd.out.1.1 (by have := HL.out; omega)).mono ?_
  rintro ex W1 ⟨rfl, hb⟩
  have k1 : K0 (Below w2.heap.size w2 W1) := ⟨k0.out.trans (hb.mono k0.out.size)⟩
  clear hb
  cases hpp : passT p
  · go_wp2_with fail
    refine (HQ.out B1 q1 W1 (Kd.C_below HKd.out.2.2 k1.out) HKd.out.2.1 (by have := HL.out; omega)).mono ?_
    rintro ex W2 ⟨rfl, hb⟩
    have HF := Aside0.mk (HB2.out.trans ((k1.out.trans (hb.mono k1.out.size)).mono HB2.out.size))
    clear hb
    go_wp2
    go_ret
    exact ⟨by rw [hpp]; rfl, HF.out⟩
  · have HF := Aside0.mk (HB2.out.trans (k1.out.mono HB2.out.size))
    go_wp2
    go_ret
    exact ⟨by rw [hpp]; rfl, HF.out⟩
set_option maxHeartbeats 4000000 in
set_option maxRecDepth 100000 in
theorem pa_if (n : S63) (z p q : Tr) (h16 : n.f0 = 16) (hw : wfT (.node n [z, p, q])) (hp : PaP p) (hq : PaP q) : PaP (.node n [z, p, q]) := by
  intro A c w hr hc hl2
  have kr : K0 (Below w.heap.size w w) := ⟨Below.refl _ _⟩
  have HK := Aside0.mk (kidsC n [z, p, q] hw (by omega) A c w hr hc)
  have HT := Aside0.mk (And.intro hr (And.intro hc hl2))
  simp only [flatT, flatTs, List.length_append, List.length_cons, List.length_nil] at hl2
  have HL := Aside0.mk hl2
  have HP := Aside0.mk hp
  have HQ := Aside0.mk hq
  clear hp hq
  rw [show passT (.node n [z, p, q]) = (passT p || passT q) from by simp only [passT, passTs, passN]]
  clear hr hc hl2
  go_enter Try.func59, Try.ntmps59
  go_wp2_with fail
  refine HK.out.mono ?_
  rintro ex w2 ⟨A2, c2, rfl, hks, hb⟩
  have k2 : K0 (Below w.heap.size w w2) := ⟨hb⟩
  have HB2 := Aside0.mk hb
  obtain ⟨g, B0, q0, rfl, y0, l0, C0⟩ := hks 0 z rfl
  have y0 := clk y0
  obtain ⟨g', B1, q1, he, y1, l1, C1⟩ := hks 1 p rfl
  cases he
  have y1 := clk y1
  obtain ⟨g', B2, q2, he, y2, l2, C2⟩ := hks 2 q rfl
  cases he
  have y2 := clk y2
  have HKd := Aside0.mk (And.intro (And.intro l0 C0) (And.intro (And.intro l1 C1) (And.intro l2 C2)))
  clear l0 C0 l1 C1 l2 C2
  clear hb hks HK
  go_wp2_with fail
  refine (top_call (.node n [z, p, q]) (by have := HT.out; omega) A c w2 (Kd.C_below HT.out.1 HB2.out) HT.out.2.1).mono ?_
  rintro ex W0 ⟨rfl, hb⟩
  rw [show Tr.top (.node n [z, p, q]) = n from rfl, h16]
  have k0 : K0 (Below w2.heap.size w2 W0) := ⟨hb⟩
  clear hb
  go_wp2_with fail
  refine (HP.out B1 q1 W0 (Kd.C_below HKd.out.2.1.2 k0.out) HKd.out.2.1.1 (by have := HL.out; omega)).mono ?_
  rintro ex W1 ⟨rfl, hb⟩
  have k1 : K0 (Below w2.heap.size w2 W1) := ⟨k0.out.trans (hb.mono k0.out.size)⟩
  clear hb
  cases hpp : passT p
  · go_wp2_with fail
    refine (HQ.out B2 q2 W1 (Kd.C_below HKd.out.2.2.2 k1.out) HKd.out.2.2.1 (by have := HL.out; omega)).mono ?_
    rintro ex W2 ⟨rfl, hb⟩
    have HF := Aside0.mk (HB2.out.trans ((k1.out.trans (hb.mono k1.out.size)).mono HB2.out.size))
    clear hb
    go_wp2
    go_ret
    exact ⟨by rw [hpp]; rfl, HF.out⟩
  · have HF := Aside0.mk (HB2.out.trans (k1.out.mono HB2.out.size))
    go_wp2
    go_ret
    exact ⟨by rw [hpp]; rfl, HF.out⟩
theorem pa_all : ∀ (N : Nat) (t : Tr), (flatT t).length ≤ N → wfT t → PaP t
  | 0, t, hl, hw => absurd (List.eq_nil_of_length_eq_zero (by omega)) (flatT_ne t)
  | N + 1, .node n ks, hl, hw => by
    rcases wf_ar hw with ⟨rfl, g1, g2, g3⟩ | ⟨p, q, rfl, wp, wq, h⟩ | ⟨z, p, q, rfl, wz, wp, wq, h⟩
    · exact pa_leaf n g3 hw
    · simp only [flatT, flatTs, List.length_append, List.length_cons, List.length_nil] at hl
      exact pa_two n p q (by omega) hw (pa_all N p (by omega) wp) (pa_all N q (by omega) wq)
    · simp only [flatT, flatTs, List.length_append, List.length_cons, List.length_nil] at hl
      exact pa_if n z p q h hw (pa_all N p (by omega) wp) (pa_all N q (by omega) wq)
theorem passes_call (t : Tr) (hw : wfT t) (hl : (flatT t).length ≤ 100000) (A : Option Addr) (c : Nat) (w : World) (hr : Kd.C k63 w A (flatT t).length (flatT t)) (hc : (flatT t).length ≤ c) :
    Calls Try.prog 59 #[.slice A (flatT t).length c] w fun e w' => e = .returned (.bool (passT t)) ∧ Below w.heap.size w w' := pa_all _ t (Nat.le_refl _) hw A c w hr hc hl
end Go.Proofs.Ytpfehkkfakofaaa.Q

namespace Go.Proofs.Ytpfehkkfakofaaa.Q
open Go.RowKit Go.Proofs.YtpfehkkfakofaaaW.PrintWords Go.Proofs.YtpfehkkfakofaaaW.PrintLast Go.Proofs.YtpfehkkfakofaaaW.PrintMore
set_option linter.unusedVariables false
set_option linter.unusedSimpArgs false

/-! ### spec_l6One: function 63 -/
def spec_l6One.f (a0 : Int) : Option ((List (S92))) := some (([(⟨a0, 0, 0, false, (⟨0, (⟨#[]⟩ : ByteArray), false, (⟨#[]⟩ : ByteArray), 0, 0, 0⟩ : S63)⟩ : S92)] : List (S92)))
set_option maxHeartbeats 8000000 in
set_option maxRecDepth 100000 in
theorem spec_l6One.calls (a0 : Int) (r : List (S92)) (w : World) (h : spec_l6One.f a0 = some r) :
  Calls Try.prog 63 #[.int .i64 a0] w fun e w' => ∃ v0_ : Value, e = .returned (v0_) ∧ Kd.R k92 92 w' w.heap.size (fun _ => True) v0_ r ∧ Below w.heap.size w w' := by
 have hu92 := Try.underlying92
 have HB := Aside0.mk (Below.refl w.heap.size w)
 have H : (some (([(⟨a0, 0, 0, false, (⟨0, (⟨#[]⟩ : ByteArray), false, (⟨#[]⟩ : ByteArray), 0, 0, 0⟩ : S63)⟩ : S92)] : List (S92)))) = some r := h
 clear h
 obtain ⟨y259, hy259⟩ : ∃ y_ : List (S92), y_ = (([(⟨a0, 0, 0, false, (⟨0, (⟨#[]⟩ : ByteArray), false, (⟨#[]⟩ : ByteArray), 0, 0, 0⟩ : S63)⟩ : S92)] : List (S92))) := ⟨_, rfl⟩
 replace H : (some y259) = some r := by first | (rw [hy259]; with_reducible exact H) | (have H2_ := (Option.bind_some _ _).symm.trans H; rw [hy259]; with_reducible exact H2_) | (have H2_ := (Option.bind_some _ _).symm.trans H; with_reducible exact H2_) | with_reducible exact H | (rw [hy259]; exact H) | exact H
 have Ny259 := Aside0.mk hy259
 clear hy259
 obtain rfl := Option.some.inj H
 go_enter Try.func63, Try.ntmps63
 go_wp2_with (first | ((with_reducible refine gate_dst (N := 5) rfl ?_); refine Kd.R_lit k92 _ 92 ?hg (N := 5) ?hd (xs := ([(⟨a0, 0, 0, false, (⟨0, (⟨#[]⟩ : ByteArray), false, (⟨#[]⟩ : ByteArray), 0, 0, 0⟩ : S63)⟩ : S92)] : List (S92))) (inner := [.int .i64 a0, .int .i64 0, .int .i64 0, .bool false, .int .i64 0, .string (⟨#[]⟩ : ByteArray), .bool false, .string (⟨#[]⟩ : ByteArray), .int .u64 0, .int .u64 0, .int .i64 0]) (ok := fun _ => True) (okp := fun _ => True) ?hr ?hp (fun _ hk => hk) trivial (Below.refl _ _) (Nat.le_refl _) (by simp) ?_; (case hd => rfl); (case hg => rfl); (case hr => first | (go_simp; done) | (go_simp; rfl)); (case hp => exact (Reps.front (show Kd.M k92 _ _ _ (⟨a0, 0, 0, false, (⟨0, (⟨#[]⟩ : ByteArray), false, (⟨#[]⟩ : ByteArray), 0, 0, 0⟩ : S63)⟩ : S92) [.int .i64 a0, .int .i64 0, .int .i64 0, .bool false, .int .i64 0, .string (⟨#[]⟩ : ByteArray), .bool false, .string (⟨#[]⟩ : ByteArray), .int .u64 0, .int .u64 0, .int .i64 0] from (k92_mkM _ _ _ (⟨a0, 0, 0, false, (⟨0, (⟨#[]⟩ : ByteArray), false, (⟨#[]⟩ : ByteArray), 0, 0, 0⟩ : S63)⟩ : S92) )) rfl (Reps.none _ _) rfl)); intro v260 w2 ho3 hb hg_ hnew_; clear hg_ hnew_; (first | rw [← Ny259.out] at ho3 | (simp only [Int.reduceToNat] at ho3; rw [← Ny259.out] at ho3)); have n0_ := Aside0.mk (Kd.R_lower ho3 (below_size bw)); have n1_ := Aside0.mk (below_step bw hb); clear HB; have HO261 := n0_; have HB := n1_; clear n0_ n1_; clear hb ho3))
 go_ret
 exact ⟨_, by first | rfl | (simp [errW_none, errW_some] <;> rfl) | (simp [*, errW_none, errW_some] <;> rfl), lf HO261, bw⟩

end Go.Proofs.Ytpfehkkfakofaaa.Q
