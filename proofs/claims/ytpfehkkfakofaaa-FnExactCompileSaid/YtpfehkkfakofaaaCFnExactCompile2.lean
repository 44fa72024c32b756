/- FnExactCompile: the row of the law: its arguments opened, its walk, its statement over lists (PrFnExactCompile). No condition. -/
import Derived.Test.YtpfehkkfakofaaaCFnExactCompile1
import Derived.Deep.RegionHeld3
import Derived.Deep.QuietTactic
import Derived.BigQuiet
import Derived.WalkLawsBesides
import Derived.Outline
import Derived.Deep.DeepCutAuto
import Derived.Deep.LoopGhost
import Derived.Deep.CutRange
import Derived.ArgAppend
import Derived.Shelf.Small.Strs
import Derived.Shelf.Strings.Search1
import Derived.Test.YtpfehkkfakofaaaProg
import Derived.Defers
import Derived.Recover
import Derived.RegionTactic
import Derived.ChangeAlike

namespace Go.Proofs.Ytpfehkkfakofaaa.Q
open Go.RowKit Go.Proofs.YtpfehkkfakofaaaW.PrintWords Go.Proofs.YtpfehkkfakofaaaW.PrintLast
class K0 (p : Prop) : Prop where mk :: (out : p)
theorem kk {p : Prop} [h : K0 p] : p := h.out
section
variable {w W : World} {g row : Nat} {o : Obj} {v : Value}
instance [h : K0 (Below w.heap.size w W)] {o : Obj} : K0 (Below w.heap.size w (W.alloc o)) := ⟨below_alloc h.out o⟩
instance [h : K0 (Below w.heap.size w W)] {m : Nat} : K0 (Below w.heap.size w (W.drewN m)) := ⟨pw_below_drewN h.out m⟩
instance [h : K0 (Below w.heap.size w W)] : K0 (Below w.heap.size w W.drew) := ⟨below_drew1 h.out⟩
instance {j : Nat} [h : K0 (Below w.heap.size w W)] [hg : K0 (w.heap.size ≤ g)] : K0 (Below w.heap.size w (W.setCell ⟨g, j, none⟩ v)) := ⟨below_set h.out hg.out⟩
instance {o' : Obj} [h : K0 (W.heap[g]? = some o)] : K0 ((W.alloc o').heap[g]? = some o) := ⟨blk_alloc h.out o'⟩
instance {m : Nat} [h : K0 (W.heap[g]? = some o)] : K0 ((W.drewN m).heap[g]? = some o) := ⟨blk_drewN h.out m⟩
instance [h : K0 (W.heap[g]? = some o)] : K0 (W.drew.heap[g]? = some o) := ⟨blk_drew h.out⟩
instance {t : TypeId} {cs : Array Value} {p : Addr} {u : Value} [h : K0 (W.heap[g]? = some (.cells cs t (0, 0)))] [hp : K0 (g ≠ p.block)] : K0 ((W.setCell p u).heap[g]? = some (.cells cs t (0, 0))) := ⟨blk_far h.out hp.out u⟩
section
variable {α : Type} {d : Kd α} {e base : Nat} {ok : Nat → Prop} {xs : List α}
instance [h : K0 (Kd.R d e w base ok v xs)] {o : Obj} : K0 (Kd.R d e (w.alloc o) base ok v xs) := ⟨Kd.R_alloc h.out o⟩
instance [h : K0 (Kd.R d e w base ok v xs)] {m : Nat} : K0 (Kd.R d e (w.drewN m) base ok v xs) := ⟨Kd.R_drewN h.out m⟩
instance [h : K0 (Kd.R d e w base ok v xs)] : K0 (Kd.R d e w.drew base ok v xs) := ⟨Kd.R_drew h.out⟩
end
end
theorem sz_al (w : World) (o : Obj) : (w.alloc o).heap.size = w.heap.size + 1 := by show (w.heap.push _).size = _; simp
theorem new1 (w : World) (a b : Obj) : ((w.alloc a).alloc b).heap[w.heap.size + 1]? = some b := by have := heap_alloc_new (w.alloc a) b; rwa [sz_al] at this
theorem new2 (w : World) (a b c : Obj) : (((w.alloc a).alloc b).alloc c).heap[w.heap.size + 1 + 1]? = some c := by have := new1 (w.alloc a) b c; rwa [sz_al] at this
theorem old1 (w : World) (a b c : Obj) : (((w.alloc a).alloc b).alloc c).heap[w.heap.size + 1]? = some b := by have := heap_alloc_old ((w.alloc a).alloc b) c (r := w.heap.size + 1) (by rw [sz_al, sz_al]; omega); rw [this]; exact new1 w a b
/-- What a cell held it holds in each world that lies below. -/
theorem clk {w : World} {a : Addr} {v : Value} (h : w.cell? a = some v) : ∀ W [K0 (Below w.heap.size w W)], W.cell? a = some v := fun _ k => (k.out.cell (World.block_lt_of_cell? w _ h)).trans h
end Go.Proofs.Ytpfehkkfakofaaa.Q

namespace Go.Proofs.Ytpfehkkfakofaaa.Q
open Go.RowKit Go.Proofs.YtpfehkkfakofaaaW.PrintWords Go.Proofs.YtpfehkkfakofaaaW.PrintLast Go.Proofs.YtpfehkkfakofaaaW.PrintMore
set_option linter.unusedVariables false
set_option linter.unusedSimpArgs false

theorem eqA63 (d : Nat) (w : World) (x0 y0 : Int) (x1 y1 : ByteArray) (x2 y2 : Bool) (x3 y3 : ByteArray) (x4 y4 : Int) (x5 y5 : Int) (x6 y6 : Int) :
    (Op.equalIn (d + 2) 63 (.agg #[.int .i64 x0, .string x1, .bool x2, .string x3, .int .u64 x4, .int .u64 x5, .int .i64 x6]) (.agg #[.int .i64 y0, .string y1, .bool y2, .string y3, .int .u64 y4, .int .u64 y5, .int .i64 y6])).run Try.prog w = .ok (x0 == y0 && (x1.toList == y1.toList && (x2 == y2 && (x3.toList == y3.toList && (x4 == y4 && (x5 == y5 && (x6 == y6))))))) w := by
  refine eqA_of Try.underlying63 (by kernel_rfl) ?_
  refine eqf_cons (by rfl) (by go_simp; rfl) (by go_simp; rfl) (by go_simp) ?_
  refine eqf_cons (by rfl) (by go_simp; rfl) (by go_simp; rfl) (by go_simp) ?_
  refine eqf_cons (by rfl) (by go_simp; rfl) (by go_simp; rfl) (by go_simp) ?_
  refine eqf_cons (by rfl) (by go_simp; rfl) (by go_simp; rfl) (by go_simp) ?_
  refine eqf_cons (by rfl) (by go_simp; rfl) (by go_simp; rfl) (by go_simp) ?_
  refine eqf_cons (by rfl) (by go_simp; rfl) (by go_simp; rfl) (by go_simp) ?_
  exact eqf_last (by rfl) (by go_simp; rfl) (by go_simp; rfl) (by go_simp)
end Go.Proofs.Ytpfehkkfakofaaa.Q

namespace Go.Proofs.Ytpfehkkfakofaaa.Q
open Go.RowKit Go.Proofs.YtpfehkkfakofaaaW.PrintWords Go.Proofs.YtpfehkkfakofaaaW.PrintLast Go.Proofs.YtpfehkkfakofaaaW.PrintMore
set_option linter.unusedVariables false
set_option linter.unusedSimpArgs false
def spec_l5Bare.f (a0 : Int) (a1 : ByteArray) (a2 : Bool) (a3 : ByteArray) (a4 a5 a6 : Int) (b1 b2 b3 b4 b5 : Bool) : Option Bool :=
  some ((b1 || a1.toList == []) && ((b2 || !a2) && ((b3 || a3.toList == []) && ((b4 || (a4 == 0 && a5 == 0)) && (b5 || a6 == 0)))))
set_option maxHeartbeats 8000000 in
set_option maxRecDepth 100000 in
theorem bare_call (a0 : Int) (a1 : ByteArray) (a2 : Bool) (a3 : ByteArray) (a4 a5 a6 : Int) (b1 b2 b3 b4 b5 : Bool) (w : World) :
    Calls Try.prog 70 #[.agg #[.int .i64 a0, .string a1, .bool a2, .string a3, .int .u64 a4, .int .u64 a5, .int .i64 a6], .bool b1, .bool b2, .bool b3, .bool b4, .bool b5] w fun e w' => e = .returned (.bool ((b1 || a1.toList == []) && ((b2 || !a2) && ((b3 || a3.toList == []) && ((b4 || (a4 == 0 && a5 == 0)) && (b5 || a6 == 0)))))) ∧ Below w.heap.size w w' := by
  have kx : K0 (w.heap.size ≤ w.heap.size) := ⟨Nat.le_refl _⟩
  have kr : K0 (Below w.heap.size w w) := ⟨Below.refl _ _⟩
  go_enter Try.func70, Try.ntmps70
  go_wp2
  all_goals (go_ret; refine ⟨?_, kk⟩; simp [*])
theorem spec_l5Bare.calls (a0_0 : Int) (a0_1 : ByteArray) (a0_2 : Bool) (a0_3 : ByteArray) (a0_4 : Int) (a0_5 : Int) (a0_6 : Int) (a1 : Bool) (a2 : Bool) (a3 : Bool) (a4 : Bool) (a5 : Bool) (r : Bool) (w : World) (h : spec_l5Bare.f a0_0 a0_1 a0_2 a0_3 a0_4 a0_5 a0_6 a1 a2 a3 a4 a5 = some r) :
    Calls Try.prog 70 #[.agg #[.int .i64 a0_0, .string a0_1, .bool a0_2, .string a0_3, .int .u64 a0_4, .int .u64 a0_5, .int .i64 a0_6], .bool a1, .bool a2, .bool a3, .bool a4, .bool a5] w fun e w' => e = .returned (.bool r) ∧ Below w.heap.size w w' := by
  obtain rfl := Option.some.inj h
  exact bare_call a0_0 a0_1 a0_2 a0_3 a0_4 a0_5 a0_6 a1 a2 a3 a4 a5 w
end Go.Proofs.Ytpfehkkfakofaaa.Q

namespace Go.Proofs.Ytpfehkkfakofaaa.Q
open Go.RowKit Go.Proofs.YtpfehkkfakofaaaW.PrintWords Go.Proofs.YtpfehkkfakofaaaW.PrintLast Go.Proofs.YtpfehkkfakofaaaW.PrintMore
set_option linter.unusedVariables false
set_option linter.unusedSimpArgs false

/-! ### spec_l5GoodNode: function 40 -/
mutual
def spec_l5GoodNode.j0 : Nat → Bool → Int → ByteArray → Bool → ByteArray → Int → Int → Int → Option (Bool)
 | 0, _, _, _, _, _, _, _, _ => none
 | k + 1, x27, x164000, x164001, x164002, x164003, x164004, x164005, x164006 => if x27 = true then (some false) else (if x164000 = 4 then (spec_l5GoodNode.j1 k x164000 (x164000 == 4) x164000 x164001 x164002 x164003 x164004 x164005 x164006) else (if x164000 = 5 then (spec_l5GoodNode.j1 k x164000 (x164000 == 5) x164000 x164001 x164002 x164003 x164004 x164005 x164006) else (if x164000 = 6 then (spec_l5GoodNode.j1 k x164000 (x164000 == 6) x164000 x164001 x164002 x164003 x164004 x164005 x164006) else (spec_l5GoodNode.j1 k x164000 (x164000 == 7) x164000 x164001 x164002 x164003 x164004 x164005 x164006))))
def spec_l5GoodNode.j1 : Nat → Int → Bool → Int → ByteArray → Bool → ByteArray → Int → Int → Int → Option (Bool)
 | 0, _, _, _, _, _, _, _, _, _ => none
 | k + 1, x29, x30, x164000, x164001, x164002, x164003, x164004, x164005, x164006 => if x30 = true then ((spec_l5Bare.f x164000 x164001 x164002 x164003 x164004 x164005 x164006 true false false false false).bind fun t164 => (if t164 = true then ((spec_CheckRegex.f k x164001).bind fun bt165 => (some (bt165.1 == 0))) else (some false))) else (if x29 = 8 then (spec_l5GoodNode.j2 k x29 (x29 == 8) x164000 x164001 x164002 x164003 x164004 x164005 x164006) else (spec_l5GoodNode.j2 k x29 (x29 == 9) x164000 x164001 x164002 x164003 x164004 x164005 x164006))
def spec_l5GoodNode.j2 : Nat → Int → Bool → Int → ByteArray → Bool → ByteArray → Int → Int → Int → Option (Bool)
 | 0, _, _, _, _, _, _, _, _, _ => none
 | k + 1, x29, x44, x164000, x164001, x164002, x164003, x164004, x164005, x164006 => if x44 = true then ((spec_l5Bare.f x164000 x164001 x164002 x164003 x164004 x164005 x164006 true true true false false).bind fun t167 => (if t167 = true then (if x164002 = true then (some (Op.bytesLess x164001.toList x164003.toList)) else (some true)) else (some false))) else (if x29 = 10 then ((spec_l5Bare.f x164000 x164001 x164002 x164003 x164004 x164005 x164006 false true false true false).bind fun t168 => (if t168 = true then (if x164002 = true then (some (decide (x164004 < x164005))) else (some true)) else (some false))) else (if x29 = 11 then (spec_l5GoodNode.j3 k (x29 == 11) x164000 x164001 x164002 x164003 x164004 x164005 x164006) else (if x29 = 12 then (spec_l5GoodNode.j3 k (x29 == 12) x164000 x164001 x164002 x164003 x164004 x164005 x164006) else (spec_l5GoodNode.j3 k (x29 == 13) x164000 x164001 x164002 x164003 x164004 x164005 x164006))))
def spec_l5GoodNode.j3 : Nat → Bool → Int → ByteArray → Bool → ByteArray → Int → Int → Int → Option (Bool)
 | 0, _, _, _, _, _, _, _, _ => none
 | k + 1, x77, x164000, x164001, x164002, x164003, x164004, x164005, x164006 => if x77 = true then ((spec_l5Bare.f x164000 x164001 x164002 x164003 x164004 x164005 x164006 false false false false true).bind fun t169 => (if t169 = true then (if x164006 ≥ 1 then (some (decide (x164006 ≤ 1000))) else (some false)) else (some false))) else (if x164000 ≥ 1 then (if x164000 ≤ 16 then ((spec_l5Bare.f x164000 x164001 x164002 x164003 x164004 x164005 x164006 false false false false false).bind fun t170 => (some t170)) else (some false)) else (some false))
end
def spec_l5GoodNode.f (k : Nat) (a0_0 : Int) (a0_1 : ByteArray) (a0_2 : Bool) (a0_3 : ByteArray) (a0_4 : Int) (a0_5 : Int) (a0_6 : Int) : Option (Bool) := if (a0_1.size : Int) > 200 then (spec_l5GoodNode.j0 k true a0_0 a0_1 a0_2 a0_3 a0_4 a0_5 a0_6) else (if (a0_3.size : Int) > 200 then (spec_l5GoodNode.j0 k true a0_0 a0_1 a0_2 a0_3 a0_4 a0_5 a0_6) else (if a0_2 = true then (spec_l5GoodNode.j0 k false a0_0 a0_1 a0_2 a0_3 a0_4 a0_5 a0_6) else (if a0_3.toList = ([] : List UInt8) then (spec_l5GoodNode.j0 k (a0_5 != 0) a0_0 a0_1 a0_2 a0_3 a0_4 a0_5 a0_6) else (spec_l5GoodNode.j0 k true a0_0 a0_1 a0_2 a0_3 a0_4 a0_5 a0_6))))
set_option maxHeartbeats 8000000 in
set_option maxRecDepth 100000 in
theorem spec_l5GoodNode.calls (k : Nat) (a0_0 : Int) (a0_1 : ByteArray) (a0_2 : Bool) (a0_3 : ByteArray) (a0_4 : Int) (a0_5 : Int) (a0_6 : Int) (r : Bool) (w : World) (h : spec_l5GoodNode.f k a0_0 a0_1 a0_2 a0_3 a0_4 a0_5 a0_6 = some r) :
  Calls Try.prog 40 #[.agg #[.int .i64 a0_0, .string a0_1, .bool a0_2, .string a0_3, .int .u64 a0_4, .int .u64 a0_5, .int .i64 a0_6]] w fun e w' => e = .returned (.bool r) ∧ Below w.heap.size w w' := by
 have hfd101 : ∀ (x0 x1 : Int) (w : World), (Instr.field 101 (.agg #[.int .i64 x0, .int .i64 x1]) 0).run Try.prog w = .ok (.int .i64 x0) w := fun _ _ _ => by kernel_rfl
 have hu63 := Try.underlying63
 have HB := Aside0.mk (Below.refl w.heap.size w)
 have H : (if (a0_1.size : Int) > 200 then (spec_l5GoodNode.j0 k true a0_0 a0_1 a0_2 a0_3 a0_4 a0_5 a0_6) else (if (a0_3.size : Int) > 200 then (spec_l5GoodNode.j0 k true a0_0 a0_1 a0_2 a0_3 a0_4 a0_5 a0_6) else (if a0_2 = true then (spec_l5GoodNode.j0 k false a0_0 a0_1 a0_2 a0_3 a0_4 a0_5 a0_6) else (if a0_3.toList = ([] : List UInt8) then (spec_l5GoodNode.j0 k (a0_5 != 0) a0_0 a0_1 a0_2 a0_3 a0_4 a0_5 a0_6) else (spec_l5GoodNode.j0 k true a0_0 a0_1 a0_2 a0_3 a0_4 a0_5 a0_6))))) = some r := h
 clear h
 have HC2 := Aside0.mk H
 clear H
 go_enter Try.func40, Try.ntmps40
 go_upto_region 1 with (first | ((with_reducible refine gate_dst (N := 1) rfl ?_); (try (refine gate_guard (by rfl) ?_; dsimp only)); refine box_event ?hg (N := 1) ?hd (cs := #[.int .i64 a0_0, .string a0_1, .bool a0_2, .string a0_3, .int .u64 a0_4, .int .u64 a0_5, .int .i64 a0_6]) (t := 63) ?hr ?_; (case hd => rfl); (case hg => rfl); (case hr => first | (go_simp; done) | (go_simp; rfl)); intro gb163 hg w3 hbox hb; have n0_ := Aside0.mk (below_step bw hb); have n1_ := Aside0.mk (hbox); have n2_ := Aside0.mk ((by rw [hg]; exact (below_size bw) : w.heap.size ≤ gb163)); have n3_ := Aside0.mk ((by rw [hg]; exact (below_size bw) : w.heap.size ≤ gb163)); clear HB; have HB := n0_; have BK163 := n1_; have GW163 := n2_; have GE163 := n3_; clear n0_ n1_ n2_ n3_; clear hb hbox hg))
 (try simp only [Act.put, List.setIfInBounds_toArray, List.set_cons_zero, List.set_cons_succ])
 go_cut [27] (fun v27 wc => ∃ (kq : Nat) (x27_1 : Bool), v27 = .bool x27_1 ∧ Aside0 (spec_l5GoodNode.j0 kq x27_1 a0_0 a0_1 a0_2 a0_3 a0_4 a0_5 a0_6 = some r) ∧ Aside0 (kq ≤ k) ∧ Aside0 (wc.heap[gb163]? = some (.cells #[.int .i64 a0_0, .string a0_1, .bool a0_2, .string a0_3, .int .u64 a0_4, .int .u64 a0_5, .int .i64 a0_6] 63 (0, 0))) ∧ Aside0 (Below w.heap.size w wc))
 case first =>
  have H := HC2.out
  clear HC2
  by_cases c4 : (a0_1.size : Int) > 200
  ·rw [if_pos c4] at H
   have c4b0 : decide (200 < (a0_1.size : Int)) = true := decide_eq_true c4
   have c4b1 : decide (200 < a0_1.size) = true := decide_eq_true (by omega)
   clear c4
   (first | rw [c4b0] | (simp only [i64_w, i32_w]; rw [c4b0]) | skip)
   have H' := Aside0.mk H
   clear H
   have hcz5_0 : w3.cell? ⟨gb163, 0, none⟩ = some (.int .i64 a0_0) := (blk_cell BK163.out 0).trans rfl
   have hcz5_1 : w3.cell? ⟨gb163, 1, none⟩ = some (.string a0_1) := (blk_cell BK163.out 1).trans rfl
   have hcz5_2 : w3.cell? ⟨gb163, 2, none⟩ = some (.bool a0_2) := (blk_cell BK163.out 2).trans rfl
   have hcz5_3 : w3.cell? ⟨gb163, 3, none⟩ = some (.string a0_3) := (blk_cell BK163.out 3).trans rfl
   have hcz5_4 : w3.cell? ⟨gb163, 4, none⟩ = some (.int .u64 a0_4) := (blk_cell BK163.out 4).trans rfl
   have hcz5_5 : w3.cell? ⟨gb163, 5, none⟩ = some (.int .u64 a0_5) := (blk_cell BK163.out 5).trans rfl
   have hcz5_6 : w3.cell? ⟨gb163, 6, none⟩ = some (.int .i64 a0_6) := (blk_cell BK163.out 6).trans rfl
   have hfz5_0 := blk_frozen BK163.out 0
   have hfz5_1 := blk_frozen BK163.out 1
   have hfz5_2 := blk_frozen BK163.out 2
   have hfz5_3 := blk_frozen BK163.out 3
   have hfz5_4 := blk_frozen BK163.out 4
   have hfz5_5 := blk_frozen BK163.out 5
   have hfz5_6 := blk_frozen BK163.out 6
   go_wp2
   go_meet
   case rel => exact ⟨_, (true), (by first | rfl | (simp; done) | (simp [*]; done)), H', ⟨by first | omega | exact Nat.le_refl _⟩, ⟨lb BK163⟩, ⟨bw⟩⟩
  ·rw [if_neg c4] at H
   have c4b0 : decide (200 < (a0_1.size : Int)) = false := decide_eq_false c4
   have c4b1 : decide (200 < a0_1.size) = false := decide_eq_false (by omega)
   clear c4
   (first | rw [c4b0] | (simp only [i64_w, i32_w]; rw [c4b0]) | skip)
   by_cases c6 : (a0_3.size : Int) > 200
   ·rw [if_pos c6] at H
    have c6b0 : decide (200 < (a0_3.size : Int)) = true := decide_eq_true c6
    have c6b1 : decide (200 < a0_3.size) = true := decide_eq_true (by omega)
    clear c6
    have H' := Aside0.mk H
    clear H
    have hcz7_0 : w3.cell? ⟨gb163, 0, none⟩ = some (.int .i64 a0_0) := (blk_cell BK163.out 0).trans rfl
    have hcz7_1 : w3.cell? ⟨gb163, 1, none⟩ = some (.string a0_1) := (blk_cell BK163.out 1).trans rfl
    have hcz7_2 : w3.cell? ⟨gb163, 2, none⟩ = some (.bool a0_2) := (blk_cell BK163.out 2).trans rfl
    have hcz7_3 : w3.cell? ⟨gb163, 3, none⟩ = some (.string a0_3) := (blk_cell BK163.out 3).trans rfl
    have hcz7_4 : w3.cell? ⟨gb163, 4, none⟩ = some (.int .u64 a0_4) := (blk_cell BK163.out 4).trans rfl
    have hcz7_5 : w3.cell? ⟨gb163, 5, none⟩ = some (.int .u64 a0_5) := (blk_cell BK163.out 5).trans rfl
    have hcz7_6 : w3.cell? ⟨gb163, 6, none⟩ = some (.int .i64 a0_6) := (blk_cell BK163.out 6).trans rfl
    have hfz7_0 := blk_frozen BK163.out 0
    have hfz7_1 := blk_frozen BK163.out 1
    have hfz7_2 := blk_frozen BK163.out 2
    have hfz7_3 := blk_frozen BK163.out 3
    have hfz7_4 := blk_frozen BK163.out 4
    have hfz7_5 := blk_frozen BK163.out 5
    have hfz7_6 := blk_frozen BK163.out 6
    go_wp2
    go_meet
    case rel => exact ⟨_, (true), (by first | rfl | (simp; done) | (simp [*]; done)), H', ⟨by first | omega | exact Nat.le_refl _⟩, ⟨lb BK163⟩, ⟨bw⟩⟩
   ·rw [if_neg c6] at H
    have c6b0 : decide (200 < (a0_3.size : Int)) = false := decide_eq_false c6
    have c6b1 : decide (200 < a0_3.size) = false := decide_eq_false (by omega)
    clear c6
    by_cases c8 : a0_2 = true
    ·subst c8
     have H1 : (spec_l5GoodNode.j0 k false a0_0 a0_1 true a0_3 a0_4 a0_5 a0_6) = some r := by rw [if_pos rfl] at H; exact H
     clear H
     have H := H1
     clear H1
     have H' := Aside0.mk H
     clear H
     have hcz9_0 : w3.cell? ⟨gb163, 0, none⟩ = some (.int .i64 a0_0) := (blk_cell BK163.out 0).trans rfl
     have hcz9_1 : w3.cell? ⟨gb163, 1, none⟩ = some (.string a0_1) := (blk_cell BK163.out 1).trans rfl
     have hcz9_2 : w3.cell? ⟨gb163, 2, none⟩ = some (.bool true) := (blk_cell BK163.out 2).trans rfl
     have hcz9_3 : w3.cell? ⟨gb163, 3, none⟩ = some (.string a0_3) := (blk_cell BK163.out 3).trans rfl
     have hcz9_4 : w3.cell? ⟨gb163, 4, none⟩ = some (.int .u64 a0_4) := (blk_cell BK163.out 4).trans rfl
     have hcz9_5 : w3.cell? ⟨gb163, 5, none⟩ = some (.int .u64 a0_5) := (blk_cell BK163.out 5).trans rfl
     have hcz9_6 : w3.cell? ⟨gb163, 6, none⟩ = some (.int .i64 a0_6) := (blk_cell BK163.out 6).trans rfl
     have hfz9_0 := blk_frozen BK163.out 0
     have hfz9_1 := blk_frozen BK163.out 1
     have hfz9_2 := blk_frozen BK163.out 2
     have hfz9_3 := blk_frozen BK163.out 3
     have hfz9_4 := blk_frozen BK163.out 4
     have hfz9_5 := blk_frozen BK163.out 5
     have hfz9_6 := blk_frozen BK163.out 6
     go_wp2
     go_meet
     case rel => exact ⟨_, (false), (by first | rfl | (simp; done) | (simp [*]; done)), H', ⟨by first | omega | exact Nat.le_refl _⟩, ⟨lb BK163⟩, ⟨bw⟩⟩
    ·replace c8 := Bool.eq_false_iff.mpr c8
     subst c8
     have H1 : (if a0_3.toList = ([] : List UInt8) then (spec_l5GoodNode.j0 k (a0_5 != 0) a0_0 a0_1 false a0_3 a0_4 a0_5 a0_6) else (spec_l5GoodNode.j0 k true a0_0 a0_1 false a0_3 a0_4 a0_5 a0_6)) = some r := by rw [if_neg (show ¬ (false = true) by decide)] at H; exact H
     clear H
     have H := H1
     clear H1
     by_cases c10 : a0_3.toList = ([] : List UInt8)
     ·rw [if_pos c10] at H
      have c10b0 : (a0_3.toList == ([] : List UInt8)) = true := beq_iff_eq.mpr c10
      have c10b1 : (a0_3.toList != ([] : List UInt8)) = false := bne_eq_false_iff_eq.mpr c10
      clear c10
      have H' := Aside0.mk H
      clear H
      have hcz11_0 : w3.cell? ⟨gb163, 0, none⟩ = some (.int .i64 a0_0) := (blk_cell BK163.out 0).trans rfl
      have hcz11_1 : w3.cell? ⟨gb163, 1, none⟩ = some (.string a0_1) := (blk_cell BK163.out 1).trans rfl
      have hcz11_2 : w3.cell? ⟨gb163, 2, none⟩ = some (.bool false) := (blk_cell BK163.out 2).trans rfl
      have hcz11_3 : w3.cell? ⟨gb163, 3, none⟩ = some (.string a0_3) := (blk_cell BK163.out 3).trans rfl
      have hcz11_4 : w3.cell? ⟨gb163, 4, none⟩ = some (.int .u64 a0_4) := (blk_cell BK163.out 4).trans rfl
      have hcz11_5 : w3.cell? ⟨gb163, 5, none⟩ = some (.int .u64 a0_5) := (blk_cell BK163.out 5).trans rfl
      have hcz11_6 : w3.cell? ⟨gb163, 6, none⟩ = some (.int .i64 a0_6) := (blk_cell BK163.out 6).trans rfl
      have hfz11_0 := blk_frozen BK163.out 0
      have hfz11_1 := blk_frozen BK163.out 1
      have hfz11_2 := blk_frozen BK163.out 2
      have hfz11_3 := blk_frozen BK163.out 3
      have hfz11_4 := blk_frozen BK163.out 4
      have hfz11_5 := blk_frozen BK163.out 5
      have hfz11_6 := blk_frozen BK163.out 6
      go_wp2
      go_meet
      case rel => exact ⟨_, ((a0_5 != 0)), (by first | rfl | (simp; done) | (simp [*]; done)), H', ⟨by first | omega | exact Nat.le_refl _⟩, ⟨lb BK163⟩, ⟨bw⟩⟩
     ·rw [if_neg c10] at H
      have c10b0 : (a0_3.toList == ([] : List UInt8)) = false := beq_eq_false_iff_ne.mpr c10
      have c10b1 : (a0_3.toList != ([] : List UInt8)) = true := bne_iff_ne.mpr c10
      have H' := Aside0.mk H
      clear H
      have hcz12_0 : w3.cell? ⟨gb163, 0, none⟩ = some (.int .i64 a0_0) := (blk_cell BK163.out 0).trans rfl
      have hcz12_1 : w3.cell? ⟨gb163, 1, none⟩ = some (.string a0_1) := (blk_cell BK163.out 1).trans rfl
      have hcz12_2 : w3.cell? ⟨gb163, 2, none⟩ = some (.bool false) := (blk_cell BK163.out 2).trans rfl
      have hcz12_3 : w3.cell? ⟨gb163, 3, none⟩ = some (.string a0_3) := (blk_cell BK163.out 3).trans rfl
      have hcz12_4 : w3.cell? ⟨gb163, 4, none⟩ = some (.int .u64 a0_4) := (blk_cell BK163.out 4).trans rfl
      have hcz12_5 : w3.cell? ⟨gb163, 5, none⟩ = some (.int .u64 a0_5) := (blk_cell BK163.out 5).trans rfl
      have hcz12_6 : w3.cell? ⟨gb163, 6, none⟩ = some (.int .i64 a0_6) := (blk_cell BK163.out 6).trans rfl
      have hfz12_0 := blk_frozen BK163.out 0
      have hfz12_1 := blk_frozen BK163.out 1
      have hfz12_2 := blk_frozen BK163.out 2
      have hfz12_3 := blk_frozen BK163.out 3
      have hfz12_4 := blk_frozen BK163.out 4
      have hfz12_5 := blk_frozen BK163.out 5
      have hfz12_6 := blk_frozen BK163.out 6
      go_wp2
      go_meet
      case rel => exact ⟨_, (true), (by first | rfl | (simp; done) | (simp [*]; done)), H', ⟨by first | omega | exact Nat.le_refl _⟩, ⟨lb BK163⟩, ⟨bw⟩⟩
 case rest =>
  clear HC2
  try clear c1
  try clear p2
  try clear c4
  try clear c4b0
  try clear c4b1
  try clear c6
  try clear c6b0
  try clear c6b1
  try clear c8
  try clear c10
  try clear c10b0
  try clear c10b1
  try clear hcz11_0
  try clear hcz11_1
  try clear hcz11_2
  try clear hcz11_3
  try clear hcz11_4
  try clear hcz11_5
  try clear hcz11_6
  try clear hcz12_0
  try clear hcz12_1
  try clear hcz12_2
  try clear hcz12_3
  try clear hcz12_4
  try clear hcz12_5
  try clear hcz12_6
  try clear hcz5_0
  try clear hcz5_1
  try clear hcz5_2
  try clear hcz5_3
  try clear hcz5_4
  try clear hcz5_5
  try clear hcz5_6
  try clear hcz7_0
  try clear hcz7_1
  try clear hcz7_2
  try clear hcz7_3
  try clear hcz7_4
  try clear hcz7_5
  try clear hcz7_6
  try clear hcz9_0
  try clear hcz9_1
  try clear hcz9_2
  try clear hcz9_3
  try clear hcz9_4
  try clear hcz9_5
  try clear hcz9_6
  try clear hfz11_0
  try clear hfz11_1
  try clear hfz11_2
  try clear hfz11_3
  try clear hfz11_4
  try clear hfz11_5
  try clear hfz11_6
  try clear hfz12_0
  try clear hfz12_1
  try clear hfz12_2
  try clear hfz12_3
  try clear hfz12_4
  try clear hfz12_5
  try clear hfz12_6
  try clear hfz5_0
  try clear hfz5_1
  try clear hfz5_2
  try clear hfz5_3
  try clear hfz5_4
  try clear hfz5_5
  try clear hfz5_6
  try clear hfz7_0
  try clear hfz7_1
  try clear hfz7_2
  try clear hfz7_3
  try clear hfz7_4
  try clear hfz7_5
  try clear hfz7_6
  try clear hfz9_0
  try clear hfz9_1
  try clear hfz9_2
  try clear hfz9_3
  try clear hfz9_4
  try clear hfz9_5
  try clear hfz9_6
  obtain ⟨kq, x27_1, rfl, HA, HJ1, BK163, HB⟩ := hcut
  cases kq with
  | zero => exact absurd HA.out (by simp [spec_l5GoodNode.j0])
  | succ kj1 =>
   have H := HA.out
   clear HA
   simp only [spec_l5GoodNode.j0] at H
   by_cases c13 : x27_1 = true
   ·subst c13
    have H1 : (some false) = some r := by rw [if_pos rfl] at H; exact H
    clear H
    have H := H1
    clear H1
    obtain rfl := Option.some.inj H
    go_wp2
    go_ret
    exact ⟨by first | rfl | (simp [errW_none, errW_some] <;> rfl) | (simp [*, errW_none, errW_some] <;> rfl), bw⟩
   ·replace c13 := Bool.eq_false_iff.mpr c13
    subst c13
    have H1 : (if a0_0 = 4 then (spec_l5GoodNode.j1 kj1 a0_0 (a0_0 == 4) a0_0 a0_1 a0_2 a0_3 a0_4 a0_5 a0_6) else (if a0_0 = 5 then (spec_l5GoodNode.j1 kj1 a0_0 (a0_0 == 5) a0_0 a0_1 a0_2 a0_3 a0_4 a0_5 a0_6) else (if a0_0 = 6 then (spec_l5GoodNode.j1 kj1 a0_0 (a0_0 == 6) a0_0 a0_1 a0_2 a0_3 a0_4 a0_5 a0_6) else (spec_l5GoodNode.j1 kj1 a0_0 (a0_0 == 7) a0_0 a0_1 a0_2 a0_3 a0_4 a0_5 a0_6)))) = some r := by rw [if_neg (show ¬ (false = true) by decide)] at H; exact H
    clear H
    have H := H1
    clear H1
    have HC14 := Aside0.mk H
    clear H
    have hcz15_0 : wc.cell? ⟨gb163, 0, none⟩ = some (.int .i64 a0_0) := (blk_cell BK163.out 0).trans rfl
    have hcz15_1 : wc.cell? ⟨gb163, 1, none⟩ = some (.string a0_1) := (blk_cell BK163.out 1).trans rfl
    have hcz15_2 : wc.cell? ⟨gb163, 2, none⟩ = some (.bool a0_2) := (blk_cell BK163.out 2).trans rfl
    have hcz15_3 : wc.cell? ⟨gb163, 3, none⟩ = some (.string a0_3) := (blk_cell BK163.out 3).trans rfl
    have hcz15_4 : wc.cell? ⟨gb163, 4, none⟩ = some (.int .u64 a0_4) := (blk_cell BK163.out 4).trans rfl
    have hcz15_5 : wc.cell? ⟨gb163, 5, none⟩ = some (.int .u64 a0_5) := (blk_cell BK163.out 5).trans rfl
    have hcz15_6 : wc.cell? ⟨gb163, 6, none⟩ = some (.int .i64 a0_6) := (blk_cell BK163.out 6).trans rfl
    have hfz15_0 := blk_frozen BK163.out 0
    have hfz15_1 := blk_frozen BK163.out 1
    have hfz15_2 := blk_frozen BK163.out 2
    have hfz15_3 := blk_frozen BK163.out 3
    have hfz15_4 := blk_frozen BK163.out 4
    have hfz15_5 := blk_frozen BK163.out 5
    have hfz15_6 := blk_frozen BK163.out 6
    go_upto_if 30 with (fail)
    go_cut [30] (fun v30 wc => ∃ (kq : Nat) (x30_13 : Bool), v30 = .bool x30_13 ∧ Aside0 (spec_l5GoodNode.j1 kq a0_0 x30_13 a0_0 a0_1 a0_2 a0_3 a0_4 a0_5 a0_6 = some r) ∧ Aside0 (kq ≤ kj1) ∧ Aside0 (wc.heap[gb163]? = some (.cells #[.int .i64 a0_0, .string a0_1, .bool a0_2, .string a0_3, .int .u64 a0_4, .int .u64 a0_5, .int .i64 a0_6] 63 (0, 0))) ∧ Aside0 (Below w.heap.size w wc))
    case first =>
     have H := HC14.out
     clear HC14
     by_cases c16 : a0_0 = 4
     ·rw [if_pos c16] at H
      have c16b0 : (a0_0 == 4) = true := beq_iff_eq.mpr c16
      have c16b1 : (a0_0 != 4) = false := bne_eq_false_iff_eq.mpr c16
      clear c16
      (first | rw [c16b0] | (simp only [i64_w, i32_w]; rw [c16b0]) | skip)
      have H' := Aside0.mk H
      clear H
      go_wp2
      go_meet
      case rel => exact ⟨_, ((a0_0 == 4)), (by first | rfl | (simp; done) | (simp [*]; done)), H', ⟨by have := HJ1.out; first | omega | exact Nat.le_refl _⟩, ⟨lb BK163⟩, ⟨bw⟩⟩
     ·rw [if_neg c16] at H
      have c16b0 : (a0_0 == 4) = false := beq_eq_false_iff_ne.mpr c16
      have c16b1 : (a0_0 != 4) = true := bne_iff_ne.mpr c16
      (first | rw [c16b0] | (simp only [i64_w, i32_w]; rw [c16b0]) | skip)
      by_cases c17 : a0_0 = 5
      ·rw [if_pos c17] at H
       have c17b0 : (a0_0 == 5) = true := beq_iff_eq.mpr c17
       have c17b1 : (a0_0 != 5) = false := bne_eq_false_iff_eq.mpr c17
       clear c17
       have H' := Aside0.mk H
       clear H
       go_wp2
       go_meet
       case rel => exact ⟨_, ((a0_0 == 5)), (by first | rfl | (simp; done) | (simp [*]; done)), H', ⟨by have := HJ1.out; first | omega | exact Nat.le_refl _⟩, ⟨lb BK163⟩, ⟨bw⟩⟩
      ·rw [if_neg c17] at H
       have c17b0 : (a0_0 == 5) = false := beq_eq_false_iff_ne.mpr c17
       have c17b1 : (a0_0 != 5) = true := bne_iff_ne.mpr c17
       by_cases c18 : a0_0 = 6
       ·rw [if_pos c18] at H
        have c18b0 : (a0_0 == 6) = true := beq_iff_eq.mpr c18
        have c18b1 : (a0_0 != 6) = false := bne_eq_false_iff_eq.mpr c18
        clear c18
        have H' := Aside0.mk H
        clear H
        go_wp2
        go_meet
        case rel => exact ⟨_, ((a0_0 == 6)), (by first | rfl | (simp; done) | (simp [*]; done)), H', ⟨by have := HJ1.out; first | omega | exact Nat.le_refl _⟩, ⟨lb BK163⟩, ⟨bw⟩⟩
       ·rw [if_neg c18] at H
        have c18b0 : (a0_0 == 6) = false := beq_eq_false_iff_ne.mpr c18
        have c18b1 : (a0_0 != 6) = true := bne_iff_ne.mpr c18
        have H' := Aside0.mk H
        clear H
        go_wp2
        go_meet
        case rel => exact ⟨_, ((a0_0 == 7)), (by first | rfl | (simp; done) | (simp [*]; done)), H', ⟨by have := HJ1.out; first | omega | exact Nat.le_refl _⟩, ⟨lb BK163⟩, ⟨bw⟩⟩
    case rest =>
     clear HC14
     try clear c1
     try clear p2
     try clear c4
     try clear c4b0
     try clear c4b1
     try clear c6
     try clear c6b0
     try clear c6b1
     try clear c8
     try clear c10
     try clear c10b0
     try clear c10b1
     try clear c13
     try clear c16
     try clear c16b0
     try clear c16b1
     try clear c17
     try clear c17b0
     try clear c17b1
     try clear c18
     try clear c18b0
     try clear c18b1
     try clear hcz11_0
     try clear hcz11_1
     try clear hcz11_2
     try clear hcz11_3
     try clear hcz11_4
     try clear hcz11_5
     try clear hcz11_6
     try clear hcz12_0
     try clear hcz12_1
     try clear hcz12_2
     try clear hcz12_3
     try clear hcz12_4
     try clear hcz12_5
     try clear hcz12_6
     try clear hcz15_0
     try clear hcz15_1
     try clear hcz15_2
     try clear hcz15_3
     try clear hcz15_4
     try clear hcz15_5
     try clear hcz15_6
     try clear hcz5_0
     try clear hcz5_1
     try clear hcz5_2
     try clear hcz5_3
     try clear hcz5_4
     try clear hcz5_5
     try clear hcz5_6
     try clear hcz7_0
     try clear hcz7_1
     try clear hcz7_2
     try clear hcz7_3
     try clear hcz7_4
     try clear hcz7_5
     try clear hcz7_6
     try clear hcz9_0
     try clear hcz9_1
     try clear hcz9_2
     try clear hcz9_3
     try clear hcz9_4
     try clear hcz9_5
     try clear hcz9_6
     try clear hfz11_0
     try clear hfz11_1
     try clear hfz11_2
     try clear hfz11_3
     try clear hfz11_4
     try clear hfz11_5
     try clear hfz11_6
     try clear hfz12_0
     try clear hfz12_1
     try clear hfz12_2
     try clear hfz12_3
     try clear hfz12_4
     try clear hfz12_5
     try clear hfz12_6
     try clear hfz15_0
     try clear hfz15_1
     try clear hfz15_2
     try clear hfz15_3
     try clear hfz15_4
     try clear hfz15_5
     try clear hfz15_6
     try clear hfz5_0
     try clear hfz5_1
     try clear hfz5_2
     try clear hfz5_3
     try clear hfz5_4
     try clear hfz5_5
     try clear hfz5_6
     try clear hfz7_0
     try clear hfz7_1
     try clear hfz7_2
     try clear hfz7_3
     try clear hfz7_4
     try clear hfz7_5
     try clear hfz7_6
     try clear hfz9_0
     try clear hfz9_1
     try clear hfz9_2
     try clear hfz9_3
     try clear hfz9_4
     try clear hfz9_5
     try clear hfz9_6
     try clear p2
     obtain ⟨kq, x30_13, rfl, HA, HJ13, BK163, HB⟩ := hcut
     cases kq with
     | zero => exact absurd HA.out (by simp [spec_l5GoodNode.j1])
     | succ kj13 =>
      have H := HA.out
      clear HA
      simp only [spec_l5GoodNode.j1] at H
      by_cases c19 : x30_13 = true
      ·subst c19
       have H1 : ((spec_l5Bare.f a0_0 a0_1 a0_2 a0_3 a0_4 a0_5 a0_6 true false false false false).bind fun t164 => (if t164 = true then ((spec_CheckRegex.f kj13 a0_1).bind fun bt165 => (some (bt165.1 == 0))) else (some false))) = some r := by rw [if_pos rfl] at H; exact H
       clear H
       have H := H1
       clear H1
       replace H := Option.bind_eq_some_iff.mp H
       obtain ⟨t164, A200, H⟩ := H
       replace H : (if t164 = true then ((spec_CheckRegex.f kj13 a0_1).bind fun bt165 => (some (bt165.1 == 0))) else (some false)) = some r := H
       have A20 := Aside0.mk A200
       clear A200
       by_cases c21 : t164 = true
       ·subst c21
        have H1 : ((spec_CheckRegex.f kj13 a0_1).bind fun bt165 => (some (bt165.1 == 0))) = some r := by rw [if_pos rfl] at H; exact H
        clear H
        have H := H1
        clear H1
        replace H := Option.bind_eq_some_iff.mp H
        obtain ⟨⟨t165, t166⟩, A220, H⟩ := H
        replace H : (some (t165 == 0)) = some r := H
        have A22 := Aside0.mk A220
        clear A220
        obtain rfl := Option.some.inj H
        have hcz23_0 : wc.cell? ⟨gb163, 0, none⟩ = some (.int .i64 a0_0) := (blk_cell BK163.out 0).trans rfl
        have hcz23_1 : wc.cell? ⟨gb163, 1, none⟩ = some (.string a0_1) := (blk_cell BK163.out 1).trans rfl
        have hcz23_2 : wc.cell? ⟨gb163, 2, none⟩ = some (.bool a0_2) := (blk_cell BK163.out 2).trans rfl
        have hcz23_3 : wc.cell? ⟨gb163, 3, none⟩ = some (.string a0_3) := (blk_cell BK163.out 3).trans rfl
        have hcz23_4 : wc.cell? ⟨gb163, 4, none⟩ = some (.int .u64 a0_4) := (blk_cell BK163.out 4).trans rfl
        have hcz23_5 : wc.cell? ⟨gb163, 5, none⟩ = some (.int .u64 a0_5) := (blk_cell BK163.out 5).trans rfl
        have hcz23_6 : wc.cell? ⟨gb163, 6, none⟩ = some (.int .i64 a0_6) := (blk_cell BK163.out 6).trans rfl
        have hfz23_0 := blk_frozen BK163.out 0
        have hfz23_1 := blk_frozen BK163.out 1
        have hfz23_2 := blk_frozen BK163.out 2
        have hfz23_3 := blk_frozen BK163.out 3
        have hfz23_4 := blk_frozen BK163.out 4
        have hfz23_5 := blk_frozen BK163.out 5
        have hfz23_6 := blk_frozen BK163.out 6
        go_wp2_with (first | ((with_reducible refine at_fn (f := 70) rfl ?_); refine goesL_ (some 36) rfl rfl Try.func70 (by kernel_rfl) rfl #[.agg #[.int .i64 a0_0, .string a0_1, .bool a0_2, .string a0_3, .int .u64 a0_4, .int .u64 a0_5, .int .i64 a0_6], .bool true, .bool false, .bool false, .bool false, .bool false] rfl (by (try simp only [List.map_toArray, List.map_cons, List.map_nil]); first | done | rfl | (simp only [List.length_drop, List.length_take]; rfl)) ?_; (with_reducible refine (spec_l5Bare.calls a0_0 a0_1 a0_2 a0_3 a0_4 a0_5 a0_6 true false false false false true _ A20.out).mono ?_); rintro e w24 ⟨rfl, hb⟩; refine ⟨_, rfl, ?_⟩; have n0_ := Aside0.mk (blk_below (g := gb163) (o := .cells #[.int .i64 a0_0, .string a0_1, .bool a0_2, .string a0_3, .int .u64 a0_4, .int .u64 a0_5, .int .i64 a0_6] 63 (0, 0)) (lb BK163) hb); have n1_ := Aside0.mk (below_step bw hb); clear BK163; clear HB; have BK163 := n0_; have HB := n1_; clear n0_ n1_; (try clear hb); (try clear hb2); (try clear hk); (try clear hi); have hcz25_0 : w24.cell? ⟨gb163, 0, none⟩ = some (.int .i64 a0_0) := (blk_cell BK163.out 0).trans rfl; have hcz25_1 : w24.cell? ⟨gb163, 1, none⟩ = some (.string a0_1) := (blk_cell BK163.out 1).trans rfl; have hcz25_2 : w24.cell? ⟨gb163, 2, none⟩ = some (.bool a0_2) := (blk_cell BK163.out 2).trans rfl; have hcz25_3 : w24.cell? ⟨gb163, 3, none⟩ = some (.string a0_3) := (blk_cell BK163.out 3).trans rfl; have hcz25_4 : w24.cell? ⟨gb163, 4, none⟩ = some (.int .u64 a0_4) := (blk_cell BK163.out 4).trans rfl; have hcz25_5 : w24.cell? ⟨gb163, 5, none⟩ = some (.int .u64 a0_5) := (blk_cell BK163.out 5).trans rfl; have hcz25_6 : w24.cell? ⟨gb163, 6, none⟩ = some (.int .i64 a0_6) := (blk_cell BK163.out 6).trans rfl; have hfz25_0 := blk_frozen BK163.out 0; have hfz25_1 := blk_frozen BK163.out 1; have hfz25_2 := blk_frozen BK163.out 2; have hfz25_3 := blk_frozen BK163.out 3; have hfz25_4 := blk_frozen BK163.out 4; have hfz25_5 := blk_frozen BK163.out 5; have hfz25_6 := blk_frozen BK163.out 6) | (go_at_call 71; (with_reducible refine (spec_CheckRegex.calls kj13 a0_1 t165 t166 _ A22.out).mono ?_); rintro e w26 ⟨rfl, hb⟩; have n0_ := Aside0.mk (blk_below (g := gb163) (o := .cells #[.int .i64 a0_0, .string a0_1, .bool a0_2, .string a0_3, .int .u64 a0_4, .int .u64 a0_5, .int .i64 a0_6] 63 (0, 0)) (lb BK163) hb); have n1_ := Aside0.mk (below_step bw hb); clear BK163; clear HB; have BK163 := n0_; have HB := n1_; clear n0_ n1_; (try clear hb); (try clear hb2); (try clear hk); (try clear hi)))
        go_ret
        exact ⟨by first | rfl | (simp [errW_none, errW_some] <;> rfl) | (simp [*, errW_none, errW_some] <;> rfl), bw⟩
       ·replace c21 := Bool.eq_false_iff.mpr c21
        subst c21
        have H1 : (some false) = some r := by rw [if_neg (show ¬ (false = true) by decide)] at H; exact H
        clear H
        have H := H1
        clear H1
        obtain rfl := Option.some.inj H
        have hcz27_0 : wc.cell? ⟨gb163, 0, none⟩ = some (.int .i64 a0_0) := (blk_cell BK163.out 0).trans rfl
        have hcz27_1 : wc.cell? ⟨gb163, 1, none⟩ = some (.string a0_1) := (blk_cell BK163.out 1).trans rfl
        have hcz27_2 : wc.cell? ⟨gb163, 2, none⟩ = some (.bool a0_2) := (blk_cell BK163.out 2).trans rfl
        have hcz27_3 : wc.cell? ⟨gb163, 3, none⟩ = some (.string a0_3) := (blk_cell BK163.out 3).trans rfl
        have hcz27_4 : wc.cell? ⟨gb163, 4, none⟩ = some (.int .u64 a0_4) := (blk_cell BK163.out 4).trans rfl
        have hcz27_5 : wc.cell? ⟨gb163, 5, none⟩ = some (.int .u64 a0_5) := (blk_cell BK163.out 5).trans rfl
        have hcz27_6 : wc.cell? ⟨gb163, 6, none⟩ = some (.int .i64 a0_6) := (blk_cell BK163.out 6).trans rfl
        have hfz27_0 := blk_frozen BK163.out 0
        have hfz27_1 := blk_frozen BK163.out 1
        have hfz27_2 := blk_frozen BK163.out 2
        have hfz27_3 := blk_frozen BK163.out 3
        have hfz27_4 := blk_frozen BK163.out 4
        have hfz27_5 := blk_frozen BK163.out 5
        have hfz27_6 := blk_frozen BK163.out 6
        go_wp2_with (first | ((with_reducible refine at_fn (f := 70) rfl ?_); refine goesL_ (some 36) rfl rfl Try.func70 (by kernel_rfl) rfl #[.agg #[.int .i64 a0_0, .string a0_1, .bool a0_2, .string a0_3, .int .u64 a0_4, .int .u64 a0_5, .int .i64 a0_6], .bool true, .bool false, .bool false, .bool false, .bool false] rfl (by (try simp only [List.map_toArray, List.map_cons, List.map_nil]); first | done | rfl | (simp only [List.length_drop, List.length_take]; rfl)) ?_; (with_reducible refine (spec_l5Bare.calls a0_0 a0_1 a0_2 a0_3 a0_4 a0_5 a0_6 true false false false false false _ A20.out).mono ?_); rintro e w28 ⟨rfl, hb⟩; refine ⟨_, rfl, ?_⟩; have n0_ := Aside0.mk (blk_below (g := gb163) (o := .cells #[.int .i64 a0_0, .string a0_1, .bool a0_2, .string a0_3, .int .u64 a0_4, .int .u64 a0_5, .int .i64 a0_6] 63 (0, 0)) (lb BK163) hb); have n1_ := Aside0.mk (below_step bw hb); clear BK163; clear HB; have BK163 := n0_; have HB := n1_; clear n0_ n1_; (try clear hb); (try clear hb2); (try clear hk); (try clear hi)))
        go_ret
        exact ⟨by first | rfl | (simp [errW_none, errW_some] <;> rfl) | (simp [*, errW_none, errW_some] <;> rfl), bw⟩
      ·replace c19 := Bool.eq_false_iff.mpr c19
       subst c19
       have H1 : (if a0_0 = 8 then (spec_l5GoodNode.j2 kj13 a0_0 (a0_0 == 8) a0_0 a0_1 a0_2 a0_3 a0_4 a0_5 a0_6) else (spec_l5GoodNode.j2 kj13 a0_0 (a0_0 == 9) a0_0 a0_1 a0_2 a0_3 a0_4 a0_5 a0_6)) = some r := by rw [if_neg (show ¬ (false = true) by decide)] at H; exact H
       clear H
       have H := H1
       clear H1
       have HC29 := Aside0.mk H
       clear H
       go_upto_if 44 with (fail)
       go_cut [44] (fun v44 wc => ∃ (kq : Nat) (x44_28 : Bool), v44 = .bool x44_28 ∧ Aside0 (spec_l5GoodNode.j2 kq a0_0 x44_28 a0_0 a0_1 a0_2 a0_3 a0_4 a0_5 a0_6 = some r) ∧ Aside0 (kq ≤ kj13) ∧ Aside0 (wc.heap[gb163]? = some (.cells #[.int .i64 a0_0, .string a0_1, .bool a0_2, .string a0_3, .int .u64 a0_4, .int .u64 a0_5, .int .i64 a0_6] 63 (0, 0))) ∧ Aside0 (Below w.heap.size w wc))
       case first =>
        have H := HC29.out
        clear HC29
        by_cases c30 : a0_0 = 8
        ·rw [if_pos c30] at H
         have c30b0 : (a0_0 == 8) = true := beq_iff_eq.mpr c30
         have c30b1 : (a0_0 != 8) = false := bne_eq_false_iff_eq.mpr c30
         clear c30
         (first | rw [c30b0] | (simp only [i64_w, i32_w]; rw [c30b0]) | skip)
         have H' := Aside0.mk H
         clear H
         go_wp2
         go_meet
         case rel => exact ⟨_, ((a0_0 == 8)), (by first | rfl | (simp; done) | (simp [*]; done)), H', ⟨by have := HJ1.out; have := HJ13.out; first | omega | exact Nat.le_refl _⟩, ⟨lb BK163⟩, ⟨bw⟩⟩
        ·rw [if_neg c30] at H
         have c30b0 : (a0_0 == 8) = false := beq_eq_false_iff_ne.mpr c30
         have c30b1 : (a0_0 != 8) = true := bne_iff_ne.mpr c30
         (first | rw [c30b0] | (simp only [i64_w, i32_w]; rw [c30b0]) | skip)
         have H' := Aside0.mk H
         clear H
         go_wp2
         go_meet
         case rel => exact ⟨_, ((a0_0 == 9)), (by first | rfl | (simp; done) | (simp [*]; done)), H', ⟨by have := HJ1.out; have := HJ13.out; first | omega | exact Nat.le_refl _⟩, ⟨lb BK163⟩, ⟨bw⟩⟩
       case rest =>
        clear HC29
        try clear c1
        try clear c2
        try clear p2
        try clear c3
        try clear c4
        try clear c4b0
        try clear c4b1
        try clear c6
        try clear c6b0
        try clear c6b1
        try clear c7
        try clear c8
        try clear c10
        try clear c10b0
        try clear c10b1
        try clear c13
        try clear c16
        try clear c16b0
        try clear c16b1
        try clear c17
        try clear c17b0
        try clear c17b1
        try clear c18
        try clear c18b0
        try clear c18b1
        try clear c19
        try clear c21
        try clear c30
        try clear c30b0
        try clear c30b1
        try clear hcz11_0
        try clear hcz11_1
        try clear hcz11_2
        try clear hcz11_3
        try clear hcz11_4
        try clear hcz11_5
        try clear hcz11_6
        try clear hcz12_0
        try clear hcz12_1
        try clear hcz12_2
        try clear hcz12_3
        try clear hcz12_4
        try clear hcz12_5
        try clear hcz12_6
        try clear hcz15_0
        try clear hcz15_1
        try clear hcz15_2
        try clear hcz15_3
        try clear hcz15_4
        try clear hcz15_5
        try clear hcz15_6
        try clear hcz23_0
        try clear hcz23_1
        try clear hcz23_2
        try clear hcz23_3
        try clear hcz23_4
        try clear hcz23_5
        try clear hcz23_6
        try clear hcz25_0
        try clear hcz25_1
        try clear hcz25_2
        try clear hcz25_3
        try clear hcz25_4
        try clear hcz25_5
        try clear hcz25_6
        try clear hcz27_0
        try clear hcz27_1
        try clear hcz27_2
        try clear hcz27_3
        try clear hcz27_4
        try clear hcz27_5
        try clear hcz27_6
        try clear hcz5_0
        try clear hcz5_1
        try clear hcz5_2
        try clear hcz5_3
        try clear hcz5_4
        try clear hcz5_5
        try clear hcz5_6
        try clear hcz7_0
        try clear hcz7_1
        try clear hcz7_2
        try clear hcz7_3
        try clear hcz7_4
        try clear hcz7_5
        try clear hcz7_6
        try clear hcz9_0
        try clear hcz9_1
        try clear hcz9_2
        try clear hcz9_3
        try clear hcz9_4
        try clear hcz9_5
        try clear hcz9_6
        try clear hfz11_0
        try clear hfz11_1
        try clear hfz11_2
        try clear hfz11_3
        try clear hfz11_4
        try clear hfz11_5
        try clear hfz11_6
        try clear hfz12_0
        try clear hfz12_1
        try clear hfz12_2
        try clear hfz12_3
        try clear hfz12_4
        try clear hfz12_5
        try clear hfz12_6
        try clear hfz15_0
        try clear hfz15_1
        try clear hfz15_2
        try clear hfz15_3
        try clear hfz15_4
        try clear hfz15_5
        try clear hfz15_6
        try clear hfz23_0
        try clear hfz23_1
        try clear hfz23_2
        try clear hfz23_3
        try clear hfz23_4
        try clear hfz23_5
        try clear hfz23_6
        try clear hfz25_0
        try clear hfz25_1
        try clear hfz25_2
        try clear hfz25_3
        try clear hfz25_4
        try clear hfz25_5
        try clear hfz25_6
        try clear hfz27_0
        try clear hfz27_1
        try clear hfz27_2
        try clear hfz27_3
        try clear hfz27_4
        try clear hfz27_5
        try clear hfz27_6
        try clear hfz5_0
        try clear hfz5_1
        try clear hfz5_2
        try clear hfz5_3
        try clear hfz5_4
        try clear hfz5_5
        try clear hfz5_6
        try clear hfz7_0
        try clear hfz7_1
        try clear hfz7_2
        try clear hfz7_3
        try clear hfz7_4
        try clear hfz7_5
        try clear hfz7_6
        try clear hfz9_0
        try clear hfz9_1
        try clear hfz9_2
        try clear hfz9_3
        try clear hfz9_4
        try clear hfz9_5
        try clear hfz9_6
        try clear p2
        obtain ⟨kq, x44_28, rfl, HA, HJ28, BK163, HB⟩ := hcut
        cases kq with
        | zero => exact absurd HA.out (by simp [spec_l5GoodNode.j2])
        | succ kj28 =>
         have H := HA.out
         clear HA
         simp only [spec_l5GoodNode.j2] at H
         by_cases c31 : x44_28 = true
         ·subst c31
          have H1 : ((spec_l5Bare.f a0_0 a0_1 a0_2 a0_3 a0_4 a0_5 a0_6 true true true false false).bind fun t167 => (if t167 = true then (if a0_2 = true then (some (Op.bytesLess a0_1.toList a0_3.toList)) else (some true)) else (some false))) = some r := by rw [if_pos rfl] at H; exact H
          clear H
          have H := H1
          clear H1
          replace H := Option.bind_eq_some_iff.mp H
          obtain ⟨t167, A320, H⟩ := H
          replace H : (if t167 = true then (if a0_2 = true then (some (Op.bytesLess a0_1.toList a0_3.toList)) else (some true)) else (some false)) = some r := H
          have A32 := Aside0.mk A320
          clear A320
          by_cases c33 : t167 = true
          ·subst c33
           have H1 : (if a0_2 = true then (some (Op.bytesLess a0_1.toList a0_3.toList)) else (some true)) = some r := by rw [if_pos rfl] at H; exact H
           clear H
           have H := H1
           clear H1
           by_cases c34 : a0_2 = true
           ·subst c34
            have H1 : (some (Op.bytesLess a0_1.toList a0_3.toList)) = some r := by rw [if_pos rfl] at H; exact H
            clear H
            have H := H1
            clear H1
            obtain rfl := Option.some.inj H
            have hcz35_0 : wc.cell? ⟨gb163, 0, none⟩ = some (.int .i64 a0_0) := (blk_cell BK163.out 0).trans rfl
            have hcz35_1 : wc.cell? ⟨gb163, 1, none⟩ = some (.string a0_1) := (blk_cell BK163.out 1).trans rfl
            have hcz35_2 : wc.cell? ⟨gb163, 2, none⟩ = some (.bool true) := (blk_cell BK163.out 2).trans rfl
            have hcz35_3 : wc.cell? ⟨gb163, 3, none⟩ = some (.string a0_3) := (blk_cell BK163.out 3).trans rfl
            have hcz35_4 : wc.cell? ⟨gb163, 4, none⟩ = some (.int .u64 a0_4) := (blk_cell BK163.out 4).trans rfl
            have hcz35_5 : wc.cell? ⟨gb163, 5, none⟩ = some (.int .u64 a0_5) := (blk_cell BK163.out 5).trans rfl
            have hcz35_6 : wc.cell? ⟨gb163, 6, none⟩ = some (.int .i64 a0_6) := (blk_cell BK163.out 6).trans rfl
            have hfz35_0 := blk_frozen BK163.out 0
            have hfz35_1 := blk_frozen BK163.out 1
            have hfz35_2 := blk_frozen BK163.out 2
            have hfz35_3 := blk_frozen BK163.out 3
            have hfz35_4 := blk_frozen BK163.out 4
            have hfz35_5 := blk_frozen BK163.out 5
            have hfz35_6 := blk_frozen BK163.out 6
            go_wp2_with (first | ((with_reducible refine at_fn (f := 70) rfl ?_); refine goesL_ (some 48) rfl rfl Try.func70 (by kernel_rfl) rfl #[.agg #[.int .i64 a0_0, .string a0_1, .bool true, .string a0_3, .int .u64 a0_4, .int .u64 a0_5, .int .i64 a0_6], .bool true, .bool true, .bool true, .bool false, .bool false] rfl (by (try simp only [List.map_toArray, List.map_cons, List.map_nil]); first | done | rfl | (simp only [List.length_drop, List.length_take]; rfl)) ?_; (with_reducible refine (spec_l5Bare.calls a0_0 a0_1 true a0_3 a0_4 a0_5 a0_6 true true true false false true _ A32.out).mono ?_); rintro e w36 ⟨rfl, hb⟩; refine ⟨_, rfl, ?_⟩; have n0_ := Aside0.mk (blk_below (g := gb163) (o := .cells #[.int .i64 a0_0, .string a0_1, .bool true, .string a0_3, .int .u64 a0_4, .int .u64 a0_5, .int .i64 a0_6] 63 (0, 0)) (lb BK163) hb); have n1_ := Aside0.mk (below_step bw hb); clear BK163; clear HB; have BK163 := n0_; have HB := n1_; clear n0_ n1_; (try clear hb); (try clear hb2); (try clear hk); (try clear hi); have hcz37_0 : w36.cell? ⟨gb163, 0, none⟩ = some (.int .i64 a0_0) := (blk_cell BK163.out 0).trans rfl; have hcz37_1 : w36.cell? ⟨gb163, 1, none⟩ = some (.string a0_1) := (blk_cell BK163.out 1).trans rfl; have hcz37_2 : w36.cell? ⟨gb163, 2, none⟩ = some (.bool true) := (blk_cell BK163.out 2).trans rfl; have hcz37_3 : w36.cell? ⟨gb163, 3, none⟩ = some (.string a0_3) := (blk_cell BK163.out 3).trans rfl; have hcz37_4 : w36.cell? ⟨gb163, 4, none⟩ = some (.int .u64 a0_4) := (blk_cell BK163.out 4).trans rfl; have hcz37_5 : w36.cell? ⟨gb163, 5, none⟩ = some (.int .u64 a0_5) := (blk_cell BK163.out 5).trans rfl; have hcz37_6 : w36.cell? ⟨gb163, 6, none⟩ = some (.int .i64 a0_6) := (blk_cell BK163.out 6).trans rfl; have hfz37_0 := blk_frozen BK163.out 0; have hfz37_1 := blk_frozen BK163.out 1; have hfz37_2 := blk_frozen BK163.out 2; have hfz37_3 := blk_frozen BK163.out 3; have hfz37_4 := blk_frozen BK163.out 4; have hfz37_5 := blk_frozen BK163.out 5; have hfz37_6 := blk_frozen BK163.out 6))
            go_ret
            exact ⟨by first | rfl | (simp [errW_none, errW_some] <;> rfl) | (simp [*, errW_none, errW_some] <;> rfl), bw⟩
           ·replace c34 := Bool.eq_false_iff.mpr c34
            subst c34
            have H1 : (some true) = some r := by rw [if_neg (show ¬ (false = true) by decide)] at H; exact H
            clear H
            have H := H1
            clear H1
            obtain rfl := Option.some.inj H
            have hcz38_0 : wc.cell? ⟨gb163, 0, none⟩ = some (.int .i64 a0_0) := (blk_cell BK163.out 0).trans rfl
            have hcz38_1 : wc.cell? ⟨gb163, 1, none⟩ = some (.string a0_1) := (blk_cell BK163.out 1).trans rfl
            have hcz38_2 : wc.cell? ⟨gb163, 2, none⟩ = some (.bool false) := (blk_cell BK163.out 2).trans rfl
            have hcz38_3 : wc.cell? ⟨gb163, 3, none⟩ = some (.string a0_3) := (blk_cell BK163.out 3).trans rfl
            have hcz38_4 : wc.cell? ⟨gb163, 4, none⟩ = some (.int .u64 a0_4) := (blk_cell BK163.out 4).trans rfl
            have hcz38_5 : wc.cell? ⟨gb163, 5, none⟩ = some (.int .u64 a0_5) := (blk_cell BK163.out 5).trans rfl
            have hcz38_6 : wc.cell? ⟨gb163, 6, none⟩ = some (.int .i64 a0_6) := (blk_cell BK163.out 6).trans rfl
            have hfz38_0 := blk_frozen BK163.out 0
            have hfz38_1 := blk_frozen BK163.out 1
            have hfz38_2 := blk_frozen BK163.out 2
            have hfz38_3 := blk_frozen BK163.out 3
            have hfz38_4 := blk_frozen BK163.out 4
            have hfz38_5 := blk_frozen BK163.out 5
            have hfz38_6 := blk_frozen BK163.out 6
            go_wp2_with (first | ((with_reducible refine at_fn (f := 70) rfl ?_); refine goesL_ (some 48) rfl rfl Try.func70 (by kernel_rfl) rfl #[.agg #[.int .i64 a0_0, .string a0_1, .bool false, .string a0_3, .int .u64 a0_4, .int .u64 a0_5, .int .i64 a0_6], .bool true, .bool true, .bool true, .bool false, .bool false] rfl (by (try simp only [List.map_toArray, List.map_cons, List.map_nil]); first | done | rfl | (simp only [List.length_drop, List.length_take]; rfl)) ?_; (with_reducible refine (spec_l5Bare.calls a0_0 a0_1 false a0_3 a0_4 a0_5 a0_6 true true true false false true _ A32.out).mono ?_); rintro e w39 ⟨rfl, hb⟩; refine ⟨_, rfl, ?_⟩; have n0_ := Aside0.mk (blk_below (g := gb163) (o := .cells #[.int .i64 a0_0, .string a0_1, .bool false, .string a0_3, .int .u64 a0_4, .int .u64 a0_5, .int .i64 a0_6] 63 (0, 0)) (lb BK163) hb); have n1_ := Aside0.mk (below_step bw hb); clear BK163; clear HB; have BK163 := n0_; have HB := n1_; clear n0_ n1_; (try clear hb); (try clear hb2); (try clear hk); (try clear hi); have hcz40_0 : w39.cell? ⟨gb163, 0, none⟩ = some (.int .i64 a0_0) := (blk_cell BK163.out 0).trans rfl; have hcz40_1 : w39.cell? ⟨gb163, 1, none⟩ = some (.string a0_1) := (blk_cell BK163.out 1).trans rfl; have hcz40_2 : w39.cell? ⟨gb163, 2, none⟩ = some (.bool false) := (blk_cell BK163.out 2).trans rfl; have hcz40_3 : w39.cell? ⟨gb163, 3, none⟩ = some (.string a0_3) := (blk_cell BK163.out 3).trans rfl; have hcz40_4 : w39.cell? ⟨gb163, 4, none⟩ = some (.int .u64 a0_4) := (blk_cell BK163.out 4).trans rfl; have hcz40_5 : w39.cell? ⟨gb163, 5, none⟩ = some (.int .u64 a0_5) := (blk_cell BK163.out 5).trans rfl; have hcz40_6 : w39.cell? ⟨gb163, 6, none⟩ = some (.int .i64 a0_6) := (blk_cell BK163.out 6).trans rfl; have hfz40_0 := blk_frozen BK163.out 0; have hfz40_1 := blk_frozen BK163.out 1; have hfz40_2 := blk_frozen BK163.out 2; have hfz40_3 := blk_frozen BK163.out 3; have hfz40_4 := blk_frozen BK163.out 4; have hfz40_5 := blk_frozen BK163.out 5; have hfz40_6 := blk_frozen BK163.out 6))
            go_ret
            exact ⟨by first | rfl | (simp [errW_none, errW_some] <;> rfl) | (simp [*, errW_none, errW_some] <;> rfl), bw⟩
          ·replace c33 := Bool.eq_false_iff.mpr c33
           subst c33
           have H1 : (some false) = some r := by rw [if_neg (show ¬ (false = true) by decide)] at H; exact H
           clear H
           have H := H1
           clear H1
           obtain rfl := Option.some.inj H
           have hcz41_0 : wc.cell? ⟨gb163, 0, none⟩ = some (.int .i64 a0_0) := (blk_cell BK163.out 0).trans rfl
           have hcz41_1 : wc.cell? ⟨gb163, 1, none⟩ = some (.string a0_1) := (blk_cell BK163.out 1).trans rfl
           have hcz41_2 : wc.cell? ⟨gb163, 2, none⟩ = some (.bool a0_2) := (blk_cell BK163.out 2).trans rfl
           have hcz41_3 : wc.cell? ⟨gb163, 3, none⟩ = some (.string a0_3) := (blk_cell BK163.out 3).trans rfl
           have hcz41_4 : wc.cell? ⟨gb163, 4, none⟩ = some (.int .u64 a0_4) := (blk_cell BK163.out 4).trans rfl
           have hcz41_5 : wc.cell? ⟨gb163, 5, none⟩ = some (.int .u64 a0_5) := (blk_cell BK163.out 5).trans rfl
           have hcz41_6 : wc.cell? ⟨gb163, 6, none⟩ = some (.int .i64 a0_6) := (blk_cell BK163.out 6).trans rfl
           have hfz41_0 := blk_frozen BK163.out 0
           have hfz41_1 := blk_frozen BK163.out 1
           have hfz41_2 := blk_frozen BK163.out 2
           have hfz41_3 := blk_frozen BK163.out 3
           have hfz41_4 := blk_frozen BK163.out 4
           have hfz41_5 := blk_frozen BK163.out 5
           have hfz41_6 := blk_frozen BK163.out 6
           go_wp2_with (first | ((with_reducible refine at_fn (f := 70) rfl ?_); refine goesL_ (some 48) rfl rfl Try.func70 (by kernel_rfl) rfl #[.agg #[.int .i64 a0_0, .string a0_1, .bool a0_2, .string a0_3, .int .u64 a0_4, .int .u64 a0_5, .int .i64 a0_6], .bool true, .bool true, .bool true, .bool false, .bool false] rfl (by (try simp only [List.map_toArray, List.map_cons, List.map_nil]); first | done | rfl | (simp only [List.length_drop, List.length_take]; rfl)) ?_; (with_reducible refine (spec_l5Bare.calls a0_0 a0_1 a0_2 a0_3 a0_4 a0_5 a0_6 true true true false false false _ A32.out).mono ?_); rintro e w42 ⟨rfl, hb⟩; refine ⟨_, rfl, ?_⟩; have n0_ := Aside0.mk (blk_below (g := gb163) (o := .cells #[.int .i64 a0_0, .string a0_1, .bool a0_2, .string a0_3, .int .u64 a0_4, .int .u64 a0_5, .int .i64 a0_6] 63 (0, 0)) (lb BK163) hb); have n1_ := Aside0.mk (below_step bw hb); clear BK163; clear HB; have BK163 := n0_; have HB := n1_; clear n0_ n1_; (try clear hb); (try clear hb2); (try clear hk); (try clear hi)))
           go_ret
           exact ⟨by first | rfl | (simp [errW_none, errW_some] <;> rfl) | (simp [*, errW_none, errW_some] <;> rfl), bw⟩
         ·replace c31 := Bool.eq_false_iff.mpr c31
          subst c31
          have H1 : (if a0_0 = 10 then ((spec_l5Bare.f a0_0 a0_1 a0_2 a0_3 a0_4 a0_5 a0_6 false true false true false).bind fun t168 => (if t168 = true then (if a0_2 = true then (some (decide (a0_4 < a0_5))) else (some true)) else (some false))) else (if a0_0 = 11 then (spec_l5GoodNode.j3 kj28 (a0_0 == 11) a0_0 a0_1 a0_2 a0_3 a0_4 a0_5 a0_6) else (if a0_0 = 12 then (spec_l5GoodNode.j3 kj28 (a0_0 == 12) a0_0 a0_1 a0_2 a0_3 a0_4 a0_5 a0_6) else (spec_l5GoodNode.j3 kj28 (a0_0 == 13) a0_0 a0_1 a0_2 a0_3 a0_4 a0_5 a0_6)))) = some r := by rw [if_neg (show ¬ (false = true) by decide)] at H; exact H
          clear H
          have H := H1
          clear H1
          by_cases c43 : a0_0 = 10
          ·rw [if_pos c43] at H
           have c43b0 : (a0_0 == 10) = true := beq_iff_eq.mpr c43
           have c43b1 : (a0_0 != 10) = false := bne_eq_false_iff_eq.mpr c43
           clear c43
           replace H := Option.bind_eq_some_iff.mp H
           obtain ⟨t168, A440, H⟩ := H
           replace H : (if t168 = true then (if a0_2 = true then (some (decide (a0_4 < a0_5))) else (some true)) else (some false)) = some r := H
           have A44 := Aside0.mk A440
           clear A440
           by_cases c45 : t168 = true
           ·subst c45
            have H1 : (if a0_2 = true then (some (decide (a0_4 < a0_5))) else (some true)) = some r := by rw [if_pos rfl] at H; exact H
            clear H
            have H := H1
            clear H1
            by_cases c46 : a0_2 = true
            ·subst c46
             have H1 : (some (decide (a0_4 < a0_5))) = some r := by rw [if_pos rfl] at H; exact H
             clear H
             have H := H1
             clear H1
             obtain rfl := Option.some.inj H
             have hcz47_0 : wc.cell? ⟨gb163, 0, none⟩ = some (.int .i64 a0_0) := (blk_cell BK163.out 0).trans rfl
             have hcz47_1 : wc.cell? ⟨gb163, 1, none⟩ = some (.string a0_1) := (blk_cell BK163.out 1).trans rfl
             have hcz47_2 : wc.cell? ⟨gb163, 2, none⟩ = some (.bool true) := (blk_cell BK163.out 2).trans rfl
             have hcz47_3 : wc.cell? ⟨gb163, 3, none⟩ = some (.string a0_3) := (blk_cell BK163.out 3).trans rfl
             have hcz47_4 : wc.cell? ⟨gb163, 4, none⟩ = some (.int .u64 a0_4) := (blk_cell BK163.out 4).trans rfl
             have hcz47_5 : wc.cell? ⟨gb163, 5, none⟩ = some (.int .u64 a0_5) := (blk_cell BK163.out 5).trans rfl
             have hcz47_6 : wc.cell? ⟨gb163, 6, none⟩ = some (.int .i64 a0_6) := (blk_cell BK163.out 6).trans rfl
             have hfz47_0 := blk_frozen BK163.out 0
             have hfz47_1 := blk_frozen BK163.out 1
             have hfz47_2 := blk_frozen BK163.out 2
             have hfz47_3 := blk_frozen BK163.out 3
             have hfz47_4 := blk_frozen BK163.out 4
             have hfz47_5 := blk_frozen BK163.out 5
             have hfz47_6 := blk_frozen BK163.out 6
             go_wp2_with (first | ((with_reducible refine at_fn (f := 70) rfl ?_); refine goesL_ (some 64) rfl rfl Try.func70 (by kernel_rfl) rfl #[.agg #[.int .i64 a0_0, .string a0_1, .bool true, .string a0_3, .int .u64 a0_4, .int .u64 a0_5, .int .i64 a0_6], .bool false, .bool true, .bool false, .bool true, .bool false] rfl (by (try simp only [List.map_toArray, List.map_cons, List.map_nil]); first | done | rfl | (simp only [List.length_drop, List.length_take]; rfl)) ?_; (with_reducible refine (spec_l5Bare.calls a0_0 a0_1 true a0_3 a0_4 a0_5 a0_6 false true false true false true _ A44.out).mono ?_); rintro e w48 ⟨rfl, hb⟩; refine ⟨_, rfl, ?_⟩; have n0_ := Aside0.mk (blk_below (g := gb163) (o := .cells #[.int .i64 a0_0, .string a0_1, .bool true, .string a0_3, .int .u64 a0_4, .int .u64 a0_5, .int .i64 a0_6] 63 (0, 0)) (lb BK163) hb); have n1_ := Aside0.mk (below_step bw hb); clear BK163; clear HB; have BK163 := n0_; have HB := n1_; clear n0_ n1_; (try clear hb); (try clear hb2); (try clear hk); (try clear hi); have hcz49_0 : w48.cell? ⟨gb163, 0, none⟩ = some (.int .i64 a0_0) := (blk_cell BK163.out 0).trans rfl; have hcz49_1 : w48.cell? ⟨gb163, 1, none⟩ = some (.string a0_1) := (blk_cell BK163.out 1).trans rfl; have hcz49_2 : w48.cell? ⟨gb163, 2, none⟩ = some (.bool true) := (blk_cell BK163.out 2).trans rfl; have hcz49_3 : w48.cell? ⟨gb163, 3, none⟩ = some (.string a0_3) := (blk_cell BK163.out 3).trans rfl; have hcz49_4 : w48.cell? ⟨gb163, 4, none⟩ = some (.int .u64 a0_4) := (blk_cell BK163.out 4).trans rfl; have hcz49_5 : w48.cell? ⟨gb163, 5, none⟩ = some (.int .u64 a0_5) := (blk_cell BK163.out 5).trans rfl; have hcz49_6 : w48.cell? ⟨gb163, 6, none⟩ = some (.int .i64 a0_6) := (blk_cell BK163.out 6).trans rfl; have hfz49_0 := blk_frozen BK163.out 0; have hfz49_1 := blk_frozen BK163.out 1; have hfz49_2 := blk_frozen BK163.out 2; have hfz49_3 := blk_frozen BK163.out 3; have hfz49_4 := blk_frozen BK163.out 4; have hfz49_5 := blk_frozen BK163.out 5; have hfz49_6 := blk_frozen BK163.out 6))
             go_ret
             exact ⟨by first | rfl | (simp [errW_none, errW_some] <;> rfl) | (simp [*, errW_none, errW_some] <;> rfl), bw⟩
            ·replace c46 := Bool.eq_false_iff.mpr c46
             subst c46
             have H1 : (some true) = some r := by rw [if_neg (show ¬ (false = true) by decide)] at H; exact H
             clear H
             have H := H1
             clear H1
             obtain rfl := Option.some.inj H
             have hcz50_0 : wc.cell? ⟨gb163, 0, none⟩ = some (.int .i64 a0_0) := (blk_cell BK163.out 0).trans rfl
             have hcz50_1 : wc.cell? ⟨gb163, 1, none⟩ = some (.string a0_1) := (blk_cell BK163.out 1).trans rfl
             have hcz50_2 : wc.cell? ⟨gb163, 2, none⟩ = some (.bool false) := (blk_cell BK163.out 2).trans rfl
             have hcz50_3 : wc.cell? ⟨gb163, 3, none⟩ = some (.string a0_3) := (blk_cell BK163.out 3).trans rfl
             have hcz50_4 : wc.cell? ⟨gb163, 4, none⟩ = some (.int .u64 a0_4) := (blk_cell BK163.out 4).trans rfl
             have hcz50_5 : wc.cell? ⟨gb163, 5, none⟩ = some (.int .u64 a0_5) := (blk_cell BK163.out 5).trans rfl
             have hcz50_6 : wc.cell? ⟨gb163, 6, none⟩ = some (.int .i64 a0_6) := (blk_cell BK163.out 6).trans rfl
             have hfz50_0 := blk_frozen BK163.out 0
             have hfz50_1 := blk_frozen BK163.out 1
             have hfz50_2 := blk_frozen BK163.out 2
             have hfz50_3 := blk_frozen BK163.out 3
             have hfz50_4 := blk_frozen BK163.out 4
             have hfz50_5 := blk_frozen BK163.out 5
             have hfz50_6 := blk_frozen BK163.out 6
             go_wp2_with (first | ((with_reducible refine at_fn (f := 70) rfl ?_); refine goesL_ (some 64) rfl rfl Try.func70 (by kernel_rfl) rfl #[.agg #[.int .i64 a0_0, .string a0_1, .bool false, .string a0_3, .int .u64 a0_4, .int .u64 a0_5, .int .i64 a0_6], .bool false, .bool true, .bool false, .bool true, .bool false] rfl (by (try simp only [List.map_toArray, List.map_cons, List.map_nil]); first | done | rfl | (simp only [List.length_drop, List.length_take]; rfl)) ?_; (with_reducible refine (spec_l5Bare.calls a0_0 a0_1 false a0_3 a0_4 a0_5 a0_6 false true false true false true _ A44.out).mono ?_); rintro e w51 ⟨rfl, hb⟩; refine ⟨_, rfl, ?_⟩; have n0_ := Aside0.mk (blk_below (g := gb163) (o := .cells #[.int .i64 a0_0, .string a0_1, .bool false, .string a0_3, .int .u64 a0_4, .int .u64 a0_5, .int .i64 a0_6] 63 (0, 0)) (lb BK163) hb); have n1_ := Aside0.mk (below_step bw hb); clear BK163; clear HB; have BK163 := n0_; have HB := n1_; clear n0_ n1_; (try clear hb); (try clear hb2); (try clear hk); (try clear hi); have hcz52_0 : w51.cell? ⟨gb163, 0, none⟩ = some (.int .i64 a0_0) := (blk_cell BK163.out 0).trans rfl; have hcz52_1 : w51.cell? ⟨gb163, 1, none⟩ = some (.string a0_1) := (blk_cell BK163.out 1).trans rfl; have hcz52_2 : w51.cell? ⟨gb163, 2, none⟩ = some (.bool false) := (blk_cell BK163.out 2).trans rfl; have hcz52_3 : w51.cell? ⟨gb163, 3, none⟩ = some (.string a0_3) := (blk_cell BK163.out 3).trans rfl; have hcz52_4 : w51.cell? ⟨gb163, 4, none⟩ = some (.int .u64 a0_4) := (blk_cell BK163.out 4).trans rfl; have hcz52_5 : w51.cell? ⟨gb163, 5, none⟩ = some (.int .u64 a0_5) := (blk_cell BK163.out 5).trans rfl; have hcz52_6 : w51.cell? ⟨gb163, 6, none⟩ = some (.int .i64 a0_6) := (blk_cell BK163.out 6).trans rfl; have hfz52_0 := blk_frozen BK163.out 0; have hfz52_1 := blk_frozen BK163.out 1; have hfz52_2 := blk_frozen BK163.out 2; have hfz52_3 := blk_frozen BK163.out 3; have hfz52_4 := blk_frozen BK163.out 4; have hfz52_5 := blk_frozen BK163.out 5; have hfz52_6 := blk_frozen BK163.out 6))
             go_ret
             exact ⟨by first | rfl | (simp [errW_none, errW_some] <;> rfl) | (simp [*, errW_none, errW_some] <;> rfl), bw⟩
           ·replace c45 := Bool.eq_false_iff.mpr c45
            subst c45
            have H1 : (some false) = some r := by rw [if_neg (show ¬ (false = true) by decide)] at H; exact H
            clear H
            have H := H1
            clear H1
            obtain rfl := Option.some.inj H
            have hcz53_0 : wc.cell? ⟨gb163, 0, none⟩ = some (.int .i64 a0_0) := (blk_cell BK163.out 0).trans rfl
            have hcz53_1 : wc.cell? ⟨gb163, 1, none⟩ = some (.string a0_1) := (blk_cell BK163.out 1).trans rfl
            have hcz53_2 : wc.cell? ⟨gb163, 2, none⟩ = some (.bool a0_2) := (blk_cell BK163.out 2).trans rfl
            have hcz53_3 : wc.cell? ⟨gb163, 3, none⟩ = some (.string a0_3) := (blk_cell BK163.out 3).trans rfl
            have hcz53_4 : wc.cell? ⟨gb163, 4, none⟩ = some (.int .u64 a0_4) := (blk_cell BK163.out 4).trans rfl
            have hcz53_5 : wc.cell? ⟨gb163, 5, none⟩ = some (.int .u64 a0_5) := (blk_cell BK163.out 5).trans rfl
            have hcz53_6 : wc.cell? ⟨gb163, 6, none⟩ = some (.int .i64 a0_6) := (blk_cell BK163.out 6).trans rfl
            have hfz53_0 := blk_frozen BK163.out 0
            have hfz53_1 := blk_frozen BK163.out 1
            have hfz53_2 := blk_frozen BK163.out 2
            have hfz53_3 := blk_frozen BK163.out 3
            have hfz53_4 := blk_frozen BK163.out 4
            have hfz53_5 := blk_frozen BK163.out 5
            have hfz53_6 := blk_frozen BK163.out 6
            go_wp2_with (first | ((with_reducible refine at_fn (f := 70) rfl ?_); refine goesL_ (some 64) rfl rfl Try.func70 (by kernel_rfl) rfl #[.agg #[.int .i64 a0_0, .string a0_1, .bool a0_2, .string a0_3, .int .u64 a0_4, .int .u64 a0_5, .int .i64 a0_6], .bool false, .bool true, .bool false, .bool true, .bool false] rfl (by (try simp only [List.map_toArray, List.map_cons, List.map_nil]); first | done | rfl | (simp only [List.length_drop, List.length_take]; rfl)) ?_; (with_reducible refine (spec_l5Bare.calls a0_0 a0_1 a0_2 a0_3 a0_4 a0_5 a0_6 false true false true false false _ A44.out).mono ?_); rintro e w54 ⟨rfl, hb⟩; refine ⟨_, rfl, ?_⟩; have n0_ := Aside0.mk (blk_below (g := gb163) (o := .cells #[.int .i64 a0_0, .string a0_1, .bool a0_2, .string a0_3, .int .u64 a0_4, .int .u64 a0_5, .int .i64 a0_6] 63 (0, 0)) (lb BK163) hb); have n1_ := Aside0.mk (below_step bw hb); clear BK163; clear HB; have BK163 := n0_; have HB := n1_; clear n0_ n1_; (try clear hb); (try clear hb2); (try clear hk); (try clear hi)))
            go_ret
            exact ⟨by first | rfl | (simp [errW_none, errW_some] <;> rfl) | (simp [*, errW_none, errW_some] <;> rfl), bw⟩
          ·rw [if_neg c43] at H
           have c43b0 : (a0_0 == 10) = false := beq_eq_false_iff_ne.mpr c43
           have c43b1 : (a0_0 != 10) = true := bne_iff_ne.mpr c43
           have HC55 := Aside0.mk H
           clear H
           go_upto_if 77 with (fail)
           go_cut [77] (fun v77 wc => ∃ (kq : Nat) (x77_54 : Bool), v77 = .bool x77_54 ∧ Aside0 (spec_l5GoodNode.j3 kq x77_54 a0_0 a0_1 a0_2 a0_3 a0_4 a0_5 a0_6 = some r) ∧ Aside0 (kq ≤ kj28) ∧ Aside0 (wc.heap[gb163]? = some (.cells #[.int .i64 a0_0, .string a0_1, .bool a0_2, .string a0_3, .int .u64 a0_4, .int .u64 a0_5, .int .i64 a0_6] 63 (0, 0))) ∧ Aside0 (Below w.heap.size w wc))
           case first =>
            have H := HC55.out
            clear HC55
            by_cases c56 : a0_0 = 11
            ·rw [if_pos c56] at H
             have c56b0 : (a0_0 == 11) = true := beq_iff_eq.mpr c56
             have c56b1 : (a0_0 != 11) = false := bne_eq_false_iff_eq.mpr c56
             clear c56
             (first | rw [c56b0] | (simp only [i64_w, i32_w]; rw [c56b0]) | skip)
             have H' := Aside0.mk H
             clear H
             go_wp2
             go_meet
             case rel => exact ⟨_, ((a0_0 == 11)), (by first | rfl | (simp; done) | (simp [*]; done)), H', ⟨by have := HJ1.out; have := HJ13.out; have := HJ28.out; first | omega | exact Nat.le_refl _⟩, ⟨lb BK163⟩, ⟨bw⟩⟩
            ·rw [if_neg c56] at H
             have c56b0 : (a0_0 == 11) = false := beq_eq_false_iff_ne.mpr c56
             have c56b1 : (a0_0 != 11) = true := bne_iff_ne.mpr c56
             (first | rw [c56b0] | (simp only [i64_w, i32_w]; rw [c56b0]) | skip)
             by_cases c57 : a0_0 = 12
             ·rw [if_pos c57] at H
              have c57b0 : (a0_0 == 12) = true := beq_iff_eq.mpr c57
              have c57b1 : (a0_0 != 12) = false := bne_eq_false_iff_eq.mpr c57
              clear c57
              have H' := Aside0.mk H
              clear H
              go_wp2
              go_meet
              case rel => exact ⟨_, ((a0_0 == 12)), (by first | rfl | (simp; done) | (simp [*]; done)), H', ⟨by have := HJ1.out; have := HJ13.out; have := HJ28.out; first | omega | exact Nat.le_refl _⟩, ⟨lb BK163⟩, ⟨bw⟩⟩
             ·rw [if_neg c57] at H
              have c57b0 : (a0_0 == 12) = false := beq_eq_false_iff_ne.mpr c57
              have c57b1 : (a0_0 != 12) = true := bne_iff_ne.mpr c57
              have H' := Aside0.mk H
              clear H
              go_wp2
              go_meet
              case rel => exact ⟨_, ((a0_0 == 13)), (by first | rfl | (simp; done) | (simp [*]; done)), H', ⟨by have := HJ1.out; have := HJ13.out; have := HJ28.out; first | omega | exact Nat.le_refl _⟩, ⟨lb BK163⟩, ⟨bw⟩⟩
           case rest =>
            clear HC55
            try clear c1
            try clear c2
            try clear p2
            try clear c3
            try clear c4
            try clear c4b0
            try clear c4b1
            try clear c5
            try clear c6
            try clear c6b0
            try clear c6b1
            try clear c7
            try clear c8
            try clear c10
            try clear c10b0
            try clear c10b1
            try clear c13
            try clear c16
            try clear c16b0
            try clear c16b1
            try clear c17
            try clear c17b0
            try clear c17b1
            try clear c18
            try clear c18b0
            try clear c18b1
            try clear c19
            try clear c21
            try clear c30
            try clear c30b0
            try clear c30b1
            try clear c31
            try clear c33
            try clear c34
            try clear c43
            try clear c43b0
            try clear c43b1
            try clear c45
            try clear c46
            try clear c56
            try clear c56b0
            try clear c56b1
            try clear c57
            try clear c57b0
            try clear c57b1
            try clear hcz11_0
            try clear hcz11_1
            try clear hcz11_2
            try clear hcz11_3
            try clear hcz11_4
            try clear hcz11_5
            try clear hcz11_6
            try clear hcz12_0
            try clear hcz12_1
            try clear hcz12_2
            try clear hcz12_3
            try clear hcz12_4
            try clear hcz12_5
            try clear hcz12_6
            try clear hcz15_0
            try clear hcz15_1
            try clear hcz15_2
            try clear hcz15_3
            try clear hcz15_4
            try clear hcz15_5
            try clear hcz15_6
            try clear hcz23_0
            try clear hcz23_1
            try clear hcz23_2
            try clear hcz23_3
            try clear hcz23_4
            try clear hcz23_5
            try clear hcz23_6
            try clear hcz25_0
            try clear hcz25_1
            try clear hcz25_2
            try clear hcz25_3
            try clear hcz25_4
            try clear hcz25_5
            try clear hcz25_6
            try clear hcz27_0
            try clear hcz27_1
            try clear hcz27_2
            try clear hcz27_3
            try clear hcz27_4
            try clear hcz27_5
            try clear hcz27_6
            try clear hcz35_0
            try clear hcz35_1
            try clear hcz35_2
            try clear hcz35_3
            try clear hcz35_4
            try clear hcz35_5
            try clear hcz35_6
            try clear hcz37_0
            try clear hcz37_1
            try clear hcz37_2
            try clear hcz37_3
            try clear hcz37_4
            try clear hcz37_5
            try clear hcz37_6
            try clear hcz38_0
            try clear hcz38_1
            try clear hcz38_2
            try clear hcz38_3
            try clear hcz38_4
            try clear hcz38_5
            try clear hcz38_6
            try clear hcz40_0
            try clear hcz40_1
            try clear hcz40_2
            try clear hcz40_3
            try clear hcz40_4
            try clear hcz40_5
            try clear hcz40_6
            try clear hcz41_0
            try clear hcz41_1
            try clear hcz41_2
            try clear hcz41_3
            try clear hcz41_4
            try clear hcz41_5
            try clear hcz41_6
            try clear hcz47_0
            try clear hcz47_1
            try clear hcz47_2
            try clear hcz47_3
            try clear hcz47_4
            try clear hcz47_5
            try clear hcz47_6
            try clear hcz49_0
            try clear hcz49_1
            try clear hcz49_2
            try clear hcz49_3
            try clear hcz49_4
            try clear hcz49_5
            try clear hcz49_6
            try clear hcz50_0
            try clear hcz50_1
            try clear hcz50_2
            try clear hcz50_3
            try clear hcz50_4
            try clear hcz50_5
            try clear hcz50_6
            try clear hcz52_0
            try clear hcz52_1
            try clear hcz52_2
            try clear hcz52_3
            try clear hcz52_4
            try clear hcz52_5
            try clear hcz52_6
            try clear hcz53_0
            try clear hcz53_1
            try clear hcz53_2
            try clear hcz53_3
            try clear hcz53_4
            try clear hcz53_5
            try clear hcz53_6
            try clear hcz5_0
            try clear hcz5_1
            try clear hcz5_2
            try clear hcz5_3
            try clear hcz5_4
            try clear hcz5_5
            try clear hcz5_6
            try clear hcz7_0
            try clear hcz7_1
            try clear hcz7_2
            try clear hcz7_3
            try clear hcz7_4
            try clear hcz7_5
            try clear hcz7_6
            try clear hcz9_0
            try clear hcz9_1
            try clear hcz9_2
            try clear hcz9_3
            try clear hcz9_4
            try clear hcz9_5
            try clear hcz9_6
            try clear hfz11_0
            try clear hfz11_1
            try clear hfz11_2
            try clear hfz11_3
            try clear hfz11_4
            try clear hfz11_5
            try clear hfz11_6
            try clear hfz12_0
            try clear hfz12_1
            try clear hfz12_2
            try clear hfz12_3
            try clear hfz12_4
            try clear hfz12_5
            try clear hfz12_6
            try clear hfz15_0
            try clear hfz15_1
            try clear hfz15_2
            try clear hfz15_3
            try clear hfz15_4
            try clear hfz15_5
            try clear hfz15_6
            try clear hfz23_0
            try clear hfz23_1
            try clear hfz23_2
            try clear hfz23_3
            try clear hfz23_4
            try clear hfz23_5
            try clear hfz23_6
            try clear hfz25_0
            try clear hfz25_1
            try clear hfz25_2
            try clear hfz25_3
            try clear hfz25_4
            try clear hfz25_5
            try clear hfz25_6
            try clear hfz27_0
            try clear hfz27_1
            try clear hfz27_2
            try clear hfz27_3
            try clear hfz27_4
            try clear hfz27_5
            try clear hfz27_6
            try clear hfz35_0
            try clear hfz35_1
            try clear hfz35_2
            try clear hfz35_3
            try clear hfz35_4
            try clear hfz35_5
            try clear hfz35_6
            try clear hfz37_0
            try clear hfz37_1
            try clear hfz37_2
            try clear hfz37_3
            try clear hfz37_4
            try clear hfz37_5
            try clear hfz37_6
            try clear hfz38_0
            try clear hfz38_1
            try clear hfz38_2
            try clear hfz38_3
            try clear hfz38_4
            try clear hfz38_5
            try clear hfz38_6
            try clear hfz40_0
            try clear hfz40_1
            try clear hfz40_2
            try clear hfz40_3
            try clear hfz40_4
            try clear hfz40_5
            try clear hfz40_6
            try clear hfz41_0
            try clear hfz41_1
            try clear hfz41_2
            try clear hfz41_3
            try clear hfz41_4
            try clear hfz41_5
            try clear hfz41_6
            try clear hfz47_0
            try clear hfz47_1
            try clear hfz47_2
            try clear hfz47_3
            try clear hfz47_4
            try clear hfz47_5
            try clear hfz47_6
            try clear hfz49_0
            try clear hfz49_1
            try clear hfz49_2
            try clear hfz49_3
            try clear hfz49_4
            try clear hfz49_5
            try clear hfz49_6
            try clear hfz50_0
            try clear hfz50_1
            try clear hfz50_2
            try clear hfz50_3
            try clear hfz50_4
            try clear hfz50_5
            try clear hfz50_6
            try clear hfz52_0
            try clear hfz52_1
            try clear hfz52_2
            try clear hfz52_3
            try clear hfz52_4
            try clear hfz52_5
            try clear hfz52_6
            try clear hfz53_0
            try clear hfz53_1
            try clear hfz53_2
            try clear hfz53_3
            try clear hfz53_4
            try clear hfz53_5
            try clear hfz53_6
            try clear hfz5_0
            try clear hfz5_1
            try clear hfz5_2
            try clear hfz5_3
            try clear hfz5_4
            try clear hfz5_5
            try clear hfz5_6
            try clear hfz7_0
            try clear hfz7_1
            try clear hfz7_2
            try clear hfz7_3
            try clear hfz7_4
            try clear hfz7_5
            try clear hfz7_6
            try clear hfz9_0
            try clear hfz9_1
            try clear hfz9_2
            try clear hfz9_3
            try clear hfz9_4
            try clear hfz9_5
            try clear hfz9_6
            try clear p2
            obtain ⟨kq, x77_54, rfl, HA, HJ54, BK163, HB⟩ := hcut
            cases kq with
            | zero => exact absurd HA.out (by simp [spec_l5GoodNode.j3])
            | succ kj54 =>
             have H := HA.out
             clear HA
             simp only [spec_l5GoodNode.j3] at H
             by_cases c58 : x77_54 = true
             ·subst c58
              have H1 : ((spec_l5Bare.f a0_0 a0_1 a0_2 a0_3 a0_4 a0_5 a0_6 false false false false true).bind fun t169 => (if t169 = true then (if a0_6 ≥ 1 then (some (decide (a0_6 ≤ 1000))) else (some false)) else (some false))) = some r := by rw [if_pos rfl] at H; exact H
              clear H
              have H := H1
              clear H1
              replace H := Option.bind_eq_some_iff.mp H
              obtain ⟨t169, A590, H⟩ := H
              replace H : (if t169 = true then (if a0_6 ≥ 1 then (some (decide (a0_6 ≤ 1000))) else (some false)) else (some false)) = some r := H
              have A59 := Aside0.mk A590
              clear A590
              by_cases c60 : t169 = true
              ·subst c60
               have H1 : (if a0_6 ≥ 1 then (some (decide (a0_6 ≤ 1000))) else (some false)) = some r := by rw [if_pos rfl] at H; exact H
               clear H
               have H := H1
               clear H1
               by_cases c61 : a0_6 ≥ 1
               ·rw [if_pos c61] at H
                have c61b0 : decide (1 ≤ a0_6) = true := decide_eq_true c61
                clear c61
                obtain rfl := Option.some.inj H
                have hcz62_0 : wc.cell? ⟨gb163, 0, none⟩ = some (.int .i64 a0_0) := (blk_cell BK163.out 0).trans rfl
                have hcz62_1 : wc.cell? ⟨gb163, 1, none⟩ = some (.string a0_1) := (blk_cell BK163.out 1).trans rfl
                have hcz62_2 : wc.cell? ⟨gb163, 2, none⟩ = some (.bool a0_2) := (blk_cell BK163.out 2).trans rfl
                have hcz62_3 : wc.cell? ⟨gb163, 3, none⟩ = some (.string a0_3) := (blk_cell BK163.out 3).trans rfl
                have hcz62_4 : wc.cell? ⟨gb163, 4, none⟩ = some (.int .u64 a0_4) := (blk_cell BK163.out 4).trans rfl
                have hcz62_5 : wc.cell? ⟨gb163, 5, none⟩ = some (.int .u64 a0_5) := (blk_cell BK163.out 5).trans rfl
                have hcz62_6 : wc.cell? ⟨gb163, 6, none⟩ = some (.int .i64 a0_6) := (blk_cell BK163.out 6).trans rfl
                have hfz62_0 := blk_frozen BK163.out 0
                have hfz62_1 := blk_frozen BK163.out 1
                have hfz62_2 := blk_frozen BK163.out 2
                have hfz62_3 := blk_frozen BK163.out 3
                have hfz62_4 := blk_frozen BK163.out 4
                have hfz62_5 := blk_frozen BK163.out 5
                have hfz62_6 := blk_frozen BK163.out 6
                go_wp2_with (first | ((with_reducible refine at_fn (f := 70) rfl ?_); refine goesL_ (some 82) rfl rfl Try.func70 (by kernel_rfl) rfl #[.agg #[.int .i64 a0_0, .string a0_1, .bool a0_2, .string a0_3, .int .u64 a0_4, .int .u64 a0_5, .int .i64 a0_6], .bool false, .bool false, .bool false, .bool false, .bool true] rfl (by (try simp only [List.map_toArray, List.map_cons, List.map_nil]); first | done | rfl | (simp only [List.length_drop, List.length_take]; rfl)) ?_; (with_reducible refine (spec_l5Bare.calls a0_0 a0_1 a0_2 a0_3 a0_4 a0_5 a0_6 false false false false true true _ A59.out).mono ?_); rintro e w63 ⟨rfl, hb⟩; refine ⟨_, rfl, ?_⟩; have n0_ := Aside0.mk (blk_below (g := gb163) (o := .cells #[.int .i64 a0_0, .string a0_1, .bool a0_2, .string a0_3, .int .u64 a0_4, .int .u64 a0_5, .int .i64 a0_6] 63 (0, 0)) (lb BK163) hb); have n1_ := Aside0.mk (below_step bw hb); clear BK163; clear HB; have BK163 := n0_; have HB := n1_; clear n0_ n1_; (try clear hb); (try clear hb2); (try clear hk); (try clear hi); have hcz64_0 : w63.cell? ⟨gb163, 0, none⟩ = some (.int .i64 a0_0) := (blk_cell BK163.out 0).trans rfl; have hcz64_1 : w63.cell? ⟨gb163, 1, none⟩ = some (.string a0_1) := (blk_cell BK163.out 1).trans rfl; have hcz64_2 : w63.cell? ⟨gb163, 2, none⟩ = some (.bool a0_2) := (blk_cell BK163.out 2).trans rfl; have hcz64_3 : w63.cell? ⟨gb163, 3, none⟩ = some (.string a0_3) := (blk_cell BK163.out 3).trans rfl; have hcz64_4 : w63.cell? ⟨gb163, 4, none⟩ = some (.int .u64 a0_4) := (blk_cell BK163.out 4).trans rfl; have hcz64_5 : w63.cell? ⟨gb163, 5, none⟩ = some (.int .u64 a0_5) := (blk_cell BK163.out 5).trans rfl; have hcz64_6 : w63.cell? ⟨gb163, 6, none⟩ = some (.int .i64 a0_6) := (blk_cell BK163.out 6).trans rfl; have hfz64_0 := blk_frozen BK163.out 0; have hfz64_1 := blk_frozen BK163.out 1; have hfz64_2 := blk_frozen BK163.out 2; have hfz64_3 := blk_frozen BK163.out 3; have hfz64_4 := blk_frozen BK163.out 4; have hfz64_5 := blk_frozen BK163.out 5; have hfz64_6 := blk_frozen BK163.out 6))
                go_ret
                exact ⟨by first | rfl | (simp [errW_none, errW_some] <;> rfl) | (simp [*, errW_none, errW_some] <;> rfl), bw⟩
               ·rw [if_neg c61] at H
                have c61b0 : decide (1 ≤ a0_6) = false := decide_eq_false c61
                clear c61
                obtain rfl := Option.some.inj H
                have hcz65_0 : wc.cell? ⟨gb163, 0, none⟩ = some (.int .i64 a0_0) := (blk_cell BK163.out 0).trans rfl
                have hcz65_1 : wc.cell? ⟨gb163, 1, none⟩ = some (.string a0_1) := (blk_cell BK163.out 1).trans rfl
                have hcz65_2 : wc.cell? ⟨gb163, 2, none⟩ = some (.bool a0_2) := (blk_cell BK163.out 2).trans rfl
                have hcz65_3 : wc.cell? ⟨gb163, 3, none⟩ = some (.string a0_3) := (blk_cell BK163.out 3).trans rfl
                have hcz65_4 : wc.cell? ⟨gb163, 4, none⟩ = some (.int .u64 a0_4) := (blk_cell BK163.out 4).trans rfl
                have hcz65_5 : wc.cell? ⟨gb163, 5, none⟩ = some (.int .u64 a0_5) := (blk_cell BK163.out 5).trans rfl
                have hcz65_6 : wc.cell? ⟨gb163, 6, none⟩ = some (.int .i64 a0_6) := (blk_cell BK163.out 6).trans rfl
                have hfz65_0 := blk_frozen BK163.out 0
                have hfz65_1 := blk_frozen BK163.out 1
                have hfz65_2 := blk_frozen BK163.out 2
                have hfz65_3 := blk_frozen BK163.out 3
                have hfz65_4 := blk_frozen BK163.out 4
                have hfz65_5 := blk_frozen BK163.out 5
                have hfz65_6 := blk_frozen BK163.out 6
                go_wp2_with (first | ((with_reducible refine at_fn (f := 70) rfl ?_); refine goesL_ (some 82) rfl rfl Try.func70 (by kernel_rfl) rfl #[.agg #[.int .i64 a0_0, .string a0_1, .bool a0_2, .string a0_3, .int .u64 a0_4, .int .u64 a0_5, .int .i64 a0_6], .bool false, .bool false, .bool false, .bool false, .bool true] rfl (by (try simp only [List.map_toArray, List.map_cons, List.map_nil]); first | done | rfl | (simp only [List.length_drop, List.length_take]; rfl)) ?_; (with_reducible refine (spec_l5Bare.calls a0_0 a0_1 a0_2 a0_3 a0_4 a0_5 a0_6 false false false false true true _ A59.out).mono ?_); rintro e w66 ⟨rfl, hb⟩; refine ⟨_, rfl, ?_⟩; have n0_ := Aside0.mk (blk_below (g := gb163) (o := .cells #[.int .i64 a0_0, .string a0_1, .bool a0_2, .string a0_3, .int .u64 a0_4, .int .u64 a0_5, .int .i64 a0_6] 63 (0, 0)) (lb BK163) hb); have n1_ := Aside0.mk (below_step bw hb); clear BK163; clear HB; have BK163 := n0_; have HB := n1_; clear n0_ n1_; (try clear hb); (try clear hb2); (try clear hk); (try clear hi); have hcz67_0 : w66.cell? ⟨gb163, 0, none⟩ = some (.int .i64 a0_0) := (blk_cell BK163.out 0).trans rfl; have hcz67_1 : w66.cell? ⟨gb163, 1, none⟩ = some (.string a0_1) := (blk_cell BK163.out 1).trans rfl; have hcz67_2 : w66.cell? ⟨gb163, 2, none⟩ = some (.bool a0_2) := (blk_cell BK163.out 2).trans rfl; have hcz67_3 : w66.cell? ⟨gb163, 3, none⟩ = some (.string a0_3) := (blk_cell BK163.out 3).trans rfl; have hcz67_4 : w66.cell? ⟨gb163, 4, none⟩ = some (.int .u64 a0_4) := (blk_cell BK163.out 4).trans rfl; have hcz67_5 : w66.cell? ⟨gb163, 5, none⟩ = some (.int .u64 a0_5) := (blk_cell BK163.out 5).trans rfl; have hcz67_6 : w66.cell? ⟨gb163, 6, none⟩ = some (.int .i64 a0_6) := (blk_cell BK163.out 6).trans rfl; have hfz67_0 := blk_frozen BK163.out 0; have hfz67_1 := blk_frozen BK163.out 1; have hfz67_2 := blk_frozen BK163.out 2; have hfz67_3 := blk_frozen BK163.out 3; have hfz67_4 := blk_frozen BK163.out 4; have hfz67_5 := blk_frozen BK163.out 5; have hfz67_6 := blk_frozen BK163.out 6))
                go_ret
                exact ⟨by first | rfl | (simp [errW_none, errW_some] <;> rfl) | (simp [*, errW_none, errW_some] <;> rfl), bw⟩
              ·replace c60 := Bool.eq_false_iff.mpr c60
               subst c60
               have H1 : (some false) = some r := by rw [if_neg (show ¬ (false = true) by decide)] at H; exact H
               clear H
               have H := H1
               clear H1
               obtain rfl := Option.some.inj H
               have hcz68_0 : wc.cell? ⟨gb163, 0, none⟩ = some (.int .i64 a0_0) := (blk_cell BK163.out 0).trans rfl
               have hcz68_1 : wc.cell? ⟨gb163, 1, none⟩ = some (.string a0_1) := (blk_cell BK163.out 1).trans rfl
               have hcz68_2 : wc.cell? ⟨gb163, 2, none⟩ = some (.bool a0_2) := (blk_cell BK163.out 2).trans rfl
               have hcz68_3 : wc.cell? ⟨gb163, 3, none⟩ = some (.string a0_3) := (blk_cell BK163.out 3).trans rfl
               have hcz68_4 : wc.cell? ⟨gb163, 4, none⟩ = some (.int .u64 a0_4) := (blk_cell BK163.out 4).trans rfl
               have hcz68_5 : wc.cell? ⟨gb163, 5, none⟩ = some (.int .u64 a0_5) := (blk_cell BK163.out 5).trans rfl
               have hcz68_6 : wc.cell? ⟨gb163, 6, none⟩ = some (.int .i64 a0_6) := (blk_cell BK163.out 6).trans rfl
               have hfz68_0 := blk_frozen BK163.out 0
               have hfz68_1 := blk_frozen BK163.out 1
               have hfz68_2 := blk_frozen BK163.out 2
               have hfz68_3 := blk_frozen BK163.out 3
               have hfz68_4 := blk_frozen BK163.out 4
               have hfz68_5 := blk_frozen BK163.out 5
               have hfz68_6 := blk_frozen BK163.out 6
               go_wp2_with (first | ((with_reducible refine at_fn (f := 70) rfl ?_); refine goesL_ (some 82) rfl rfl Try.func70 (by kernel_rfl) rfl #[.agg #[.int .i64 a0_0, .string a0_1, .bool a0_2, .string a0_3, .int .u64 a0_4, .int .u64 a0_5, .int .i64 a0_6], .bool false, .bool false, .bool false, .bool false, .bool true] rfl (by (try simp only [List.map_toArray, List.map_cons, List.map_nil]); first | done | rfl | (simp only [List.length_drop, List.length_take]; rfl)) ?_; (with_reducible refine (spec_l5Bare.calls a0_0 a0_1 a0_2 a0_3 a0_4 a0_5 a0_6 false false false false true false _ A59.out).mono ?_); rintro e w69 ⟨rfl, hb⟩; refine ⟨_, rfl, ?_⟩; have n0_ := Aside0.mk (blk_below (g := gb163) (o := .cells #[.int .i64 a0_0, .string a0_1, .bool a0_2, .string a0_3, .int .u64 a0_4, .int .u64 a0_5, .int .i64 a0_6] 63 (0, 0)) (lb BK163) hb); have n1_ := Aside0.mk (below_step bw hb); clear BK163; clear HB; have BK163 := n0_; have HB := n1_; clear n0_ n1_; (try clear hb); (try clear hb2); (try clear hk); (try clear hi)))
               go_ret
               exact ⟨by first | rfl | (simp [errW_none, errW_some] <;> rfl) | (simp [*, errW_none, errW_some] <;> rfl), bw⟩
             ·replace c58 := Bool.eq_false_iff.mpr c58
              subst c58
              have H1 : (if a0_0 ≥ 1 then (if a0_0 ≤ 16 then ((spec_l5Bare.f a0_0 a0_1 a0_2 a0_3 a0_4 a0_5 a0_6 false false false false false).bind fun t170 => (some t170)) else (some false)) else (some false)) = some r := by rw [if_neg (show ¬ (false = true) by decide)] at H; exact H
              clear H
              have H := H1
              clear H1
              by_cases c70 : a0_0 ≥ 1
              ·rw [if_pos c70] at H
               have c70b0 : decide (1 ≤ a0_0) = true := decide_eq_true c70
               clear c70
               by_cases c71 : a0_0 ≤ 16
               ·rw [if_pos c71] at H
                have c71b0 : decide (a0_0 ≤ 16) = true := decide_eq_true c71
                clear c71
                replace H := Option.bind_eq_some_iff.mp H
                obtain ⟨t170, A720, H⟩ := H
                replace H : (some t170) = some r := H
                have A72 := Aside0.mk A720
                clear A720
                obtain rfl := Option.some.inj H
                have hcz73_0 : wc.cell? ⟨gb163, 0, none⟩ = some (.int .i64 a0_0) := (blk_cell BK163.out 0).trans rfl
                have hcz73_1 : wc.cell? ⟨gb163, 1, none⟩ = some (.string a0_1) := (blk_cell BK163.out 1).trans rfl
                have hcz73_2 : wc.cell? ⟨gb163, 2, none⟩ = some (.bool a0_2) := (blk_cell BK163.out 2).trans rfl
                have hcz73_3 : wc.cell? ⟨gb163, 3, none⟩ = some (.string a0_3) := (blk_cell BK163.out 3).trans rfl
                have hcz73_4 : wc.cell? ⟨gb163, 4, none⟩ = some (.int .u64 a0_4) := (blk_cell BK163.out 4).trans rfl
                have hcz73_5 : wc.cell? ⟨gb163, 5, none⟩ = some (.int .u64 a0_5) := (blk_cell BK163.out 5).trans rfl
                have hcz73_6 : wc.cell? ⟨gb163, 6, none⟩ = some (.int .i64 a0_6) := (blk_cell BK163.out 6).trans rfl
                have hfz73_0 := blk_frozen BK163.out 0
                have hfz73_1 := blk_frozen BK163.out 1
                have hfz73_2 := blk_frozen BK163.out 2
                have hfz73_3 := blk_frozen BK163.out 3
                have hfz73_4 := blk_frozen BK163.out 4
                have hfz73_5 := blk_frozen BK163.out 5
                have hfz73_6 := blk_frozen BK163.out 6
                go_wp2_with (first | (go_at_call 70; (with_reducible refine (spec_l5Bare.calls a0_0 a0_1 a0_2 a0_3 a0_4 a0_5 a0_6 false false false false false t170 _ A72.out).mono ?_); rintro e w74 ⟨rfl, hb⟩; have n0_ := Aside0.mk (blk_below (g := gb163) (o := .cells #[.int .i64 a0_0, .string a0_1, .bool a0_2, .string a0_3, .int .u64 a0_4, .int .u64 a0_5, .int .i64 a0_6] 63 (0, 0)) (lb BK163) hb); have n1_ := Aside0.mk (below_step bw hb); clear BK163; clear HB; have BK163 := n0_; have HB := n1_; clear n0_ n1_; (try clear hb); (try clear hb2); (try clear hk); (try clear hi)))
                go_ret
                exact ⟨by first | rfl | (simp [errW_none, errW_some] <;> rfl) | (simp [*, errW_none, errW_some] <;> rfl), bw⟩
               ·rw [if_neg c71] at H
                have c71b0 : decide (a0_0 ≤ 16) = false := decide_eq_false c71
                clear c71
                obtain rfl := Option.some.inj H
                have hcz75_0 : wc.cell? ⟨gb163, 0, none⟩ = some (.int .i64 a0_0) := (blk_cell BK163.out 0).trans rfl
                have hcz75_1 : wc.cell? ⟨gb163, 1, none⟩ = some (.string a0_1) := (blk_cell BK163.out 1).trans rfl
                have hcz75_2 : wc.cell? ⟨gb163, 2, none⟩ = some (.bool a0_2) := (blk_cell BK163.out 2).trans rfl
                have hcz75_3 : wc.cell? ⟨gb163, 3, none⟩ = some (.string a0_3) := (blk_cell BK163.out 3).trans rfl
                have hcz75_4 : wc.cell? ⟨gb163, 4, none⟩ = some (.int .u64 a0_4) := (blk_cell BK163.out 4).trans rfl
                have hcz75_5 : wc.cell? ⟨gb163, 5, none⟩ = some (.int .u64 a0_5) := (blk_cell BK163.out 5).trans rfl
                have hcz75_6 : wc.cell? ⟨gb163, 6, none⟩ = some (.int .i64 a0_6) := (blk_cell BK163.out 6).trans rfl
                have hfz75_0 := blk_frozen BK163.out 0
                have hfz75_1 := blk_frozen BK163.out 1
                have hfz75_2 := blk_frozen BK163.out 2
                have hfz75_3 := blk_frozen BK163.out 3
                have hfz75_4 := blk_frozen BK163.out 4
                have hfz75_5 := blk_frozen BK163.out 5
                have hfz75_6 := blk_frozen BK163.out 6
                go_wp2
                go_ret
                exact ⟨by first | rfl | (simp [errW_none, errW_some] <;> rfl) | (simp [*, errW_none, errW_some] <;> rfl), bw⟩
              ·rw [if_neg c70] at H
               have c70b0 : decide (1 ≤ a0_0) = false := decide_eq_false c70
               clear c70
               obtain rfl := Option.some.inj H
               have hcz76_0 : wc.cell? ⟨gb163, 0, none⟩ = some (.int .i64 a0_0) := (blk_cell BK163.out 0).trans rfl
               have hcz76_1 : wc.cell? ⟨gb163, 1, none⟩ = some (.string a0_1) := (blk_cell BK163.out 1).trans rfl
               have hcz76_2 : wc.cell? ⟨gb163, 2, none⟩ = some (.bool a0_2) := (blk_cell BK163.out 2).trans rfl
               have hcz76_3 : wc.cell? ⟨gb163, 3, none⟩ = some (.string a0_3) := (blk_cell BK163.out 3).trans rfl
               have hcz76_4 : wc.cell? ⟨gb163, 4, none⟩ = some (.int .u64 a0_4) := (blk_cell BK163.out 4).trans rfl
               have hcz76_5 : wc.cell? ⟨gb163, 5, none⟩ = some (.int .u64 a0_5) := (blk_cell BK163.out 5).trans rfl
               have hcz76_6 : wc.cell? ⟨gb163, 6, none⟩ = some (.int .i64 a0_6) := (blk_cell BK163.out 6).trans rfl
               have hfz76_0 := blk_frozen BK163.out 0
               have hfz76_1 := blk_frozen BK163.out 1
               have hfz76_2 := blk_frozen BK163.out 2
               have hfz76_3 := blk_frozen BK163.out 3
               have hfz76_4 := blk_frozen BK163.out 4
               have hfz76_5 := blk_frozen BK163.out 5
               have hfz76_6 := blk_frozen BK163.out 6
               go_wp2
               go_ret
               exact ⟨by first | rfl | (simp [errW_none, errW_some] <;> rfl) | (simp [*, errW_none, errW_some] <;> rfl), bw⟩

end Go.Proofs.Ytpfehkkfakofaaa.Q

namespace Go.Proofs.Ytpfehkkfakofaaa.Q
/-- Number i comes up now: with true it alone may (a call, a make), with false what it yields is the same in each world that meets S. -/
def planB (md : Region.Mode) (ops : Array Oper) : List (Nat × Bool) → Array Bool → Bool
  | [], l => Region.ready md ops l == []
  | (i, false) :: r, l => Region.free md ops l i && ((Region.ready md ops l).contains i && planB md ops r (l.setIfInBounds i true))
  | (i, true) :: r, l => (Region.ready md ops l == [i]) && planB md ops r (l.setIfInBounds i true)
section
variable {P : Program} {ops : Array Oper} {Q : Exit → Act → World → Prop} {md : Region.Mode} {S : World → Prop}
def Sq (P : Program) (md : Region.Mode) (ops : Array Oper) (Q : Exit → Act → World → Prop) (S : World → Prop) (r : List (Nat × Bool)) (a : Act) (w : World) : Prop :=
  S w → Region.noSelect ops = true → ∀ l, planB md ops r l = true → wpAnyH P md ops (NoPanic Q) S r.length l a w
theorem sq_region {id : Nat} {a : Act} {w : World} (r : List (Nat × Bool)) (hm : P.follows .mixedOrders = true) (hc : (Region.noSelect ops && (planB .any ops r (Array.replicate ops.size false) && (r.length == ops.size))) = true)
    (hS : S w.drew) (h : S w.drew → Sq P .any ops Q S r a w.drew) : (Code.region id ops true).wp P Q a w := by
  simp only [Bool.and_eq_true, beq_iff_eq] at hc
  refine wp_region_noPanic (wp_region_held_drew hm hS fun h1 => ?_)
  have h2 := h h1 h1 hc.1 _ hc.2.1
  rw [hc.2.2] at h2
  exact h2
theorem sq_done {a : Act} {w : World} (h : S w → Q .normal a w) : Sq P md ops Q S [] a w := fun hS _ l hl => wpAnyH_done (by simpa [planB] using hl) (NoPanic.normal (h hS)) _
theorem sq_off {i : Nat} {b : Bool} {r : List (Nat × Bool)} {d : Tmp} {op : Op} {ty : TypeId} {pos : String} {af : Array Edge} {gu : Option (Nat × Bool)} {a : Act} {w : World}
    (ho : ops[i]? = some ⟨some d, op, ty, pos, af, gu⟩) (hw : Region.wanted ⟨some d, op, ty, pos, af, gu⟩ (yielded ops a.tmps) = false) (h : Sq P md ops Q S r (a.put (some d) undef) w) : Sq P md ops Q S ((i, b) :: r) a w := by
  intro hS hs l hl
  cases b with
  | false =>
    simp only [planB, Bool.and_eq_true] at hl
    exact wpAnyH_take ho hs hl.1 hl.2.1 (fun _ _ _ h => h.elim) (.inr ⟨hw, rfl⟩) hS (h hS hs _ hl.2.2)
  | true =>
    simp only [planB, Bool.and_eq_true, beq_iff_eq] at hl
    refine wpAnyH_ready hl.1 (by simp) (AllReadyH.cons ho (fun K hK => ?_) AllReadyH.nil)
    rw [if_neg (by rw [hw]; simp)]
    exact hK.out _ _ hS fun h2 => h hS hs _ hl.2
theorem sq_on {i : Nat} {r : List (Nat × Bool)} {d : Tmp} {op : Op} {ty : TypeId} {pos : String} {af : Array Edge} {gu : Option (Nat × Bool)} {a : Act} {w : World} (v : Value)
    (ho : ops[i]? = some ⟨some d, op, ty, pos, af, gu⟩) (hw : Region.wanted ⟨some d, op, ty, pos, af, gu⟩ (yielded ops a.tmps) = true) (hv : ∀ W, S W → (execOp a.eval ⟨some d, op, ty, pos, af, gu⟩).run P W = .ok (.value v) W) (h : Sq P md ops Q S r (a.put (some d) v) w) : Sq P md ops Q S ((i, false) :: r) a w := by
  intro hS hs l hl
  simp only [planB, Bool.and_eq_true] at hl
  exact wpAnyH_take ho hs hl.1 hl.2.1 (fun _ _ _ h => h.elim) (.inl ⟨hw, hv⟩) hS (h hS hs _ hl.2.2)
theorem sq_one {i : Nat} {r : List (Nat × Bool)} {d : Option Tmp} {op : Op} {ty : TypeId} {pos : String} {af : Array Edge} {gu : Option (Nat × Bool)} {a : Act} {w : World} (ho : ops[i]? = some ⟨d, op, ty, pos, af, gu⟩) (hw : Region.wanted ⟨d, op, ty, pos, af, gu⟩ (yielded ops a.tmps) = true)
    (h : S w → ∀ K : Act → World → Prop, Shut (∀ a' w', S w' → (S w' → Sq P md ops Q S r a' w') → K a' w') → Oper.wp P ⟨d, op, ty, pos, af, gu⟩ a w K (NoPanic Q)) : Sq P md ops Q S ((i, true) :: r) a w := by
  intro hS hs l hl
  simp only [planB, Bool.and_eq_true, beq_iff_eq] at hl
  refine wpAnyH_ready hl.1 (by simp) (AllReadyH.cons ho (fun K hK => ?_) AllReadyH.nil)
  rw [if_pos hw]
  exact h hS K fun a' w' h1 h2 => hK.out a' w' h1 fun h3 => h2 h3 h3 hs _ hl.2
/-! The same by the guard's form, so that Lean sees at once which step is due. -/
variable {i j dj : Nat} {r : List (Nat × Bool)} {d : Tmp} {od od' : Option Tmp} {op op' : Op} {ty ty' : TypeId} {pos pos' : String} {af af' : Array Edge} {gu' : Option (Nat × Bool)} {g b : Bool} {T : Array Value} {D : List Deferred} {w : World}
theorem yes_n {y : Nat → Option Bool} : Region.wanted ⟨od, op, ty, pos, af, none⟩ y = true := rfl
theorem yes_g (hj : ops[j]? = some ⟨some dj, op', ty', pos', af', gu'⟩) (hd : T[dj]? = some (.bool g)) : Region.wanted ⟨od, op, ty, pos, af, some (j, g)⟩ (yielded ops T) = true := by simp [Region.wanted, yielded, hj, hd]
theorem no_g (hj : ops[j]? = some ⟨some dj, op', ty', pos', af', gu'⟩) (hd : T[dj]? = some (.bool (!g))) : Region.wanted ⟨od, op, ty, pos, af, some (j, g)⟩ (yielded ops T) = false := by simp [Region.wanted, yielded, hj, hd]
theorem no_u (hj : ops[j]? = some ⟨some dj, op', ty', pos', af', gu'⟩) (hd : T[dj]? = some undef) : Region.wanted ⟨od, op, ty, pos, af, some (j, g)⟩ (yielded ops T) = false := by simp [Region.wanted, yielded, hj, hd, undef]
theorem sq_f (T' : Array Value) (ho : ops[i]? = some ⟨some d, op, ty, pos, af, some (j, g)⟩) (hj : ops[j]? = some ⟨some dj, op', ty', pos', af', gu'⟩) (hd : T[dj]? = some (.bool (!g))) (hT : T.setIfInBounds d undef = T') (h : Sq P md ops Q S r ⟨T', D⟩ w) : Sq P md ops Q S ((i, b) :: r) ⟨T, D⟩ w := by
  subst hT; exact sq_off ho (no_g hj hd) h
theorem sq_u (T' : Array Value) (ho : ops[i]? = some ⟨some d, op, ty, pos, af, some (j, g)⟩) (hj : ops[j]? = some ⟨some dj, op', ty', pos', af', gu'⟩) (hd : T[dj]? = some undef) (hT : T.setIfInBounds d undef = T') (h : Sq P md ops Q S r ⟨T', D⟩ w) : Sq P md ops Q S ((i, b) :: r) ⟨T, D⟩ w := by
  subst hT; exact sq_off ho (no_u hj hd) h
theorem sq_n (T' : Array Value) (v : Value) (ho : ops[i]? = some ⟨some d, op, ty, pos, af, none⟩) (hv : ∀ W, S W → (execOp (Act.eval ⟨T, D⟩) ⟨some d, op, ty, pos, af, none⟩).run P W = .ok (.value v) W) (hT : T.setIfInBounds d v = T') (h : Sq P md ops Q S r ⟨T', D⟩ w) : Sq P md ops Q S ((i, false) :: r) ⟨T, D⟩ w := by
  subst hT; exact sq_on v ho yes_n hv h
theorem sq_g (T' : Array Value) (v : Value) (ho : ops[i]? = some ⟨some d, op, ty, pos, af, some (j, g)⟩) (hj : ops[j]? = some ⟨some dj, op', ty', pos', af', gu'⟩) (hd : T[dj]? = some (.bool g)) (hv : ∀ W, S W → (execOp (Act.eval ⟨T, D⟩) ⟨some d, op, ty, pos, af, some (j, g)⟩).run P W = .ok (.value v) W) (hT : T.setIfInBounds d v = T') (h : Sq P md ops Q S r ⟨T', D⟩ w) : Sq P md ops Q S ((i, false) :: r) ⟨T, D⟩ w := by
  subst hT; exact sq_on v ho (yes_g hj hd) hv h
theorem sq_1n (ho : ops[i]? = some ⟨od, op, ty, pos, af, none⟩)
    (h : S w → ∀ K : Act → World → Prop, Shut (∀ a' w', S w' → (S w' → Sq P md ops Q S r a' w') → K a' w') → Oper.wp P ⟨od, op, ty, pos, af, none⟩ ⟨T, D⟩ w K (NoPanic Q)) : Sq P md ops Q S ((i, true) :: r) ⟨T, D⟩ w := sq_one ho yes_n h
theorem sq_1g (ho : ops[i]? = some ⟨od, op, ty, pos, af, some (j, g)⟩) (hj : ops[j]? = some ⟨some dj, op', ty', pos', af', gu'⟩) (hd : T[dj]? = some (.bool g))
    (h : S w → ∀ K : Act → World → Prop, Shut (∀ a' w', S w' → (S w' → Sq P md ops Q S r a' w') → K a' w') → Oper.wp P ⟨od, op, ty, pos, af, some (j, g)⟩ ⟨T, D⟩ w K (NoPanic Q)) : Sq P md ops Q S ((i, true) :: r) ⟨T, D⟩ w := sq_one ho (yes_g hj hd) h
end
end Go.Proofs.Ytpfehkkfakofaaa.Q

namespace Go.Proofs.Ytpfehkkfakofaaa.Q
open Go.RowKit Go.Proofs.YtpfehkkfakofaaaW.PrintWords Go.Proofs.YtpfehkkfakofaaaW.PrintLast
/-- Below block number B, and but for block g, the world w' is as w was. -/
structure Bx (B g : Nat) (w w' : World) : Prop where
  os : w'.os = w.os
  tape : w'.tape = w.tape
  output : w'.output = w.output
  size : w.heap.size ≤ w'.heap.size
  block : ∀ k, k < B → k ≠ g → w'.heap[k]? = w.heap[k]?
theorem Bx.of {B g : Nat} {w w' : World} (h : Below B w w') : Bx B g w w' := ⟨h.os, h.tape, h.output, h.size, fun k hk _ => h.block k hk⟩
theorem Bx.refl (B g : Nat) (w : World) : Bx B g w w := .of (Below.refl _ _)
theorem Bx.trans {B g : Nat} {a b c : World} (h : Bx B g a b) (k : Bx B g b c) : Bx B g a c :=
  ⟨k.os.trans h.os, k.tape.trans h.tape, k.output.trans h.output, Nat.le_trans h.size k.size, fun i hi hg => (k.block i hi hg).trans (h.block i hi hg)⟩
theorem Bx.lower {B B' g : Nat} {w w' : World} (h : Bx B g w w') (hB : B' ≤ B) : Bx B' g w w' := ⟨h.os, h.tape, h.output, h.size, fun k hk => h.block k (by omega)⟩
/-- Two calls behind each other. -/
theorem Bx.step {g : Nat} {w a b : World} (h : Bx w.heap.size g w a) (k : Bx a.heap.size g a b) : Bx w.heap.size g w b := h.trans (k.lower h.size)
/-- The state's block is one of the call's own. -/
theorem Bx.below {B g : Nat} {w w' : World} (h : Bx B g w w') {C : Nat} (hC : C ≤ B) (hg : C ≤ g) : Below C w w' := ⟨h.os, h.tape, h.output, h.size, fun k hk => h.block k (by omega) (by omega)⟩
theorem Bx.cell {B g : Nat} {w w' : World} (h : Bx B g w w') {p : Addr} (hp : p.block < B) (hg : p.block ≠ g) : w'.cell? p = w.cell? p := by
  unfold World.cell?; rw [h.block _ hp hg]
section
variable {w W : World} {g x : Nat} {o : Obj} {v : Value}
instance [h : K0 (Bx w.heap.size g w W)] {o : Obj} : K0 (Bx w.heap.size g w (W.alloc o)) := ⟨h.out.trans (.of (Below.alloc (Below.refl _ _) h.out.size o))⟩
instance [h : K0 (Bx w.heap.size g w W)] {m : Nat} : K0 (Bx w.heap.size g w (W.drewN m)) := ⟨h.out.trans (.of (pw_below_drewN (Below.refl _ _) m))⟩
instance [h : K0 (Bx w.heap.size g w W)] : K0 (Bx w.heap.size g w W.drew) := ⟨h.out.trans (.of (Below.drew (Below.refl _ _)))⟩
instance [h : K0 (Bx w.heap.size g w W)] {j : Nat} : K0 (Bx w.heap.size g w (W.setCell ⟨g, j, none⟩ v)) :=
  ⟨h.out.trans ⟨rfl, rfl, rfl, by simp [World.setCell], fun k _ hk => Below.heap_setCell _ _ _ _ hk⟩⟩
instance (priority := low) [h : K0 (Bx w.heap.size g w W)] {j : Nat} [hx : K0 (w.heap.size ≤ x)] : K0 (Bx w.heap.size g w (W.setCell ⟨x, j, none⟩ v)) :=
  ⟨h.out.trans ⟨rfl, rfl, rfl, by simp [World.setCell], fun k hk _ => Below.heap_setCell _ _ _ _ (by have := hx.out; show k ≠ x; omega)⟩⟩
end
/-- The block behind a store into it. -/
theorem bk_put {W : World} {g j : Nat} {cs : Array Value} {t : TypeId} (h : W.heap[g]? = some (.cells cs t (0, 0))) (v : Value) : (W.setCell ⟨g, j, none⟩ v).heap[g]? = some (.cells (cs.setIfInBounds j v) t (0, 0)) := by
  simp [World.setCell, Array.getElem?_modify, h]
end Go.Proofs.Ytpfehkkfakofaaa.Q

namespace Go.Proofs.Ytpfehkkfakofaaa.Q
open Go.RowKit Go.Proofs.YtpfehkkfakofaaaW.PrintWords Go.Proofs.YtpfehkkfakofaaaW.PrintLast
set_option linter.unusedVariables false
theorem wrap_nat (i : Nat) (h : i < 4611686018427387904) : wrap64 ((i : Int) + 1) = ((i + 1 : Nat) : Int) := by unfold wrap64; omega
theorem wrap_id (x : Int) (h0 : -9223372036854775808 ≤ x) (h1 : x ≤ 9223372036854775807) : wrap64 x = x := by unfold wrap64; omega
theorem getD_cut {α : Type} (pre : List α) (e : α) (es : List α) (z : α) : (pre ++ e :: es).getD pre.length z = e := by simp [List.getD_eq_getElem?_getD]
theorem len_cut {α : Type} (pre : List α) (e : α) (es : List α) : pre.length < (pre ++ e :: es).length := by simp
theorem Ev.bind_some {α β : Type} {g : Option α} {f : Nat → α → Option β} {a : α} {r : β} (h : g = some a) (k : Ev (fun n => f n a) r) : Ev (fun n => g.bind (f n)) r := by subst h; exact k
/-- From here on, one round is told. -/
theorem Ev.round {α : Type} {g : Nat → Option α} {f : Nat → Option α} {r : α} (h : ∀ k, g (k + 1) = f k) (k : Ev f r) : Ev g r := Ev.step h k
theorem Ev.shift {α : Type} {g : Nat → Option α} {r : α} (m : Nat) (h : ∀ k, g (k + m) = some r) : Ev g r := ⟨m, fun k hk => by have := h (k - m); rwa [Nat.sub_add_cancel hk] at this⟩
theorem Ev.if_pos {α : Type} {c : Prop} [Decidable c] {g f : Nat → Option α} {r : α} (h : c) (k : Ev g r) : Ev (fun n => if c then g n else f n) r := by simp only [h, if_true]; exact k
theorem Ev.if_neg {α : Type} {c : Prop} [Decidable c] {g f : Nat → Option α} {r : α} (h : ¬ c) (k : Ev f r) : Ev (fun n => if c then g n else f n) r := by simp only [h, if_false]; exact k
/-- What was filled so far, and what is still nought. -/
theorem set_fill {α : Type} (done : List α) (z x : α) (m : Nat) : (done ++ List.replicate (m + 1) z).set done.length x = (done ++ [x]) ++ List.replicate m z := by
  rw [List.set_append_right _ _ (Nat.le_refl _)]; simp [List.replicate_succ]
end Go.Proofs.Ytpfehkkfakofaaa.Q

namespace Go.Proofs.Ytpfehkkfakofaaa.Q
open Go.RowKit Go.Proofs.YtpfehkkfakofaaaW.PrintWords Go.Proofs.YtpfehkkfakofaaaW.PrintLast
set_option linter.unusedVariables false
set_option linter.unusedSimpArgs false
/-- The state of a reading: its text, the place, how many are open. -/
def St (w : World) (g : Nat) (p : ByteArray) (i o : Int) : Prop := w.heap[g]? = some (.cells #[.string p, .int .i64 i, .int .i64 o] 125 (0, 0))
def flt (c a : Int) : List PanicEntry := [{ v := .iface 118 (.agg #[.int .i64 c, .int .i64 a]), recovered := false }]
theorem St.c0 {w : World} {g : Nat} {p : ByteArray} {i o : Int} (h : St w g p i o) : w.cell? ⟨g, 0, none⟩ = some (.string p) := cell_of_row _ g 0 _ 125 _ h
theorem St.c1 {w : World} {g : Nat} {p : ByteArray} {i o : Int} (h : St w g p i o) : w.cell? ⟨g, 1, none⟩ = some (.int .i64 i) := cell_of_row _ g 1 _ 125 _ h
theorem St.c2 {w : World} {g : Nat} {p : ByteArray} {i o : Int} (h : St w g p i o) : w.cell? ⟨g, 2, none⟩ = some (.int .i64 o) := cell_of_row _ g 2 _ 125 _ h
theorem St.fr {w : World} {g : Nat} {p : ByteArray} {i o : Int} (h : St w g p i o) (j : Nat) : w.frozen? ⟨g, j, none⟩ = false := by
  unfold World.frozen?; rw [h]; simp
theorem st_drewN {w : World} {g n : Nat} {p : ByteArray} {i o : Int} (h : St w g p i o) : St (w.drewN n) g p i o := blk_drewN h n
theorem st_drew {w : World} {g : Nat} {p : ByteArray} {i o : Int} (h : St w g p i o) : St w.drew g p i o := blk_drew h
theorem st_alloc {w : World} {g : Nat} {b : Obj} {p : ByteArray} {i o : Int} (h : St w g p i o) : St (w.alloc b) g p i o := blk_alloc h b
theorem st_set1 {w : World} {g : Nat} {p : ByteArray} {i j o : Int} (h : St w g p i o) : St (w.setCell ⟨g, 1, none⟩ (.int .i64 j)) g p j o := by have := bk_put (j := 1) h (.int .i64 j); simpa [St] using this
theorem st_set2 {w : World} {g : Nat} {p : ByteArray} {i j o : Int} (h : St w g p i o) : St (w.setCell ⟨g, 2, none⟩ (.int .i64 j)) g p i j := by have := bk_put (j := 2) h (.int .i64 j); simpa [St] using this
theorem stt {w W : World} {g : Nat} {p : ByteArray} {i o j q : Int} (h : Aside0 (St w g p i o)) (k : St w g p i o → St W g p j q := by intro h_; (repeat (first | exact h_ | apply st_drewN | apply st_drew | apply st_set1 | apply st_set2 | apply st_alloc))) : St W g p j q := k h.out
def RP {α : Type} (r : Except (Int × Int) α) (ok : α → Prop) (bad : Int → Int → Prop) : Prop := match r with | .ok a => ok a | .error (c, a) => bad c a
def chF (p : ByteArray) (i : Int) : Except (Int × Int) (Int × Int) :=
  if i < p.size ∧ bt p i = 92 then (if i + 1 = p.size then .error (2, i + 1) else .ok (bt p (i + 1), i + 2))
  else if i = p.size ∨ bt p i = 93 ∨ bt p i = 45 then .error (2, i) else .ok (bt p i, i + 1)
theorem run_pn (t : TypeId) (x : Value) (w : World) : (Instr.panic (.iface t x)).run Try.prog w = .halt (.panic (.iface t x)) w := rfl
theorem fail_calls (v : Value) (c a : Int) (w : World) : Calls Try.prog 93 #[v, .int .i64 c, .int .i64 a] w fun e w' => e = .panicked (flt c a) ∧ w' = w := by
  have hp := run_pn
  go_enter Try.func93, Try.ntmps93
  go_wp2
  exact ⟨rfl, rfl, rfl⟩
set_option maxHeartbeats 1000000 in
theorem ch_calls (g : Nat) (p : ByteArray) (i o : Int) (w : World) (hs : St w g p i o) (h0 : 0 ≤ i) (h1 : i ≤ p.size) (hp : p.size ≤ 200) :
    Calls Try.prog 101 #[.pointer (some ⟨g, 0, none⟩)] w fun e w' => RP (chF p i) (fun x => e = .returned (.int .u8 x.1) ∧ St w' g p x.2 o ∧ Bx w.heap.size g w w') (fun c a => e = .panicked (flt c a) ∧ Bx w.heap.size g w w') := by
  have c0 := hs.c0
  have c1 := hs.c1
  have f1 := hs.fr 1
  have kr : K0 (Bx w.heap.size g w w) := ⟨Bx.refl _ _ _⟩
  have HS := Aside0.mk hs
  clear hs
  by_cases hlt : i < p.size
  · by_cases hb : bt p i = 92
    · by_cases he : i + 1 = p.size
      · have hr : chF p i = .error (2, i + 1) := by unfold chF; rw [if_pos ⟨hlt, hb⟩, if_pos he]
        rw [hr]
        have d1 : decide (i < (p.size : Int)) = true := decide_eq_true hlt
        have hx := bt_at p i
        have d2 : (bt p i == 92) = true := beq_iff_eq.mpr hb
        have d3 : (i + 1 == (p.size : Int)) = true := beq_iff_eq.mpr he
        clear hb he hr
        go_enter Try.func101, Try.ntmps101
        go_wp2
        go_quiet (fail)
        go_wp2
        go_quiet (fail)
        go_wp2_with fail
        go_at_call 93
        refine (fail_calls _ _ _ _).mono ?_
        rintro e w' ⟨rfl, rfl⟩
        exact ⟨rfl, rfl, kk⟩
      · have hr : chF p i = .ok (bt p (i + 1), i + 2) := by unfold chF; rw [if_pos ⟨hlt, hb⟩, if_neg he]
        rw [hr]
        have d1 : decide (i < (p.size : Int)) = true := decide_eq_true hlt
        have hx := bt_at p i
        have hx1 := bt_at p (i + 1)
        have d2 : (bt p i == 92) = true := beq_iff_eq.mpr hb
        have d3 : (i + 1 == (p.size : Int)) = false := beq_eq_false_iff_ne.mpr he
        have h2 : i + 1 < (p.size : Int) := by omega
        clear hb he hr
        go_enter Try.func101, Try.ntmps101
        go_wp2
        go_quiet (fail)
        go_wp2
        go_quiet (fail)
        go_wp2
        go_quiet (fail)
        go_wp2
        go_ret
        exact ⟨rfl, (show i + 2 = i + 1 + 1 by omega) ▸ stt HS, kk⟩
    · have d1 : decide (i < (p.size : Int)) = true := decide_eq_true hlt
      have hx := bt_at p i
      have d2 : (bt p i == 92) = false := beq_eq_false_iff_ne.mpr hb
      have d4 : (i == (p.size : Int)) = false := beq_eq_false_iff_ne.mpr (by omega)
      by_cases h5 : bt p i = 93
      · have hr : chF p i = .error (2, i) := by unfold chF; rw [if_neg (by omega), if_pos (by omega)]
        rw [hr]
        have d5 : (bt p i == 93) = true := beq_iff_eq.mpr h5
        clear hb hr h5
        go_enter Try.func101, Try.ntmps101
        go_wp2
        go_quiet (fail)
        go_wp2
        go_quiet (fail)
        go_wp2_with fail
        go_at_call 93
        refine (fail_calls _ _ _ _).mono ?_
        rintro e w' ⟨rfl, rfl⟩
        exact ⟨rfl, rfl, kk⟩
      · have d5 : (bt p i == 93) = false := beq_eq_false_iff_ne.mpr h5
        by_cases h6 : bt p i = 45
        · have hr : chF p i = .error (2, i) := by unfold chF; rw [if_neg (by omega), if_pos (by omega)]
          rw [hr]
          have d6 : (bt p i == 45) = true := beq_iff_eq.mpr h6
          clear hb hr h5 h6
          go_enter Try.func101, Try.ntmps101
          go_wp2
          go_quiet (fail)
          go_wp2
          go_quiet (fail)
          go_wp2_with fail
          go_at_call 93
          refine (fail_calls _ _ _ _).mono ?_
          rintro e w' ⟨rfl, rfl⟩
          exact ⟨rfl, rfl, kk⟩
        · have hr : chF p i = .ok (bt p i, i + 1) := by unfold chF; rw [if_neg (by omega), if_neg (by omega)]
          rw [hr]
          have d6 : (bt p i == 45) = false := beq_eq_false_iff_ne.mpr h6
          clear hb hr h5 h6
          go_enter Try.func101, Try.ntmps101
          go_wp2
          go_quiet (fail)
          go_wp2
          go_quiet (fail)
          go_wp2
          go_quiet (fail)
          go_wp2
          go_ret
          exact ⟨rfl, stt HS, kk⟩
  · have hr : chF p i = .error (2, i) := by unfold chF; rw [if_neg (by omega), if_pos (by omega)]
    rw [hr]
    have d1 : decide (i < (p.size : Int)) = false := decide_eq_false hlt
    have d4 : (i == (p.size : Int)) = true := beq_iff_eq.mpr (by omega)
    clear hr
    go_enter Try.func101, Try.ntmps101
    go_wp2
    go_quiet (fail)
    go_wp2
    go_quiet (fail)
    go_wp2_with fail
    go_at_call 93
    refine (fail_calls _ _ _ _).mono ?_
    rintro e w' ⟨rfl, rfl⟩
    exact ⟨rfl, rfl, kk⟩
end Go.Proofs.Ytpfehkkfakofaaa.Q

namespace Go.Proofs.Ytpfehkkfakofaaa.Q
open Go.RowKit Go.Proofs.YtpfehkkfakofaaaW.PrintWords Go.Proofs.YtpfehkkfakofaaaW.PrintLast
set_option linter.unusedVariables false
set_option linter.unusedSimpArgs false
/-- The cells of a node for one byte: its set, its byte, whether it stands for itself. -/
def oneA (s : List Bool) (b : Int) (pl : Bool) : Array Value := (s.map Value.bool ++ [Value.int .u8 b, Value.bool pl]).toArray
def noB : List Bool := List.replicate 256 false
theorem oneA_size (s : List Bool) (b : Int) (pl : Bool) (h : s.length = 256) : (oneA s b pl).size = 258 := by simp [oneA, h]
theorem oneA_one (s : List Bool) (b : Int) (pl : Bool) : (oneA s b pl).all (·.oneCell') = true := by
  rw [Array.all_eq_true_iff_forall_mem]
  intro v hv
  simp only [oneA, List.mem_toArray, List.mem_append, List.mem_map] at hv
  rcases hv with ⟨x, _, rfl⟩ | h
  · rfl
  · rcases List.mem_cons.mp h with rfl | h
    · rfl
    · rcases List.mem_cons.mp h with rfl | h
      · rfl
      · cases h
theorem oneA_set (s : List Bool) (b : Int) (pl : Bool) (h : s.length = 256) (j : Nat) (hj : j < 256) (x : Bool) : (oneA s b pl).setIfInBounds j (.bool x) = oneA (s.set j x) b pl := by
  unfold oneA
  rw [List.setIfInBounds_toArray, List.set_append_left _ _ (by simp [h]; omega), List.map_set]
theorem oneA_at (s : List Bool) (b : Int) (pl : Bool) (h : s.length = 256) (j : Nat) (hj : j < 256) : (oneA s b pl)[j]? = some (.bool (s.getD j false)) := by
  simp [oneA, List.getElem?_append, h, hj, List.getD]
theorem zero87 (w : World) : (zeroValue 140).run Try.prog w = .ok (.agg (oneA noB 0 false)) w := by kernel_rfl
theorem info87 : (Try.prog.info? 140).map (·.size) = some 258 := by kernel_rfl
theorem run_one (b : Int) (pl : Bool) (w : World) : (Instr.build 140 #[(1, .int .u8 b), (2, .bool pl)]).run Try.prog w = .ok (.agg (oneA noB b pl)) w := by kernel_rfl
attribute [irreducible] oneA
attribute [local go_sem high] zero87
theorem wpList_one {ops : Array Oper} {rest : List Oper} {o : Oper} {a : Act} {w : World} {Q : Exit → Act → World → Prop} (hg : o.guard = none) (x y : Operand) (ho : o.op = .build 140 #[(1, x), (2, y)]) (b : Int) (pl : Bool)
    (hx : a.eval x = .int .u8 b) (hy : a.eval y = .bool pl) (h : wpList Try.prog ops Q rest (a.put o.dst (.agg (oneA noB b pl))) w) : wpList Try.prog ops Q (o :: rest) a w :=
  wpList_plain hg fun K hK => by
    unfold Oper.wp execOp
    have e := run_one b pl w
    simp only [ho, List.map_toArray, List.map_cons, List.map_nil, hx, hy, Sem.run_bind, e, Result.andThen_ok]
    exact hK _ _ h
theorem setRow_alloc (w : World) (A B : Array Value) (t : TypeId) : (w.alloc (.cells A t)).setRow w.heap.size B = w.alloc (.cells B t) := by
  have hm : ∀ (h : Array Obj) (x : Obj) (f : Obj → Obj), (h.push x).modify h.size f = h.push (f x) := by
    intro h x f
    apply Array.ext
    · simp
    · intro i h1 h2
      simp only [Array.getElem_modify, Array.getElem_push]
      split <;> rename_i e <;> simp at * <;> first | (subst e; simp) | (split <;> first | rfl | omega)
  show World.mk _ _ _ _ _ = World.mk _ _ _ _ _
  congr 1
  exact hm _ _ _
theorem below_setRow {B : Nat} {w W : World} {g : Nat} {cs : Array Value} (h : Below B w W) (hg : B ≤ g) : Below B w (W.setRow g cs) :=
  ⟨h.os, h.tape, h.output, by rw [size_setRow]; exact h.size, fun i hi => by
    rw [← h.block i hi]
    unfold World.setRow
    simp only [Array.getElem?_modify]
    rw [if_neg (by omega)]⟩
theorem oneA_bd (s : List Bool) (b : Int) (pl : Bool) (h : s.length = 256) (c : Int) (h0 : 0 ≤ c) (h1 : c < 256) : c.toNat < (oneA s b pl).size := by rw [oneA_size _ _ _ h]; omega
set_option maxHeartbeats 1000000 in
set_option maxRecDepth 100000 in
theorem single_calls (c : Int) (h0 : 0 ≤ c) (h1 : c < 256) (w : World) :
    Calls Try.prog 99 #[.int .u8 c] w fun e w' => e = .returned (.agg (oneA (noB.set c.toNat true) c true)) ∧ Below w.heap.size w w' := by
  have hn : noB.length = 256 := by simp [noB]
  have hsz : (Try.prog.info? 140).map (·.size) = some (oneA noB c true).size := by rw [oneA_size _ _ _ hn]; exact info87
  have hsz0 : (oneA noB 0 false).size = (oneA noB c true).size := by rw [oneA_size _ _ _ hn, oneA_size _ _ _ hn]
  have hone := oneA_one noB c true
  go_enter Try.func99, Try.ntmps99
  go_upto_region 2 with (first | (refine wpList_one rfl _ _ rfl c true rfl rfl ?_) | (refine wpList_store_row rfl 140 (.tmp 3) (.tmp 5) rfl (w.heap.size + 1) (oneA noB c true) rfl rfl 140 (oneA noB 0 false) (by first | exact new1 _ _ _ | (rw [show Try.zeroCells140 = oneA noB 0 false from by kernel_rfl]; exact new1 _ _ _)) hsz hsz0 hone ?_))
  try rw [show Try.zeroCells140 = oneA noB 0 false from by kernel_rfl]
  have e := setRow_alloc (w.alloc (.cells (oneA noB 0 false) 140)) (oneA noB 0 false) (oneA noB c true) 140
  rw [sz_al] at e
  rw [e]
  clear e
  have hb := oneA_bd noB c true hn c h0 h1
  go_upto_region 3 with (fail)
  rw [oneA_set noB c true hn c.toNat (by omega) true]
  have hn2 : (noB.set c.toNat true).length = 256 := by rw [List.length_set]; exact hn
  have hsz2 : (Try.prog.info? 140).map (·.size) = some (oneA (noB.set c.toNat true) c true).size := by rw [oneA_size _ _ _ hn2]; exact info87
  have hsz3 : (oneA noB 0 false).size = (oneA (noB.set c.toNat true) c true).size := by rw [oneA_size _ _ _ hn, oneA_size _ _ _ hn2]
  have hone2 := oneA_one (noB.set c.toNat true) c true
  have hg0 : ((w.alloc (.cells (oneA noB 0 false) 140)).alloc (.cells (oneA (noB.set c.toNat true) c true) 140)).heap[w.heap.size]? = some (.cells (oneA noB 0 false) 140 (0, 0)) := by
    rw [heap_alloc_old _ _ (by rw [sz_al]; omega)]; exact heap_alloc_new _ _
  have hg1 := setRow_heap _ w.heap.size _ (oneA (noB.set c.toNat true) c true) 140 (0, 0) hg0
  have HG := Aside0.mk hg1
  clear hg1 hb hsz hsz0 hone
  go_wp2_with (first | (refine wpList_load_row rfl 140 (.tmp 3) rfl (w.heap.size + 1) rfl 140 (oneA (noB.set c.toNat true) c true) (0, 0) _ (new1 _ _ _) Try.underlying140 rfl hsz2 ?_) | (refine wpList_store_row rfl 140 (.tmp 2) (.tmp 9) rfl w.heap.size (oneA (noB.set c.toNat true) c true) rfl rfl 140 (oneA noB 0 false) hg0 hsz2 hsz3 hone2 ?_))
  refine bodyPost_ret (results_cell_row rfl _ _ w.heap.size 140 _ (0, 0) _ rfl HG.out Try.underlying140 rfl hsz2) rfl ⟨rfl, ?_⟩
  exact below_setRow (below_alloc (below_alloc (Below.refl _ _) _) _) (Nat.le_refl _)
end Go.Proofs.Ytpfehkkfakofaaa.Q

namespace Go.Proofs.Ytpfehkkfakofaaa.Q
open Go.RowKit Go.Proofs.YtpfehkkfakofaaaW.PrintWords Go.Proofs.YtpfehkkfakofaaaW.PrintLast
set_option linter.unusedVariables false
set_option linter.unusedSimpArgs false
attribute [local go_sem high] zero87
def setN (s : List Bool) (lo : Int) : Nat → List Bool
  | 0 => s
  | n + 1 => (setN s lo n).set (lo + n).toNat true
def setR (s : List Bool) (lo hi : Int) : List Bool := setN s lo (hi + 1 - lo).toNat
def clsF : Nat → ByteArray → Int → Bool → List Bool → Option (Except (Int × Int) (List Bool × Int))
  | 0, _, _, _, _ => none
  | k + 1, p, i, first, s =>
    if first = true ∨ i = p.size ∨ bt p i ≠ 93 then
      match chF p i with
      | .error x => some (.error x)
      | .ok (lo, j) =>
        if j < p.size ∧ bt p j = 45 then
          match chF p (j + 1) with
          | .error x => some (.error x)
          | .ok (hi, m) => if lo > hi then some (.error (4, i)) else clsF k p m false (setR s lo hi)
        else clsF k p j false (setR s lo lo)
    else some (.ok (s, i))
def notQ (p : ByteArray) (i : Int) : Bool := decide (i < p.size) && (bt p i == 94)
def notI (p : ByteArray) (i : Int) : Int := if notQ p i then i + 1 else i
def claF (k : Nat) (p : ByteArray) (i : Int) : Option (Except (Int × Int) (List Bool × Int)) :=
  (clsF k p (notI p i) true noB).map fun r => r.map fun x => (if notQ p i then x.1.map (!·) else x.1, x.2 + 1)
theorem setN_len (s : List Bool) (lo : Int) : ∀ n, (setN s lo n).length = s.length
  | 0 => rfl
  | n + 1 => by simp [setN, setN_len s lo n]
theorem chF_ok {p : ByteArray} {i c j : Int} (h : chF p i = .ok (c, j)) (h0 : 0 ≤ i) (h1 : i ≤ p.size) : 0 ≤ c ∧ c ≤ 255 ∧ i < j ∧ j ≤ p.size := by
  unfold chF at h
  have r0 := bt_range p i
  have r1 := bt_range p (i + 1)
  split at h
  · split at h
    · cases h
    · cases h; omega
  · split at h
    · cases h
    · cases h; omega
theorem noB_len : noB.length = 256 := by unfold noB; exact List.length_replicate
theorem lt_of_some {w : World} {g : Nat} {b : Obj} (h : w.heap[g]? = some b) : g < w.heap.size := (Array.getElem?_eq_some_iff.mp h).1
theorem st_far {w : World} {g x j : Nat} {v : Value} {p : ByteArray} {i o : Int} (h : St w g p i o) (hx : g ≠ x) : St (w.setCell ⟨x, j, none⟩ v) g p i o := blk_far h hx v
/-- The row of a class under way. -/
def Row (w : World) (x : Nat) (s : List Bool) : Prop := w.heap[x]? = some (.cells (oneA s 0 false) 140 (0, 0))
def cndB (n : Int) (p : ByteArray) (i : Int) : Bool := decide (n = 0) || (decide (i = p.size) || decide (bt p i ≠ 93))
theorem cndB_iff (n : Int) (p : ByteArray) (i : Int) : (cndB n p i = true) ↔ (decide (n = 0) = true ∨ i = p.size ∨ bt p i ≠ 93) := by unfold cndB; simp
theorem Row.cell {w : World} {x : Nat} {s : List Bool} (h : Row w x s) (hl : s.length = 256) (j : Nat) (hj : j < 256) : w.cell? ⟨x, j, none⟩ = some (.bool (s.getD j false)) := by
  unfold World.cell?; rw [h]; simp [oneA_at s 0 false hl j hj]
theorem Row.fr {w : World} {x : Nat} {s : List Bool} (h : Row w x s) (j : Nat) : w.frozen? ⟨x, j, none⟩ = false := by
  unfold World.frozen?; rw [h]; simp
theorem Row.set {w : World} {x : Nat} {s : List Bool} (h : Row w x s) (hl : s.length = 256) (j : Nat) (hj : j < 256) (b : Bool) : Row (w.setCell ⟨x, j, none⟩ (.bool b)) x (s.set j b) := by
  have := bk_put (j := j) h (.bool b)
  rwa [oneA_set s 0 false hl j hj b] at this
theorem Row.far {w : World} {g x j : Nat} {v : Value} {s : List Bool} (h : Row w x s) (hx : x ≠ g) : Row (w.setCell ⟨g, j, none⟩ v) x s := blk_far h hx v
theorem Row.drewN {w : World} {x : Nat} {s : List Bool} (h : Row w x s) (n : Nat) : Row (w.drewN n) x s := blk_drewN h n
theorem Row.of {w w' : World} {g x : Nat} {s : List Bool} (h : Row w x s) (hb : Bx w.heap.size g w w') (hx : x ≠ g) : Row w' x s := by
  unfold Row at *; rw [hb.block x (lt_of_some h) hx]; exact h
def invTo (k : Nat) (s : List Bool) : List Bool := (s.take k).map (!·) ++ s.drop k
theorem invTo_succ (k : Nat) (s : List Bool) (h : k < s.length) : (invTo k s).set k (!(s.getD k false)) = invTo (k + 1) s := by
  apply List.ext_getElem?
  intro j
  unfold invTo
  rw [List.getElem?_set]
  by_cases e : k = j
  · subst e
    have hl : k < ((s.take k).map (!·) ++ s.drop k).length := by simp; omega
    rw [if_pos rfl, if_pos hl, List.getElem?_append_left (by simp; omega)]
    simp [List.getElem?_take, h]
  · rw [if_neg e]
    by_cases e2 : j < k
    · rw [List.getElem?_append_left (by simp; omega), List.getElem?_append_left (by simp; omega)]
      simp [List.getElem?_take, e2, show j < k + 1 by omega]
    · rw [List.getElem?_append_right (by simp; omega), List.getElem?_append_right (by simp; omega)]
      simp
      congr 1; omega
theorem invTo_get (k : Nat) (s : List Bool) (h : k < s.length) : (invTo k s).getD k false = s.getD k false := by
  unfold invTo
  simp only [List.getD_eq_getElem?_getD]
  rw [List.getElem?_append_right (by simp; omega)]
  simp [Nat.min_eq_left (Nat.le_of_lt h)]
theorem invTo_len (k : Nat) (s : List Bool) : (invTo k s).length = s.length := by unfold invTo; simp; omega
theorem invTo_all (s : List Bool) : invTo s.length s = s.map (!·) := by unfold invTo; simp
theorem bt_end (p : ByteArray) : bt p (p.size : Int) = 0 := by unfold bt; rw [dif_neg (by omega)]
def dshB (p : ByteArray) (i : Int) : Bool := decide (i < p.size) && (bt p i == 45)
theorem claF_err {k : Nat} {p : ByteArray} {i : Int} {r : Except (Int × Int) (List Bool × Int)} (h : claF k p i = some r) : ∃ q, clsF k p (notI p i) true noB = some q ∧ q.map (fun x => (if notQ p i then x.1.map (!·) else x.1, x.2 + 1)) = r := by
  unfold claF at h
  cases e : clsF k p (notI p i) true noB with
  | none => rw [e] at h; cases h
  | some q => rw [e] at h; exact ⟨q, rfl, Option.some.inj h⟩
set_option maxHeartbeats 4000000 in
set_option maxRecDepth 100000 in
theorem class_calls (k : Nat) (g : Nat) (p : ByteArray) (i o : Int) (w : World) (hs : St w g p i o) (h0 : 0 ≤ i) (h1 : i ≤ p.size) (hp : p.size ≤ 200) (r : Except (Int × Int) (List Bool × Int)) (h : claF k p i = some r) :
    Calls Try.prog 98 #[.pointer (some ⟨g, 0, none⟩)] w fun e w' => RP r (fun x => e = .returned (.iface 140 (.agg (oneA x.1 0 false))) ∧ St w' g p x.2 o ∧ Bx w.heap.size g w w') (fun c a => e = .panicked (flt c a) ∧ Bx w.heap.size g w w') := by
  have c0 := hs.c0
  have c1 := hs.c1
  have f1 := hs.fr 1
  have hgl : g < w.heap.size := lt_of_some hs
  have kr : K0 (Bx w.heap.size g w w) := ⟨Bx.refl _ _ _⟩
  have HS := Aside0.mk hs
  have H := Aside0.mk h
  clear hs h
  go_enter Try.func98, Try.ntmps98
  go_upto_region 2 with (fail)
  have hst : St (w.alloc (.cells (oneA noB 0 false) 140)) g p i o := stt HS
  have hrow : Row (w.alloc (.cells (oneA noB 0 false) 140)) w.heap.size noB := heap_alloc_new _ _
  have hbx : Bx w.heap.size g w (w.alloc (.cells (oneA noB 0 false) 140)) := kk
  have c0 := hst.c0
  have c1 := hst.c1
  have f1 := hst.fr 1
  try rw [show Try.zeroCells140 = oneA noB 0 false from by kernel_rfl]
  generalize w.alloc (.cells (oneA noB 0 false) 140) = wa at *
  go_cut [4] (fun v4 wc => v4 = .bool (notQ p i) ∧ ∃ m, wc = wa.drewN m)
  case first =>
    by_cases hlt : i < p.size
    · have d1 : decide (i < (p.size : Int)) = true := decide_eq_true hlt
      have hx := bt_at p i
      cases hb : bt p i == 94
      · have hn : notQ p i = false := by unfold notQ; rw [hb]; simp
        go_quiet (fail)
        go_wp2
        go_meet
        case rel => exact ⟨by rw [hn], _, rfl⟩
      · have hn : notQ p i = true := by unfold notQ; rw [hb, d1]; rfl
        go_quiet (fail)
        go_wp2
        go_meet
        case rel => exact ⟨by rw [hn], _, rfl⟩
    · have d1 : decide (i < (p.size : Int)) = false := decide_eq_false hlt
      have hn : notQ p i = false := by unfold notQ; rw [d1]; rfl
      go_quiet (fail)
      go_wp2
      go_meet
      case rel => exact ⟨by rw [hn], _, rfl⟩
  case rest =>
    obtain ⟨rfl, m, rfl⟩ := hcut
    obtain ⟨q, hq, hqr⟩ := claF_err H.out
    have HQ := Aside0.mk hq
    have HR := Aside0.mk hqr
    clear hq hqr H
    generalize hnt : notQ p i = nt at HR ⊢
    have HNT := Aside0.mk hnt
    clear hnt
    clear c0 c1 f1
    have c0 := hst.c0
    have c1 := hst.c1
    have f1 := hst.fr 1
    have HST := Aside0.mk hst
    have HROW := Aside0.mk hrow
    have ka : K0 (Bx w.heap.size g w wa) := ⟨hbx⟩
    clear hst hrow hbx
    have hgx : w.heap.size ≠ g := by omega
    have HGX := Aside0.mk hgx
    clear hgx
    have hni : 0 ≤ notI p i ∧ notI p i ≤ p.size := by
      unfold notI; split
      · rename_i hh; unfold notQ at hh; simp at hh; omega
      · omega
    have HNI := Aside0.mk hni
    clear hni
    go_upto_if 33 with (fail)
    go_cut [] (fun wc => Aside0 (St wc g p (notI p i) o) ∧ Aside0 (Row wc w.heap.size noB) ∧ Aside0 (Bx w.heap.size g w wc))
    case first =>
      cases nt
      · have e : notI p i = i := by unfold notI; rw [HNT.out]; rfl
        have E := Aside0.mk e
        clear e
        go_wp2
        go_meet
        case rel => exact ⟨⟨by rw [E.out]; exact stt HST⟩, ⟨HROW.out.drewN _⟩, ⟨kk⟩⟩
      · have e : notI p i = i + 1 := by unfold notI; rw [HNT.out]; rfl
        have hlt : i < p.size := by have hb := HNT.out; unfold notQ at hb; simp at hb; omega
        have E := Aside0.mk e
        clear e
        go_wp2
        go_meet
        case rel => exact ⟨⟨by rw [E.out]; exact stt HST⟩, ⟨(HROW.out.drewN _).far HGX.out⟩, ⟨kk⟩⟩
    case rest =>
      obtain ⟨HST2, HROW2, HB2⟩ := hcut
      clear c0 c1 f1 ka HST HROW
      go_upto_region 6 with (fail)
      go_loopg [5] k (fun kq v5 W => ∃ (n j : Int) (s : List Bool), v5 = .int .i64 n ∧ Aside0 (clsF kq p j (decide (n = 0)) s = some q) ∧ Aside0 (kq ≤ k) ∧ Aside0 (0 ≤ n ∧ n ≤ j ∧ 0 ≤ j ∧ j ≤ p.size ∧ s.length = 256) ∧ Aside0 (St W g p j o) ∧ Aside0 (Row W w.heap.size s) ∧ Aside0 (Bx w.heap.size g w W))
      case atStart => exact ⟨0, notI p i, noB, rfl, HQ, ⟨Nat.le_refl _⟩, ⟨by omega, HNI.out.1, HNI.out.1, HNI.out.2, noB_len⟩, HST2, HROW2, HB2⟩
      case round =>
        clear HST2 HROW2 HB2 HQ
        obtain ⟨n, j, s, rfl, HA, HK, HN, HST, HROW, HB⟩ := hrel
        cases gk with
        | zero => exact absurd HA.out (by simp [clsF])
        | succ k1 =>
        have c0 := HST.out.c0
        have c1 := HST.out.c1
        have f1 := HST.out.fr 1
        have n0 := HN.out.1
        have n1 := HN.out.2.1
        have j0 := HN.out.2.2.1
        have j1 := HN.out.2.2.2.1
        have kw : K0 (Bx w.heap.size g w wr) := ⟨HB.out⟩
        go_upto_region 6 with (fail)
        go_cut [66] (fun v66 wc => v66 = .bool (cndB n p j) ∧ ∃ m, wc = wr.drewN m)
        case first =>
          by_cases e1 : n = 0
          · have hc : cndB n p j = true := by unfold cndB; rw [decide_eq_true e1]; rfl
            have d1 : (n == 0) = true := beq_iff_eq.mpr e1
            have HC := Aside0.mk hc
            clear hc e1
            go_quiet (fail)
            go_wp2
            go_meet
            case rel => exact ⟨by rw [HC.out], _, rfl⟩
          · have d1 : (n == 0) = false := beq_eq_false_iff_ne.mpr e1
            by_cases e2 : j = p.size
            · have hc : cndB n p j = true := by unfold cndB; rw [decide_eq_true e2]; simp
              have d2 : (j == (p.size : Int)) = true := beq_iff_eq.mpr e2
              have HC := Aside0.mk hc
              clear hc e1 e2
              go_quiet (fail)
              go_wp2
              go_meet
              case rel => exact ⟨by rw [HC.out], _, rfl⟩
            · have d2 : (j == (p.size : Int)) = false := beq_eq_false_iff_ne.mpr e2
              have j2 : j < p.size := by omega
              have hx := bt_at p j
              have hc : cndB n p j = (bt p j != 93) := by
                unfold cndB; rw [decide_eq_false e1, decide_eq_false e2]
                by_cases e3 : bt p j = 93 <;> simp [e3]
              have HC := Aside0.mk hc
              clear hc e1 e2
              go_quiet (fail)
              go_wp2
              go_meet
              case rel => exact ⟨by rw [HC.out], _, rfl⟩
        case rest =>
          obtain ⟨rfl, m, rfl⟩ := hcut
          have hA := HA.out
          simp only [clsF, ← cndB_iff] at hA
          generalize hcb : cndB n p j = cb at hA ⊢
          have HCB := Aside0.mk hcb
          clear hcb
          cases cb
          · obtain rfl := Option.some.inj hA
            have hj : j < p.size := by
              have := HCB.out
              unfold cndB at this
              simp at this; omega
            have hr := HR.out
            simp only [Except.map] at hr
            subst hr
            have hsl := HN.out.2.2.2.2
            have HSL := Aside0.mk hsl
            have HST1 := Aside0.mk (st_drewN (n := m) HST.out)
            have HROW1 := Aside0.mk (HROW.out.drewN m)
            have hb1 : Bx w.heap.size g w (wr.drewN m) := kk
            have HCB2 := HCB
            clear hsl HA HN HST HROW HB kw hA HCB HK n1
            generalize wr.drewN m = wx at *
            have kw : K0 (Bx w.heap.size g w wx) := ⟨hb1⟩
            have c0 := HST1.out.c0
            have c1 := HST1.out.c1
            have f1 := HST1.out.fr 1
            clear hb1
            go_upto_if 131 with (fail)
            go_cut [] (fun wc => Aside0 (St wc g p (j + 1) o) ∧ Aside0 (Row wc w.heap.size (if nt = true then s.map (!·) else s)) ∧ Aside0 (Bx w.heap.size g w wc))
            case first =>
              have hs2 : St (wx.setCell ⟨g, 1, none⟩ (.int .i64 (j + 1))) g p (j + 1) o := stt HST1
              have hr2 : Row (wx.setCell ⟨g, 1, none⟩ (.int .i64 (j + 1))) w.heap.size s := HROW1.out.far HGX.out
              have hx2 : Bx w.heap.size g w (wx.setCell ⟨g, 1, none⟩ (.int .i64 (j + 1))) := kk
              have HS2 := Aside0.mk hs2
              have HR2 := Aside0.mk hr2
              have HX2 := Aside0.mk hx2
              clear hs2 hr2 hx2 c0 c1 f1 kw HST1 HROW1
              cases nt
              · go_wp2
                go_meet
                case rel => exact ⟨HS2, HR2, HX2⟩
              · go_upto_region 23 with (fail)
                generalize wx.setCell ⟨g, 1, none⟩ (.int .i64 (j + 1)) = wy at *
                go_loopg [132] 256 (fun kq v W => ∃ b : Nat, v = .int .i64 b ∧ Aside0 (b + kq = 256) ∧ Aside0 (St W g p (j + 1) o) ∧ Aside0 (Row W w.heap.size (invTo b s)) ∧ Aside0 (Bx w.heap.size g w W))
                case atStart => exact ⟨0, rfl, ⟨rfl⟩, HS2, ⟨by unfold invTo; simpa using HR2.out⟩, HX2⟩
                case round =>
                  clear HS2 HR2 HX2
                  obtain ⟨b, rfl, HE, HST, HROW, HB⟩ := hrel
                  have kb : K0 (Bx w.heap.size g w wr) := ⟨HB.out⟩
                  have hl2 : (invTo b s).length = 256 := by rw [invTo_len]; exact HSL.out
                  have HL2 := Aside0.mk hl2
                  clear hl2
                  cases gk with
                  | zero =>
                    obtain rfl : b = 256 := by have := HE.out; omega
                    go_wp2
                    go_meet
                    case rel => exact ⟨HST, ⟨by have e := invTo_all s; rw [HSL.out] at e; have h := HROW.out; rw [e] at h; simpa using h⟩, HB⟩
                  | succ kq =>
                    have hb : b < 256 := by have := HE.out; omega
                    have hcl := HROW.out.cell HL2.out b hb
                    have e0 : (invTo b s).getD b false = s.getD b false := invTo_get b s (by rw [HSL.out]; exact hb)
                    rw [e0] at hcl
                    have hfr := HROW.out.fr b
                    have kx : K0 (w.heap.size ≤ w.heap.size) := ⟨Nat.le_refl _⟩
                    have hset := HROW.out.set HL2.out b hb (!(s.getD b false))
                    rw [invTo_succ b s (by rw [HSL.out]; exact hb)] at hset
                    have HSET := Aside0.mk hset
                    clear e0 hset
                    generalize s.getD b false = sb at *
                    go_wp2
                    go_roundg kq
                    case measure => omega
                    case rel => exact ⟨b + 1, by go_num, ⟨by have := HE.out; omega⟩, ⟨st_far HST.out (Ne.symm HGX.out)⟩, HSET, ⟨kk⟩⟩
            case rest =>
              obtain ⟨HST, HROW, HB⟩ := hcut
              have hsz : (Try.prog.info? 140).map (·.size) = some (oneA (if nt = true then s.map (!·) else s) 0 false).size := by
                rw [oneA_size _ _ _ (by split <;> simp [HSL.out])]; exact info87
              have HSZ := Aside0.mk hsz
              clear hsz
              go_wp2_with (refine wpList_load_row rfl 140 (.tmp 3) rfl w.heap.size rfl 140 (oneA (if nt = true then s.map (!·) else s) 0 false) (0, 0) _ HROW.out Try.underlying140 rfl HSZ.out ?_)
              all_goals (go_ret; exact ⟨rfl, HST.out, HB.out⟩)
          · rw [if_pos rfl] at hA
            have HA' := Aside0.mk hA
            clear hA
            go_wp2_with fail
            go_at_call 101
            refine (ch_calls g p j o _ (stt HST) j0 j1 hp).mono ?_
            rintro e w1 hch
            clear c0 c1 f1
            cases hc : chF p j with
            | error x =>
              obtain ⟨c, a⟩ := x
              rw [hc] at hch
              obtain ⟨rfl, hb1⟩ := hch
              have hA := HA'.out
              rw [hc] at hA
              obtain rfl := Option.some.inj hA
              have hr := HR.out
              simp only [Except.map] at hr
              subst hr
              exact ⟨rfl, rfl, (HB.out.trans (Bx.of (pw_below_drewN (Below.refl _ _) _))).trans (hb1.lower (HB.out.size))⟩
            | ok x =>
              obtain ⟨lo, m1⟩ := x
              rw [hc] at hch
              obtain ⟨rfl, hs1, hb1⟩ := hch
              have hA := HA'.out
              rw [hc] at hA
              simp only [] at hA
              have HA2 := Aside0.mk hA
              clear hA HA'
              obtain ⟨l0, l1, m0, m2⟩ := chF_ok hc j0 j1
              have HS1 := Aside0.mk hs1
              have hx1 : Bx w.heap.size g w w1 := (HB.out.trans (Bx.of (pw_below_drewN (Below.refl _ _) _))).trans (hb1.lower (HB.out.size))
              have HROW1 := Aside0.mk (Row.of (HROW.out.drewN _) hb1 HGX.out)
              have c0 := hs1.c0
              have c1 := hs1.c1
              have f1 := hs1.fr 1
              have k1w : K0 (Bx w.heap.size g w w1) := ⟨hx1⟩
              have HN0 := HN.out
              clear hb1 hx1 hc hs1 HST HROW HB kw
              go_upto_region 11 with (fail)
              go_cut [97] (fun v97 wc => v97 = .bool (dshB p m1) ∧ ∃ m, wc = w1.drewN m)
              case first =>
                by_cases e1 : m1 < p.size
                · have d1 : decide (m1 < (p.size : Int)) = true := decide_eq_true e1
                  have hx := bt_at p m1
                  have hc : dshB p m1 = (bt p m1 == 45) := by unfold dshB; rw [d1]; rfl
                  have HC := Aside0.mk hc
                  clear hc
                  have mm : 0 ≤ m1 := by omega
                  go_quiet (fail)
                  go_wp2
                  go_meet
                  case rel => exact ⟨by rw [HC.out], _, rfl⟩
                · have d1 : decide (m1 < (p.size : Int)) = false := decide_eq_false e1
                  have hc : dshB p m1 = false := by unfold dshB; rw [d1]; rfl
                  have HC := Aside0.mk hc
                  clear hc
                  go_quiet (fail)
                  go_wp2
                  go_meet
                  case rel => exact ⟨by rw [HC.out], _, rfl⟩
              case rest =>
                obtain ⟨rfl, m, rfl⟩ := hcut
                have hA := HA2.out
                have hd : (m1 < p.size ∧ bt p m1 = 45) ↔ dshB p m1 = true := by unfold dshB; simp
                simp only [hd] at hA
                generalize hdb : dshB p m1 = db at hA hd ⊢
                have HD := Aside0.mk hd
                have HA3 := Aside0.mk hA
                clear hdb hd hA HA2
                go_upto_if 97 with (fail)
                go_cut [8] (fun v8 wc => ∃ hi m3 : Int, v8 = .int .u8 hi ∧ Aside0 (0 ≤ hi ∧ hi ≤ 255 ∧ m1 ≤ m3 ∧ m3 ≤ p.size) ∧ Aside0 (St wc g p m3 o) ∧ Aside0 (Row wc w.heap.size s) ∧ Aside0 (Bx w.heap.size g w wc) ∧ Aside0 ((if lo > hi then some (.error (4, j)) else clsF k1 p m3 false (setR s lo hi)) = some q))
                case first =>
                  cases db
                  · go_wp2
                    go_meet
                    case rel =>
                      have hA := HA3.out
                      rw [if_neg (by simp)] at hA
                      exact ⟨lo, m1, rfl, ⟨by omega, by omega, by omega, m2⟩, ⟨stt HS1⟩, ⟨HROW1.out.drewN _⟩, ⟨kk⟩, ⟨by rw [if_neg (by omega)]; exact hA⟩⟩
                  · have hA := HA3.out
                    rw [if_pos rfl] at hA
                    have HA4 := Aside0.mk hA
                    have e1 : m1 < p.size := (HD.out.mpr rfl).1
                    have e2 : 0 ≤ m1 + 1 := by omega
                    have e3 : m1 + 1 ≤ p.size := by omega
                    clear hA HA3
                    go_wp2_with fail
                    go_at_call 101
                    refine (ch_calls g p (m1 + 1) o _ (stt HS1) e2 e3 hp).mono ?_
                    rintro e w2 hch
                    have hx2 : Bx w.heap.size g w (((w1.drewN m).setCell ⟨g, 1, none⟩ (.int .i64 (m1 + 1)))) := kk
                    have hr2 : Row ((w1.drewN m).setCell ⟨g, 1, none⟩ (.int .i64 (m1 + 1))) w.heap.size s := (HROW1.out.drewN _).far HGX.out
                    cases hc : chF p (m1 + 1) with
                    | error x =>
                      obtain ⟨c, a⟩ := x
                      rw [hc] at hch
                      obtain ⟨rfl, hb1⟩ := hch
                      have hA := HA4.out
                      rw [hc] at hA
                      obtain rfl := Option.some.inj hA
                      have hr := HR.out
                      simp only [Except.map] at hr
                      subst hr
                      exact ⟨rfl, rfl, hx2.trans (hb1.lower hx2.size)⟩
                    | ok x =>
                      obtain ⟨hi, m3⟩ := x
                      rw [hc] at hch
                      obtain ⟨rfl, hs2, hb1⟩ := hch
                      have hA := HA4.out
                      rw [hc] at hA
                      simp only [] at hA
                      obtain ⟨q0, q1, q2, q3⟩ := chF_ok hc e2 e3
                      have hx3 := hx2.trans (hb1.lower hx2.size)
                      have hr3 := Row.of hr2 hb1 HGX.out
                      have HF := Aside0.mk (And.intro hs2 (And.intro hr3 (And.intro hx3 hA)))
                      clear hs2 hr3 hx3 hr2 hx2 hb1 hA hc
                      go_wp2
                      go_meet
                      case rel => exact ⟨hi, m3, rfl, ⟨q0, q1, by omega, q3⟩, ⟨HF.out.1⟩, ⟨HF.out.2.1⟩, ⟨HF.out.2.2.1⟩, ⟨HF.out.2.2.2⟩⟩
                case rest =>
                  obtain ⟨hi, m3, rfl, HHI, HST, HROW, HB, HA⟩ := hcut
                  clear c0 c1 f1 HA3 HS1 HROW1 k1w
                  have q0 := HHI.out.1
                  have q1 := HHI.out.2.1
                  have hA := HA.out
                  by_cases hlh : lo > hi
                  · rw [if_pos hlh] at hA
                    obtain rfl := Option.some.inj hA
                    have hr := HR.out
                    simp only [Except.map] at hr
                    subst hr
                    have d1 : decide (hi < lo) = true := decide_eq_true hlh
                    go_wp2_with fail
                    go_at_call 93
                    refine (fail_calls _ _ _ _).mono ?_
                    rintro e w' ⟨rfl, rfl⟩
                    exact ⟨rfl, rfl, HB.out⟩
                  · rw [if_neg hlh] at hA
                    have HA5 := Aside0.mk hA
                    have d1 : decide (hi < lo) = false := decide_eq_false hlh
                    clear hA HA
                    go_upto_region 17 with (fail)
                    have hln := HN0.2.2.2.2
                    have HLN := Aside0.mk hln
                    have HLE := Aside0.mk HN0
                    clear hln HN0
                    go_loopg [9] ((hi + 1 - lo).toNat) (fun kq v9 W => ∃ b : Int, v9 = .int .i64 b ∧ Aside0 (lo ≤ b ∧ b + kq = hi + 1) ∧ Aside0 (St W g p m3 o) ∧ Aside0 (Row W w.heap.size (setN s lo (b - lo).toNat)) ∧ Aside0 (Bx w.heap.size g w W))
                    case atStart => exact ⟨lo, rfl, ⟨by omega, by omega⟩, HST, ⟨by rw [Int.sub_self]; exact HROW.out⟩, HB⟩
                    case round =>
                      clear HST HROW HB
                      obtain ⟨b, rfl, HE, HST, HROW, HB⟩ := hrel
                      have kb : K0 (Bx w.heap.size g w wr) := ⟨HB.out⟩
                      cases gk with
                      | zero =>
                        have d2 : decide (b ≤ hi) = false := decide_eq_false (by have := HE.out; omega)
                        have hb : (b - lo).toNat = (hi + 1 - lo).toNat := by have := HE.out; omega
                        have hrw := HROW.out
                        rw [hb] at hrw
                        have HROW2 := Aside0.mk hrw
                        have hb0 : 0 ≤ b := by have := HE.out; omega
                        have hb1 : b ≤ 256 := by have := HE.out; omega
                        have hn2 : n ≤ 200 := by omega
                        clear hb hrw
                        go_wp2
                        go_roundg k1
                        case measure => omega
                        case rel => exact ⟨n + 1, m3, setR s lo hi, rfl, ⟨by rw [decide_eq_false (by omega)]; exact HA5.out⟩, ⟨by have := HK.out; omega⟩, ⟨by have := HHI.out; have := HLE.out; exact ⟨by omega, by omega, by omega, by omega, by unfold setR; rw [setN_len]; exact HLN.out⟩⟩, HST, HROW2, HB⟩
                      | succ kq =>
                        have d2 : decide (b ≤ hi) = true := decide_eq_true (by have := HE.out; omega)
                        have hb0 : 0 ≤ b := by have := HE.out; omega
                        have hb1 : b < 256 := by have := HE.out; omega
                        have hl2 : (setN s lo (b - lo).toNat).length = 256 := by rw [setN_len]; exact HLN.out
                        have hb2 : b.toNat < 256 := by omega
                        have hcl := HROW.out.cell hl2 b.toNat hb2
                        have hfr := HROW.out.fr b.toNat
                        have kx : K0 (w.heap.size ≤ w.heap.size) := ⟨Nat.le_refl _⟩
                        have hset := HROW.out.set hl2 b.toNat hb2 true
                        have e : (setN s lo (b - lo).toNat).set b.toNat true = setN s lo (b + 1 - lo).toNat := by
                          have := HE.out
                          rw [show (b + 1 - lo).toNat = (b - lo).toNat + 1 by omega]
                          show _ = (setN s lo (b - lo).toNat).set (lo + ((b - lo).toNat : Int)).toNat true
                          rw [show (lo + ((b - lo).toNat : Int)).toNat = b.toNat by omega]
                        rw [e] at hset
                        have HSET := Aside0.mk hset
                        clear e hset hl2
                        go_wp2
                        go_roundg kq
                        case measure => omega
                        case rel => exact ⟨b + 1, rfl, ⟨by have := HE.out; omega, by have := HE.out; omega⟩, ⟨st_far HST.out (Ne.symm HGX.out)⟩, HSET, ⟨kk⟩⟩
end Go.Proofs.Ytpfehkkfakofaaa.Q

namespace Go.Proofs.Ytpfehkkfakofaaa.Q
open Go.RowKit Go.Proofs.YtpfehkkfakofaaaW.PrintWords Go.Proofs.YtpfehkkfakofaaaW.PrintLast
theorem own_lower {w : World} {b b' : Nat} {e : TypeId} {size n : Nat} {v : Value} {xs : List Value} (h : w.ownsRow b e size v n xs) (hb : b' ≤ b) : w.ownsRow b' e size v n xs := by
  refine ⟨h.1, ?_⟩
  rcases h.2 with hn | ⟨g, cap, cur, rfl, hg, r⟩
  · exact .inl hn
  · exact .inr ⟨g, cap, cur, rfl, by omega, r⟩
section
variable {P : Program} {w : World}
theorem append_at (base : Nat) (t ty e : TypeId) (i : TypeInfo) (z : Value) (size bytes : Nat) (ht : P.underlying t = some (.slice e)) (hi : P.info? e = some i) (hz : i.zero = some z)
    (hsize : i.size = size) (hby : i.bytes = bytes) (hzs : z.cells.size = size) (hsz : 0 < size)
    (v : Value) (n : Nat) (xs : List Value) (hown : w.ownsRow base e size v n xs)
    (a : Addr) (m c : Nat) (news : List Value) (hl : news.length = m * size) (hnews : ∀ j u, news[j]? = some u → w.cell? (a.add j) = some u) (h1 : ∀ u ∈ news, u.oneCell' = true)
    (h63 : n + m ≤ maxLen) (hbytes : (n + m) * bytes ≤ 140737488355328) (hbase : base ≤ w.heap.size) :
    ∃ v' w', (Builtin.append_ #[t, t] ty #[v, .slice (some a) m c]).run P w = .ok v' w' ∧ w'.ownsRow base e size v' (n + m) (xs ++ news) ∧ w.grownBy w' v.ownBlock ∧ (∀ k, v'.ownBlock = some k → v.ownBlock = some k ∨ w.heap.size ≤ k) := by
  obtain ⟨v', w', hr, h2, h3, -⟩ := run_append_own (P := P) w base t ty e i z size bytes ht hi hz hsize hby hzs hsz v n xs hown a m c news hl hnews h1 h63 hbytes hbase
  refine ⟨v', w', hr, h2, h3, ?_⟩
  rcases hown.2 with ⟨rfl, rfl⟩ | ⟨g, cap, cur, rfl, hbg, hg, hnc, hcm, hcs, htake⟩
  · obtain rfl : xs = [] := List.eq_nil_of_length_eq_zero (by simpa using hown.1)
    obtain ⟨v2, w2, hr2, h4, -, -⟩ := run_append_own (P := P) w w.heap.size t ty e i z size bytes ht hi hz hsize hby hzs hsz (.slice none 0 0) 0 [] (World.ownsRow_nil w _ e size) a m c news hl hnews h1 h63 hbytes (Nat.le_refl _)
    rw [hr] at hr2
    cases hr2
    exact fun k hk => .inr (h4.lt k hk).1
  · by_cases hroom : n + m ≤ cap
    · subst hsize
      have hr2 := run_append_room (P := P) w t ty e i ht hi g n cap cur hg a m c news hl hnews h1 hroom (by rw [hcs, hl, ← Nat.add_mul]; exact Nat.mul_le_mul_right _ hroom)
      rw [hr] at hr2
      cases hr2
      exact fun k hk => .inl hk
    · have holds : ∀ j u, xs[j]? = some u → w.cell? ((⟨g, 0, none⟩ : Addr).add j) = some u := hown.cells (g := g) rfl
      obtain ⟨v2, w2, hr2, h4, -⟩ := run_append_arg_grows (P := P) w t ty e i z size bytes ht hi hz hsize hby hzs hsz ⟨g, 0, none⟩ n cap xs hown.1 holds a m c news hl hnews (by omega) h63 hbytes
      rw [hr] at hr2
      cases hr2
      exact fun k hk => .inr (h4.lt k hk).1
variable {ops : Array Oper} {rest : List Oper} {o : Oper} {a : Act} {Q : Exit → Act → World → Prop}
theorem wp_append_at {K : Act → World → Prop} (s x : Operand) (t : TypeId)
    (ho : o.op = .call { callee := .builtin .append, args := #[s, x], argTypes := #[t, t] })
    (base : Nat) (e : TypeId) (i : TypeInfo) (z : Value) (size bytes : Nat) (ht : P.underlying t = some (.slice e)) (hi : P.info? e = some i) (hz : i.zero = some z)
    (hsize : i.size = size) (hby : i.bytes = bytes) (hzs : z.cells.size = size) (hsz : 0 < size)
    (v : Value) (n : Nat) (xs : List Value) (hs : a.eval s = v) (hown : w.ownsRow base e size v n xs)
    (ad : Addr) (m c : Nat) (news : List Value) (hx : a.eval x = .slice (some ad) m c) (hl : news.length = m * size) (hnews : ∀ j u, news[j]? = some u → w.cell? (ad.add j) = some u) (h1 : ∀ u ∈ news, u.oneCell' = true)
    (h63 : n + m ≤ maxLen) (hbytes : (n + m) * bytes ≤ 140737488355328) (hbase : base ≤ w.heap.size)
    (h : ∀ v' w', w'.ownsRow base e size v' (n + m) (xs ++ news) → w.grownBy w' v.ownBlock → (∀ k, v'.ownBlock = some k → v.ownBlock = some k ∨ w.heap.size ≤ k) → K (a.put o.dst v') w') : o.wp P a w K Q := by
  obtain ⟨v', w', hr, h2, h3, h4⟩ := append_at (P := P) (w := w) base t o.type e i z size bytes ht hi hz hsize hby hzs hsz v n xs hown ad m c news hl hnews h1 h63 hbytes hbase
  unfold Oper.wp
  simp [execOp, ho, resolve, invoke, builtin, hs, hx, hr, Result.andThen]
  exact h v' w' h2 h3 h4
theorem wpList_append_at (hgd : o.guard = none) (s x : Operand) (t : TypeId)
    (ho : o.op = .call { callee := .builtin .append, args := #[s, x], argTypes := #[t, t] })
    (base : Nat) (e : TypeId) (i : TypeInfo) (z : Value) (size bytes : Nat) (ht : P.underlying t = some (.slice e)) (hi : P.info? e = some i) (hz : i.zero = some z)
    (hsize : i.size = size) (hby : i.bytes = bytes) (hzs : z.cells.size = size) (hsz : 0 < size)
    (v : Value) (n : Nat) (xs : List Value) (hs : a.eval s = v) (hown : w.ownsRow base e size v n xs)
    (ad : Addr) (m c : Nat) (news : List Value) (hx : a.eval x = .slice (some ad) m c) (hl : news.length = m * size) (hnews : ∀ j u, news[j]? = some u → w.cell? (ad.add j) = some u) (h1 : ∀ u ∈ news, u.oneCell' = true)
    (h63 : n + m ≤ maxLen) (hbytes : (n + m) * bytes ≤ 140737488355328) (hbase : base ≤ w.heap.size)
    (h : ∀ v' w', w'.ownsRow base e size v' (n + m) (xs ++ news) → w.grownBy w' v.ownBlock → (∀ k, v'.ownBlock = some k → v.ownBlock = some k ∨ w.heap.size ≤ k) → wpList P ops Q rest (a.put o.dst v') w') : wpList P ops Q (o :: rest) a w :=
  wpList_plain hgd fun _ hK => wp_append_at s x t ho base e i z size bytes ht hi hz hsize hby hzs hsz v n xs hs hown ad m c news hx hl hnews h1 h63 hbytes hbase fun v' w' h2 h3 h4 => hK _ _ (h v' w' h2 h3 h4)
end
end Go.Proofs.Ytpfehkkfakofaaa.Q

namespace Go.Proofs.Ytpfehkkfakofaaa.Q
section
variable {P : Program} {ops : Array Oper} {Q : Exit → Act → World → Prop} {md : Region.Mode} {S : World → Prop} {z : Nat}
/-- Whatever order is picked from here on, and S holds behind every operation but the last one, z. -/
def wpAnyZ (P : Program) (md : Region.Mode) (ops : Array Oper) (Q : Exit → Act → World → Prop) (S : World → Prop) (z : Nat) : Nat → Array Bool → Act → World → Prop
  | 0, l, a, w => Region.ready md ops l = [] ∧ Q .normal a w
  | fuel + 1, l, a, w => (Region.ready md ops l = [] → Q .normal a w) ∧ ∀ i ∈ Region.ready md ops l, wpOp P ops Q i (fun a' w' => ((l.setIfInBounds i true).getD z false = false → S w') ∧ wpAnyZ P md ops Q S z fuel (l.setIfInBounds i true) a' w') a w
theorem wpAny_of_Z : ∀ (fuel : Nat) (l : Array Bool) (a : Act) (w : World), wpAnyZ P md ops Q S z fuel l a w → wpAny P md ops Q fuel l a w
  | 0, _, _, _, h => h
  | fuel + 1, _, _, _, h => ⟨h.1, fun i hi => wpOp_mono (fun a' w' h' => wpAny_of_Z fuel _ a' w' h'.2) (h.2 i hi)⟩
/-- Operation z waits for number i, or there is none. -/
def zOk (md : Region.Mode) (ops : Array Oper) (z i : Nat) : Bool := match ops[z]? with | none => true | some o => o.after.toList.any fun e => Region.binds md e && e.on == i
theorem zOk_ne {l : Array Bool} {i j : Nat} (hz : zOk md ops z i = true) (hi : i ∈ Region.ready md ops l) (hj : j ∈ Region.ready md ops l) : z ≠ j := by
  rintro rfl
  obtain ⟨-, oj, hoj, hall⟩ := mem_ready.1 hj
  unfold zOk at hz
  rw [hoj] at hz
  simp only [List.any_eq_true, Bool.and_eq_true, beq_iff_eq] at hz
  obtain ⟨e, he, hb, rfl⟩ := hz
  have h1 := hall e (by simpa using he) hb
  have h0 := (mem_ready.1 hi).1
  rcases Nat.lt_or_ge e.on l.size with h' | h'
  · simp [h'] at h0 h1; rw [h0] at h1; cases h1
  · simp [Array.getElem?_eq_none h'] at h1
theorem wpAnyZ_first {i : Nat} {oi : Oper} {v : Value} (hi : ops[i]? = some oi) (hsel : ∀ (j : Nat) (o : Oper) cs b, ops[j]? = some o → o.op ≠ .select cs b)
    (hQ : ∀ c a w, Q (.panic c) (a.put oi.dst v) w → Q (.panic c) a w) (hz : zOk md ops z i = true) (hzi : z ≠ i) :
    ∀ (fuel : Nat) (l : Array Bool) (a : Act) (w : World),
      (∀ j oj, ops[j]? = some oj → j ≠ i → l.getD j true = false → (∀ e ∈ oj.after, Region.binds md e = true → e.on ≠ i) → oi.apart ops oj = true) →
      i ∈ Region.ready md ops l → YieldsIf P ops S oi v a → S w → l.getD z false = false →
      wpAnyZ P md ops Q S z fuel (l.setIfInBounds i true) (a.put oi.dst v) w → wpAnyZ P md ops Q S z (fuel + 1) l a w := by
  intro fuel
  induction fuel with
  | zero =>
    intro l a w _ hr hy hS hlz H
    refine ⟨fun h => (by rw [h] at hr; cases hr), fun j hj => ?_⟩
    by_cases hji : j = i
    · subst hji; exact hy.wpOp hi hS ⟨fun _ => hS, H⟩
    · have := ready_mono hj hji
      rw [H.1] at this
      cases this
  | succ fuel ih =>
    intro l a w hfree hr hy hS hlz H
    refine ⟨fun h => (by rw [h] at hr; cases hr), fun j hj => ?_⟩
    by_cases hji : j = i
    · subst hji; exact hy.wpOp hi hS ⟨fun _ => hS, H⟩
    · have hzj : z ≠ j := zOk_ne hz hr hj
      have h1 := H.2 j (ready_mono hj hji)
      obtain ⟨hjun, oj, hoj, hall⟩ := mem_ready.1 hj
      have hnot : ∀ e ∈ oj.after, Region.binds md e = true → e.on ≠ i := fun e he hb heq => by
        have h1 := hall e he hb
        have h0 := (mem_ready.1 hr).1
        rw [heq] at h1
        rcases Nat.lt_or_ge i l.size with h' | h'
        · simp [h'] at h0 h1; rw [h0] at h1; cases h1
        · simp [Array.getElem?_eq_none h'] at h1
      have h2 := wpOp_putIf hoj (hfree j oj hoj hji hjun hnot) (fun cs b => hsel i oi cs b hi) (fun cs b => hsel j oj cs b hoj) hQ hy h1
      have hfree' : ∀ k ok, ops[k]? = some ok → k ≠ i → (l.setIfInBounds j true).getD k true = false →
          (∀ e ∈ ok.after, Region.binds md e = true → e.on ≠ i) → oi.apart ops ok = true := fun k ok hk hki hun hno => by
        refine hfree k ok hk hki ?_ hno
        by_cases hjk : j = k
        · subst hjk; exact hjun
        · rw [getD_set_ne true hjk] at hun; exact hun
      have hlz' : (l.setIfInBounds j true).getD z false = false := by rw [getD_set_ne false (Ne.symm hzj)]; exact hlz
      refine wpOp_mono (fun a' w' h3 => ?_) h2
      have hS' : S w' := h3.2.1 (by rw [getD_set_ne false (Ne.symm hzj), getD_set_ne false (Ne.symm hzi)]; exact hlz)
      refine ⟨fun _ => hS', ih (l.setIfInBounds j true) a' w' hfree' (ready_mono hr (Ne.symm hji)) h3.1 hS' hlz' ?_⟩
      rw [Array.setIfInBounds_comm _ _ hji]
      exact h3.2.2
/-- The plan: as 'planB', and what is taken first comes before z. -/
def planZ (md : Region.Mode) (ops : Array Oper) (z : Nat) : List (Nat × Bool) → Array Bool → Bool
  | [], l => Region.ready md ops l == []
  | (i, false) :: r, l => Region.free md ops l i && ((Region.ready md ops l).contains i && (zOk md ops z i && (z != i && (l.getD z false == false && planZ md ops z r (l.setIfInBounds i true)))))
  | (i, true) :: r, l => (Region.ready md ops l == [i]) && planZ md ops z r (l.setIfInBounds i true)
/-- A panic does not look at the temporaries. -/
def QOk (Q : Exit → Act → World → Prop) : Prop := ∀ d v c a w, Q (.panic c) (Act.put a d v) w → Q (.panic c) a w
def Sz (P : Program) (md : Region.Mode) (ops : Array Oper) (Q : Exit → Act → World → Prop) (S : World → Prop) (z : Nat) (r : List (Nat × Bool)) (a : Act) (w : World) : Prop :=
  QOk Q → Region.noSelect ops = true → ∀ l, planZ md ops z r l = true → (l.getD z false = false → S w) → wpAnyZ P md ops Q S z r.length l a w
theorem sz_region {id : Nat} {a : Act} {w : World} (z : Nat) (r : List (Nat × Bool)) (hQ : QOk Q) (hm : P.follows .mixedOrders = true) (hc : (Region.noSelect ops && (planZ .any ops z r (Array.replicate ops.size false) && (r.length == ops.size))) = true)
    (hS : S w.drew) (h : Sz P .any ops Q S z r a w.drew) : (Code.region id ops true).wp P Q a w := by
  simp only [Bool.and_eq_true, beq_iff_eq] at hc
  have h2 := h hQ hc.1 _ hc.2.1 (fun _ => hS)
  rw [hc.2.2] at h2
  exact wp_region_any hm (wpAny_of_Z _ _ _ _ h2)
theorem sz_done {a : Act} {w : World} (h : Q .normal a w) : Sz P md ops Q S z [] a w := fun _ _ l hl _ => ⟨by simpa [planZ] using hl, h⟩
theorem sz_off {i : Nat} {r : List (Nat × Bool)} {d : Tmp} {op : Op} {ty : TypeId} {pos : String} {af : Array Edge} {gu : Option (Nat × Bool)} {a : Act} {w : World}
    (ho : ops[i]? = some ⟨some d, op, ty, pos, af, gu⟩) (hw : Region.wanted ⟨some d, op, ty, pos, af, gu⟩ (yielded ops a.tmps) = false) (h : Sz P md ops Q S z r (a.put (some d) undef) w) : Sz P md ops Q S z ((i, false) :: r) a w := by
  intro hQ hs l hl hS
  simp only [planZ, Bool.and_eq_true, beq_iff_eq, bne_iff_ne] at hl
  have hlz : (l.setIfInBounds i true).getD z false = false := by rw [getD_set_ne false (Ne.symm hl.2.2.2.1)]; exact hl.2.2.2.2.1
  exact wpAnyZ_first ho (Region.noSelect_spec hs) (fun c a w => hQ _ _ c a w) hl.2.2.1 hl.2.2.2.1 r.length l a w (Region.free_spec ho hl.1) (by simpa using hl.2.1) (.inr ⟨hw, rfl⟩) (hS hl.2.2.2.2.1) hl.2.2.2.2.1 (h hQ hs _ hl.2.2.2.2.2 (fun _ => hS hl.2.2.2.2.1))
theorem sz_on {i : Nat} {r : List (Nat × Bool)} {d : Tmp} {op : Op} {ty : TypeId} {pos : String} {af : Array Edge} {gu : Option (Nat × Bool)} {a : Act} {w : World} (v : Value)
    (ho : ops[i]? = some ⟨some d, op, ty, pos, af, gu⟩) (hw : Region.wanted ⟨some d, op, ty, pos, af, gu⟩ (yielded ops a.tmps) = true) (hv : ∀ W, S W → (execOp a.eval ⟨some d, op, ty, pos, af, gu⟩).run P W = .ok (.value v) W) (h : Sz P md ops Q S z r (a.put (some d) v) w) : Sz P md ops Q S z ((i, false) :: r) a w := by
  intro hQ hs l hl hS
  simp only [planZ, Bool.and_eq_true, beq_iff_eq, bne_iff_ne] at hl
  exact wpAnyZ_first ho (Region.noSelect_spec hs) (fun c a w => hQ _ _ c a w) hl.2.2.1 hl.2.2.2.1 r.length l a w (Region.free_spec ho hl.1) (by simpa using hl.2.1) (.inl ⟨hw, hv⟩) (hS hl.2.2.2.2.1) hl.2.2.2.2.1 (h hQ hs _ hl.2.2.2.2.2 (fun _ => hS hl.2.2.2.2.1))
theorem sz_one {i : Nat} {r : List (Nat × Bool)} {d : Option Tmp} {op : Op} {ty : TypeId} {pos : String} {af : Array Edge} {gu : Option (Nat × Bool)} {a : Act} {w : World} (ho : ops[i]? = some ⟨d, op, ty, pos, af, gu⟩) (hw : Region.wanted ⟨d, op, ty, pos, af, gu⟩ (yielded ops a.tmps) = true)
    (h : ∀ K : Act → World → Prop, Shut (∀ a' w', (z = i ∨ S w') → Sz P md ops Q S z r a' w' → K a' w') → Oper.wp P ⟨d, op, ty, pos, af, gu⟩ a w K Q) : Sz P md ops Q S z ((i, true) :: r) a w := by
  intro hQ hs l hl hS
  simp only [planZ, Bool.and_eq_true, beq_iff_eq] at hl
  refine ⟨fun h0 => absurd (hl.1.symm.trans h0) (by simp), ?_⟩
  rw [hl.1]
  intro j hj
  obtain rfl := List.mem_singleton.mp hj
  have hj' : j ∈ Region.ready md ops l := by rw [hl.1]; exact hj
  refine wpOp_step ho (fun K' hK => ?_)
  rw [if_pos hw]
  refine h K' (fun a' w' h1 h2 => hK a' w' ?_)
  have hS2 : (l.setIfInBounds j true).getD z false = false → S w' := by
    intro hzf
    rcases h1 with rfl | h1
    · have := (mem_ready.1 hj').1
      exfalso
      rcases Nat.lt_or_ge z l.size with h' | h'
      · simp [h'] at hzf
      · simp [Array.getElem?_eq_none h'] at this
    · exact h1
  exact ⟨hS2, h2 hQ hs _ hl.2 hS2⟩
variable {i j dj : Nat} {r : List (Nat × Bool)} {d : Tmp} {od od' : Option Tmp} {op op' : Op} {ty ty' : TypeId} {pos pos' : String} {af af' : Array Edge} {gu' : Option (Nat × Bool)} {g b : Bool} {T : Array Value} {D : List Deferred} {w : World}
theorem sz_f (T' : Array Value) (ho : ops[i]? = some ⟨some d, op, ty, pos, af, some (j, g)⟩) (hj : ops[j]? = some ⟨some dj, op', ty', pos', af', gu'⟩) (hd : T[dj]? = some (.bool (!g))) (hT : T.setIfInBounds d undef = T') (h : Sz P md ops Q S z r ⟨T', D⟩ w) : Sz P md ops Q S z ((i, false) :: r) ⟨T, D⟩ w := by
  subst hT; exact sz_off ho (no_g hj hd) h
theorem sz_u (T' : Array Value) (ho : ops[i]? = some ⟨some d, op, ty, pos, af, some (j, g)⟩) (hj : ops[j]? = some ⟨some dj, op', ty', pos', af', gu'⟩) (hd : T[dj]? = some undef) (hT : T.setIfInBounds d undef = T') (h : Sz P md ops Q S z r ⟨T', D⟩ w) : Sz P md ops Q S z ((i, false) :: r) ⟨T, D⟩ w := by
  subst hT; exact sz_off ho (no_u hj hd) h
theorem sz_n (T' : Array Value) (v : Value) (ho : ops[i]? = some ⟨some d, op, ty, pos, af, none⟩) (hv : ∀ W, S W → (execOp (Act.eval ⟨T, D⟩) ⟨some d, op, ty, pos, af, none⟩).run P W = .ok (.value v) W) (hT : T.setIfInBounds d v = T') (h : Sz P md ops Q S z r ⟨T', D⟩ w) : Sz P md ops Q S z ((i, false) :: r) ⟨T, D⟩ w := by
  subst hT; exact sz_on v ho yes_n hv h
theorem sz_g (T' : Array Value) (v : Value) (ho : ops[i]? = some ⟨some d, op, ty, pos, af, some (j, g)⟩) (hj : ops[j]? = some ⟨some dj, op', ty', pos', af', gu'⟩) (hd : T[dj]? = some (.bool g)) (hv : ∀ W, S W → (execOp (Act.eval ⟨T, D⟩) ⟨some d, op, ty, pos, af, some (j, g)⟩).run P W = .ok (.value v) W) (hT : T.setIfInBounds d v = T') (h : Sz P md ops Q S z r ⟨T', D⟩ w) : Sz P md ops Q S z ((i, false) :: r) ⟨T, D⟩ w := by
  subst hT; exact sz_on v ho (yes_g hj hd) hv h
theorem sz_1n (ho : ops[i]? = some ⟨od, op, ty, pos, af, none⟩)
    (h : ∀ K : Act → World → Prop, Shut (∀ a' w', (z = i ∨ S w') → Sz P md ops Q S z r a' w' → K a' w') → Oper.wp P ⟨od, op, ty, pos, af, none⟩ ⟨T, D⟩ w K Q) : Sz P md ops Q S z ((i, true) :: r) ⟨T, D⟩ w := sz_one ho yes_n h
end
end Go.Proofs.Ytpfehkkfakofaaa.Q

namespace Go.Proofs.Ytpfehkkfakofaaa.Q
open Go.RowKit Go.Proofs.YtpfehkkfakofaaaW.PrintWords Go.Proofs.YtpfehkkfakofaaaW.PrintLast
set_option linter.unusedVariables false
set_option linter.unusedSimpArgs false
/-- A pattern as a tree. -/
inductive Rx where
  | one (s : List Bool) (b : Int) (plain : Bool)
  | seq (xs : List Rx)
  | alt (xs : List Rx)
  | rep (x : Rx) (op : Int)
mutual
def RepX (w : World) (ok : Nat → Prop) : Rx → Value → Prop
  | .one s b pl, v => s.length = 256 ∧ v = .iface 140 (.agg (oneA s b pl))
  | .rep x op, v => ∃ u, RepX w ok x u ∧ v = .iface 136 (.agg #[u, .int .u8 op])
  | .seq xs, v => ∃ u vs, v = .iface 133 (.agg #[u]) ∧ w.ownsRow 0 116 1 u vs.length vs ∧ (∀ k, u.ownBlock = some k → ok k) ∧ RepXs w ok xs vs
  | .alt xs, v => ∃ u vs, v = .iface 132 (.agg #[u]) ∧ w.ownsRow 0 116 1 u vs.length vs ∧ (∀ k, u.ownBlock = some k → ok k) ∧ RepXs w ok xs vs
def RepXs (w : World) (ok : Nat → Prop) : List Rx → List Value → Prop
  | [], vs => vs = []
  | x :: xs, vs => ∃ u us, vs = u :: us ∧ RepX w ok x u ∧ RepXs w ok xs us
end
mutual
theorem RepX_move {w w1 : World} {ok ok' : Nat → Prop} (hm : ∀ k, ok k → k < w.heap.size → ok' k ∧ w1.heap[k]? = w.heap[k]?) : ∀ (x : Rx) (v : Value), RepX w ok x v → RepX w1 ok' x v
  | .one s b pl, v, h => by unfold RepX at h ⊢; exact h
  | .rep x op, v, h => by
    unfold RepX at h ⊢
    obtain ⟨u, h1, h2⟩ := h
    exact ⟨u, RepX_move hm x u h1, h2⟩
  | .seq xs, v, h => by
    unfold RepX at h ⊢
    obtain ⟨u, vs, h1, h2, h3, h4⟩ := h
    exact ⟨u, vs, h1, own_move h2 (fun k hk => (hm k (h3 k hk) (h2.lt k hk).2).2), fun k hk => (hm k (h3 k hk) (h2.lt k hk).2).1, RepXs_move hm xs vs h4⟩
  | .alt xs, v, h => by
    unfold RepX at h ⊢
    obtain ⟨u, vs, h1, h2, h3, h4⟩ := h
    exact ⟨u, vs, h1, own_move h2 (fun k hk => (hm k (h3 k hk) (h2.lt k hk).2).2), fun k hk => (hm k (h3 k hk) (h2.lt k hk).2).1, RepXs_move hm xs vs h4⟩
theorem RepXs_move {w w1 : World} {ok ok' : Nat → Prop} (hm : ∀ k, ok k → k < w.heap.size → ok' k ∧ w1.heap[k]? = w.heap[k]?) : ∀ (xs : List Rx) (vs : List Value), RepXs w ok xs vs → RepXs w1 ok' xs vs
  | [], vs, h => by unfold RepXs at h ⊢; exact h
  | x :: xs, vs, h => by
    unfold RepXs at h ⊢
    obtain ⟨u, us, h1, h2, h3⟩ := h
    exact ⟨u, us, h1, RepX_move hm x u h2, RepXs_move hm xs us h3⟩
end
theorem RepXs_len {w : World} {ok : Nat → Prop} : ∀ (xs : List Rx) (vs : List Value), RepXs w ok xs vs → vs.length = xs.length
  | [], vs, h => by unfold RepXs at h; subst h; rfl
  | x :: xs, vs, h => by
    unfold RepXs at h
    obtain ⟨u, us, rfl, h2, h3⟩ := h
    simp [RepXs_len xs us h3]
theorem RepXs_app {w : World} {ok : Nat → Prop} : ∀ (xs : List Rx) (vs : List Value) (ys : List Rx) (us : List Value), RepXs w ok xs vs → RepXs w ok ys us → RepXs w ok (xs ++ ys) (vs ++ us)
  | [], vs, ys, us, h, h2 => by unfold RepXs at h; subst h; exact h2
  | x :: xs, vs, ys, us, h, h2 => by
    unfold RepXs at h
    obtain ⟨u, us', rfl, h3, h4⟩ := h
    show RepXs w ok (x :: (xs ++ ys)) (u :: (us' ++ us))
    unfold RepXs
    exact ⟨u, _, rfl, h3, RepXs_app xs us' ys us h4 h2⟩
/-- A list of parts under way: the variable at block x holds v, whose elements are vs. -/
def Acc (w : World) (x T : Nat) (acc : List Rx) (v : Value) (vs : List Value) : Prop :=
  w.heap[x]? = some (.cells #[v] T (0, 0)) ∧ w.ownsRow x 116 1 v vs.length vs ∧ v.ownBlock ≠ some x ∧ RepXs w (fun k => x < k ∧ some k ≠ v.ownBlock) acc vs
theorem acc_move {w w1 : World} {x T : Nat} {acc : List Rx} {v : Value} {vs : List Value} (h : Acc w x T acc v vs) (hm : ∀ k, x ≤ k → k < w.heap.size → w1.heap[k]? = w.heap[k]?) : Acc w1 x T acc v vs := by
  obtain ⟨h1, h2, h3, h4⟩ := h
  exact ⟨(hm x (Nat.le_refl _) (lt_of_some h1)).trans h1, own_move h2 (fun k hk => hm k (h2.lt k hk).1 (h2.lt k hk).2), h3, RepXs_move (fun k hk hl => ⟨hk, hm k (Nat.le_of_lt hk.1) hl⟩) _ _ h4⟩
theorem acc_push {w1 w2 : World} {x T B : Nat} {acc : List Rx} {v v2 : Value} {vs : List Value} {y : Rx} {u : Value} {ok : Nat → Prop}
    (h : Acc w1 x T acc v vs) (hy : RepX w1 ok y u) (hok : ∀ k, ok k → B ≤ k) (hxB : x < B) (hvB : ∀ k, v.ownBlock = some k → k < B)
    (hg : (w1.alloc (.cells #[u] 116)).grownBy w2 v.ownBlock) (ho : w2.ownsRow x 116 1 v2 (vs.length + 1) (vs ++ [u])) (hl : ∀ k, v2.ownBlock = some k → v.ownBlock = some k ∨ (w1.alloc (.cells #[u] 116)).heap.size ≤ k) :
    Acc (w2.setCell ⟨x, 0, none⟩ v2) x T (acc ++ [y]) v2 (vs ++ [u]) := by
  obtain ⟨h1, h2, h3, h4⟩ := h
  have hsz := sz_al w1 (.cells #[u] 116)
  have hb : ∀ k, k < w1.heap.size → some k ≠ v.ownBlock → w2.heap[k]? = w1.heap[k]? := fun k hk hn => (hg.block k (by omega) hn).trans (heap_alloc_old w1 _ hk)
  have hx2 : v2.ownBlock ≠ some x := by
    intro e
    rcases hl x e with h' | h'
    · exact h3 h'
    · have := lt_of_some h1; omega
  refine ⟨bk_put ((hb x (lt_of_some h1) (fun e => h3 e.symm)).trans h1) v2, ?_, hx2, ?_⟩
  · rw [List.length_append]
    exact own_move ho (fun k hk => Below.heap_setCell _ _ _ _ (fun e => hx2 (by rw [hk]; congr 1)))
  · have hk2 : ∀ k, k < w1.heap.size → some k ≠ v.ownBlock → x < k → (x < k ∧ some k ≠ v2.ownBlock) ∧ (w2.setCell ⟨x, 0, none⟩ v2).heap[k]? = w1.heap[k]? := by
      intro k hk hn hx
      refine ⟨⟨hx, fun e => ?_⟩, ?_⟩
      · rcases hl k e.symm with h' | h'
        · exact hn h'.symm
        · omega
      · rw [Below.heap_setCell _ _ _ _ (show k ≠ x by omega)]; exact hb k hk hn
    refine RepXs_app _ _ _ _ (RepXs_move (fun k hk hl' => hk2 k hl' hk.2 hk.1) _ _ h4) ?_
    unfold RepXs
    refine ⟨u, [], rfl, RepX_move (fun k hk hl' => hk2 k hl' (fun e => ?_) (by have := hok k hk; omega)) _ _ hy, by unfold RepXs; rfl⟩
    have := hvB k e.symm; have := hok k hk; omega
def obind {α β : Type} (x : Option (Except (Int × Int) α)) (f : α → Option (Except (Int × Int) β)) : Option (Except (Int × Int) β) :=
  match x with | none => none | some (.error e) => some (.error e) | some (.ok a) => f a
def isOp (c : Int) : Bool := c == 42 || (c == 43 || c == 63)
def opsF : Nat → ByteArray → Int → Rx → Option (Rx × Int)
  | 0, _, _, _ => none
  | k + 1, p, i, x => if i < p.size ∧ isOp (bt p i) = true then opsF k p (i + 1) (.rep x (bt p i)) else some (x, i)
def sgl (c : Int) : Rx := .one (noB.set c.toNat true) c true
mutual
def altL : Nat → ByteArray → Int → Int → List Rx → Option (Except (Int × Int) (Rx × Int))
  | 0, _, _, _, _ => none
  | k + 1, p, i, o, acc => obind (seqL k p i o []) fun x => if x.2 = p.size ∨ bt p x.2 ≠ 124 then some (.ok (.alt (acc ++ [x.1]), x.2)) else altL k p (x.2 + 1) o (acc ++ [x.1])
def seqL : Nat → ByteArray → Int → Int → List Rx → Option (Except (Int × Int) (Rx × Int))
  | 0, _, _, _, _ => none
  | k + 1, p, i, o, acc => if i < p.size ∧ (bt p i ≠ 124 ∧ bt p i ≠ 41) then obind (atomF k p i o) fun x => (opsF k p x.2 x.1).bind fun y => seqL k p y.2 o (acc ++ [y.1]) else some (.ok (.seq acc, i))
def atomF : Nat → ByteArray → Int → Int → Option (Except (Int × Int) (Rx × Int))
  | 0, _, _, _ => none
  | k + 1, p, i, o =>
    if bt p i = 40 then (if o = 20 then some (.error (3, i)) else obind (altL k p (i + 1) (o + 1) []) fun x => if x.2 = p.size then some (.error (2, x.2)) else some (.ok (x.1, x.2 + 1)))
    else if bt p i = 91 then obind (claF k p (i + 1)) fun x => some (.ok (.one x.1 0 false, x.2))
    else if bt p i = 46 then some (.ok (.one (List.replicate 256 true) 0 false, i + 1))
    else if isOp (bt p i) = true ∨ bt p i = 93 then some (.error (2, i))
    else if bt p i = 92 then (if i + 1 = p.size then some (.error (2, i + 1)) else some (.ok (sgl (bt p (i + 1)), i + 2)))
    else some (.ok (sgl (bt p i), i + 1))
end
theorem obind_ok {α β : Type} {x : Option (Except (Int × Int) α)} {f : α → Option (Except (Int × Int) β)} {r : β} (h : obind x f = some (.ok r)) : ∃ a, x = some (.ok a) ∧ f a = some (.ok r) := by
  rcases x with _ | (e | a)
  · cases h
  · cases h
  · exact ⟨a, rfl, h⟩
theorem clsF_ok : ∀ (k : Nat) (p : ByteArray) (i : Int) (f : Bool) (s : List Bool) (r : List Bool × Int), clsF k p i f s = some (.ok r) → 0 ≤ i → i ≤ p.size → s.length = 256 → i ≤ r.2 ∧ r.2 < p.size ∧ r.1.length = 256
  | 0, _, _, _, _, _, h, _, _, _ => by simp [clsF] at h
  | k + 1, p, i, f, s, r, h, h0, h1, hs => by
    have he := bt_end p
    simp only [clsF] at h
    split at h
    · rename_i hc
      cases hch : chF p i with
      | error x => rw [hch] at h; cases h
      | ok x =>
        obtain ⟨lo, j⟩ := x
        obtain ⟨l0, l1, l2, l3⟩ := chF_ok hch h0 h1
        rw [hch] at h
        simp only [] at h
        split at h
        · rename_i hd
          cases hch2 : chF p (j + 1) with
          | error x => rw [hch2] at h; cases h
          | ok x =>
            obtain ⟨hi, m⟩ := x
            obtain ⟨q0, q1, q2, q3⟩ := chF_ok hch2 (by omega) (by omega)
            rw [hch2] at h
            simp only [] at h
            split at h
            · cases h
            · obtain ⟨a, b, c⟩ := clsF_ok k p m false _ r h (by omega) q3 (by unfold setR; rw [setN_len]; exact hs)
              exact ⟨by omega, b, c⟩
        · obtain ⟨a, b, c⟩ := clsF_ok k p j false _ r h (by omega) l3 (by unfold setR; rw [setN_len]; exact hs)
          exact ⟨by omega, b, c⟩
    · rename_i hc
      have h2 : i ≠ (p.size : Int) := fun e => hc (.inr (.inl e))
      cases h
      exact ⟨Int.le_refl _, by show i < _; omega, hs⟩
theorem claF_ok {k : Nat} {p : ByteArray} {i : Int} {r : List Bool × Int} (h : claF k p i = some (.ok r)) (h0 : 0 ≤ i) (h1 : i ≤ p.size) : i < r.2 ∧ r.2 ≤ p.size ∧ r.1.length = 256 := by
  obtain ⟨q, hq, hr⟩ := claF_err h
  cases q with
  | error e => cases hr
  | ok x =>
    simp only [Except.map, Except.ok.injEq] at hr
    subst hr
    have hn : i ≤ notI p i ∧ notI p i ≤ p.size := by
      unfold notI; split
      · rename_i hh; unfold notQ at hh; simp at hh; omega
      · omega
    obtain ⟨a, b, c⟩ := clsF_ok k p _ true noB x hq (by omega) hn.2 noB_len
    exact ⟨by show i < x.2 + 1; omega, by show x.2 + 1 ≤ _; omega, by show (if _ then _ else _ : List Bool).length = 256; split <;> simp [c]⟩
theorem opsF_ok : ∀ (k : Nat) (p : ByteArray) (i : Int) (x : Rx) (r : Rx × Int), opsF k p i x = some r → i ≤ p.size → i ≤ r.2 ∧ r.2 ≤ p.size
  | 0, _, _, _, _, h, _ => by cases h
  | k + 1, p, i, x, r, h, h1 => by
    simp only [opsF] at h
    split at h
    · have := opsF_ok k p (i + 1) _ r h (by omega); omega
    · cases h; exact ⟨Int.le_refl _, h1⟩
theorem par_ok : ∀ k, (∀ p i o acc r, altL k p i o acc = some (.ok r) → 0 ≤ i → i ≤ (p.size : Int) → i ≤ r.2 ∧ r.2 ≤ p.size) ∧ (∀ p i o acc r, seqL k p i o acc = some (.ok r) → 0 ≤ i → i ≤ (p.size : Int) → i ≤ r.2 ∧ r.2 ≤ p.size) ∧ (∀ p i o r, atomF k p i o = some (.ok r) → 0 ≤ i → i < (p.size : Int) → i < r.2 ∧ r.2 ≤ p.size)
  | 0 => ⟨fun _ _ _ _ _ h => (by cases h), fun _ _ _ _ _ h => (by cases h), fun _ _ _ _ h => (by cases h)⟩
  | k + 1 => by
    obtain ⟨ia, is, im⟩ := par_ok k
    refine ⟨fun p i o acc r h h0 h1 => ?_, fun p i o acc r h h0 h1 => ?_, fun p i o r h h0 h1 => ?_⟩
    · simp only [altL] at h
      obtain ⟨x, hx, h⟩ := obind_ok h
      have hb := is _ _ _ _ _ hx h0 h1
      split at h
      · cases h; exact hb
      · have := ia _ _ _ _ _ h (by omega) (by omega)
        omega
    · simp only [seqL] at h
      split at h
      · obtain ⟨x, hx, h⟩ := obind_ok h
        have hb := im _ _ _ _ hx h0 (by omega)
        obtain ⟨y, hy, h⟩ := Option.bind_eq_some_iff.mp h
        have hc := opsF_ok _ _ _ _ _ hy hb.2
        have := is _ _ _ _ _ h (by omega) hc.2
        omega
      · cases h; exact ⟨Int.le_refl _, h1⟩
    · simp only [atomF] at h
      split at h
      · split at h
        · cases h
        · obtain ⟨x, hx, h⟩ := obind_ok h
          have hb := ia _ _ _ _ _ hx (by omega) (by omega)
          split at h
          · cases h
          · cases h; show i < x.2 + 1 ∧ x.2 + 1 ≤ _; omega
      · split at h
        · obtain ⟨x, hx, h⟩ := obind_ok h
          have := claF_ok hx (by omega) (by omega)
          cases h; show i < x.2 ∧ x.2 ≤ _; omega
        · split at h
          · cases h; show i < i + 1 ∧ i + 1 ≤ _; omega
          · split at h
            · cases h
            · split at h
              · split at h
                · cases h
                · cases h; show i < i + 2 ∧ i + 2 ≤ _; omega
              · cases h; show i < i + 1 ∧ i + 1 ≤ _; omega
end Go.Proofs.Ytpfehkkfakofaaa.Q

namespace Go.Proofs.Ytpfehkkfakofaaa.Q
open Go.RowKit Go.Proofs.YtpfehkkfakofaaaW.PrintWords Go.Proofs.YtpfehkkfakofaaaW.PrintLast
set_option linter.unusedVariables false
set_option linter.unusedSimpArgs false
attribute [local go_sem high] zero87
def PostX (g : Nat) (p : ByteArray) (o : Int) (w : World) (r : Except (Int × Int) (Rx × Int)) (e : Ending) (w' : World) : Prop :=
  RP r (fun x => ∃ v, e = .returned v ∧ RepX w' (fun k => w.heap.size ≤ k) x.1 v ∧ St w' g p x.2 o ∧ Bx w.heap.size g w w') (fun c a => e = .panicked (flt c a) ∧ Bx w.heap.size g w w')
def AltC (k : Nat) : Prop := ∀ (g : Nat) (p : ByteArray) (i o : Int) (r : Except (Int × Int) (Rx × Int)), altL k p i o [] = some r → 0 ≤ i → i ≤ p.size → p.size ≤ 200 → 0 ≤ o → o ≤ 20 → ∀ w, St w g p i o → Calls Try.prog 92 #[.pointer (some ⟨g, 0, none⟩)] w (PostX g p o w r)
def SeqC (k : Nat) : Prop := ∀ (g : Nat) (p : ByteArray) (i o : Int) (r : Except (Int × Int) (Rx × Int)), seqL k p i o [] = some r → 0 ≤ i → i ≤ p.size → p.size ≤ 200 → 0 ≤ o → o ≤ 20 → ∀ w, St w g p i o → Calls Try.prog 95 #[.pointer (some ⟨g, 0, none⟩)] w (PostX g p o w r)
def AtomC (k : Nat) : Prop := ∀ (g : Nat) (p : ByteArray) (i o : Int) (r : Except (Int × Int) (Rx × Int)), atomF k p i o = some r → 0 ≤ i → i < p.size → p.size ≤ 200 → 0 ≤ o → o ≤ 20 → ∀ w, St w g p i o → Calls Try.prog 96 #[.pointer (some ⟨g, 0, none⟩)] w (PostX g p o w r)
theorem RepX_bx {w w1 : World} {g : Nat} {x : Rx} {v : Value} {ok : Nat → Prop} (h : RepX w ok x v) (hb : Bx w.heap.size g w w1) (hg : ∀ k, ok k → k ≠ g) : RepX w1 ok x v := RepX_move (fun k hk hl => ⟨hk, hb.block k hl (hg k hk)⟩) _ _ h
set_option maxHeartbeats 4000000 in
set_option maxRecDepth 100000 in
theorem atom_paren (k : Nat) (IH : AltC k) (g : Nat) (p : ByteArray) (i o : Int) (r : Except (Int × Int) (Rx × Int)) (h : atomF (k + 1) p i o = some r) (h0 : 0 ≤ i) (h1 : i < p.size) (hp : p.size ≤ 200) (o0 : 0 ≤ o) (o1 : o ≤ 20) (w : World) (hs : St w g p i o) (e1 : bt p i = 40) :
    Calls Try.prog 96 #[.pointer (some ⟨g, 0, none⟩)] w (PostX g p o w r) := by
  have HS := Aside0.mk hs
  have hgl : g < w.heap.size := lt_of_some hs
  have c0 := hs.c0
  have c1 := hs.c1
  have c2 := hs.c2
  have f1 := hs.fr 1
  have f2 := hs.fr 2
  have kr : K0 (Bx w.heap.size g w w) := ⟨Bx.refl _ _ _⟩
  have hx := bt_at p i
  have HIH := Aside0.mk IH
  have hA := h
  simp only [atomF] at hA
  rw [if_pos e1] at hA
  have d1 : (bt p i == 40) = true := beq_iff_eq.mpr e1
  clear IH h hs e1
  by_cases e2 : o = 20
  · rw [if_pos e2] at hA
    obtain rfl := Option.some.inj hA
    have d2 : (o == 20) = true := beq_iff_eq.mpr e2
    clear e2
    go_enter Try.func96, Try.ntmps96
    go_wp2_with fail
    go_at_call 93
    refine (fail_calls _ _ _ _).mono ?_
    rintro e w' ⟨rfl, rfl⟩
    exact ⟨rfl, rfl, kk⟩
  · rw [if_neg e2] at hA
    have d2 : (o == 20) = false := beq_eq_false_iff_ne.mpr e2
    have o2 : 0 ≤ o + 1 := by omega
    have o3 : o + 1 ≤ 20 := by omega
    have i2 : 0 ≤ i + 1 := by omega
    have i3 : i + 1 ≤ p.size := by omega
    have HA := Aside0.mk hA
    clear e2 hA
    have hs2 : St ((w.setCell ⟨g, 1, none⟩ (.int .i64 (i + 1))).setCell ⟨g, 2, none⟩ (.int .i64 (o + 1))) g p (i + 1) (o + 1) := stt HS
    have hx2 : Bx w.heap.size g w ((w.setCell ⟨g, 1, none⟩ (.int .i64 (i + 1))).setCell ⟨g, 2, none⟩ (.int .i64 (o + 1))) := kk
    have HS2 := Aside0.mk hs2
    have HX2 := Aside0.mk hx2
    clear hs2 hx2
    go_enter Try.func96, Try.ntmps96
    go_wp2_with fail
    go_at_call 92
    cases hq : altL k p (i + 1) (o + 1) [] with
    | none => exfalso; have := HA.out; rw [hq] at this; cases this
    | some q =>
    refine (HIH.out g p (i + 1) (o + 1) q hq i2 i3 hp o2 o3 _ HS2.out).mono ?_
    rintro e w1 hch
    clear c0 c1 c2 f1 f2 kr
    rcases q with ⟨c, a⟩ | ⟨x, j⟩
    · obtain ⟨rfl, hb1⟩ := hch
      have hA := HA.out
      rw [hq] at hA
      obtain rfl := Option.some.inj hA
      exact ⟨rfl, rfl, HX2.out.trans (hb1.lower HX2.out.size)⟩
    · obtain ⟨v, rfl, hrep, hst, hb1⟩ := hch
      have hA := HA.out
      rw [hq] at hA
      simp only [obind] at hA
      have hjb := (par_ok k).1 _ _ _ _ _ hq i2 i3
      have j0 : 0 ≤ j := by have := hjb.1; omega
      have j1 : j ≤ p.size := hjb.2
      have hx3 : Bx w.heap.size g w w1 := HX2.out.trans (hb1.lower HX2.out.size)
      have hrep2 : RepX w1 (fun k => w.heap.size ≤ k) x v := RepX_move (fun k hk hl => ⟨Nat.le_trans HX2.out.size hk, rfl⟩) _ _ hrep
      have HREP := Aside0.mk hrep2
      have kr : K0 (Bx w.heap.size g w w1) := ⟨hx3⟩
      have HST := Aside0.mk hst
      have c0 := hst.c0
      have c1 := hst.c1
      have c2 := hst.c2
      have f1 := hst.fr 1
      have f2 := hst.fr 2
      clear hst hb1 hx3 hrep hrep2 hq HA HX2 HS2 HS hjb
      by_cases e3 : j = p.size
      · rw [if_pos e3] at hA
        obtain rfl := Option.some.inj hA
        have d3 : (j == (p.size : Int)) = true := beq_iff_eq.mpr e3
        clear e3 hA
        go_wp2
        go_quiet (fail)
        go_wp2_with fail
        go_at_call 93
        refine (fail_calls _ _ _ _).mono ?_
        rintro e w' ⟨rfl, rfl⟩
        exact ⟨rfl, rfl, kk⟩
      · rw [if_neg e3] at hA
        obtain rfl := Option.some.inj hA
        have d3 : (j == (p.size : Int)) = false := beq_eq_false_iff_ne.mpr e3
        have e : o + 1 - 1 = o := by omega
        have hEO := Aside0.mk e
        clear e3 hA e
        go_wp2
        go_quiet (fail)
        go_wp2
        go_ret
        have kr1 : K0 (Bx w1.heap.size g w1 w1) := ⟨Bx.refl _ _ _⟩
        refine ⟨v, rfl, RepX_bx (g := g) HREP.out ?_ ?_, ?_, kk⟩
        · exact kk
        · intro k hk e
          have : w.heap.size ≤ k := hk
          omega
        · exact stt HST
set_option maxHeartbeats 4000000 in
set_option maxRecDepth 100000 in
theorem atom_class (k : Nat) (g : Nat) (p : ByteArray) (i o : Int) (r : Except (Int × Int) (Rx × Int)) (h : atomF (k + 1) p i o = some r) (h0 : 0 ≤ i) (h1 : i < p.size) (hp : p.size ≤ 200) (o0 : 0 ≤ o) (o1 : o ≤ 20) (w : World) (hs : St w g p i o) (e1 : bt p i ≠ 40) (e2 : bt p i = 91) :
    Calls Try.prog 96 #[.pointer (some ⟨g, 0, none⟩)] w (PostX g p o w r) := by
  have HS := Aside0.mk hs
  have hgl : g < w.heap.size := lt_of_some hs
  have c0 := hs.c0
  have c1 := hs.c1
  have c2 := hs.c2
  have f1 := hs.fr 1
  have f2 := hs.fr 2
  have kr : K0 (Bx w.heap.size g w w) := ⟨Bx.refl _ _ _⟩
  have hx := bt_at p i
  have hA := h
  simp only [atomF] at hA
  rw [if_neg e1] at hA
  have d1 : (bt p i == 40) = false := beq_eq_false_iff_ne.mpr e1
  clear h hs e1 c2 f2
  rw [if_pos e2] at hA
  have d2 : (bt p i == 91) = true := beq_iff_eq.mpr e2
  have i2 : 0 ≤ i + 1 := by omega
  have i3 : i + 1 ≤ p.size := by omega
  have HA := Aside0.mk hA
  have hs2 : St (w.setCell ⟨g, 1, none⟩ (.int .i64 (i + 1))) g p (i + 1) o := stt HS
  have hx2 : Bx w.heap.size g w (w.setCell ⟨g, 1, none⟩ (.int .i64 (i + 1))) := kk
  have HS2 := Aside0.mk hs2
  have HX2 := Aside0.mk hx2
  clear hs2 hx2 e2 hA
  go_enter Try.func96, Try.ntmps96
  go_wp2_with fail
  go_at_call 98
  cases hq : claF k p (i + 1) with
  | none => exfalso; have := HA.out; rw [hq] at this; cases this
  | some q =>
  refine (class_calls k g p (i + 1) o _ HS2.out i2 i3 hp q hq).mono ?_
  rintro e w1 hch
  have hA := HA.out
  rw [hq] at hA
  rcases q with ⟨c, a⟩ | ⟨s, j⟩
  · obtain ⟨rfl, hb1⟩ := hch
    obtain rfl := Option.some.inj hA
    exact ⟨rfl, rfl, HX2.out.trans (hb1.lower HX2.out.size)⟩
  · obtain ⟨rfl, hst, hb1⟩ := hch
    obtain rfl := Option.some.inj hA
    have hl := (claF_ok hq i2 i3).2.2
    have HL := Aside0.mk hl
    have HB := Aside0.mk (HX2.out.trans (hb1.lower HX2.out.size))
    have HST := Aside0.mk hst
    clear hb1 hst hA hq HA hl
    go_wp2
    go_ret
    exact ⟨_, rfl, by unfold RepX; exact ⟨HL.out, rfl⟩, HST.out, HB.out⟩
/-- The set of all bytes, filled from the first. -/
def fillT (n : Nat) : List Bool := List.replicate n true ++ List.replicate (256 - n) false
theorem fillT_len (n : Nat) (h : n ≤ 256) : (fillT n).length = 256 := by unfold fillT; rw [List.length_append, List.length_replicate, List.length_replicate]; omega
theorem fillT_set (n : Nat) (h : n < 256) : (fillT n).set n true = fillT (n + 1) := by
  unfold fillT
  have e : 256 - n = (256 - (n + 1)) + 1 := by omega
  have := set_fill (List.replicate n true) false true (256 - (n + 1))
  rw [List.length_replicate] at this
  rw [e, this, List.replicate_succ']
theorem fillT_0 : fillT 0 = noB := rfl
theorem fillT_all : fillT 256 = List.replicate 256 true := by unfold fillT; rw [Nat.sub_self]; exact List.append_nil _
set_option maxHeartbeats 4000000 in
set_option maxRecDepth 100000 in
theorem atom_dot (k : Nat) (g : Nat) (p : ByteArray) (i o : Int) (r : Except (Int × Int) (Rx × Int)) (h : atomF (k + 1) p i o = some r) (h0 : 0 ≤ i) (h1 : i < p.size) (hp : p.size ≤ 200) (o0 : 0 ≤ o) (o1 : o ≤ 20) (w : World) (hs : St w g p i o) (e1 : bt p i ≠ 40) (e2 : bt p i ≠ 91) (e3 : bt p i = 46) :
    Calls Try.prog 96 #[.pointer (some ⟨g, 0, none⟩)] w (PostX g p o w r) := by
  have HS := Aside0.mk hs
  have hgl : g < w.heap.size := lt_of_some hs
  have c0 := hs.c0
  have c1 := hs.c1
  have c2 := hs.c2
  have f1 := hs.fr 1
  have f2 := hs.fr 2
  have kr : K0 (Bx w.heap.size g w w) := ⟨Bx.refl _ _ _⟩
  have hx := bt_at p i
  have hA := h
  simp only [atomF] at hA
  rw [if_neg e1, if_neg e2, if_pos e3] at hA
  obtain rfl := Option.some.inj hA
  have d1 : (bt p i == 40) = false := beq_eq_false_iff_ne.mpr e1
  have d2 : (bt p i == 91) = false := beq_eq_false_iff_ne.mpr e2
  have d3 : (bt p i == 46) = true := beq_iff_eq.mpr e3
  clear h hs e1 e2 e3 hA c2 f2
  have hgx : w.heap.size ≠ g := by omega
  have HGX := Aside0.mk hgx
  have i3 : i + 1 ≤ p.size := by omega
  clear hgx
  go_enter Try.func96, Try.ntmps96
  go_upto_region 21 with (fail)
  try rw [show Try.zeroCells140 = oneA noB 0 false from by kernel_rfl]
  have hs2 : St ((w.setCell ⟨g, 1, none⟩ (.int .i64 (i + 1))).alloc (.cells (oneA noB 0 false) 140)) g p (i + 1) o := stt HS
  have hrow : Row ((w.setCell ⟨g, 1, none⟩ (.int .i64 (i + 1))).alloc (.cells (oneA noB 0 false) 140)) w.heap.size (fillT 0) := by
    have h := heap_alloc_new (w.setCell ⟨g, 1, none⟩ (.int .i64 (i + 1))) (.cells (oneA noB 0 false) 140)
    rw [show (w.setCell ⟨g, 1, none⟩ (.int .i64 (i + 1))).heap.size = w.heap.size by simp [World.setCell]] at h
    rw [fillT_0]
    exact h
  have hx2 : Bx w.heap.size g w ((w.setCell ⟨g, 1, none⟩ (.int .i64 (i + 1))).alloc (.cells (oneA noB 0 false) 140)) := kk
  have HS2 := Aside0.mk hs2
  have HR2 := Aside0.mk hrow
  have HX2 := Aside0.mk hx2
  clear hs2 hrow hx2 c0 c1 f1 kr HS
  go_loopg [85] 256 (fun kq v W => ∃ b : Nat, v = .int .i64 b ∧ Aside0 (b + kq = 256) ∧ Aside0 (St W g p (i + 1) o) ∧ Aside0 (Row W w.heap.size (fillT b)) ∧ Aside0 (Bx w.heap.size g w W))
  case atStart => exact ⟨0, rfl, ⟨rfl⟩, HS2, HR2, HX2⟩
  case round =>
    clear HS2 HR2 HX2
    obtain ⟨b, rfl, HE, HST, HROW, HB⟩ := hrel
    have kb : K0 (Bx w.heap.size g w wr) := ⟨HB.out⟩
    cases gk with
    | zero =>
      obtain rfl : b = 256 := by have := HE.out; omega
      have hrow := HROW.out
      rw [fillT_all] at hrow
      have hl : (List.replicate 256 true).length = 256 := List.length_replicate
      have hsz : (Try.prog.info? 140).map (·.size) = some (oneA (List.replicate 256 true) 0 false).size := by rw [oneA_size _ _ _ hl]; exact info87
      have HSZ := Aside0.mk hsz
      have HRW := Aside0.mk hrow
      have HL := Aside0.mk hl
      clear hsz hrow hl HROW
      generalize List.replicate 256 true = al at *
      go_wp2_with (refine wpList_load_row rfl 140 (.tmp 6) rfl w.heap.size rfl 140 (oneA al 0 false) (0, 0) _ HRW.out Try.underlying140 rfl HSZ.out ?_)
      go_ret
      exact ⟨_, rfl, by unfold RepX; exact ⟨HL.out, rfl⟩, HST.out, HB.out⟩
    | succ kq =>
      have hb : b < 256 := by have := HE.out; omega
      have hcl := HROW.out.cell (fillT_len b (Nat.le_of_lt hb)) b hb
      have hfr := HROW.out.fr b
      have kx : K0 (w.heap.size ≤ w.heap.size) := ⟨Nat.le_refl _⟩
      have hset := HROW.out.set (fillT_len b (Nat.le_of_lt hb)) b hb true
      rw [fillT_set b hb] at hset
      have HSET := Aside0.mk hset
      clear hset
      go_wp2
      go_roundg kq
      case measure => omega
      case rel => exact ⟨b + 1, by go_num, ⟨by have := HE.out; omega⟩, ⟨st_far HST.out (Ne.symm HGX.out)⟩, HSET, ⟨kk⟩⟩
set_option maxHeartbeats 4000000 in
set_option maxRecDepth 100000 in
theorem atom_bad42 (k : Nat) (g : Nat) (p : ByteArray) (i o : Int) (r : Except (Int × Int) (Rx × Int)) (h : atomF (k + 1) p i o = some r) (h0 : 0 ≤ i) (h1 : i < p.size) (hp : p.size ≤ 200) (o0 : 0 ≤ o) (o1 : o ≤ 20) (w : World) (hs : St w g p i o) (e1 : bt p i = 42) :
    Calls Try.prog 96 #[.pointer (some ⟨g, 0, none⟩)] w (PostX g p o w r) := by
  have HS := Aside0.mk hs
  have hgl : g < w.heap.size := lt_of_some hs
  have c0 := hs.c0
  have c1 := hs.c1
  have c2 := hs.c2
  have f1 := hs.fr 1
  have f2 := hs.fr 2
  have kr : K0 (Bx w.heap.size g w w) := ⟨Bx.refl _ _ _⟩
  have hx := bt_at p i
  have hA := h
  have hA2 : some (Except.error (2, i)) = some r := by
    simp only [atomF] at hA
    rw [e1] at hA
    exact hA
  obtain rfl := Option.some.inj hA2
  clear h hs hA hA2 c2 f2
  have b40 : (bt p i == 40) = false := by rw [e1]; rfl
  have b91 : (bt p i == 91) = false := by rw [e1]; rfl
  have b46 : (bt p i == 46) = false := by rw [e1]; rfl
  have b42 : (bt p i == 42) = true := by rw [e1]; rfl
  have b43 : (bt p i == 43) = false := by rw [e1]; rfl
  have b63 : (bt p i == 63) = false := by rw [e1]; rfl
  have b93 : (bt p i == 93) = false := by rw [e1]; rfl
  clear e1
  go_enter Try.func96, Try.ntmps96
  go_wp2_with fail
  go_at_call 93
  refine (fail_calls _ _ _ _).mono ?_
  rintro e w' ⟨rfl, rfl⟩
  exact ⟨rfl, rfl, kk⟩
set_option maxHeartbeats 4000000 in
set_option maxRecDepth 100000 in
theorem atom_bad43 (k : Nat) (g : Nat) (p : ByteArray) (i o : Int) (r : Except (Int × Int) (Rx × Int)) (h : atomF (k + 1) p i o = some r) (h0 : 0 ≤ i) (h1 : i < p.size) (hp : p.size ≤ 200) (o0 : 0 ≤ o) (o1 : o ≤ 20) (w : World) (hs : St w g p i o) (e1 : bt p i = 43) :
    Calls Try.prog 96 #[.pointer (some ⟨g, 0, none⟩)] w (PostX g p o w r) := by
  have HS := Aside0.mk hs
  have hgl : g < w.heap.size := lt_of_some hs
  have c0 := hs.c0
  have c1 := hs.c1
  have c2 := hs.c2
  have f1 := hs.fr 1
  have f2 := hs.fr 2
  have kr : K0 (Bx w.heap.size g w w) := ⟨Bx.refl _ _ _⟩
  have hx := bt_at p i
  have hA := h
  have hA2 : some (Except.error (2, i)) = some r := by
    simp only [atomF] at hA
    rw [e1] at hA
    exact hA
  obtain rfl := Option.some.inj hA2
  clear h hs hA hA2 c2 f2
  have b40 : (bt p i == 40) = false := by rw [e1]; rfl
  have b91 : (bt p i == 91) = false := by rw [e1]; rfl
  have b46 : (bt p i == 46) = false := by rw [e1]; rfl
  have b42 : (bt p i == 42) = false := by rw [e1]; rfl
  have b43 : (bt p i == 43) = true := by rw [e1]; rfl
  have b63 : (bt p i == 63) = false := by rw [e1]; rfl
  have b93 : (bt p i == 93) = false := by rw [e1]; rfl
  clear e1
  go_enter Try.func96, Try.ntmps96
  go_wp2_with fail
  go_at_call 93
  refine (fail_calls _ _ _ _).mono ?_
  rintro e w' ⟨rfl, rfl⟩
  exact ⟨rfl, rfl, kk⟩
set_option maxHeartbeats 4000000 in
set_option maxRecDepth 100000 in
theorem atom_bad63 (k : Nat) (g : Nat) (p : ByteArray) (i o : Int) (r : Except (Int × Int) (Rx × Int)) (h : atomF (k + 1) p i o = some r) (h0 : 0 ≤ i) (h1 : i < p.size) (hp : p.size ≤ 200) (o0 : 0 ≤ o) (o1 : o ≤ 20) (w : World) (hs : St w g p i o) (e1 : bt p i = 63) :
    Calls Try.prog 96 #[.pointer (some ⟨g, 0, none⟩)] w (PostX g p o w r) := by
  have HS := Aside0.mk hs
  have hgl : g < w.heap.size := lt_of_some hs
  have c0 := hs.c0
  have c1 := hs.c1
  have c2 := hs.c2
  have f1 := hs.fr 1
  have f2 := hs.fr 2
  have kr : K0 (Bx w.heap.size g w w) := ⟨Bx.refl _ _ _⟩
  have hx := bt_at p i
  have hA := h
  have hA2 : some (Except.error (2, i)) = some r := by
    simp only [atomF] at hA
    rw [e1] at hA
    exact hA
  obtain rfl := Option.some.inj hA2
  clear h hs hA hA2 c2 f2
  have b40 : (bt p i == 40) = false := by rw [e1]; rfl
  have b91 : (bt p i == 91) = false := by rw [e1]; rfl
  have b46 : (bt p i == 46) = false := by rw [e1]; rfl
  have b42 : (bt p i == 42) = false := by rw [e1]; rfl
  have b43 : (bt p i == 43) = false := by rw [e1]; rfl
  have b63 : (bt p i == 63) = true := by rw [e1]; rfl
  have b93 : (bt p i == 93) = false := by rw [e1]; rfl
  clear e1
  go_enter Try.func96, Try.ntmps96
  go_wp2_with fail
  go_at_call 93
  refine (fail_calls _ _ _ _).mono ?_
  rintro e w' ⟨rfl, rfl⟩
  exact ⟨rfl, rfl, kk⟩
set_option maxHeartbeats 4000000 in
set_option maxRecDepth 100000 in
theorem atom_bad93 (k : Nat) (g : Nat) (p : ByteArray) (i o : Int) (r : Except (Int × Int) (Rx × Int)) (h : atomF (k + 1) p i o = some r) (h0 : 0 ≤ i) (h1 : i < p.size) (hp : p.size ≤ 200) (o0 : 0 ≤ o) (o1 : o ≤ 20) (w : World) (hs : St w g p i o) (e1 : bt p i = 93) :
    Calls Try.prog 96 #[.pointer (some ⟨g, 0, none⟩)] w (PostX g p o w r) := by
  have HS := Aside0.mk hs
  have hgl : g < w.heap.size := lt_of_some hs
  have c0 := hs.c0
  have c1 := hs.c1
  have c2 := hs.c2
  have f1 := hs.fr 1
  have f2 := hs.fr 2
  have kr : K0 (Bx w.heap.size g w w) := ⟨Bx.refl _ _ _⟩
  have hx := bt_at p i
  have hA := h
  have hA2 : some (Except.error (2, i)) = some r := by
    simp only [atomF] at hA
    rw [e1] at hA
    exact hA
  obtain rfl := Option.some.inj hA2
  clear h hs hA hA2 c2 f2
  have b40 : (bt p i == 40) = false := by rw [e1]; rfl
  have b91 : (bt p i == 91) = false := by rw [e1]; rfl
  have b46 : (bt p i == 46) = false := by rw [e1]; rfl
  have b42 : (bt p i == 42) = false := by rw [e1]; rfl
  have b43 : (bt p i == 43) = false := by rw [e1]; rfl
  have b63 : (bt p i == 63) = false := by rw [e1]; rfl
  have b93 : (bt p i == 93) = true := by rw [e1]; rfl
  clear e1
  go_enter Try.func96, Try.ntmps96
  go_wp2_with fail
  go_at_call 93
  refine (fail_calls _ _ _ _).mono ?_
  rintro e w' ⟨rfl, rfl⟩
  exact ⟨rfl, rfl, kk⟩
set_option maxHeartbeats 4000000 in
set_option maxRecDepth 100000 in
theorem atom_lit (k : Nat) (g : Nat) (p : ByteArray) (i o : Int) (r : Except (Int × Int) (Rx × Int)) (h : atomF (k + 1) p i o = some r) (h0 : 0 ≤ i) (h1 : i < p.size) (hp : p.size ≤ 200) (o0 : 0 ≤ o) (o1 : o ≤ 20) (w : World) (hs : St w g p i o) (n40 : bt p i ≠ 40) (n91 : bt p i ≠ 91) (n46 : bt p i ≠ 46) (n42 : bt p i ≠ 42) (n43 : bt p i ≠ 43) (n63 : bt p i ≠ 63) (n93 : bt p i ≠ 93) (n92 : bt p i ≠ 92) :
    Calls Try.prog 96 #[.pointer (some ⟨g, 0, none⟩)] w (PostX g p o w r) := by
  have HS := Aside0.mk hs
  have hgl : g < w.heap.size := lt_of_some hs
  have c0 := hs.c0
  have c1 := hs.c1
  have c2 := hs.c2
  have f1 := hs.fr 1
  have f2 := hs.fr 2
  have kr : K0 (Bx w.heap.size g w w) := ⟨Bx.refl _ _ _⟩
  have hx := bt_at p i
  have hop : ¬ (isOp (bt p i) = true ∨ bt p i = 93) := by unfold isOp; simp [n42, n43, n63, n93]
  have hA := h
  simp only [atomF] at hA
  rw [if_neg n40, if_neg n91, if_neg n46, if_neg hop] at hA
  rw [if_neg n92] at hA
  obtain rfl := Option.some.inj hA
  have b40 : (bt p i == 40) = false := beq_eq_false_iff_ne.mpr n40
  have b91 : (bt p i == 91) = false := beq_eq_false_iff_ne.mpr n91
  have b46 : (bt p i == 46) = false := beq_eq_false_iff_ne.mpr n46
  have b42 : (bt p i == 42) = false := beq_eq_false_iff_ne.mpr n42
  have b43 : (bt p i == 43) = false := beq_eq_false_iff_ne.mpr n43
  have b63 : (bt p i == 63) = false := beq_eq_false_iff_ne.mpr n63
  have b93 : (bt p i == 93) = false := beq_eq_false_iff_ne.mpr n93
  have b92 : (bt p i == 92) = false := beq_eq_false_iff_ne.mpr n92
  have br := bt_range p i
  have q0 : 0 ≤ bt p i := br.1
  have q1 : bt p i < 256 := by omega
  clear h hs hop c2 f2 n40 n91 n46 n42 n43 n63 n93
  clear hA n92 br
  have hs2 : St (w.setCell ⟨g, 1, none⟩ (.int .i64 (i + 1))) g p (i + 1) o := stt HS
  have hx2 : Bx w.heap.size g w (w.setCell ⟨g, 1, none⟩ (.int .i64 (i + 1))) := kk
  have HS2 := Aside0.mk hs2
  have HX2 := Aside0.mk hx2
  clear hs2 hx2
  go_enter Try.func96, Try.ntmps96
  go_wp2_with fail
  go_at_call 99
  refine (single_calls _ q0 q1 _).mono ?_
  rintro e w1 ⟨rfl, hb⟩
  have hbx : Bx w.heap.size g w w1 := HX2.out.trans ((Bx.of hb).lower HX2.out.size)
  have hst : St w1 g p (i + 1) o := by have := HS2.out; unfold St at this ⊢; rw [hb.block g (lt_of_some this)]; exact this
  have HBX := Aside0.mk hbx
  have HST := Aside0.mk hst
  have kr : K0 (Bx w.heap.size g w w1) := ⟨hbx⟩
  clear hb hbx hst HS2 HX2
  go_wp2
  go_ret
  exact ⟨_, rfl, by unfold sgl RepX; exact ⟨by rw [List.length_set]; exact noB_len, rfl⟩, HST.out, HBX.out⟩
set_option maxHeartbeats 4000000 in
set_option maxRecDepth 100000 in
theorem atom_esc (k : Nat) (g : Nat) (p : ByteArray) (i o : Int) (r : Except (Int × Int) (Rx × Int)) (h : atomF (k + 1) p i o = some r) (h0 : 0 ≤ i) (h1 : i < p.size) (hp : p.size ≤ 200) (o0 : 0 ≤ o) (o1 : o ≤ 20) (w : World) (hs : St w g p i o) (n40 : bt p i ≠ 40) (n91 : bt p i ≠ 91) (n46 : bt p i ≠ 46) (n42 : bt p i ≠ 42) (n43 : bt p i ≠ 43) (n63 : bt p i ≠ 63) (n93 : bt p i ≠ 93) (n92 : bt p i = 92) :
    Calls Try.prog 96 #[.pointer (some ⟨g, 0, none⟩)] w (PostX g p o w r) := by
  have HS := Aside0.mk hs
  have hgl : g < w.heap.size := lt_of_some hs
  have c0 := hs.c0
  have c1 := hs.c1
  have c2 := hs.c2
  have f1 := hs.fr 1
  have f2 := hs.fr 2
  have kr : K0 (Bx w.heap.size g w w) := ⟨Bx.refl _ _ _⟩
  have hx := bt_at p i
  have hop : ¬ (isOp (bt p i) = true ∨ bt p i = 93) := by unfold isOp; simp [n42, n43, n63, n93]
  have hA := h
  simp only [atomF] at hA
  rw [if_neg n40, if_neg n91, if_neg n46, if_neg hop] at hA
  rw [if_pos n92] at hA
  have b40 : (bt p i == 40) = false := beq_eq_false_iff_ne.mpr n40
  have b91 : (bt p i == 91) = false := beq_eq_false_iff_ne.mpr n91
  have b46 : (bt p i == 46) = false := beq_eq_false_iff_ne.mpr n46
  have b42 : (bt p i == 42) = false := beq_eq_false_iff_ne.mpr n42
  have b43 : (bt p i == 43) = false := beq_eq_false_iff_ne.mpr n43
  have b63 : (bt p i == 63) = false := beq_eq_false_iff_ne.mpr n63
  have b93 : (bt p i == 93) = false := beq_eq_false_iff_ne.mpr n93
  have b92 : (bt p i == 92) = true := beq_iff_eq.mpr n92
  clear h hs hop c2 f2 n40 n91 n46 n42 n43 n63 n93
  clear n92
  by_cases e1 : i + 1 = p.size
  · rw [if_pos e1] at hA
    obtain rfl := Option.some.inj hA
    have d1 : (i + 1 == (p.size : Int)) = true := beq_iff_eq.mpr e1
    clear e1 hA
    go_enter Try.func96, Try.ntmps96
    go_wp2
    go_quiet (fail)
    go_wp2_with fail
    go_at_call 93
    refine (fail_calls _ _ _ _).mono ?_
    rintro e w' ⟨rfl, rfl⟩
    exact ⟨rfl, rfl, kk⟩
  · rw [if_neg e1] at hA
    obtain rfl := Option.some.inj hA
    have d1 : (i + 1 == (p.size : Int)) = false := beq_eq_false_iff_ne.mpr e1
    have hx1 := bt_at p (i + 1)
    have br := bt_range p (i + 1)
    have q0 : 0 ≤ bt p (i + 1) := br.1
    have q1 : bt p (i + 1) < 256 := by omega
    have i3 : i + 1 < p.size := by omega
    clear e1 hA br
    go_enter Try.func96, Try.ntmps96
    go_wp2
    go_quiet (fail)
    rename_i nq
    go_wp2_with fail
    go_at_call 99
    have hs2 : St (((w.setCell ⟨g, 1, none⟩ (.int .i64 (i + 1))).drewN nq).setCell ⟨g, 1, none⟩ (.int .i64 (i + 1 + 1))) g p (i + 1 + 1) o := stt HS
    have hx2 : Bx w.heap.size g w (((w.setCell ⟨g, 1, none⟩ (.int .i64 (i + 1))).drewN nq).setCell ⟨g, 1, none⟩ (.int .i64 (i + 1 + 1))) := kk
    have e2 : i + 1 + 1 = i + 2 := by omega
    have HE2 := Aside0.mk e2
    have HS2 := Aside0.mk hs2
    have HX2 := Aside0.mk hx2
    clear hs2 hx2 e2
    refine (single_calls _ q0 q1 _).mono ?_
    rintro e w1 ⟨rfl, hb⟩
    have hbx : Bx w.heap.size g w w1 := HX2.out.trans ((Bx.of hb).lower HX2.out.size)
    have hst : St w1 g p (i + 1 + 1) o := by have := HS2.out; unfold St at this ⊢; rw [hb.block g (lt_of_some this)]; exact this
    have HBX := Aside0.mk hbx
    have HST := Aside0.mk hst
    have kr : K0 (Bx w.heap.size g w w1) := ⟨hbx⟩
    clear hb hbx hst HS2 HX2
    go_wp2
    go_ret
    exact ⟨_, rfl, by unfold sgl RepX; exact ⟨by rw [List.length_set]; exact noB_len, rfl⟩, by have h := HST.out; rwa [HE2.out] at h, HBX.out⟩
theorem atom_calls (k : Nat) (IH : AltC k) : AtomC (k + 1) := by
  intro g p i o r h h0 h1 hp o0 o1 w hs
  by_cases n40 : bt p i = 40
  · exact atom_paren k IH g p i o r h h0 h1 hp o0 o1 w hs n40
  by_cases n91 : bt p i = 91
  · exact atom_class k g p i o r h h0 h1 hp o0 o1 w hs n40 n91
  by_cases n46 : bt p i = 46
  · exact atom_dot k g p i o r h h0 h1 hp o0 o1 w hs n40 n91 n46
  by_cases n42 : bt p i = 42
  · exact atom_bad42 k g p i o r h h0 h1 hp o0 o1 w hs n42
  by_cases n43 : bt p i = 43
  · exact atom_bad43 k g p i o r h h0 h1 hp o0 o1 w hs n43
  by_cases n63 : bt p i = 63
  · exact atom_bad63 k g p i o r h h0 h1 hp o0 o1 w hs n63
  by_cases n93 : bt p i = 93
  · exact atom_bad93 k g p i o r h h0 h1 hp o0 o1 w hs n93
  by_cases n92 : bt p i = 92
  · exact atom_esc k g p i o r h h0 h1 hp o0 o1 w hs n40 n91 n46 n42 n43 n63 n93 n92
  · exact atom_lit k g p i o r h h0 h1 hp o0 o1 w hs n40 n91 n46 n42 n43 n63 n93 n92
end Go.Proofs.Ytpfehkkfakofaaa.Q

namespace Go.Proofs
open Go.Shelf
def Try.lays137_ren : Go.Shelf.Ren := ⟨fun | 137 => 97 | 217 => 100 | 266 => 102 | n => n, fun | 9 => 9 | 5 => 5 | 3 => 3 | n => n, fun | n => n⟩
theorem Try.lays137 : Go.Proofs.Lays.n137 Try.prog Try.lays137_ren := {
  mixed := by kernel_rfl
  f137 := Try.func97.trans (congrArg some (by kernel_rfl))
  f217 := Try.func100.trans (congrArg some (by kernel_rfl))
  f266 := Try.func102.trans (congrArg some (by kernel_rfl))
  t3 := Try.underlying3
  a3 := Try.isAgg3
  z3 := Try.sizeOf3
  v3 := Try.zeroValue3
  t5 := Try.underlying5
  a5 := Try.isAgg5
  z5 := Try.sizeOf5
  v5 := Try.zeroValue5
  t9 := Try.underlying9
  a9 := Try.isAgg9
  z9 := Try.sizeOf9
  v9 := Try.zeroValue9 }
open Go.RowKit in
/-- strings.IndexByte: "IndexByte returns the index of the first instance of c in s, or -1 if c is not present in s.": IT RETURNS 'Lib.indexByte s c'; the world is as it was. (LAID: no walk: one application.) -/
theorem Try.strings_IndexByte (s : ByteArray) (c : Int) (w : World) :
    Calls Try.prog 97 #[.string s, .int .u8 c] w fun e w' => e = .returned (.int .i64 (Lib.indexByte s.data.toList c.toNat.toUInt8)) ∧ w' = w := Any.strings_IndexByte Try.lays137 s c w
end Go.Proofs

namespace Go.Proofs.Ytpfehkkfakofaaa.Q
open Go.RowKit Go.Proofs.YtpfehkkfakofaaaW.PrintWords Go.Proofs.YtpfehkkfakofaaaW.PrintLast
set_option linter.unusedVariables false
set_option linter.unusedSimpArgs false
def ibx (c : Int) : Int := Lib.indexByte [42, 43, 63] c.toNat.toUInt8
theorem ibx_all : (List.range 256).all (fun n => decide (0 ≤ ibx (n : Int)) == isOp (n : Int)) = true := by kernel_rfl
theorem ibx_op (c : Int) (h0 : 0 ≤ c) (h1 : c ≤ 255) : decide (0 ≤ ibx c) = isOp c := by
  have h := List.all_eq_true.mp ibx_all c.toNat (List.mem_range.mpr (by omega))
  rw [show ((c.toNat : Nat) : Int) = c by omega] at h
  exact beq_iff_eq.mp h
theorem ib_calls (c : Int) (w : World) : Calls Try.prog 97 #[.string ⟨#[42, 43, 63]⟩, .int .u8 c] w fun e w' => e = .returned (.int .i64 (ibx c)) ∧ w' = w := Try.strings_IndexByte _ _ _
def seqB (p : ByteArray) (j : Int) : Bool := decide (j < p.size) && (bt p j != 124 && bt p j != 41)
theorem seqB_iff (p : ByteArray) (j : Int) : (seqB p j = true) ↔ (j < p.size ∧ (bt p j ≠ 124 ∧ bt p j ≠ 41)) := by unfold seqB; simp
def opB (p : ByteArray) (j : Int) : Bool := decide (j < p.size) && isOp (bt p j)
theorem opB_iff (p : ByteArray) (j : Int) : (opB p j = true) ↔ (j < p.size ∧ isOp (bt p j) = true) := by unfold opB; simp
theorem info40 : (Try.prog.info? 116).map (fun i => (i.zero, i.size, i.bytes)) = some (some .nilIface, 1, 16) := by kernel_rfl
theorem RepX_iface {w : World} {ok : Nat → Prop} {x : Rx} {v : Value} (h : RepX w ok x v) : ∃ T u, v = .iface T u := by
  cases x <;> unfold RepX at h
  · exact ⟨_, _, h.2⟩
  · obtain ⟨u, vs, rfl, -⟩ := h; exact ⟨_, _, rfl⟩
  · obtain ⟨u, vs, rfl, -⟩ := h; exact ⟨_, _, rfl⟩
  · obtain ⟨u, -, rfl⟩ := h; exact ⟨_, _, rfl⟩
theorem Acc.cell {w : World} {x T : Nat} {acc : List Rx} {v : Value} {vs : List Value} (h : Acc w x T acc v vs) : w.cell? ⟨x, 0, none⟩ = some v := cell_of_row _ x 0 _ T _ h.1
theorem acc_bx {w w1 : World} {g x T : Nat} {acc : List Rx} {v : Value} {vs : List Value} (h : Acc w x T acc v vs) (hb : Bx w.heap.size g w w1) (hg : g < x) : Acc w1 x T acc v vs := acc_move h fun k hk hl => hb.block k hl (by omega)
theorem own_sl {w : World} {b : Nat} {e : TypeId} {size n : Nat} {v : Value} {xs : List Value} (h : w.ownsRow b e size v n xs) : ∃ A m c, v = .slice A m c := by
  rcases h.2 with ⟨rfl, _⟩ | ⟨g, cap, cur, rfl, _⟩ <;> exact ⟨_, _, _, rfl⟩
theorem acc_grown {w1 w2 : World} {x T : Nat} {acc : List Rx} {v : Value} {vs : List Value} {o : Obj} (h : Acc w1 x T acc v vs) (hg : (w1.alloc o).grownBy w2 v.ownBlock) : w2.heap[x]? = some (.cells #[v] T (0, 0)) := by
  have hl := lt_of_some h.1
  exact ((hg.block x (by rw [sz_al]; omega) (fun e => h.2.2.1 e.symm)).trans (heap_alloc_old w1 _ hl)).trans h.1
theorem st_grown {w1 w2 : World} {g : Nat} {p : ByteArray} {i o' : Int} {o : Obj} {row : Option Nat} (h : St w1 g p i o') (hg : (w1.alloc o).grownBy w2 row) (hr : some g ≠ row) : St w2 g p i o' := by
  have hl := lt_of_some h
  exact ((hg.block g (by rw [sz_al]; omega) hr).trans (heap_alloc_old w1 _ hl)).trans h
theorem bx_grown {w w1 w2 : World} {g : Nat} {o : Obj} {row : Option Nat} (h : Bx w.heap.size g w w1) (hg : (w1.alloc o).grownBy w2 row) (hr : ∀ k, row = some k → w.heap.size ≤ k) : Bx w.heap.size g w w2 :=
  h.trans ⟨hg.os, hg.tape, hg.output, by have := hg.size; rw [sz_al] at this; omega, fun k hk _ => (hg.block k (by rw [sz_al]; have := h.size; omega) (fun e => by have := hr k e.symm; omega)).trans (heap_alloc_old w1 _ (by have := h.size; omega))⟩
theorem bk_cell {w : World} {x T : Nat} {v : Value} (h : w.heap[x]? = some (.cells #[v] T (0, 0))) : w.cell? ⟨x, 0, none⟩ = some v := cell_of_row _ x 0 _ T _ h
theorem bk_fr {w : World} {x T : Nat} {cs : Array Value} (h : w.heap[x]? = some (.cells cs T (0, 0))) (j : Nat) : w.frozen? ⟨x, j, none⟩ = false := by unfold World.frozen?; rw [h]; simp
theorem acc_nil (w : World) (T : Nat) : Acc (w.alloc (.cells #[.slice none 0 0] T)) w.heap.size T [] (.slice none 0 0) [] :=
  ⟨heap_alloc_new _ _, World.ownsRow_nil _ _ _ _, by simp [Value.ownBlock], by unfold RepXs; rfl⟩
set_option maxHeartbeats 4000000 in
set_option maxRecDepth 100000 in
theorem seq_calls (k : Nat) (IH : ∀ m, m < k → AtomC m) : SeqC k := by
  intro g p i o r h h0 h1 hp o0 o1 w hs
  have HIH := Aside0.mk IH
  have H := Aside0.mk h
  have HS := Aside0.mk hs
  have hgl : g < w.heap.size := lt_of_some hs
  have HGL := Aside0.mk hgl
  have kr : K0 (Bx w.heap.size g w w) := ⟨Bx.refl _ _ _⟩
  obtain ⟨i0, hi, hz0, hz1, hz2⟩ := info_parts info40
  have HI := Aside0.mk hi
  have HZ := Aside0.mk (And.intro hz0 (And.intro hz1 hz2))
  clear IH h hs hi hz0 hz1 hz2 hgl
  go_enter Try.func95, Try.ntmps95
  go_upto_region 2 with (fail)
  have HS2 := Aside0.mk (show St (w.alloc (.cells #[.slice none 0 0] 133)) g p i o from stt HS)
  have HA2 := Aside0.mk (acc_nil w 133)
  have HX2 := Aside0.mk (show Bx w.heap.size g w (w.alloc (.cells #[.slice none 0 0] 133)) from kk)
  clear kr HS
  go_loopg [4] k (fun kq v4 W => ∃ (j : Int) (acc : List Rx) (v : Value) (vs : List Value), Aside0 (seqL kq p j o acc = some r) ∧ Aside0 (kq ≤ k) ∧ Aside0 (0 ≤ j ∧ j ≤ p.size ∧ acc.length ≤ j) ∧ Aside0 (St W g p j o) ∧ Aside0 (Acc W w.heap.size 133 acc v vs) ∧ Aside0 (Bx w.heap.size g w W))
  case atStart => exact ⟨i, [], _, [], H, ⟨Nat.le_refl _⟩, ⟨h0, h1, h0⟩, HS2, HA2, HX2⟩
  case round =>
    clear HS2 HA2 HX2 H
    obtain ⟨j, acc, v, vs, HA, HK, HN, HST, HACC, HB⟩ := hrel
    cases gk with
    | zero => exact absurd HA.out (by simp [seqL])
    | succ k1 =>
    have c0 := HST.out.c0
    have c1 := HST.out.c1
    have f1 := HST.out.fr 1
    have j0 := HN.out.1
    have j1 := HN.out.2.1
    have kw : K0 (Bx w.heap.size g w wr) := ⟨HB.out⟩
    have hx := bt_at p j
    go_upto_region 2 with (fail)
    go_cut [38] (fun v38 wc => v38 = .bool (seqB p j) ∧ ∃ m, wc = wr.drewN m)
    case first =>
      by_cases e1 : j < p.size
      · have d1 : decide (j < (p.size : Int)) = true := decide_eq_true e1
        by_cases e2 : bt p j = 124
        · have hc : seqB p j = false := by unfold seqB; rw [e2]; simp
          have d2 : (bt p j != 124) = false := bne_eq_false_iff_eq.mpr e2
          have HC := Aside0.mk hc
          clear hc e2
          go_quiet (fail)
          go_wp2
          go_meet
          case rel => exact ⟨by rw [HC.out], _, rfl⟩
        · have d2 : (bt p j != 124) = true := bne_iff_ne.mpr e2
          have hc : seqB p j = (bt p j != 41) := by unfold seqB; rw [d1, d2]; rfl
          have HC := Aside0.mk hc
          clear hc e2
          go_quiet (fail)
          go_wp2
          go_meet
          case rel => exact ⟨by rw [HC.out], _, rfl⟩
      · have d1 : decide (j < (p.size : Int)) = false := decide_eq_false e1
        have hc : seqB p j = false := by unfold seqB; rw [d1]; rfl
        have HC := Aside0.mk hc
        clear hc
        go_quiet (fail)
        go_wp2
        go_meet
        case rel => exact ⟨by rw [HC.out], _, rfl⟩
    case rest =>
      obtain ⟨rfl, m, rfl⟩ := hcut
      have hA := HA.out
      simp only [seqL, ← seqB_iff] at hA
      have hacc : Acc (wr.drewN m) w.heap.size 133 acc v vs := acc_move HACC.out (fun _ _ _ => rfl)
      have HACC2 := Aside0.mk hacc
      have HST2 := Aside0.mk (st_drewN (n := m) HST.out)
      have HB2 := Aside0.mk (show Bx w.heap.size g w (wr.drewN m) from kk)
      clear hacc HACC HST HB kw c0 c1 f1 hx
      generalize hsb : seqB p j = sb at hA ⊢
      have HSB := Aside0.mk hsb
      clear hsb HA
      generalize wr.drewN m = wx at *
      have HGL := HGL
      cases sb
      · obtain rfl := Option.some.inj hA
        have hcl := HACC2.out.cell
        clear hA
        go_wp2
        go_ret
        refine ⟨_, rfl, ?_, HST2.out, HB2.out⟩
        unfold RepX
        exact ⟨v, vs, rfl, own_lower HACC2.out.2.1 (Nat.zero_le _), fun k hk => (HACC2.out.2.1.lt k hk).1, RepXs_move (fun k hk hl => ⟨Nat.le_of_lt hk.1, rfl⟩) _ _ HACC2.out.2.2.2⟩
      · rw [if_pos rfl] at hA
        have HA3 := Aside0.mk hA
        have j2 : j < p.size := by have := (seqB_iff p j).mp HSB.out; exact this.1
        clear hA
        go_wp2_with fail
        go_at_call 96
        cases hq : atomF k1 p j o with
        | none => exfalso; have := HA3.out; rw [hq] at this; cases this
        | some q =>
        have hk1 : k1 < k := by have := HK.out; omega
        refine (HIH.out k1 hk1 g p j o q hq j0 j2 hp o0 o1 _ HST2.out).mono ?_
        rintro e w1 hch
        rcases q with ⟨c, a⟩ | ⟨y0, j3⟩
        · obtain ⟨rfl, hb1⟩ := hch
          have hA := HA3.out
          rw [hq] at hA
          obtain rfl := Option.some.inj hA
          exact ⟨rfl, rfl, HB2.out.trans (hb1.lower HB2.out.size)⟩
        · obtain ⟨v0, rfl, hrep, hst, hb1⟩ := hch
          have hA := HA3.out
          rw [hq] at hA
          simp only [obind] at hA
          obtain ⟨yf, hof, hA⟩ := Option.bind_eq_some_iff.mp hA
          have hjb := (par_ok k1).2.2 _ _ _ _ hq j0 j2
          have HOF := Aside0.mk hof
          have HA4 := Aside0.mk hA
          have HJ := Aside0.mk hjb
          have hfb := opsF_ok _ _ _ _ _ hof hjb.2
          have HF := Aside0.mk hfb
          have HACC := Aside0.mk (acc_bx HACC2.out hb1 HGL.out)
          have hxB : w.heap.size < wx.heap.size := lt_of_some HACC2.out.1
          have HXB := Aside0.mk hxB
          have hvB := fun k hk => (HACC2.out.2.1.lt k hk).2
          have HVB := Aside0.mk hvB
          have HST := Aside0.mk hst
          have HREP := Aside0.mk hrep
          have HB := Aside0.mk (HB2.out.trans (hb1.lower HB2.out.size))
          clear hof hA hjb hfb hxB hvB hst hrep hb1 hq HA3 HACC2 HST2 HB2
          obtain ⟨T0, u0, rfl⟩ := RepX_iface HREP.out
          have kw : K0 (Bx w.heap.size g w w1) := ⟨HB.out⟩
          go_upto_region 4 with (fail)
          go_loopg [4] k1 (fun kq v4 W => ∃ (j2 : Int) (y : Rx) (T4 : TypeId) (u4 : Value), v4 = .iface T4 u4 ∧ Aside0 (opsF kq p j2 y = some yf) ∧ Aside0 (0 ≤ j2 ∧ j2 ≤ p.size) ∧ Aside0 (St W g p j2 o) ∧ Aside0 (RepX W (fun k => wx.heap.size ≤ k) y (.iface T4 u4)) ∧ Aside0 (Acc W w.heap.size 133 acc v vs) ∧ Aside0 (Bx w.heap.size g w W))
          case atStart => exact ⟨j3, y0, T0, u0, rfl, HOF, ⟨by have := HJ.out.1; omega, HJ.out.2⟩, HST, HREP, HACC, HB⟩
          case round =>
            clear HST HREP HACC HB HOF kw
            obtain ⟨j2, y, T4, u4, rfl, HO, HN2, HST, HREP, HACC, HB⟩ := hrel
            cases gk with
            | zero => exact absurd HO.out (by simp [opsF])
            | succ k2 =>
            have c0 := HST.out.c0
            have c1 := HST.out.c1
            have f1 := HST.out.fr 1
            have m0 := HN2.out.1
            have m1 := HN2.out.2
            have kw : K0 (Bx w.heap.size g w wr) := ⟨HB.out⟩
            have hx := bt_at p j2
            go_upto_region 4 with (fail)
            go_cut [63] (fun v63 wc => v63 = .bool (opB p j2) ∧ ∃ m, wc = wr.drewN m)
            case first =>
              by_cases e1 : j2 < p.size
              · have d1 : decide (j2 < (p.size : Int)) = true := decide_eq_true e1
                have br := bt_range p j2
                have hib := ibx_op (bt p j2) br.1 br.2
                have hc : opB p j2 = isOp (bt p j2) := by unfold opB; rw [d1]; rfl
                have HC := Aside0.mk (hc.trans hib.symm)
                clear hc br hib
                go_quiet ((go_at_call 97; exact Calls.quiet_of_same (ib_calls _ _)))
                go_wp2
                go_meet
                case rel => exact ⟨by rw [HC.out], _, rfl⟩
              · have d1 : decide (j2 < (p.size : Int)) = false := decide_eq_false e1
                have hc : opB p j2 = false := by unfold opB; rw [d1]; rfl
                have HC := Aside0.mk hc
                clear hc
                go_quiet (fail)
                go_wp2
                go_meet
                case rel => exact ⟨by rw [HC.out], _, rfl⟩
            case rest =>
              obtain ⟨rfl, m, rfl⟩ := hcut
              have hO := HO.out
              simp only [opsF, ← opB_iff] at hO
              have HACC2 := Aside0.mk (show Acc (wr.drewN m) w.heap.size 133 acc v vs from acc_move HACC.out (fun _ _ _ => rfl))
              have HREP2 := Aside0.mk (show RepX (wr.drewN m) (fun k => wx.heap.size ≤ k) y (.iface T4 u4) from RepX_move (w := wr) (w1 := wr.drewN m) (fun k hk hl => ⟨hk, rfl⟩) _ _ HREP.out)
              have HST2 := Aside0.mk (st_drewN (n := m) HST.out)
              have HB2 := Aside0.mk (show Bx w.heap.size g w (wr.drewN m) from kk)
              clear HACC HREP HST HB kw c0 c1 f1 hx
              generalize hsb : opB p j2 = sb at hO ⊢
              have HSB2 := Aside0.mk hsb
              clear hsb HO
              generalize wr.drewN m = wy at *
              have kw : K0 (Bx w.heap.size g w wy) := ⟨HB2.out⟩
              have c0 := HST2.out.c0
              have c1 := HST2.out.c1
              have f1 := HST2.out.fr 1
              have hx := bt_at p j2
              cases sb
              · obtain rfl := Option.some.inj hO
                have hcl := HACC2.out.cell
                clear hO
                have hvl := RepXs_len _ _ HACC2.out.2.2.2
                have hln := HN.out.2.2
                have hc1 : ∀ j u, [Value.iface T4 u4][j]? = some u → (wy.alloc (.cells #[.iface T4 u4] 116)).cell? ((⟨wy.heap.size, 0, none⟩ : Addr).add j) = some u := by
                  intro j' u' hu
                  rcases j' with _ | j'
                  · cases hu; exact cell_of_row _ wy.heap.size 0 _ 116 _ (heap_alloc_new _ _)
                  · cases hu
                have hc2 : ∀ u ∈ [Value.iface T4 u4], u.oneCell' = true := by
                  intro u' hu
                  obtain rfl := List.mem_singleton.mp hu
                  rfl
                have hc3 : vs.length + 1 ≤ maxLen := by simp only [maxLen]; omega
                have hc4 : (vs.length + 1) * 16 ≤ 140737488355328 := by omega
                have hc5 : w.heap.size ≤ (wy.alloc (.cells #[.iface T4 u4] 116)).heap.size := by rw [sz_al]; have := lt_of_some HACC2.out.1; omega
                have HC1 := Aside0.mk hc1
                have HC2 := Aside0.mk hc2
                have HC3 := Aside0.mk hc3
                have HC4 := Aside0.mk hc4
                have HC5 := Aside0.mk hc5
                have HVL := Aside0.mk hvl
                clear hc1 hc2 hc3 hc4 hc5 hvl hln c0 c1 f1 hx
                go_upto_region 7 with (fail)
                go_wp2_with (at_builtin; refine wpList_append_at rfl (.tmp 84) (.tmp 86) 130 rfl w.heap.size 116 i0 .nilIface 1 16 Try.underlying130 HI.out HZ.out.1 HZ.out.2.1 HZ.out.2.2 rfl (by decide) v vs.length vs rfl (HACC2.out.2.1.alloc _) ⟨wy.heap.size, 0, none⟩ 1 1 [.iface T4 u4] rfl rfl HC1.out HC2.out HC3.out HC4.out HC5.out ?_; intro v2 w2 hown hgr hloc; obtain ⟨A2, n2, c2', rfl⟩ := own_sl hown; have hx2 := acc_grown HACC2.out hgr; have hcl2 := bk_cell hx2; have hfr2 := bk_fr hx2 0; have HG := Aside0.mk (And.intro hown (And.intro hgr hloc)); clear hown hgr hloc hx2)
                go_roundg k1
                case measure => omega
                case rel =>
                  have hpush := acc_push HACC2.out HREP2.out (fun k hk => hk) HXB.out HVB.out HG.out.2.1 HG.out.1 HG.out.2.2
                  have hst : St w2 g p j2 o := st_grown HST2.out HG.out.2.1 (fun e => by have := (HACC2.out.2.1.lt g e.symm).1; have := HGL.out; omega)
                  have hbx : Bx w.heap.size g w w2 := bx_grown HB2.out HG.out.2.1 (fun k hk => (HACC2.out.2.1.lt k hk).1)
                  have kz : K0 (Bx w.heap.size g w w2) := ⟨hbx⟩
                  have kx : K0 (w.heap.size ≤ w.heap.size) := ⟨Nat.le_refl _⟩
                  have hf := HF.out
                  have hj := HJ.out
                  have hn := HN.out
                  exact ⟨j2, acc ++ [y], _, _, HA4, ⟨by have := HK.out; omega⟩, ⟨m0, m1, by rw [List.length_append]; simp only [List.length_cons, List.length_nil]; omega⟩, ⟨st_far hst (by have := HGL.out; omega)⟩, ⟨hpush⟩, ⟨kk⟩⟩
              · rw [if_pos rfl] at hO
                have HO2 := Aside0.mk hO
                have m2 : j2 < p.size := by have := (opB_iff p j2).mp HSB2.out; exact this.1
                clear hO
                go_wp2
                go_quiet (fail)
                go_wp2
                go_roundg k2
                case measure => omega
                case rel =>
                  refine ⟨j2 + 1, .rep y (bt p j2), _, _, rfl, HO2, ⟨by omega, by omega⟩, ⟨stt HST2⟩, ⟨?_⟩, ⟨?_⟩, ⟨kk⟩⟩
                  · unfold RepX
                    refine ⟨_, RepX_move (fun k hk hl => ⟨hk, ?_⟩) _ _ HREP2.out, rfl⟩
                    have hne : k ≠ g := by have := HGL.out; have := HXB.out; omega
                    exact Below.heap_setCell _ _ _ _ hne
                  · exact acc_move HACC2.out (fun k hk hl => Below.heap_setCell _ _ _ _ (by have := HGL.out; show k ≠ g; omega))
end Go.Proofs.Ytpfehkkfakofaaa.Q

namespace Go.Proofs.Ytpfehkkfakofaaa.Q
open Go.RowKit Go.Proofs.YtpfehkkfakofaaaW.PrintWords Go.Proofs.YtpfehkkfakofaaaW.PrintLast
set_option linter.unusedVariables false
set_option linter.unusedSimpArgs false
def altB (p : ByteArray) (j : Int) : Bool := decide (j = p.size) || (bt p j != 124)
theorem altB_iff (p : ByteArray) (j : Int) : (altB p j = true) ↔ (j = p.size ∨ bt p j ≠ 124) := by unfold altB; simp
set_option maxHeartbeats 4000000 in
set_option maxRecDepth 100000 in
theorem alt_calls (k : Nat) (IH : ∀ m, m < k → SeqC m) : AltC k := by
  intro g p i o r h h0 h1 hp o0 o1 w hs
  have HIH := Aside0.mk IH
  have H := Aside0.mk h
  have HS := Aside0.mk hs
  have hgl : g < w.heap.size := lt_of_some hs
  have HGL := Aside0.mk hgl
  have kr : K0 (Bx w.heap.size g w w) := ⟨Bx.refl _ _ _⟩
  obtain ⟨i0, hi, hz0, hz1, hz2⟩ := info_parts info40
  have HI := Aside0.mk hi
  have HZ := Aside0.mk (And.intro hz0 (And.intro hz1 hz2))
  clear IH h hs hi hz0 hz1 hz2 hgl
  go_enter Try.func92, Try.ntmps92
  go_upto_region 2 with (fail)
  have HS2 := Aside0.mk (show St (w.alloc (.cells #[.slice none 0 0] 132)) g p i o from stt HS)
  have HA2 := Aside0.mk (acc_nil w 132)
  have HX2 := Aside0.mk (show Bx w.heap.size g w (w.alloc (.cells #[.slice none 0 0] 132)) from kk)
  clear kr HS
  go_loopg [4] k (fun kq v4 W => ∃ (j : Int) (acc : List Rx) (v : Value) (vs : List Value), Aside0 (altL kq p j o acc = some r) ∧ Aside0 (kq ≤ k) ∧ Aside0 (0 ≤ j ∧ j ≤ p.size ∧ acc.length ≤ j) ∧ Aside0 (St W g p j o) ∧ Aside0 (Acc W w.heap.size 132 acc v vs) ∧ Aside0 (Bx w.heap.size g w W))
  case atStart => exact ⟨i, [], _, [], H, ⟨Nat.le_refl _⟩, ⟨h0, h1, h0⟩, HS2, HA2, HX2⟩
  case round =>
    clear HS2 HA2 HX2 H
    obtain ⟨j, acc, v, vs, HA, HK, HN, HST, HACC, HB⟩ := hrel
    cases gk with
    | zero => exact absurd HA.out (by simp [altL])
    | succ k1 =>
    have j0 := HN.out.1
    have j1 := HN.out.2.1
    have kw : K0 (Bx w.heap.size g w wr) := ⟨HB.out⟩
    have hA := HA.out
    simp only [altL] at hA
    have HA2 := Aside0.mk hA
    clear hA HA
    cases hq : seqL k1 p j o [] with
    | none => exfalso; have := HA2.out; rw [hq] at this; cases this
    | some q =>
    have HQ := Aside0.mk hq
    have hcl := HACC.out.cell
    have HXB := Aside0.mk (lt_of_some HACC.out.1)
    have HVB := Aside0.mk (fun k hk => (HACC.out.2.1.lt k hk).2)
    have HVL := Aside0.mk (RepXs_len _ _ HACC.out.2.2.2)
    have hst := st_drew HST.out
    have hacc : Acc wr.drew w.heap.size 132 acc v vs := acc_move HACC.out (fun _ _ _ => rfl)
    have hbx : Bx w.heap.size g w wr.drew := kk
    have HACC2 := Aside0.mk hacc
    have HST2 := Aside0.mk hst
    have HB2 := Aside0.mk hbx
    have hk1 : k1 < k := by have := HK.out; omega
    have HK1 := Aside0.mk hk1
    clear hacc hst hbx hk1 hq HACC HST HB kw
    go_upto_region 2 with (fail)
    go_cut [] (fun wc => ∃ (y : Rx) (j2 : Int) (v2 : Value) (vs2 : List Value), q = .ok (y, j2) ∧ Aside0 (St wc g p j2 o) ∧ Aside0 (Acc wc w.heap.size 132 (acc ++ [y]) v2 vs2) ∧ Aside0 (Bx w.heap.size g w wc))
    case first =>
      refine sz_region (S := fun W => W.cell? ⟨w.heap.size, 0, none⟩ = some v) 7 [(0, false), (1, false), (2, false), (3, true), (4, true), (5, true), (6, false), (7, true)] (by intro d v c a w h; cases d <;> exact h) (by kernel_rfl) (by kernel_rfl) HACC2.out.cell ?_
      repeat (first | (refine sz_n ?_ ?_ rfl ?_ ?_ ?_; rotate_left 2; (intro W hW; go_simp; first | done | with_reducible rfl); (simp only [List.setIfInBounds_toArray, List.set_cons_zero, List.set_cons_succ]; try rfl)) | (refine sz_g ?_ ?_ rfl rfl rfl ?_ ?_ ?_; rotate_left 2; (intro W hW; go_simp; first | done | with_reducible rfl); (simp only [List.setIfInBounds_toArray, List.set_cons_zero, List.set_cons_succ]; try rfl)) | (refine sz_f ?_ rfl rfl rfl ?_ ?_; rotate_left; (simp only [List.setIfInBounds_toArray, List.set_cons_zero, List.set_cons_succ]; try rfl)) | (refine sz_u ?_ rfl rfl rfl ?_ ?_; rotate_left; (simp only [List.setIfInBounds_toArray, List.set_cons_zero, List.set_cons_succ]; try rfl)))
      refine sz_1n rfl (fun K hK => ?_)
      go_simp
      go_at_call 95
      refine (HIH.out k1 HK1.out g p j o q HQ.out j0 j1 hp o0 o1 _ HST2.out).mono ?_
      rintro e w1 hch
      rcases q with ⟨c, a⟩ | ⟨y, j2⟩
      · obtain ⟨rfl, hb1⟩ := hch
        have hA := HA2.out
        rw [HQ.out] at hA
        obtain rfl := Option.some.inj hA
        exact ⟨rfl, rfl, HB2.out.trans (hb1.lower HB2.out.size)⟩
      · obtain ⟨v1, rfl, hrep, hst, hb1⟩ := hch
        obtain ⟨T1, u1, rfl⟩ := RepX_iface hrep
        have hacc := acc_bx HACC2.out hb1 HGL.out
        have HREP := Aside0.mk hrep
        have HST := Aside0.mk hst
        have HACC := Aside0.mk hacc
        have HB := Aside0.mk (HB2.out.trans (hb1.lower HB2.out.size))
        have hcl1 := hacc.cell
        clear hrep hst hacc hb1 HST2 HACC2 HB2 hcl
        go_wp2_with fail
        refine hK.out _ _ (.inr hcl1) ?_
        refine sz_1n rfl (fun K hK => ?_)
        go_simp
        have hvl := HVL.out
        have hln := HN.out.2.2
        have hc1 : ∀ j u, [Value.iface T1 u1][j]? = some u → (w1.alloc (.cells #[.iface T1 u1] 116)).cell? ((⟨w1.heap.size, 0, none⟩ : Addr).add j) = some u := by
          intro j' u' hu
          rcases j' with _ | j'
          · cases hu; exact cell_of_row _ w1.heap.size 0 _ 116 _ (heap_alloc_new _ _)
          · cases hu
        have hc2 : ∀ u ∈ [Value.iface T1 u1], u.oneCell' = true := by
          intro u' hu
          obtain rfl := List.mem_singleton.mp hu
          rfl
        have hc3 : vs.length + 1 ≤ maxLen := by simp only [maxLen]; omega
        have hc4 : (vs.length + 1) * 16 ≤ 140737488355328 := by omega
        have hc5 : w.heap.size ≤ (w1.alloc (.cells #[.iface T1 u1] 116)).heap.size := by rw [sz_al]; have := lt_of_some HACC.out.1; omega
        refine hK.out _ _ (.inr ((cell_of_row _ w.heap.size 0 _ 132 _ ((heap_alloc_old w1 _ (lt_of_some HACC.out.1)).trans HACC.out.1)))) ?_
        refine sz_1n rfl (fun K hK => ?_)
        refine wp_append_at (.tmp 5) (.tmp 8) 130 rfl w.heap.size 116 i0 .nilIface 1 16 Try.underlying130 HI.out HZ.out.1 HZ.out.2.1 HZ.out.2.2 rfl (by decide) v vs.length vs rfl (HACC.out.2.1.alloc _) ⟨w1.heap.size, 0, none⟩ 1 1 [.iface T1 u1] rfl rfl hc1 hc2 hc3 hc4 hc5 ?_
        intro v2 w2 hown hgr hloc
        obtain ⟨A2, n2, c2', rfl⟩ := own_sl hown
        have hx2 := acc_grown HACC.out hgr
        have hcl2 := bk_cell hx2
        have hfr2 := bk_fr hx2 0
        have HG := Aside0.mk (And.intro hown (And.intro hgr hloc))
        clear hown hgr hloc hx2 hc1 hc2 hc3 hc4 hc5 hvl hln hcl1
        refine hK.out _ _ (.inr hcl2) ?_
        simp only [Act.put, List.setIfInBounds_toArray, List.set_cons_zero, List.set_cons_succ]
        repeat (first | (refine sz_n ?_ ?_ rfl ?_ ?_ ?_; rotate_left 2; (intro W hW; go_simp; first | done | with_reducible rfl); (simp only [List.setIfInBounds_toArray, List.set_cons_zero, List.set_cons_succ]; try rfl)) | (refine sz_g ?_ ?_ rfl rfl rfl ?_ ?_ ?_; rotate_left 2; (intro W hW; go_simp; first | done | with_reducible rfl); (simp only [List.setIfInBounds_toArray, List.set_cons_zero, List.set_cons_succ]; try rfl)) | (refine sz_f ?_ rfl rfl rfl ?_ ?_; rotate_left; (simp only [List.setIfInBounds_toArray, List.set_cons_zero, List.set_cons_succ]; try rfl)) | (refine sz_u ?_ rfl rfl rfl ?_ ?_; rotate_left; (simp only [List.setIfInBounds_toArray, List.set_cons_zero, List.set_cons_succ]; try rfl)))
        refine sz_1n rfl (fun K hK => ?_)
        go_simp
        refine hK.out _ _ (.inl rfl) ?_
        refine sz_done ?_
        go_wp2_with fail
        have hpush := acc_push HACC.out HREP.out (fun k hk => hk) HXB.out HVB.out HG.out.2.1 HG.out.1 HG.out.2.2
        have hst : St w2 g p j2 o := st_grown HST.out HG.out.2.1 (fun e => by have := (HACC.out.2.1.lt g e.symm).1; have := HGL.out; omega)
        have hbx : Bx w.heap.size g w w2 := bx_grown HB.out HG.out.2.1 (fun k hk => (HACC.out.2.1.lt k hk).1)
        have kz : K0 (Bx w.heap.size g w w2) := ⟨hbx⟩
        have kx : K0 (w.heap.size ≤ w.heap.size) := ⟨Nat.le_refl _⟩
        have HP := Aside0.mk hpush
        have HS3 := Aside0.mk hst
        clear hpush hst hbx
        go_meet
        case rel => exact ⟨y, j2, _, _, rfl, ⟨st_far HS3.out (by have := HGL.out; omega)⟩, HP, ⟨kk⟩⟩
    case rest =>
      clear HB2 HST2 HACC2 hcl
      obtain ⟨y, j2, v2, vs2, rfl, HST, HACC, HB⟩ := hcut
      have hA := HA2.out
      rw [HQ.out] at hA
      simp only [obind, ← altB_iff] at hA
      have hjb := (par_ok k1).2.1 _ _ _ _ _ HQ.out j0 j1
      have m0 : 0 ≤ j2 := by have := hjb.1; omega
      have m1 : j2 ≤ p.size := hjb.2
      have HJ := Aside0.mk hjb
      have c0 := HST.out.c0
      have c1 := HST.out.c1
      have f1 := HST.out.fr 1
      have hx := bt_at p j2
      have kw : K0 (Bx w.heap.size g w wc) := ⟨HB.out⟩
      generalize hab : altB p j2 = ab at hA
      have HAB := Aside0.mk hab
      have HA3 := Aside0.mk hA
      clear hA HA2 hab hjb
      go_upto_region 3 with (fail)
      go_cut [32] (fun v32 wd => v32 = .bool ab ∧ ∃ m, wd = wc.drewN m)
      case first =>
        by_cases e1 : j2 = p.size
        · have d1 : (j2 == (p.size : Int)) = true := beq_iff_eq.mpr e1
          have hc : altB p j2 = true := by unfold altB; rw [decide_eq_true e1]; rfl
          have HC := Aside0.mk (HAB.out.symm.trans hc)
          clear hc e1
          go_quiet (fail)
          go_wp2
          go_meet
          case rel => exact ⟨by rw [HC.out], _, rfl⟩
        · have d1 : (j2 == (p.size : Int)) = false := beq_eq_false_iff_ne.mpr e1
          have hc : altB p j2 = (bt p j2 != 124) := by unfold altB; rw [decide_eq_false e1]; rfl
          have HC := Aside0.mk (HAB.out.symm.trans hc)
          have m2 : j2 < p.size := by omega
          clear hc e1
          go_quiet (fail)
          go_wp2
          go_meet
          case rel => exact ⟨by rw [HC.out], _, rfl⟩
      case rest =>
        obtain ⟨rfl, m, rfl⟩ := hcut
        have hacc : Acc (wc.drewN m) w.heap.size 132 (acc ++ [y]) v2 vs2 := acc_move HACC.out (fun _ _ _ => rfl)
        have hst := st_drewN (n := m) HST.out
        have hbx : Bx w.heap.size g w (wc.drewN m) := kk
        have HACC2 := Aside0.mk hacc
        have HST2 := Aside0.mk hst
        have HB2 := Aside0.mk hbx
        have hA := HA3.out
        clear hacc hst hbx HACC HST HB kw HA3 c0 c1 f1
        generalize wc.drewN m = wy at *
        have c0 := HST2.out.c0
        have c1 := HST2.out.c1
        have f1 := HST2.out.fr 1
        have kw : K0 (Bx w.heap.size g w wy) := ⟨HB2.out⟩
        cases ab
        · rw [if_neg (by simp)] at hA
          have HA4 := Aside0.mk hA
          have hne : j2 ≠ (p.size : Int) ∧ bt p j2 = 124 := by have := HAB.out; unfold altB at this; simpa using this
          have m2 : j2 < p.size := by have := hne.1; omega
          clear hA hne
          go_wp2
          go_roundg k1
          case measure => omega
          case rel => 
            have hj := HJ.out
            have hn := HN.out
            exact ⟨j2 + 1, acc ++ [y], v2, vs2, HA4, ⟨by have := HK.out; omega⟩, ⟨by omega, by omega, by rw [List.length_append]; simp only [List.length_cons, List.length_nil]; omega⟩, ⟨stt HST2⟩, ⟨acc_move HACC2.out (fun k hk hl => Below.heap_setCell _ _ _ _ (by have := HGL.out; show k ≠ g; omega))⟩, ⟨kk⟩⟩
        · rw [if_pos rfl] at hA
          obtain rfl := Option.some.inj hA
          have hcl := HACC2.out.cell
          clear hA
          go_wp2
          go_ret
          refine ⟨_, rfl, ?_, HST2.out, HB2.out⟩
          unfold RepX
          exact ⟨v2, vs2, rfl, own_lower HACC2.out.2.1 (Nat.zero_le _), fun k hk => (HACC2.out.2.1.lt k hk).1, RepXs_move (fun k hk hl => ⟨Nat.le_of_lt hk.1, rfl⟩) _ _ HACC2.out.2.2.2⟩
theorem all_calls : ∀ k, (∀ m, m ≤ k → SeqC m) ∧ (∀ m, m ≤ k → AltC m) ∧ (∀ m, m ≤ k → AtomC m)
  | 0 => by
    have hm : ∀ m, m ≤ 0 → AtomC m := by
      intro m hm
      obtain rfl : m = 0 := by omega
      intro g p i o r h
      cases h
    have hs : ∀ m, m ≤ 0 → SeqC m := fun m hm' => seq_calls m fun q hq => (by omega)
    exact ⟨hs, fun m hm' => alt_calls m fun q hq => (by omega), hm⟩
  | k + 1 => by
    obtain ⟨is, ia, im⟩ := all_calls k
    refine ⟨fun m hm => seq_calls m fun q hq => im q (by omega), fun m hm => alt_calls m fun q hq => is q (by omega), fun m hm => ?_⟩
    rcases Nat.lt_or_ge k m with h | h
    · obtain rfl : m = k + 1 := by omega
      exact atom_calls k (ia k (Nat.le_refl _))
    · exact im m h
theorem alt_any (k : Nat) : AltC k := (all_calls k).2.1 k (Nat.le_refl _)
end Go.Proofs.Ytpfehkkfakofaaa.Q

namespace Go.Proofs.Ytpfehkkfakofaaa.Q
open Go.RowKit Go.Proofs.YtpfehkkfakofaaaW.PrintWords Go.Proofs.YtpfehkkfakofaaaW.PrintLast
set_option linter.unusedVariables false
set_option linter.unusedSimpArgs false
def patF (k : Nat) (p : ByteArray) : Option (Except (Int × Int) Rx) := obind (altL k p 0 0 []) fun x => if x.2 < p.size then some (.error (2, x.2)) else some (.ok x.1)
def VarX (w : World) (bx : Nat) (v : Value) : Prop := w.heap[bx]? = some (.cells #[v] 116 (0, 0))
def IsI (v : Value) : Prop := v = .nilIface ∨ ∃ T u, v = .iface T u
set_option maxHeartbeats 4000000 in
set_option maxRecDepth 100000 in
theorem pat1_calls (k : Nat) (p : ByteArray) (r : Except (Int × Int) Rx) (h : patF k p = some r) (hp : p.size ≤ 200) (bp bx : Nat) (u : Value) (w : World) (hb : w.cell? ⟨bp, 0, none⟩ = some (.string p)) (hx : VarX w bx u) (hne : bp ≠ bx) (hu : IsI u) :
    Calls Try.prog 91 #[.pointer (some ⟨bp, 0, none⟩), .pointer (some ⟨bx, 0, none⟩)] w fun e w' => RP r (fun x => ∃ v, e = .returned (.tuple #[]) ∧ VarX w' bx v ∧ RepX w' (fun k => w.heap.size ≤ k) x v ∧ Bx w.heap.size bx w w') (fun c a => e = .panicked (flt c a) ∧ (∃ v, VarX w' bx v ∧ IsI v) ∧ Bx w.heap.size bx w w') := by
  have HX := Aside0.mk hx
  have HXL := Aside0.mk (lt_of_some hx)
  have HBL := Aside0.mk (World.block_lt_of_cell? w _ hb)
  have HNE := Aside0.mk hne
  have HU := Aside0.mk hu
  have hs : St (w.alloc (.cells #[.string p, .int .i64 0, .int .i64 0] 125)) w.heap.size p 0 0 := heap_alloc_new _ _
  have HS := Aside0.mk hs
  have h' := h
  unfold patF at h'
  cases hq : altL k p 0 0 [] with
  | none => rw [hq] at h'; cases h'
  | some q =>
  rw [hq] at h'
  have HQ := Aside0.mk hq
  have HR := Aside0.mk h'
  have HBP := Aside0.mk hb
  clear hx hne hs h h' hq hu
  go_enter Try.func91, Try.ntmps91
  go_wp2_with fail
  go_at_call 92
  refine (alt_any k w.heap.size p 0 0 q HQ.out (Int.le_refl _) (by omega) hp (by omega) (by omega) _ HS.out).mono ?_
  rintro e w1 hch
  have hal : Below w.heap.size w (w.alloc (.cells #[.string p, .int .i64 0, .int .i64 0] 125)) := (Below.refl _ _).alloc (Nat.le_refl _) _
  have hsz := sz_al w (.cells #[.string p, .int .i64 0, .int .i64 0] 125)
  rcases q with ⟨c, a⟩ | ⟨x, j⟩
  · obtain ⟨rfl, hb1⟩ := hch
    obtain rfl := Option.some.inj HR.out
    have hbl := hb1.below (C := w.heap.size) (by rw [hsz]; omega) (Nat.le_refl _)
    exact ⟨rfl, rfl, ⟨u, (hbl.block bx HXL.out).trans ((hal.block bx HXL.out).trans HX.out), HU.out⟩, Bx.of (hal.trans hbl)⟩
  · obtain ⟨v, rfl, hrep, hst, hb1⟩ := hch
    have hbl := hb1.below (C := w.heap.size) (by rw [hsz]; omega) (Nat.le_refl _)
    have hB := hal.trans hbl
    have hvx : VarX w1 bx u := (hB.block bx HXL.out).trans HX.out
    have hcb : w1.cell? ⟨bp, 0, none⟩ = some (.string p) := (hB.cell (p := ⟨bp, 0, none⟩) HBL.out).trans HBP.out
    obtain ⟨T0, u0, rfl⟩ := RepX_iface hrep
    have hjb := (par_ok k).1 _ _ _ _ _ HQ.out (Int.le_refl _) (by omega)
    have j0 : 0 ≤ j := hjb.1
    have j1 : j ≤ p.size := hjb.2
    have hcx := bk_cell hvx
    have hfx := bk_fr hvx 0
    have hgx : w.heap.size ≠ bx := by have := HXL.out; omega
    have hpx : ¬ bp = bx := HNE.out
    have c1 := hst.c1
    have hr := HR.out
    simp only [obind] at hr
    have hst2 : St (w1.setCell ⟨bx, 0, none⟩ (.iface T0 u0)) w.heap.size p j 0 := st_far hst hgx
    have hvx2 : VarX (w1.setCell ⟨bx, 0, none⟩ (.iface T0 u0)) bx (.iface T0 u0) := bk_put hvx _
    have hbx2 : Bx w.heap.size bx w (w1.setCell ⟨bx, 0, none⟩ (.iface T0 u0)) := (Bx.of hB).trans ⟨rfl, rfl, rfl, by simp [World.setCell], fun k _ hk => Below.heap_setCell _ _ _ _ hk⟩
    have hcb2 : (w1.setCell ⟨bx, 0, none⟩ (.iface T0 u0)).cell? ⟨bp, 0, none⟩ = some (.string p) := by
      unfold World.cell?; rw [Below.heap_setCell _ _ _ _ hpx]; exact hcb
    have hrep2 : RepX (w1.setCell ⟨bx, 0, none⟩ (.iface T0 u0)) (fun k => w.heap.size ≤ k) x (.iface T0 u0) := RepX_move (fun k hk hl => ⟨by rw [hsz] at hk; omega, Below.heap_setCell _ _ _ _ (by have := HXL.out; show k ≠ bx; omega)⟩) _ _ hrep
    have c12 := hst2.c1
    have HF := Aside0.mk (And.intro hvx2 (And.intro hbx2 hrep2))
    clear hst2 hvx2 hbx2 hrep2 hst hrep hvx hB hbl hb1 hal hjb HR HX HS c1 hcb
    by_cases e1 : j < p.size
    · rw [if_pos e1] at hr
      obtain rfl := Option.some.inj hr
      have d1 : decide (j < (p.size : Int)) = true := decide_eq_true e1
      clear hr e1
      go_upto_region 2 with (fail)
      generalize w1.setCell ⟨bx, 0, none⟩ (.iface T0 u0) = w2 at *
      go_wp2_with fail
      go_at_call 93
      refine (fail_calls _ _ _ _).mono ?_
      rintro e w' ⟨rfl, rfl⟩
      exact ⟨rfl, rfl, ⟨_, HF.out.1, .inr ⟨_, _, rfl⟩⟩, HF.out.2.1⟩
    · rw [if_neg e1] at hr
      obtain rfl := Option.some.inj hr
      have d1 : decide (j < (p.size : Int)) = false := decide_eq_false e1
      clear hr e1
      go_upto_region 2 with (fail)
      generalize w1.setCell ⟨bx, 0, none⟩ (.iface T0 u0) = w2 at *
      go_wp2
      go_end0
      exact ⟨_, rfl, HF.out.1, HF.out.2.2, HF.out.2.1⟩
end Go.Proofs.Ytpfehkkfakofaaa.Q

namespace Go.Proofs.Ytpfehkkfakofaaa.Q
open Go.RowKit Go.Proofs.YtpfehkkfakofaaaW.PrintWords Go.Proofs.YtpfehkkfakofaaaW.PrintLast
set_option linter.unusedVariables false
set_option linter.unusedSimpArgs false
def Fv (w : World) (b : Nat) (c a : Int) : Prop := w.heap[b]? = some (.cells #[.int .i64 c, .int .i64 a] 118 (0, 0))
theorem catch_idle (b : Nat) (w : World) :
    CallsD Try.prog 94 #[.pointer (some ⟨b, 0, none⟩)] .returning w fun e u' w' => e = .returned (.tuple #[]) ∧ u' = .returning ∧ w' = w := by
  refine callsD_of_wpS Try.func94 rfl fun c₀ cs hu => ?_
  apply wpS_seq
  apply wpS_region
  simp [wpOpsS, go_sem, recoverD, hu, Try.ntmps94, Exit.thenS]
  apply wpS_seq
  apply wpS_region
  simp [wpOpsS, go_sem, Exit.thenS]
  refine wpS_cond (t := false) (by simp [Act.eval, Array.replicate]) ?_
  simp only [Bool.false_eq_true, if_false]
  refine wpS_of_wp (wp_skip ?_)
  cases c₀
  simp_all [bodyPostS, results, Try.results94]
theorem run_ta (v : Value) (w : World) : (Instr.typeAssert (.iface 118 v) 20 118 true).run Try.prog w = .ok (.tuple #[v, .bool true]) w := by kernel_rfl
set_option maxHeartbeats 1000000 in
set_option maxRecDepth 100000 in
theorem catch_some (b : Nat) (c a c0 a0 : Int) (w : World) (hb : Fv w b c0 a0) :
    CallsD Try.prog 94 #[.pointer (some ⟨b, 0, none⟩)] (.panicking (flt c a)) w fun e u' w' => e = .returned (.tuple #[]) ∧ u' = .panicking [{ v := .iface 118 (.agg #[.int .i64 c, .int .i64 a]), recovered := true }] ∧ Fv w' b c a ∧ Bx w.heap.size b w w' := by
  refine callsD_of_wpS Try.func94 rfl fun c₀ cs hu => ?_
  apply wpS_seq
  apply wpS_region
  simp [wpOpsS, go_sem, recoverD, hu, flt, Try.ntmps94, Exit.thenS]
  apply wpS_seq
  apply wpS_region
  simp [wpOpsS, go_sem, Exit.thenS]
  refine wpS_cond (t := true) (by simp [Act.eval, Array.replicate]) ?_
  simp only [if_true]
  refine wpS_of_wp (wp_mono (Q := fun e a' w' => e = .normal ∧ a'.defers = [] ∧ Fv w' b c a ∧ Bx w.heap.size b w w') ?_ ?_)
  · have hbl := lt_of_some hb
    have kr : K0 (Bx w.heap.size b w w) := ⟨Bx.refl _ _ _⟩
    have HB := Aside0.mk hb
    have hc0 : w.cell? ⟨b, 0, none⟩ = some (.int .i64 c0) := cell_of_row _ b 0 _ 118 _ hb
    have hc1 : w.cell? ⟨b, 1, none⟩ = some (.int .i64 a0) := cell_of_row _ b 1 _ 118 _ hb
    have hf0 := bk_fr hb 0
    have hf1 := bk_fr hb 1
    clear hb
    have hta := run_ta
    simp only [Array.replicate_succ, Array.replicate_zero, List.push_toArray, List.append_toArray, List.nil_append, List.cons_append, List.setIfInBounds_toArray, List.set_cons_zero, List.set_cons_succ]
    go_wp2
    refine ⟨?_, kk⟩
    have h1 := bk_put (j := 0) HB.out (.int .i64 c)
    have h2 := bk_put (j := 1) h1 (.int .i64 a)
    have h3 := blk_alloc h2 (.cells #[.int .i64 c, .int .i64 a] 118)
    simpa [Fv] using h3
  · rintro e a' w' ⟨rfl, hd, hf, hx⟩
    cases c₀
    simp [bodyPostS, results, Try.results94, hd, hf, hx]
def CaughtP (w : World) (bx : Nat) (r : Except (Int × Int) Rx) (e : Ending) (w' : World) : Prop :=
  RP r (fun x => ∃ v, e = .returned (.agg #[.int .i64 0, .int .i64 0]) ∧ VarX w' bx v ∧ RepX w' (fun k => w.heap.size ≤ k) x v ∧ Bx w.heap.size bx w w') (fun c a => ∃ v, e = .returned (.agg #[.int .i64 c, .int .i64 a]) ∧ VarX w' bx v ∧ Bx w.heap.size bx w w' ∧ IsI v)
set_option maxHeartbeats 4000000 in
set_option maxRecDepth 100000 in
theorem caught_calls (k : Nat) (p : ByteArray) (r : Except (Int × Int) Rx) (h : patF k p = some r) (hp : p.size ≤ 200) (bp bx : Nat) (u : Value) (w : World) (hb : w.cell? ⟨bp, 0, none⟩ = some (.string p)) (hx : VarX w bx u) (hne : bp ≠ bx) (hu : IsI u) :
    Calls Try.prog 90 #[.func (.func 91) #[] #[.pointer (some ⟨bp, 0, none⟩), .pointer (some ⟨bx, 0, none⟩)]] w (CaughtP w bx r) := by
  have hmf : ∀ (fn : Fn) (first cap : Array Value) (w : World), (Instr.makeFunc fn first cap).run Try.prog w = .ok (.func fn first cap) w := fun _ _ _ _ => rfl
  have hbl := World.block_lt_of_cell? w _ hb
  have hxl := lt_of_some hx
  have hb2 : (w.alloc (.cells #[.int .i64 0, .int .i64 0] 118)).cell? ⟨bp, 0, none⟩ = some (.string p) := by
    unfold World.cell?; rw [heap_alloc_old w _ hbl]; exact hb
  have hx2 : VarX (w.alloc (.cells #[.int .i64 0, .int .i64 0] 118)) bx u := (heap_alloc_old w _ hxl).trans hx
  have hfv : Fv (w.alloc (.cells #[.int .i64 0, .int .i64 0] 118)) w.heap.size 0 0 := heap_alloc_new _ _
  have HB := Aside0.mk hb2
  have HX := Aside0.mk hx2
  have HF := Aside0.mk hfv
  have HXL := Aside0.mk hxl
  clear hb hx hb2 hx2 hfv hbl hxl
  go_enter_defers Try.func90, Try.ntmps90
  go_wp2_with fail
  go_at_call 91
  refine (pat1_calls k p r h hp bp bx u _ HB.out HX.out hne hu).mono ?_
  rintro e w1 hch
  have hsz := sz_al w (.cells #[.int .i64 0, .int .i64 0] 118)
  have hal : Bx w.heap.size bx w (w.alloc (.cells #[.int .i64 0, .int .i64 0] 118)) := Bx.of ((Below.refl _ _).alloc (Nat.le_refl _) _)
  rcases r with ⟨c, a⟩ | x
  · obtain ⟨rfl, ⟨v, hv, hvi⟩, hb1⟩ := hch
    have hfv2 : Fv w1 w.heap.size 0 0 := (hb1.block _ (by rw [hsz]; omega) (by have := HXL.out; omega)).trans HF.out
    have e1 : ∀ w2 : World, VarX w2 bx v → Bx w.heap.size bx w w2 → CaughtP w bx (.error (c, a)) (.returned (.agg #[.int .i64 c, .int .i64 a])) w2 := fun w2 h1 h2 => ⟨v, rfl, h1, h2, hvi⟩
    have E1 := Aside0.mk e1
    clear e1
    generalize CaughtP w bx (.error (c, a)) = CP at *
    refine leaves_cons (f := 94) (args := #[.pointer (some ⟨w.heap.size, 0, none⟩)]) (by simp) (by simp [go_sem]) ?_
    refine (catch_some w.heap.size c a 0 0 w1 hfv2).mono ?_
    rintro e u' w2 ⟨rfl, rfl, hf2, hb2⟩
    have hc0 : w2.cell? ⟨w.heap.size, 0, none⟩ = some (.int .i64 c) := cell_of_row _ w.heap.size 0 _ 118 _ hf2
    have hc1 : w2.cell? ⟨w.heap.size, 1, none⟩ = some (.int .i64 a) := cell_of_row _ w.heap.size 1 _ 118 _ hf2
    have hv2 : VarX w2 bx v := (hb2.block bx (lt_of_some hv) (by have := HXL.out; omega)).trans hv
    have hbb : Bx w.heap.size bx w w2 := (hal.trans (hb1.lower (by rw [hsz]; omega))).trans ⟨hb2.os, hb2.tape, hb2.output, hb2.size, fun k hk hn => hb2.block k (by have := hal.size; have := hb1.size; omega) (by omega)⟩
    have hfin := E1.out w2 hv2 hbb
    simp [Leaves, settle, flt, results, Try.results90, go_sem, hc0, hc1]
    exact hfin
  · obtain ⟨v, rfl, hv, hrep, hb1⟩ := hch
    have hfv2 : Fv w1 w.heap.size 0 0 := (hb1.block _ (by rw [hsz]; omega) (by have := HXL.out; omega)).trans HF.out
    have hc0 : w1.cell? ⟨w.heap.size, 0, none⟩ = some (.int .i64 0) := cell_of_row _ w.heap.size 0 _ 118 _ hfv2
    have hc1 : w1.cell? ⟨w.heap.size, 1, none⟩ = some (.int .i64 0) := cell_of_row _ w.heap.size 1 _ 118 _ hfv2
    have hf0 := bk_fr hfv2 0
    have hf1 := bk_fr hfv2 1
    have h2 := bk_put (j := 1) (bk_put (j := 0) hfv2 (.int .i64 0)) (.int .i64 0)
    have hfv3 : Fv ((w1.setCell ⟨w.heap.size, 0, none⟩ (.int .i64 0)).setCell ⟨w.heap.size, 1, none⟩ (.int .i64 0)) w.heap.size 0 0 := h2
    have hm : ∀ q, q ≠ w.heap.size → ((w1.setCell ⟨w.heap.size, 0, none⟩ (.int .i64 0)).setCell ⟨w.heap.size, 1, none⟩ (.int .i64 0)).heap[q]? = w1.heap[q]? := fun q hq => (Below.heap_setCell _ _ _ _ hq).trans (Below.heap_setCell _ _ _ _ hq)
    have hv2 : VarX ((w1.setCell ⟨w.heap.size, 0, none⟩ (.int .i64 0)).setCell ⟨w.heap.size, 1, none⟩ (.int .i64 0)) bx v := (hm bx (by have := HXL.out; omega)).trans hv
    have hrep2 : RepX ((w1.setCell ⟨w.heap.size, 0, none⟩ (.int .i64 0)).setCell ⟨w.heap.size, 1, none⟩ (.int .i64 0)) (fun k => w.heap.size ≤ k) x v := RepX_move (fun k hk hl => ⟨by rw [hsz] at hk; omega, hm k (by rw [hsz] at hk; omega)⟩) _ _ hrep
    have hbb : Bx w.heap.size bx w ((w1.setCell ⟨w.heap.size, 0, none⟩ (.int .i64 0)).setCell ⟨w.heap.size, 1, none⟩ (.int .i64 0)) := (hal.trans (hb1.lower (by rw [hsz]; omega))).trans ⟨rfl, rfl, rfl, by simp [World.setCell], fun k hk hn => hm k (by omega)⟩
    have e1 : CaughtP w bx (.ok x) (.returned (.agg #[.int .i64 0, .int .i64 0])) ((w1.setCell ⟨w.heap.size, 0, none⟩ (.int .i64 0)).setCell ⟨w.heap.size, 1, none⟩ (.int .i64 0)) := ⟨v, rfl, hv2, hrep2, hbb⟩
    have E1 := Aside0.mk e1
    have HF3 := Aside0.mk hfv3
    clear e1 hv2 hrep2 hbb hm h2 hfv3 hb1 hrep hv hal
    generalize CaughtP w bx (.ok x) = CP at *
    go_wp2
    generalize (w1.setCell ⟨w.heap.size, 0, none⟩ (.int .i64 0)).setCell ⟨w.heap.size, 1, none⟩ (.int .i64 0) = w2 at *
    refine leaves_cons (f := 94) (args := #[.pointer (some ⟨w.heap.size, 0, none⟩)]) (by simp) (by simp [go_sem]) ?_
    refine (catch_idle w.heap.size w2).mono ?_
    rintro e u' w3 ⟨rfl, rfl, rfl⟩
    have hc0 : w3.cell? ⟨w.heap.size, 0, none⟩ = some (.int .i64 0) := cell_of_row _ w.heap.size 0 _ 118 _ HF3.out
    have hc1 : w3.cell? ⟨w.heap.size, 1, none⟩ = some (.int .i64 0) := cell_of_row _ w.heap.size 1 _ 118 _ HF3.out
    simp [Leaves, settle, results, Try.results90, go_sem, hc0, hc1]
    exact E1.out
end Go.Proofs.Ytpfehkkfakofaaa.Q

namespace Go.Proofs.Ytpfehkkfakofaaa.Q
open Go.RowKit Go.Proofs.YtpfehkkfakofaaaW.PrintWords Go.Proofs.YtpfehkkfakofaaaW.PrintLast
set_option linter.unusedVariables false
set_option linter.unusedSimpArgs false
def patR (k : Nat) (p : ByteArray) : Option (Except (Int × Int) Rx) := if 200 < p.size then some (.error (1, 0)) else patF k p
def PatP (w : World) (r : Except (Int × Int) Rx) (e : Ending) (w' : World) : Prop :=
  RP r (fun x => ∃ v, e = .returned (.tuple #[v, .agg #[.int .i64 0, .int .i64 0]]) ∧ RepX w' (fun k => w.heap.size ≤ k) x v ∧ Below w.heap.size w w') (fun c a => ∃ v, e = .returned (.tuple #[v, .agg #[.int .i64 c, .int .i64 a]]) ∧ Below w.heap.size w w')
set_option maxHeartbeats 4000000 in
set_option maxRecDepth 100000 in
theorem pattern_calls (k : Nat) (p : ByteArray) (r : Except (Int × Int) Rx) (h : patR k p = some r) (w : World) :
    Calls Try.prog 87 #[.string p] w (PatP w r) := by
  have hmf : ∀ (fn : Fn) (first cap : Array Value) (w : World), (Instr.makeFunc fn first cap).run Try.prog w = .ok (.func fn first cap) w := fun _ _ _ _ => rfl
  unfold patR at h
  by_cases e1 : 200 < p.size
  · rw [if_pos e1] at h
    obtain rfl := Option.some.inj h
    have d1 : decide (200 < (p.size : Int)) = true := decide_eq_true (by omega)
    have d2 : decide (200 < p.size) = true := decide_eq_true e1
    clear h e1
    go_enter Try.func87, Try.ntmps87
    go_wp2
    have kr : K0 (Below w.heap.size w w) := ⟨Below.refl _ _⟩
    have h1 := old1 w (.cells #[.string p] 9) (.cells #[.nilIface] 116) (.cells #[.int .i64 1, .int .i64 0] 118)
    have h2 := new2 w (.cells #[.string p] 9) (.cells #[.nilIface] 116) (.cells #[.int .i64 1, .int .i64 0] 118)
    have c0 := bk_cell h1
    have c1 := cell_of_row _ (w.heap.size + 1 + 1) 0 _ 118 _ h2
    have c2 := cell_of_row _ (w.heap.size + 1 + 1) 1 _ 118 _ h2
    simp at c1 c2
    refine bodyPost_ret (v := .tuple #[.nilIface, .agg #[.int .i64 1, .int .i64 0]]) (by simp [results, Try.results87, go_sem, c0, c1, c2]) rfl ⟨_, rfl, kk⟩
  · rw [if_neg e1] at h
    have d1 : decide (200 < (p.size : Int)) = false := decide_eq_false (by omega)
    have d2 : decide (200 < p.size) = false := decide_eq_false e1
    have hp2 : p.size ≤ 200 := by omega
    clear e1
    go_enter Try.func87, Try.ntmps87
    go_wp2_with fail
    have h0 : (((w.alloc (.cells #[.string p] 9)).alloc (.cells #[.nilIface] 116)).alloc (.cells #[.int .i64 0, .int .i64 0] 118)).heap[w.heap.size]? = some (.cells #[.string p] 9) := by
      rw [heap_alloc_old ((w.alloc (.cells #[.string p] 9)).alloc (.cells #[.nilIface] 116)) _ (by rw [sz_al, sz_al]; omega), heap_alloc_old (w.alloc (.cells #[.string p] 9)) _ (by rw [sz_al]; omega)]
      exact heap_alloc_new w _
    have h1 := old1 w (.cells #[.string p] 9) (.cells #[.nilIface] 116) (.cells #[.int .i64 0, .int .i64 0] 118)
    have h2 := new2 w (.cells #[.string p] 9) (.cells #[.nilIface] 116) (.cells #[.int .i64 0, .int .i64 0] 118)
    have hsz : (((w.alloc (.cells #[.string p] 9)).alloc (.cells #[.nilIface] 116)).alloc (.cells #[.int .i64 0, .int .i64 0] 118)).heap.size = w.heap.size + 3 := by rw [sz_al, sz_al, sz_al]
    have hal : Below w.heap.size w (((w.alloc (.cells #[.string p] 9)).alloc (.cells #[.nilIface] 116)).alloc (.cells #[.int .i64 0, .int .i64 0] 118)) := by
      have kr : K0 (Below w.heap.size w w) := ⟨Below.refl _ _⟩
      exact kk
    generalize ((w.alloc (.cells #[.string p] 9)).alloc (.cells #[.nilIface] 116)).alloc (.cells #[.int .i64 0, .int .i64 0] 118) = wa at *
    go_at_call 90
    refine (caught_calls k p r h hp2 w.heap.size (w.heap.size + 1) .nilIface wa (bk_cell h0) h1 (by omega) (.inl rfl)).mono ?_
    rintro e w1 hch
    obtain ⟨c, a, v, rfl, hv, hbx, hvi, hpp⟩ : ∃ (c a : Int) (v : Value), e = .returned (.agg #[.int .i64 c, .int .i64 a]) ∧ VarX w1 (w.heap.size + 1) v ∧ Bx wa.heap.size (w.heap.size + 1) wa w1 ∧ IsI v ∧ ∀ w2 : World, Below w.heap.size w w2 → (∀ q, q ≠ w.heap.size + 1 + 1 → q ≠ w.heap.size + 1 → q < w1.heap.size → w2.heap[q]? = w1.heap[q]?) → PatP w r (.returned (.tuple #[v, .agg #[.int .i64 c, .int .i64 a]])) w2 := by
      rcases r with ⟨c, a⟩ | x
      · obtain ⟨v, he, hv, hb, hi⟩ := hch
        exact ⟨c, a, v, he, hv, hb, hi, fun w2 hb2 _ => ⟨v, rfl, hb2⟩⟩
      · obtain ⟨v, he, hv, hrep, hb⟩ := hch
        obtain ⟨T0, u0, rfl⟩ := RepX_iface hrep
        exact ⟨0, 0, _, he, hv, hb, .inr ⟨_, _, rfl⟩, fun w2 hb2 hm => ⟨_, rfl, RepX_move (fun q hq hl => ⟨by rw [hsz] at hq; omega, hm q (by rw [hsz] at hq; omega) (by rw [hsz] at hq; omega) hl⟩) _ _ hrep, hb2⟩⟩
    have hf : Fv w1 (w.heap.size + 1 + 1) 0 0 := (hbx.block _ (by rw [hsz]; omega) (by omega)).trans h2
    have g0 : w1.cell? ⟨w.heap.size + 1 + 1, 0, none⟩ = some (.int .i64 0) := cell_of_row _ (w.heap.size + 1 + 1) 0 _ 118 _ hf
    have g1 : w1.cell? ⟨w.heap.size + 1 + 1, 1, none⟩ = some (.int .i64 0) := cell_of_row _ (w.heap.size + 1 + 1) 1 _ 118 _ hf
    have f0 := bk_fr hf 0
    have f1 := bk_fr hf 1
    have hf2 : Fv ((w1.setCell ⟨w.heap.size + 1 + 1, 0, none⟩ (.int .i64 c)).setCell ⟨w.heap.size + 1 + 1, 1, none⟩ (.int .i64 a)) (w.heap.size + 1 + 1) c a := bk_put (j := 1) (bk_put (j := 0) hf (.int .i64 c)) (.int .i64 a)
    have hm2 : ∀ q, q ≠ w.heap.size + 1 + 1 → ((w1.setCell ⟨w.heap.size + 1 + 1, 0, none⟩ (.int .i64 c)).setCell ⟨w.heap.size + 1 + 1, 1, none⟩ (.int .i64 a)).heap[q]? = w1.heap[q]? := fun q hq => (Below.heap_setCell _ _ _ _ hq).trans (Below.heap_setCell _ _ _ _ hq)
    have hv2 : VarX ((w1.setCell ⟨w.heap.size + 1 + 1, 0, none⟩ (.int .i64 c)).setCell ⟨w.heap.size + 1 + 1, 1, none⟩ (.int .i64 a)) (w.heap.size + 1) v := (hm2 _ (by omega)).trans hv
    have hB2 : Below w.heap.size w ((w1.setCell ⟨w.heap.size + 1 + 1, 0, none⟩ (.int .i64 c)).setCell ⟨w.heap.size + 1 + 1, 1, none⟩ (.int .i64 a)) := (hal.trans (hbx.below (by rw [hsz]; omega) (by omega))).trans ((Below.setCell (Below.setCell (Below.refl _ _) (by show _ ≤ w.heap.size + 1 + 1; omega) _) (by show _ ≤ w.heap.size + 1 + 1; omega) _))
    have HV2 := Aside0.mk hv2
    have HF2 := Aside0.mk hf2
    have HM2 := Aside0.mk hm2
    have HB2 := Aside0.mk hB2
    have HPP := Aside0.mk hpp
    clear hv2 hf2 hm2 hB2 hpp hf hv hbx h0 h1 h2 hal hch h
    go_upto_region 4 with (fail)
    generalize (w1.setCell ⟨w.heap.size + 1 + 1, 0, none⟩ (.int .i64 c)).setCell ⟨w.heap.size + 1 + 1, 1, none⟩ (.int .i64 a) = w2 at *
    have s0 := bk_cell HV2.out
    have s1 : w2.cell? ⟨w.heap.size + 1 + 1, 0, none⟩ = some (.int .i64 c) := cell_of_row _ (w.heap.size + 1 + 1) 0 _ 118 _ HF2.out
    have s2 : w2.cell? ⟨w.heap.size + 1 + 1, 1, none⟩ = some (.int .i64 a) := cell_of_row _ (w.heap.size + 1 + 1) 1 _ 118 _ HF2.out
    have t0 := bk_fr HV2.out 0
    have t1 := bk_fr HF2.out 0
    have t2 := bk_fr HF2.out 1
    refine sz_region (S := fun W => W.cell? ⟨w.heap.size + 1, 0, none⟩ = some v ∧ W.cell? ⟨w.heap.size + 1 + 1, 0, none⟩ = some (.int .i64 c) ∧ W.cell? ⟨w.heap.size + 1 + 1, 1, none⟩ = some (.int .i64 a)) 4 [(0, false), (1, false), (2, true), (3, true)] (by intro d v c a w h; cases d <;> exact h) (by kernel_rfl) (by kernel_rfl) ⟨s0, s1, s2⟩ ?_
    refine sz_n ?_ ?_ rfl ?_ ?_ ?_; rotate_left 2; (intro W hW; obtain ⟨s0, s1, s2⟩ := hW; go_simp; first | done | with_reducible rfl); (simp only [List.setIfInBounds_toArray, List.set_cons_zero, List.set_cons_succ]; try rfl)
    refine sz_n ?_ ?_ rfl ?_ ?_ ?_; rotate_left 2; (intro W hW; obtain ⟨s0, s1, s2⟩ := hW; go_simp; first | done | with_reducible rfl); (simp only [List.setIfInBounds_toArray, List.set_cons_zero, List.set_cons_succ]; try rfl)
    refine sz_1n rfl (fun K hK => ?_)
    have hv3 : VarX ((w2.setCell ⟨w.heap.size + 1, 0, none⟩ v).drew) (w.heap.size + 1) v := bk_put (j := 0) HV2.out v
    have hm3 : ∀ q, q ≠ w.heap.size + 1 → ((w2.setCell ⟨w.heap.size + 1, 0, none⟩ v).drew).heap[q]? = w2.heap[q]? := fun q hq => Below.heap_setCell _ _ _ _ hq
    have hB3 : Below w.heap.size w ((w2.setCell ⟨w.heap.size + 1, 0, none⟩ v).drew) := (HB2.out.trans (Below.setCell (Below.refl _ _) (by show _ ≤ w.heap.size + 1; omega) v)).drew
    have HV3 := Aside0.mk hv3
    have HF3 := Aside0.mk ((hm3 _ (by omega)).trans HF2.out)
    have HB3 := Aside0.mk hB3
    have HM3 := Aside0.mk hm3
    clear hv3 hm3 hB3
    rcases hvi with rfl | ⟨T0, u0, rfl⟩
    all_goals
      go_simp
      refine hK.out _ _ (.inr ?_) ?_
      · exact ⟨bk_cell HV3.out, cell_of_row _ (w.heap.size + 1 + 1) 0 _ 118 _ HF3.out, cell_of_row _ (w.heap.size + 1 + 1) 1 _ 118 _ HF3.out⟩
      refine sz_1n rfl (fun K hK => ?_)
      clear s0 s1 s2 t0 t1 t2
      generalize (w2.setCell ⟨w.heap.size + 1, 0, none⟩ _).drew = w3 at *
      have q1 : w3.cell? ⟨w.heap.size + 1 + 1, 0, none⟩ = some (.int .i64 c) := cell_of_row _ (w.heap.size + 1 + 1) 0 _ 118 _ HF3.out
      have q2 : w3.cell? ⟨w.heap.size + 1 + 1, 1, none⟩ = some (.int .i64 a) := cell_of_row _ (w.heap.size + 1 + 1) 1 _ 118 _ HF3.out
      have q3 := bk_fr HF3.out 0
      have q4 := bk_fr HF3.out 1
      go_simp
      have hm4 : ∀ q, q ≠ w.heap.size + 1 + 1 → ((w3.setCell ⟨w.heap.size + 1 + 1, 0, none⟩ (.int .i64 c)).setCell ⟨w.heap.size + 1 + 1, 1, none⟩ (.int .i64 a)).heap[q]? = w3.heap[q]? := fun q hq => (Below.heap_setCell _ _ _ _ hq).trans (Below.heap_setCell _ _ _ _ hq)
      have hv4 := (hm4 _ (by omega)).trans HV3.out
      have hf4 : Fv ((w3.setCell ⟨w.heap.size + 1 + 1, 0, none⟩ (.int .i64 c)).setCell ⟨w.heap.size + 1 + 1, 1, none⟩ (.int .i64 a)) (w.heap.size + 1 + 1) c a := bk_put (j := 1) (bk_put (j := 0) HF3.out (.int .i64 c)) (.int .i64 a)
      have hB4 : Below w.heap.size w ((w3.setCell ⟨w.heap.size + 1 + 1, 0, none⟩ (.int .i64 c)).setCell ⟨w.heap.size + 1 + 1, 1, none⟩ (.int .i64 a)) := HB3.out.trans ((Below.setCell (Below.setCell (Below.refl _ _) (by show _ ≤ w.heap.size + 1 + 1; omega) _) (by show _ ≤ w.heap.size + 1 + 1; omega) _))
      have hP := HPP.out _ hB4 (fun q h1 h2 h3 => (hm4 q h1).trans ((HM3.out q h2).trans (HM2.out q h1)))
      have HV4 := Aside0.mk hv4
      have HF4 := Aside0.mk hf4
      have HP4 := Aside0.mk hP
      clear hv4 hf4 hB4 hP hm4
      generalize (w3.setCell ⟨w.heap.size + 1 + 1, 0, none⟩ (.int .i64 c)).setCell ⟨w.heap.size + 1 + 1, 1, none⟩ (.int .i64 a) = w4 at *
      have p0 := bk_cell HV4.out
      have p1 : w4.cell? ⟨w.heap.size + 1 + 1, 0, none⟩ = some (.int .i64 c) := cell_of_row _ (w.heap.size + 1 + 1) 0 _ 118 _ HF4.out
      have p2 : w4.cell? ⟨w.heap.size + 1 + 1, 1, none⟩ = some (.int .i64 a) := cell_of_row _ (w.heap.size + 1 + 1) 1 _ 118 _ HF4.out
      refine hK.out _ _ (.inr ⟨p0, p1, p2⟩) ?_
      refine sz_done ?_
      go_wp2
      exact bodyPost_ret (by simp [results, Try.results87, go_sem, p0, p1, p2]) rfl HP4.out
end Go.Proofs.Ytpfehkkfakofaaa.Q

namespace Go.Proofs.Ytpfehkkfakofaaa.Q
open Go.RowKit Go.Proofs.YtpfehkkfakofaaaW.PrintWords Go.Proofs.YtpfehkkfakofaaaW.PrintLast
set_option linter.unusedVariables false
set_option linter.unusedSimpArgs false
theorem altL_s (k : Nat) (p : ByteArray) (i o : Int) (acc : List Rx) : altL (k + 1) p i o acc = obind (seqL k p i o []) fun x => if x.2 = p.size ∨ bt p x.2 ≠ 124 then some (.ok (.alt (acc ++ [x.1]), x.2)) else altL k p (x.2 + 1) o (acc ++ [x.1]) := by rw [altL]
theorem seqL_s (k : Nat) (p : ByteArray) (i o : Int) (acc : List Rx) : seqL (k + 1) p i o acc = if i < p.size ∧ (bt p i ≠ 124 ∧ bt p i ≠ 41) then obind (atomF k p i o) fun x => (opsF k p x.2 x.1).bind fun y => seqL k p y.2 o (acc ++ [y.1]) else some (.ok (.seq acc, i)) := by rw [seqL]
theorem atomF_s (k : Nat) (p : ByteArray) (i o : Int) : atomF (k + 1) p i o =
    if bt p i = 40 then (if o = 20 then some (.error (3, i)) else obind (altL k p (i + 1) (o + 1) []) fun x => if x.2 = p.size then some (.error (2, x.2)) else some (.ok (x.1, x.2 + 1)))
    else if bt p i = 91 then obind (claF k p (i + 1)) fun x => some (.ok (.one x.1 0 false, x.2))
    else if bt p i = 46 then some (.ok (.one (List.replicate 256 true) 0 false, i + 1))
    else if isOp (bt p i) = true ∨ bt p i = 93 then some (.error (2, i))
    else if bt p i = 92 then (if i + 1 = p.size then some (.error (2, i + 1)) else some (.ok (sgl (bt p (i + 1)), i + 2)))
    else some (.ok (sgl (bt p i), i + 1)) := by rw [atomF]
def impl_CheckRegex.f (k : Nat) (a0 : ByteArray) : Option (Int × Int) := (patR k a0).map fun r => match r with | .ok _ => (0, 0) | .error x => x
set_option maxHeartbeats 4000000 in
set_option maxRecDepth 100000 in
theorem impl_CheckRegex.calls (k : Nat) (a0 : ByteArray) (r1 : Int) (r2 : Int) (w : World) (h : impl_CheckRegex.f k a0 = some (r1, r2)) :
    Calls Try.prog 76 #[.string a0] w fun e w' => e = .returned (.agg #[.int .i64 r1, .int .i64 r2]) ∧ Below w.heap.size w w' := by
  obtain ⟨q, hq, hr⟩ := Option.map_eq_some_iff.mp h
  have kr : K0 (Below w.heap.size w w) := ⟨Below.refl _ _⟩
  have ha : Below w.heap.size w (w.alloc (.cells #[.int .i64 0, .int .i64 0] 101)) := kk
  have hx := heap_alloc_new w (.cells #[.int .i64 0, .int .i64 0] 101)
  have HQ := Aside0.mk hq
  have HA := Aside0.mk ha
  have HX := Aside0.mk hx
  have hsz := sz_al w (.cells #[.int .i64 0, .int .i64 0] 101)
  have HSZ := Aside0.mk hsz
  clear h hq ha hx hsz kr
  go_enter Try.func76, Try.ntmps76
  go_wp2_with fail
  generalize w.alloc (.cells #[.int .i64 0, .int .i64 0] 101) = wa at *
  go_at_call 87
  refine (pattern_calls k a0 q HQ.out _).mono ?_
  rintro e w1 hp
  obtain ⟨v, rfl, hb⟩ : ∃ v, e = .returned (.tuple #[v, .agg #[.int .i64 r1, .int .i64 r2]]) ∧ Below wa.heap.size wa w1 := by
    rcases q with ⟨c, a⟩ | x
    · obtain ⟨v, he, hb⟩ := hp
      cases hr
      exact ⟨v, he, hb⟩
    · obtain ⟨v, he, -, hb⟩ := hp
      cases hr
      exact ⟨v, he, hb⟩
  have h1 : w1.heap[w.heap.size]? = some (.cells #[.int .i64 0, .int .i64 0] 101) := (hb.block _ (by rw [HSZ.out]; omega)).trans HX.out
  have hb2 : Below w.heap.size w w1 := HA.out.trans (hb.mono (by rw [HSZ.out]; omega))
  have hc0 : w1.cell? ⟨w.heap.size, 0, none⟩ = some (.int .i64 0) := cell_of_row _ w.heap.size 0 _ 101 _ h1
  have hc1 : w1.cell? ⟨w.heap.size, 1, none⟩ = some (.int .i64 0) := cell_of_row _ w.heap.size 1 _ 101 _ h1
  have f0 := bk_fr h1 0
  have f1 := bk_fr h1 1
  have hl := lt_of_some h1
  have H1 := Aside0.mk h1
  have HB2 := Aside0.mk hb2
  clear hp hr hb h1 hb2 HA HX HQ
  go_wp2
  have h2 : ((w1.setCell ⟨w.heap.size, 0, none⟩ (.int .i64 r1)).setCell ⟨w.heap.size, 1, none⟩ (.int .i64 r2)).heap[w.heap.size]? = some (.cells #[.int .i64 r1, .int .i64 r2] 101) := bk_put (j := 1) (bk_put (j := 0) H1.out (.int .i64 r1)) (.int .i64 r2)
  have h3 := blk_alloc h2 (.cells #[.int .i64 r1, .int .i64 r2] 118)
  refine bodyPost_ret (results_cell_row rfl _ _ w.heap.size 101 _ (0, 0) _ rfl h3 Try.underlying101 rfl (by kernel_rfl)) rfl ⟨rfl, ?_⟩
  have kr : K0 (Below w.heap.size w w1) := ⟨HB2.out⟩
  have kx : K0 (w.heap.size ≤ w.heap.size) := ⟨Nat.le_refl _⟩
  exact kk
end Go.Proofs.Ytpfehkkfakofaaa.Q

namespace Go.Proofs.Ytpfehkkfakofaaa.Q
open Go.RowKit Go.Proofs.YtpfehkkfakofaaaW.PrintWords Go.Proofs.YtpfehkkfakofaaaW.PrintLast Go.Proofs.YtpfehkkfakofaaaW.PrintMore
set_option linter.unusedVariables false
set_option linter.unusedSimpArgs false
def ndX (c z1 z2 z3 z4 z5 m lt ltu : Bool) (s1 s3 a0 : Int) (a2 : Bool) (a5 a6 : Int) : Bool :=
  if s1 > 200 then false else if s3 > 200 then false else if (!a2 && (!m || !(a5 == 0))) = true then false else
  if a0 = 4 ∨ a0 = 5 ∨ a0 = 6 ∨ a0 = 7 then z1 && c
  else if a0 = 8 ∨ a0 = 9 then z2 && (!a2 || lt)
  else if a0 = 10 then z3 && (!a2 || ltu)
  else if a0 = 11 ∨ a0 = 12 ∨ a0 = 13 then z4 && (decide (a6 ≥ 1) && decide (a6 ≤ 1000))
  else decide (a0 ≥ 1) && (decide (a0 ≤ 16) && z5)
def ndOk (c : Bool) (a0 : Int) (a1 : ByteArray) (a2 : Bool) (a3 : ByteArray) (a4 a5 a6 : Int) : Bool :=
  ndX c (!a2 && (a3.toList == [] && (a4 == 0 && (a5 == 0 && a6 == 0)))) (a4 == 0 && (a5 == 0 && a6 == 0)) (a1.toList == [] && (a3.toList == [] && a6 == 0))
    (a1.toList == [] && (!a2 && (a3.toList == [] && (a4 == 0 && a5 == 0)))) (a1.toList == [] && (!a2 && (a3.toList == [] && (a4 == 0 && (a5 == 0 && a6 == 0)))))
    (a3.toList == []) (Op.bytesLess a1.toList a3.toList) (decide (a4 < a5)) a1.size a3.size a0 a2 a5 a6
def impl_Node_good.f (k : Nat) (a0_0 : Int) (a0_1 : ByteArray) (a0_2 : Bool) (a0_3 : ByteArray) (a0_4 : Int) (a0_5 : Int) (a0_6 : Int) : Option Bool :=
  (impl_CheckRegex.f k a0_1).bind fun x => some (ndOk (x.1 == 0) a0_0 a0_1 a0_2 a0_3 a0_4 a0_5 a0_6)
theorem eqq {α : Type} [BEq α] [ReflBEq α] (a : α) : (a == a) = true := BEq.rfl
set_option maxHeartbeats 8000000 in
set_option maxRecDepth 100000 in
theorem impl_Node_good.calls (k : Nat) (a0_0 : Int) (a0_1 : ByteArray) (a0_2 : Bool) (a0_3 : ByteArray) (a0_4 : Int) (a0_5 : Int) (a0_6 : Int) (r : Bool) (w : World) (h : impl_Node_good.f k a0_0 a0_1 a0_2 a0_3 a0_4 a0_5 a0_6 = some r) :
    Calls Try.prog 51 #[.agg #[.int .i64 a0_0, .string a0_1, .bool a0_2, .string a0_3, .int .u64 a0_4, .int .u64 a0_5, .int .i64 a0_6]] w fun e w' => e = .returned (.bool r) ∧ Below w.heap.size w w' := by
  unfold impl_Node_good.f at h
  obtain ⟨⟨c, at_⟩, hc, h⟩ := Option.bind_eq_some_iff.mp h
  cases h
  have hx : ∀ W : World, Calls Try.prog 76 #[.string a0_1] W fun e w' => e = .returned (.agg #[.int .i64 c, .int .i64 at_]) ∧ Below W.heap.size W w' := fun W => impl_CheckRegex.calls k a0_1 c at_ W hc
  have he : (⟨#[]⟩ : ByteArray).toList = [] := by kernel_rfl
  have q1 : ∀ (d : Nat) (W : World), (Op.equalIn (d + 2) 63 (.agg #[.int .i64 0, .string ⟨#[]⟩, .bool a0_2, .string a0_3, .int .u64 a0_4, .int .u64 a0_5, .int .i64 a0_6]) (.agg #[.int .i64 0, .string ⟨#[]⟩, .bool false, .string ⟨#[]⟩, .int .u64 0, .int .u64 0, .int .i64 0])).run Try.prog W = .ok (!a0_2 && (a0_3.toList == [] && (a0_4 == 0 && (a0_5 == 0 && a0_6 == 0)))) W := by
    intro d W; rw [eqA63, he]; cases a0_2 <;> rfl
  have q2 : ∀ (d : Nat) (W : World), (Op.equalIn (d + 2) 63 (.agg #[.int .i64 0, .string a0_1, .bool a0_2, .string a0_3, .int .u64 a0_4, .int .u64 a0_5, .int .i64 a0_6]) (.agg #[.int .i64 0, .string a0_1, .bool a0_2, .string a0_3, .int .u64 0, .int .u64 0, .int .i64 0])).run Try.prog W = .ok (a0_4 == 0 && (a0_5 == 0 && a0_6 == 0)) W := by
    intro d W; rw [eqA63]; simp only [eqq, Bool.true_and]
  have q3 : ∀ (d : Nat) (W : World), (Op.equalIn (d + 2) 63 (.agg #[.int .i64 0, .string a0_1, .bool a0_2, .string a0_3, .int .u64 a0_4, .int .u64 a0_5, .int .i64 a0_6]) (.agg #[.int .i64 0, .string ⟨#[]⟩, .bool a0_2, .string ⟨#[]⟩, .int .u64 a0_4, .int .u64 a0_5, .int .i64 0])).run Try.prog W = .ok (a0_1.toList == [] && (a0_3.toList == [] && a0_6 == 0)) W := by
    intro d W; rw [eqA63, he]; simp only [eqq, Bool.true_and]
  have q4 : ∀ (d : Nat) (W : World), (Op.equalIn (d + 2) 63 (.agg #[.int .i64 0, .string a0_1, .bool a0_2, .string a0_3, .int .u64 a0_4, .int .u64 a0_5, .int .i64 a0_6]) (.agg #[.int .i64 0, .string ⟨#[]⟩, .bool false, .string ⟨#[]⟩, .int .u64 0, .int .u64 0, .int .i64 a0_6])).run Try.prog W = .ok (a0_1.toList == [] && (!a0_2 && (a0_3.toList == [] && (a0_4 == 0 && a0_5 == 0)))) W := by
    intro d W; rw [eqA63, he]; simp only [eqq, Bool.true_and, Bool.and_true]; cases a0_2 <;> rfl
  have q5 : ∀ (d : Nat) (W : World), (Op.equalIn (d + 2) 63 (.agg #[.int .i64 0, .string a0_1, .bool a0_2, .string a0_3, .int .u64 a0_4, .int .u64 a0_5, .int .i64 a0_6]) (.agg #[.int .i64 0, .string ⟨#[]⟩, .bool false, .string ⟨#[]⟩, .int .u64 0, .int .u64 0, .int .i64 0])).run Try.prog W = .ok (a0_1.toList == [] && (!a0_2 && (a0_3.toList == [] && (a0_4 == 0 && (a0_5 == 0 && a0_6 == 0))))) W := by
    intro d W; rw [eqA63, he]; cases a0_2 <;> rfl
  show Calls _ _ _ _ fun e w' => e = .returned (.bool (ndX (c == 0) _ _ _ _ _ _ _ _ _ _ _ _ _ _)) ∧ _
  clear h
  have kx : K0 (w.heap.size ≤ w.heap.size) := ⟨Nat.le_refl _⟩
  have kr : K0 (Below w.heap.size w w) := ⟨Below.refl _ _⟩
  have hfd : ∀ (x0 x1 : Int) (w : World), (Instr.field 101 (.agg #[.int .i64 x0, .int .i64 x1]) 0).run Try.prog w = .ok (.int .i64 x0) w := fun _ _ _ => by kernel_rfl
  have HX := Aside0.mk hx
  clear hc he hx
  go_enter Try.func51, Try.ntmps51
  go_wp2_with fail
  all_goals clear q1 q2 q3 q4 q5
  all_goals first | (clear HX hfd; go_ret; refine ⟨?_, kk⟩; first | (simp [ndX, *]; done) | (refine congrArg Ending.returned (congrArg Value.bool ?_); clear kr kx; simp only [ndX]; grind)) | skip
  all_goals refine (HX.out _).mono ?_
  all_goals rintro e w9 ⟨rfl, hb⟩
  all_goals have k9 : K0 (Below w.heap.size w w9) := ⟨Below.trans (kk : Below w.heap.size w _) (hb.mono (by simp [World.setCell, sz_al] <;> omega))⟩
  all_goals clear hb HX
  all_goals go_wp2
  all_goals clear hfd
  all_goals first | (go_ret; refine ⟨?_, kk⟩; first | (simp [ndX, *]; done) | (refine congrArg Ending.returned (congrArg Value.bool ?_); clear kr kx; simp only [ndX]; grind))
end Go.Proofs.Ytpfehkkfakofaaa.Q
