/- FnExactValidCode: the row of the law: its arguments opened, its walk, its statement over lists (PrFnExactValidCode). No condition. -/
import Derived.Test.YtcfbbbilonignaaCFnExactValidCode1

namespace Go.Proofs.Ytcfbbbilonignaa.Q
open Go.RowKit Go.Proofs.YtcfbbbilonignaaW.PrintWords Go.Proofs.YtcfbbbilonignaaW.PrintLast Go.Proofs.YtcfbbbilonignaaW.PrintMore
set_option linter.unusedVariables false
set_option linter.unusedSimpArgs false

/-! ### laws_toIns: function 110 -/
def laws_toIns.f (a0_0 : Int) (a0_1 : Int) (a0_2 : Int) (a0_3 : Bool) (a0_4 : Int) (a0_5 : ByteArray) (a0_6 : Bool) (a0_7 : ByteArray) (a0_8 : Int) (a0_9 : Int) (a0_10 : Int) : Option (Int × Int × Int × Bool × Int × ByteArray × Bool × ByteArray × Int × Int × Int) := (laws_toNode.f a0_4 a0_5 a0_6 a0_7 a0_8 a0_9 a0_10).bind fun bt558 => (some (a0_0, a0_1, a0_2, a0_3, bt558.1, bt558.2.1, bt558.2.2.1, bt558.2.2.2.1, bt558.2.2.2.2.1, bt558.2.2.2.2.2.1, bt558.2.2.2.2.2.2))
set_option maxHeartbeats 8000000 in
set_option maxRecDepth 100000 in
theorem laws_toIns.calls (a0_0 : Int) (a0_1 : Int) (a0_2 : Int) (a0_3 : Bool) (a0_4 : Int) (a0_5 : ByteArray) (a0_6 : Bool) (a0_7 : ByteArray) (a0_8 : Int) (a0_9 : Int) (a0_10 : Int) (r1 : Int) (r2 : Int) (r3 : Int) (r4 : Bool) (r5 : Int) (r6 : ByteArray) (r7 : Bool) (r8 : ByteArray) (r9 : Int) (r10 : Int) (r11 : Int) (w : World) (h : laws_toIns.f a0_0 a0_1 a0_2 a0_3 a0_4 a0_5 a0_6 a0_7 a0_8 a0_9 a0_10 = some (r1, r2, r3, r4, r5, r6, r7, r8, r9, r10, r11)) :
  Calls Try.prog 110 #[.agg #[.int .i64 a0_0, .int .i64 a0_1, .int .i64 a0_2, .bool a0_3, .int .i64 a0_4, .string a0_5, .bool a0_6, .string a0_7, .int .u64 a0_8, .int .u64 a0_9, .int .i64 a0_10]] w fun e w' => e = .returned (.agg #[.int .i64 r1, .int .i64 r2, .int .i64 r3, .bool r4, .int .i64 r5, .string r6, .bool r7, .string r8, .int .u64 r9, .int .u64 r10, .int .i64 r11]) ∧ Below w.heap.size w w' := by
 have hu167 := Try.underlying167
 have hu138 := Try.underlying138
 have hu97 := Try.underlying97
 have hu66 := Try.underlying66
 have HB := Aside0.mk (Below.refl w.heap.size w)
 have H : ((laws_toNode.f a0_4 a0_5 a0_6 a0_7 a0_8 a0_9 a0_10).bind fun bt558 => (some (a0_0, a0_1, a0_2, a0_3, bt558.1, bt558.2.1, bt558.2.2.1, bt558.2.2.2.1, bt558.2.2.2.2.1, bt558.2.2.2.2.2.1, bt558.2.2.2.2.2.2))) = some (r1, r2, r3, r4, r5, r6, r7, r8, r9, r10, r11) := h
 clear h
 replace H := Option.bind_eq_some_iff.mp H
 obtain ⟨⟨t558, t559, t560, t561, t562, t563, t564⟩, A20, H⟩ := H
 replace H : (some (a0_0, a0_1, a0_2, a0_3, t558, t559, t560, t561, t562, t563, t564)) = some (r1, r2, r3, r4, r5, r6, r7, r8, r9, r10, r11) := H
 have A2 := Aside0.mk A20
 clear A20
 simp only [Option.some.injEq, Prod.mk.injEq] at H
 obtain ⟨rfl, rfl, rfl, rfl, rfl, rfl, rfl, rfl, rfl, rfl, rfl⟩ := H
 go_enter Try.func110, Try.ntmps110
 go_wp2_with (first | ((with_reducible refine gate_dst (N := 1) rfl ?_); refine box_event ?hg (N := 1) ?hd (cs := #[.int .i64 a0_0, .int .i64 a0_1, .int .i64 a0_2, .bool a0_3, .int .i64 a0_4, .string a0_5, .bool a0_6, .string a0_7, .int .u64 a0_8, .int .u64 a0_9, .int .i64 a0_10]) (t := 167) ?hr ?_; (case hd => rfl); (case hg => rfl); (case hr => first | (go_simp; done) | (go_simp; rfl)); intro gb555 hg w3 hbox hb; have n0_ := Aside0.mk (below_step bw hb); have n1_ := Aside0.mk (hbox); have n2_ := Aside0.mk ((by rw [hg]; exact (below_size bw) : w.heap.size ≤ gb555)); have n3_ := Aside0.mk ((by rw [hg]; exact (below_size bw) : w.heap.size ≤ gb555)); clear HB; have HB := n0_; have BK555 := n1_; have GW555 := n2_; have GE555 := n3_; clear n0_ n1_ n2_ n3_; clear hb hbox hg) | ((with_reducible refine gate_dst (N := 2) rfl ?_); refine box_event ?hg (N := 2) ?hd (cs := #[.int .i64 0, .int .i64 0, .int .i64 0, .bool false, .int .i64 0, .string (⟨#[]⟩ : ByteArray), .bool false, .string (⟨#[]⟩ : ByteArray), .int .u64 0, .int .u64 0, .int .i64 0]) (t := 138) ?hr ?_; (case hd => rfl); (case hg => rfl); (case hr => first | (go_simp; done) | (go_simp; rfl)); intro gb556 hg w4 hbox hb; have n0_ := Aside0.mk (blk_below (g := gb555) (o := .cells #[.int .i64 a0_0, .int .i64 a0_1, .int .i64 a0_2, .bool a0_3, .int .i64 a0_4, .string a0_5, .bool a0_6, .string a0_7, .int .u64 a0_8, .int .u64 a0_9, .int .i64 a0_10] 167 (0, 0)) (lb BK555) hb); have n1_ := Aside0.mk (below_step bw hb); have n2_ := Aside0.mk (hbox); have n3_ := Aside0.mk ((by rw [hg]; exact (below_size bw) : w.heap.size ≤ gb556)); have n4_ := Aside0.mk ((by rw [hg]; exact (below_size bw) : w.heap.size ≤ gb556)); have n5_ := Aside0.mk ((by rw [hg]; exact Nat.ne_of_lt (blk_lt (g := gb555) (o := .cells #[.int .i64 a0_0, .int .i64 a0_1, .int .i64 a0_2, .bool a0_3, .int .i64 a0_4, .string a0_5, .bool a0_6, .string a0_7, .int .u64 a0_8, .int .u64 a0_9, .int .i64 a0_10] 167 (0, 0)) (lb BK555)) : gb555 ≠ gb556)); have n6_ := Aside0.mk ((by rw [hg]; exact Nat.ne_of_gt (blk_lt (g := gb555) (o := .cells #[.int .i64 a0_0, .int .i64 a0_1, .int .i64 a0_2, .bool a0_3, .int .i64 a0_4, .string a0_5, .bool a0_6, .string a0_7, .int .u64 a0_8, .int .u64 a0_9, .int .i64 a0_10] 167 (0, 0)) (lb BK555)) : gb556 ≠ gb555)); clear BK555; clear HB; have BK555 := n0_; have HB := n1_; have BK556 := n2_; have GW556 := n3_; have GE556 := n4_; have NB555_556 := n5_; have NB556_555 := n6_; clear n0_ n1_ n2_ n3_ n4_ n5_ n6_; clear hb hbox hg) | ((with_reducible refine gate_dst (N := 3) rfl ?_); refine box_event ?hg (N := 3) ?hd (cs := #[.int .i64 0, .int .i64 0, .int .i64 0, .bool false, .int .i64 0, .string (⟨#[]⟩ : ByteArray), .bool false, .string (⟨#[]⟩ : ByteArray), .int .u64 0, .int .u64 0, .int .i64 0]) (t := 138) ?hr ?_; (case hd => rfl); (case hg => rfl); (case hr => first | (go_simp; done) | (go_simp; rfl)); intro gb557 hg w5 hbox hb; have n0_ := Aside0.mk (blk_below (g := gb555) (o := .cells #[.int .i64 a0_0, .int .i64 a0_1, .int .i64 a0_2, .bool a0_3, .int .i64 a0_4, .string a0_5, .bool a0_6, .string a0_7, .int .u64 a0_8, .int .u64 a0_9, .int .i64 a0_10] 167 (0, 0)) (lb BK555) hb); have n1_ := Aside0.mk (blk_below (g := gb556) (o := .cells #[.int .i64 0, .int .i64 0, .int .i64 0, .bool false, .int .i64 0, .string (⟨#[]⟩ : ByteArray), .bool false, .string (⟨#[]⟩ : ByteArray), .int .u64 0, .int .u64 0, .int .i64 0] 138 (0, 0)) (lb BK556) hb); have n2_ := Aside0.mk (below_step bw hb); have n3_ := Aside0.mk (hbox); have n4_ := Aside0.mk ((by rw [hg]; exact (below_size bw) : w.heap.size ≤ gb557)); have n5_ := Aside0.mk ((by rw [hg]; exact (below_size bw) : w.heap.size ≤ gb557)); have n6_ := Aside0.mk ((by rw [hg]; exact Nat.ne_of_lt (blk_lt (g := gb555) (o := .cells #[.int .i64 a0_0, .int .i64 a0_1, .int .i64 a0_2, .bool a0_3, .int .i64 a0_4, .string a0_5, .bool a0_6, .string a0_7, .int .u64 a0_8, .int .u64 a0_9, .int .i64 a0_10] 167 (0, 0)) (lb BK555)) : gb555 ≠ gb557)); have n7_ := Aside0.mk ((by rw [hg]; exact Nat.ne_of_gt (blk_lt (g := gb555) (o := .cells #[.int .i64 a0_0, .int .i64 a0_1, .int .i64 a0_2, .bool a0_3, .int .i64 a0_4, .string a0_5, .bool a0_6, .string a0_7, .int .u64 a0_8, .int .u64 a0_9, .int .i64 a0_10] 167 (0, 0)) (lb BK555)) : gb557 ≠ gb555)); have n8_ := Aside0.mk ((by rw [hg]; exact Nat.ne_of_lt (blk_lt (g := gb556) (o := .cells #[.int .i64 0, .int .i64 0, .int .i64 0, .bool false, .int .i64 0, .string (⟨#[]⟩ : ByteArray), .bool false, .string (⟨#[]⟩ : ByteArray), .int .u64 0, .int .u64 0, .int .i64 0] 138 (0, 0)) (lb BK556)) : gb556 ≠ gb557)); have n9_ := Aside0.mk ((by rw [hg]; exact Nat.ne_of_gt (blk_lt (g := gb556) (o := .cells #[.int .i64 0, .int .i64 0, .int .i64 0, .bool false, .int .i64 0, .string (⟨#[]⟩ : ByteArray), .bool false, .string (⟨#[]⟩ : ByteArray), .int .u64 0, .int .u64 0, .int .i64 0] 138 (0, 0)) (lb BK556)) : gb557 ≠ gb556)); clear BK555; clear BK556; clear HB; have BK555 := n0_; have BK556 := n1_; have HB := n2_; have BK557 := n3_; have GW557 := n4_; have GE557 := n5_; have NB555_557 := n6_; have NB557_555 := n7_; have NB556_557 := n8_; have NB557_556 := n9_; clear n0_ n1_ n2_ n3_ n4_ n5_ n6_ n7_ n8_ n9_; clear hb hbox hg; have hnb6 := NB555_556.out; have hnc6 := NB556_555.out; have hnb7 := NB555_557.out; have hnc7 := NB557_555.out; have hcz8_0 : w5.cell? ⟨gb555, 0, none⟩ = some (.int .i64 a0_0) := (blk_cell BK555.out 0).trans rfl; have hcz8_1 : w5.cell? ⟨gb555, 1, none⟩ = some (.int .i64 a0_1) := (blk_cell BK555.out 1).trans rfl; have hcz8_2 : w5.cell? ⟨gb555, 2, none⟩ = some (.int .i64 a0_2) := (blk_cell BK555.out 2).trans rfl; have hcz8_3 : w5.cell? ⟨gb555, 3, none⟩ = some (.bool a0_3) := (blk_cell BK555.out 3).trans rfl; have hcz8_4 : w5.cell? ⟨gb555, 4, none⟩ = some (.int .i64 a0_4) := (blk_cell BK555.out 4).trans rfl; have hcz8_5 : w5.cell? ⟨gb555, 5, none⟩ = some (.string a0_5) := (blk_cell BK555.out 5).trans rfl; have hcz8_6 : w5.cell? ⟨gb555, 6, none⟩ = some (.bool a0_6) := (blk_cell BK555.out 6).trans rfl; have hcz8_7 : w5.cell? ⟨gb555, 7, none⟩ = some (.string a0_7) := (blk_cell BK555.out 7).trans rfl; have hcz8_8 : w5.cell? ⟨gb555, 8, none⟩ = some (.int .u64 a0_8) := (blk_cell BK555.out 8).trans rfl; have hcz8_9 : w5.cell? ⟨gb555, 9, none⟩ = some (.int .u64 a0_9) := (blk_cell BK555.out 9).trans rfl; have hcz8_10 : w5.cell? ⟨gb555, 10, none⟩ = some (.int .i64 a0_10) := (blk_cell BK555.out 10).trans rfl; have hfz8_0 := blk_frozen BK555.out 0; have hfz8_1 := blk_frozen BK555.out 1; have hfz8_2 := blk_frozen BK555.out 2; have hfz8_3 := blk_frozen BK555.out 3; have hfz8_4 := blk_frozen BK555.out 4; have hfz8_5 := blk_frozen BK555.out 5; have hfz8_6 := blk_frozen BK555.out 6; have hfz8_7 := blk_frozen BK555.out 7; have hfz8_8 := blk_frozen BK555.out 8; have hfz8_9 := blk_frozen BK555.out 9; have hfz8_10 := blk_frozen BK555.out 10; have hnb9 := NB557_556.out; have hnc9 := NB556_557.out; have hcz10_0 : w5.cell? ⟨gb557, 0, none⟩ = some (.int .i64 0) := (blk_cell BK557.out 0).trans rfl; have hcz10_1 : w5.cell? ⟨gb557, 1, none⟩ = some (.int .i64 0) := (blk_cell BK557.out 1).trans rfl; have hcz10_2 : w5.cell? ⟨gb557, 2, none⟩ = some (.int .i64 0) := (blk_cell BK557.out 2).trans rfl; have hcz10_3 : w5.cell? ⟨gb557, 3, none⟩ = some (.bool false) := (blk_cell BK557.out 3).trans rfl; have hcz10_4 : w5.cell? ⟨gb557, 4, none⟩ = some (.int .i64 0) := (blk_cell BK557.out 4).trans rfl; have hcz10_5 : w5.cell? ⟨gb557, 5, none⟩ = some (.string (⟨#[]⟩ : ByteArray)) := (blk_cell BK557.out 5).trans rfl; have hcz10_6 : w5.cell? ⟨gb557, 6, none⟩ = some (.bool false) := (blk_cell BK557.out 6).trans rfl; have hcz10_7 : w5.cell? ⟨gb557, 7, none⟩ = some (.string (⟨#[]⟩ : ByteArray)) := (blk_cell BK557.out 7).trans rfl; have hcz10_8 : w5.cell? ⟨gb557, 8, none⟩ = some (.int .u64 0) := (blk_cell BK557.out 8).trans rfl; have hcz10_9 : w5.cell? ⟨gb557, 9, none⟩ = some (.int .u64 0) := (blk_cell BK557.out 9).trans rfl; have hcz10_10 : w5.cell? ⟨gb557, 10, none⟩ = some (.int .i64 0) := (blk_cell BK557.out 10).trans rfl; have hfz10_0 := blk_frozen BK557.out 0; have hfz10_1 := blk_frozen BK557.out 1; have hfz10_2 := blk_frozen BK557.out 2; have hfz10_3 := blk_frozen BK557.out 3; have hfz10_4 := blk_frozen BK557.out 4; have hfz10_5 := blk_frozen BK557.out 5; have hfz10_6 := blk_frozen BK557.out 6; have hfz10_7 := blk_frozen BK557.out 7; have hfz10_8 := blk_frozen BK557.out 8; have hfz10_9 := blk_frozen BK557.out 9; have hfz10_10 := blk_frozen BK557.out 10) | ((with_reducible refine at_fn (f := 59) rfl ?_); refine goesL_ (some 18) rfl rfl Try.func59 (by kernel_rfl) rfl #[.agg #[.int .i64 a0_4, .string a0_5, .bool a0_6, .string a0_7, .int .u64 a0_8, .int .u64 a0_9, .int .i64 a0_10]] rfl (by (try simp only [List.map_toArray, List.map_cons, List.map_nil]); first | done | rfl | (simp only [List.length_drop, List.length_take]; rfl)) ?_; (with_reducible refine (laws_toNode.calls a0_4 a0_5 a0_6 a0_7 a0_8 a0_9 a0_10 t558 t559 t560 t561 t562 t563 t564 _ A2.out).mono ?_); rintro e w11 ⟨rfl, hb⟩; refine ⟨_, rfl, ?_⟩; have n0_ := Aside0.mk (blk_below (g := gb555) (o := .cells #[.int .i64 a0_0, .int .i64 a0_1, .int .i64 a0_2, .bool a0_3, .int .i64 a0_4, .string a0_5, .bool a0_6, .string a0_7, .int .u64 a0_8, .int .u64 a0_9, .int .i64 a0_10] 167 (0, 0)) (by (with_reducible repeat (first | refine blk_drewN ?_ _ | refine blk_drew ?_ | refine blk_alloc ?_ _)); refine blk_far ?_ NB555_557.out _; (with_reducible repeat (first | refine blk_drewN ?_ _ | refine blk_drew ?_ | refine blk_alloc ?_ _)); refine blk_far ?_ NB555_557.out _; (with_reducible repeat (first | refine blk_drewN ?_ _ | refine blk_drew ?_ | refine blk_alloc ?_ _)); refine blk_far ?_ NB555_557.out _; (with_reducible repeat (first | refine blk_drewN ?_ _ | refine blk_drew ?_ | refine blk_alloc ?_ _)); refine blk_far ?_ NB555_557.out _; (with_reducible repeat (first | refine blk_drewN ?_ _ | refine blk_drew ?_ | refine blk_alloc ?_ _)); exact BK555.out) hb); have n1_ := Aside0.mk (blk_below (g := gb556) (o := .cells #[.int .i64 0, .int .i64 0, .int .i64 0, .bool false, .int .i64 0, .string (⟨#[]⟩ : ByteArray), .bool false, .string (⟨#[]⟩ : ByteArray), .int .u64 0, .int .u64 0, .int .i64 0] 138 (0, 0)) (by (with_reducible repeat (first | refine blk_drewN ?_ _ | refine blk_drew ?_ | refine blk_alloc ?_ _)); refine blk_far ?_ NB556_557.out _; (with_reducible repeat (first | refine blk_drewN ?_ _ | refine blk_drew ?_ | refine blk_alloc ?_ _)); refine blk_far ?_ NB556_557.out _; (with_reducible repeat (first | refine blk_drewN ?_ _ | refine blk_drew ?_ | refine blk_alloc ?_ _)); refine blk_far ?_ NB556_557.out _; (with_reducible repeat (first | refine blk_drewN ?_ _ | refine blk_drew ?_ | refine blk_alloc ?_ _)); refine blk_far ?_ NB556_557.out _; (with_reducible repeat (first | refine blk_drewN ?_ _ | refine blk_drew ?_ | refine blk_alloc ?_ _)); exact BK556.out) hb); have n2_ := Aside0.mk (blk_below (g := gb557) (o := .cells #[.int .i64 a0_0, .int .i64 a0_1, .int .i64 a0_2, .bool a0_3, .int .i64 0, .string (⟨#[]⟩ : ByteArray), .bool false, .string (⟨#[]⟩ : ByteArray), .int .u64 0, .int .u64 0, .int .i64 0] 138 (0, 0)) (by (with_reducible repeat (first | refine blk_drewN ?_ _ | refine blk_drew ?_ | refine blk_alloc ?_ _)); refine blk_put (cs := #[.int .i64 a0_0, .int .i64 a0_1, .int .i64 a0_2, .bool false, .int .i64 0, .string (⟨#[]⟩ : ByteArray), .bool false, .string (⟨#[]⟩ : ByteArray), .int .u64 0, .int .u64 0, .int .i64 0]) ?_ 3 _ rfl; (with_reducible repeat (first | refine blk_drewN ?_ _ | refine blk_drew ?_ | refine blk_alloc ?_ _)); refine blk_put (cs := #[.int .i64 a0_0, .int .i64 a0_1, .int .i64 0, .bool false, .int .i64 0, .string (⟨#[]⟩ : ByteArray), .bool false, .string (⟨#[]⟩ : ByteArray), .int .u64 0, .int .u64 0, .int .i64 0]) ?_ 2 _ rfl; (with_reducible repeat (first | refine blk_drewN ?_ _ | refine blk_drew ?_ | refine blk_alloc ?_ _)); refine blk_put (cs := #[.int .i64 a0_0, .int .i64 0, .int .i64 0, .bool false, .int .i64 0, .string (⟨#[]⟩ : ByteArray), .bool false, .string (⟨#[]⟩ : ByteArray), .int .u64 0, .int .u64 0, .int .i64 0]) ?_ 1 _ rfl; (with_reducible repeat (first | refine blk_drewN ?_ _ | refine blk_drew ?_ | refine blk_alloc ?_ _)); refine blk_put (cs := #[.int .i64 0, .int .i64 0, .int .i64 0, .bool false, .int .i64 0, .string (⟨#[]⟩ : ByteArray), .bool false, .string (⟨#[]⟩ : ByteArray), .int .u64 0, .int .u64 0, .int .i64 0]) ?_ 0 _ rfl; (with_reducible repeat (first | refine blk_drewN ?_ _ | refine blk_drew ?_ | refine blk_alloc ?_ _)); exact BK557.out) hb); have n3_ := Aside0.mk (below_step bw hb); clear BK555; clear BK556; clear BK557; clear HB; have BK555 := n0_; have BK556 := n1_; have BK557 := n2_; have HB := n3_; clear n0_ n1_ n2_ n3_; (try clear hb); (try clear hb2); (try clear hk); (try clear hi); have hcz12_0 : w11.cell? ⟨gb557, 0, none⟩ = some (.int .i64 a0_0) := (blk_cell BK557.out 0).trans rfl; have hcz12_1 : w11.cell? ⟨gb557, 1, none⟩ = some (.int .i64 a0_1) := (blk_cell BK557.out 1).trans rfl; have hcz12_2 : w11.cell? ⟨gb557, 2, none⟩ = some (.int .i64 a0_2) := (blk_cell BK557.out 2).trans rfl; have hcz12_3 : w11.cell? ⟨gb557, 3, none⟩ = some (.bool a0_3) := (blk_cell BK557.out 3).trans rfl; have hcz12_4 : w11.cell? ⟨gb557, 4, none⟩ = some (.int .i64 0) := (blk_cell BK557.out 4).trans rfl; have hcz12_5 : w11.cell? ⟨gb557, 5, none⟩ = some (.string (⟨#[]⟩ : ByteArray)) := (blk_cell BK557.out 5).trans rfl; have hcz12_6 : w11.cell? ⟨gb557, 6, none⟩ = some (.bool false) := (blk_cell BK557.out 6).trans rfl; have hcz12_7 : w11.cell? ⟨gb557, 7, none⟩ = some (.string (⟨#[]⟩ : ByteArray)) := (blk_cell BK557.out 7).trans rfl; have hcz12_8 : w11.cell? ⟨gb557, 8, none⟩ = some (.int .u64 0) := (blk_cell BK557.out 8).trans rfl; have hcz12_9 : w11.cell? ⟨gb557, 9, none⟩ = some (.int .u64 0) := (blk_cell BK557.out 9).trans rfl; have hcz12_10 : w11.cell? ⟨gb557, 10, none⟩ = some (.int .i64 0) := (blk_cell BK557.out 10).trans rfl; have hfz12_0 := blk_frozen BK557.out 0; have hfz12_1 := blk_frozen BK557.out 1; have hfz12_2 := blk_frozen BK557.out 2; have hfz12_3 := blk_frozen BK557.out 3; have hfz12_4 := blk_frozen BK557.out 4; have hfz12_5 := blk_frozen BK557.out 5; have hfz12_6 := blk_frozen BK557.out 6; have hfz12_7 := blk_frozen BK557.out 7; have hfz12_8 := blk_frozen BK557.out 8; have hfz12_9 := blk_frozen BK557.out 9; have hfz12_10 := blk_frozen BK557.out 10; have hcz13_0 : w11.cell? ⟨gb556, 0, none⟩ = some (.int .i64 0) := (blk_cell BK556.out 0).trans rfl; have hcz13_1 : w11.cell? ⟨gb556, 1, none⟩ = some (.int .i64 0) := (blk_cell BK556.out 1).trans rfl; have hcz13_2 : w11.cell? ⟨gb556, 2, none⟩ = some (.int .i64 0) := (blk_cell BK556.out 2).trans rfl; have hcz13_3 : w11.cell? ⟨gb556, 3, none⟩ = some (.bool false) := (blk_cell BK556.out 3).trans rfl; have hcz13_4 : w11.cell? ⟨gb556, 4, none⟩ = some (.int .i64 0) := (blk_cell BK556.out 4).trans rfl; have hcz13_5 : w11.cell? ⟨gb556, 5, none⟩ = some (.string (⟨#[]⟩ : ByteArray)) := (blk_cell BK556.out 5).trans rfl; have hcz13_6 : w11.cell? ⟨gb556, 6, none⟩ = some (.bool false) := (blk_cell BK556.out 6).trans rfl; have hcz13_7 : w11.cell? ⟨gb556, 7, none⟩ = some (.string (⟨#[]⟩ : ByteArray)) := (blk_cell BK556.out 7).trans rfl; have hcz13_8 : w11.cell? ⟨gb556, 8, none⟩ = some (.int .u64 0) := (blk_cell BK556.out 8).trans rfl; have hcz13_9 : w11.cell? ⟨gb556, 9, none⟩ = some (.int .u64 0) := (blk_cell BK556.out 9).trans rfl; have hcz13_10 : w11.cell? ⟨gb556, 10, none⟩ = some (.int .i64 0) := (blk_cell BK556.out 10).trans rfl; have hfz13_0 := blk_frozen BK556.out 0; have hfz13_1 := blk_frozen BK556.out 1; have hfz13_2 := blk_frozen BK556.out 2; have hfz13_3 := blk_frozen BK556.out 3; have hfz13_4 := blk_frozen BK556.out 4; have hfz13_5 := blk_frozen BK556.out 5; have hfz13_6 := blk_frozen BK556.out 6; have hfz13_7 := blk_frozen BK556.out 7; have hfz13_8 := blk_frozen BK556.out 8; have hfz13_9 := blk_frozen BK556.out 9; have hfz13_10 := blk_frozen BK556.out 10))
 refine bodyPost_ret (results_cell_row rfl _ _ gb556 138 #[.int .i64 a0_0, .int .i64 a0_1, .int .i64 a0_2, .bool a0_3, .int .i64 t558, .string t559, .bool t560, .string t561, .int .u64 t562, .int .u64 t563, .int .i64 t564] (0, 0) _ rfl (by (with_reducible repeat (first | refine blk_drewN ?_ _ | refine blk_drew ?_ | refine blk_alloc ?_ _)); refine blk_put (cs := #[.int .i64 a0_0, .int .i64 a0_1, .int .i64 a0_2, .bool a0_3, .int .i64 t558, .string t559, .bool t560, .string t561, .int .u64 t562, .int .u64 t563, .int .i64 0]) ?_ 10 _ rfl; (with_reducible repeat (first | refine blk_drewN ?_ _ | refine blk_drew ?_ | refine blk_alloc ?_ _)); refine blk_put (cs := #[.int .i64 a0_0, .int .i64 a0_1, .int .i64 a0_2, .bool a0_3, .int .i64 t558, .string t559, .bool t560, .string t561, .int .u64 t562, .int .u64 0, .int .i64 0]) ?_ 9 _ rfl; (with_reducible repeat (first | refine blk_drewN ?_ _ | refine blk_drew ?_ | refine blk_alloc ?_ _)); refine blk_put (cs := #[.int .i64 a0_0, .int .i64 a0_1, .int .i64 a0_2, .bool a0_3, .int .i64 t558, .string t559, .bool t560, .string t561, .int .u64 0, .int .u64 0, .int .i64 0]) ?_ 8 _ rfl; (with_reducible repeat (first | refine blk_drewN ?_ _ | refine blk_drew ?_ | refine blk_alloc ?_ _)); refine blk_put (cs := #[.int .i64 a0_0, .int .i64 a0_1, .int .i64 a0_2, .bool a0_3, .int .i64 t558, .string t559, .bool t560, .string (⟨#[]⟩ : ByteArray), .int .u64 0, .int .u64 0, .int .i64 0]) ?_ 7 _ rfl; (with_reducible repeat (first | refine blk_drewN ?_ _ | refine blk_drew ?_ | refine blk_alloc ?_ _)); refine blk_put (cs := #[.int .i64 a0_0, .int .i64 a0_1, .int .i64 a0_2, .bool a0_3, .int .i64 t558, .string t559, .bool false, .string (⟨#[]⟩ : ByteArray), .int .u64 0, .int .u64 0, .int .i64 0]) ?_ 6 _ rfl; (with_reducible repeat (first | refine blk_drewN ?_ _ | refine blk_drew ?_ | refine blk_alloc ?_ _)); refine blk_put (cs := #[.int .i64 a0_0, .int .i64 a0_1, .int .i64 a0_2, .bool a0_3, .int .i64 t558, .string (⟨#[]⟩ : ByteArray), .bool false, .string (⟨#[]⟩ : ByteArray), .int .u64 0, .int .u64 0, .int .i64 0]) ?_ 5 _ rfl; (with_reducible repeat (first | refine blk_drewN ?_ _ | refine blk_drew ?_ | refine blk_alloc ?_ _)); refine blk_put (cs := #[.int .i64 a0_0, .int .i64 a0_1, .int .i64 a0_2, .bool a0_3, .int .i64 0, .string (⟨#[]⟩ : ByteArray), .bool false, .string (⟨#[]⟩ : ByteArray), .int .u64 0, .int .u64 0, .int .i64 0]) ?_ 4 _ rfl; (with_reducible repeat (first | refine blk_drewN ?_ _ | refine blk_drew ?_ | refine blk_alloc ?_ _)); refine blk_put (cs := #[.int .i64 a0_0, .int .i64 a0_1, .int .i64 a0_2, .bool false, .int .i64 0, .string (⟨#[]⟩ : ByteArray), .bool false, .string (⟨#[]⟩ : ByteArray), .int .u64 0, .int .u64 0, .int .i64 0]) ?_ 3 _ rfl; (with_reducible repeat (first | refine blk_drewN ?_ _ | refine blk_drew ?_ | refine blk_alloc ?_ _)); refine blk_put (cs := #[.int .i64 a0_0, .int .i64 a0_1, .int .i64 0, .bool false, .int .i64 0, .string (⟨#[]⟩ : ByteArray), .bool false, .string (⟨#[]⟩ : ByteArray), .int .u64 0, .int .u64 0, .int .i64 0]) ?_ 2 _ rfl; (with_reducible repeat (first | refine blk_drewN ?_ _ | refine blk_drew ?_ | refine blk_alloc ?_ _)); refine blk_put (cs := #[.int .i64 a0_0, .int .i64 0, .int .i64 0, .bool false, .int .i64 0, .string (⟨#[]⟩ : ByteArray), .bool false, .string (⟨#[]⟩ : ByteArray), .int .u64 0, .int .u64 0, .int .i64 0]) ?_ 1 _ rfl; (with_reducible repeat (first | refine blk_drewN ?_ _ | refine blk_drew ?_ | refine blk_alloc ?_ _)); refine blk_put (cs := #[.int .i64 0, .int .i64 0, .int .i64 0, .bool false, .int .i64 0, .string (⟨#[]⟩ : ByteArray), .bool false, .string (⟨#[]⟩ : ByteArray), .int .u64 0, .int .u64 0, .int .i64 0]) ?_ 0 _ rfl; (with_reducible repeat (first | refine blk_drewN ?_ _ | refine blk_drew ?_ | refine blk_alloc ?_ _)); refine blk_far ?_ NB556_557.out _; (with_reducible repeat (first | refine blk_drewN ?_ _ | refine blk_drew ?_ | refine blk_alloc ?_ _)); refine blk_far ?_ NB556_557.out _; (with_reducible repeat (first | refine blk_drewN ?_ _ | refine blk_drew ?_ | refine blk_alloc ?_ _)); refine blk_far ?_ NB556_557.out _; (with_reducible repeat (first | refine blk_drewN ?_ _ | refine blk_drew ?_ | refine blk_alloc ?_ _)); refine blk_far ?_ NB556_557.out _; (with_reducible repeat (first | refine blk_drewN ?_ _ | refine blk_drew ?_ | refine blk_alloc ?_ _)); refine blk_far ?_ NB556_557.out _; (with_reducible repeat (first | refine blk_drewN ?_ _ | refine blk_drew ?_ | refine blk_alloc ?_ _)); refine blk_far ?_ NB556_557.out _; (with_reducible repeat (first | refine blk_drewN ?_ _ | refine blk_drew ?_ | refine blk_alloc ?_ _)); refine blk_far ?_ NB556_557.out _; (with_reducible repeat (first | refine blk_drewN ?_ _ | refine blk_drew ?_ | refine blk_alloc ?_ _)); exact BK556.out) Try.underlying138 rfl (by kernel_rfl)) rfl ?_
 exact ⟨by first | rfl | (simp [errW_none, errW_some] <;> rfl) | (simp [*, errW_none, errW_some] <;> rfl), bw⟩

end Go.Proofs.Ytcfbbbilonignaa.Q

namespace Go.Proofs.Ytcfbbbilonignaa.Q
open Go.RowKit Go.Proofs.YtcfbbbilonignaaW.PrintWords Go.Proofs.YtcfbbbilonignaaW.PrintLast Go.Proofs.YtcfbbbilonignaaW.PrintMore
set_option linter.unusedVariables false
set_option linter.unusedSimpArgs false

/-! ### laws_toInsS: function 86 -/
def laws_toInsS.l0 : Nat → List (S167) → List (S138) → Int → Option ((List (S138)))
 | 0, _, _, _ => none
 | k + 1, x0, x3, x4 => if x4 < (x0.length : Int) then (if 0 ≤ x4 then ((laws_toIns.f ((rd_T167 x0 x4).f0) ((rd_T167 x0 x4).f1) ((rd_T167 x0 x4).f2) ((rd_T167 x0 x4).f3) ((rd_T167 x0 x4).f4.f0) ((rd_T167 x0 x4).f4.f1) ((rd_T167 x0 x4).f4.f2) ((rd_T167 x0 x4).f4.f3) ((rd_T167 x0 x4).f4.f4) ((rd_T167 x0 x4).f4.f5) ((rd_T167 x0 x4).f4.f6)).bind fun bt569 => (if x4 < (x3.length : Int) then (laws_toInsS.l0 k x0 (x3.set (x4 : Int).toNat (⟨bt569.1, bt569.2.1, bt569.2.2.1, bt569.2.2.2.1, (⟨bt569.2.2.2.2.1, bt569.2.2.2.2.2.1, bt569.2.2.2.2.2.2.1, bt569.2.2.2.2.2.2.2.1, bt569.2.2.2.2.2.2.2.2.1, bt569.2.2.2.2.2.2.2.2.2.1, bt569.2.2.2.2.2.2.2.2.2.2⟩ : S66)⟩ : S138)) (wrap64 (x4 + 1))) else (none))) else (none)) else (some x3)
def laws_toInsS.f (k : Nat) (l0 : List (S167)) : Option ((List (S138))) := if 0 ≤ (l0.length : Int) then (if ((l0.length : Int) : Int).toNat ≤ 2706490160679 then (laws_toInsS.l0 k l0 (List.replicate ((l0.length : Int) : Int).toNat z138) 0) else (none)) else (none)
set_option maxHeartbeats 8000000 in
set_option maxRecDepth 100000 in
theorem laws_toInsS.calls (k : Nat) (A0 : Option Addr) (c0 : Nat) (l0 : List (S167)) (r : List (S138)) (w : World) (hr0 : Kd.C k167 w A0 l0.length l0) (hc0 : l0.length ≤ c0) (h : laws_toInsS.f k l0 = some r) :
  Calls Try.prog 86 #[.slice A0 l0.length c0] w fun e w' => ∃ v0_ : Value, e = .returned (v0_) ∧ Kd.R k138 138 w' w.heap.size (fun _ => True) v0_ r ∧ Below w.heap.size w w' := by
 have hu167 := Try.underlying167
 have hu138 := Try.underlying138
 have HR0 := Aside0.mk hr0
 have HC0 := Aside0.mk hc0
 clear hr0 hc0
 have HB := Aside0.mk (Below.refl w.heap.size w)
 have H : (if 0 ≤ (l0.length : Int) then (if ((l0.length : Int) : Int).toNat ≤ 2706490160679 then (laws_toInsS.l0 k l0 (List.replicate ((l0.length : Int) : Int).toNat z138) 0) else (none)) else (none)) = some r := h
 clear h
 by_cases c2 : 0 ≤ (l0.length : Int)
 ·rw [if_pos c2] at H
  have c2b0 := eq_true c2
  have c2b1 : decide (0 ≤ (l0.length : Int)) = true := decide_eq_true c2
  clear c2
  by_cases c3 : ((l0.length : Int) : Int).toNat ≤ 2706490160679
  ·rw [if_pos c3] at H
   have c3b0 := eq_true c3
   have c3b1 : decide (((l0.length : Int) : Int).toNat ≤ 2706490160679) = true := decide_eq_true c3
   clear c3
   obtain ⟨y565, hy565⟩ : ∃ y_ : List (S138), y_ = (List.replicate ((l0.length : Int) : Int).toNat z138) := ⟨_, rfl⟩
   replace H : (laws_toInsS.l0 k l0 y565 0) = some r := by first | (rw [hy565]; with_reducible exact H) | (have H2_ := (Option.bind_some _ _).symm.trans H; rw [hy565]; with_reducible exact H2_) | (have H2_ := (Option.bind_some _ _).symm.trans H; with_reducible exact H2_) | with_reducible exact H | (rw [hy565]; exact H) | exact H
   have Ny565 := Aside0.mk hy565
   clear hy565
   have H' := Aside0.mk H
   clear H
   go_enter Try.func86, Try.ntmps86
   go_wp2_with (first | ((with_reducible refine gate_dst (N := 7) rfl ?_); refine Kd.R_make k138 _ 138 rfl (N := 7) rfl 54 _ _ rfl (l0.length : Int) rfl rfl Try.underlying54 (.agg #[(.int .i64 0), (.int .i64 0), (.int .i64 0), (.bool false), (.int .i64 0), (.string ⟨#[]⟩), (.bool false), (.string ⟨#[]⟩), (.int .u64 0), (.int .u64 0), (.int .i64 0)]) 104 info138 rfl (by decide) (by omega) z138 (ok := fun _ => True) (okp := fun _ => True) (k138_mkM _ _ _ z138 ) (fun _ hk => hk) trivial (of_decide_eq_true (by first | (with_reducible assumption) | assumption)) (Nat.le_trans (Nat.mul_le_mul_right _ (of_decide_eq_true (by first | (with_reducible assumption) | assumption) : (l0.length : Int).toNat ≤ 2706490160679)) (by omega)) (Below.refl _ _) (Nat.le_refl _) ?_; intro v566 w4 ho5 hb hg_ hnew_; clear hg_ hnew_; (first | rw [← Ny565.out] at ho5 | (simp only [Int.reduceToNat] at ho5; rw [← Ny565.out] at ho5)); have n0_ := Aside0.mk (Kd.R_lower ho5 (below_size bw)); have n1_ := Aside0.mk (below_step bw hb); clear HB; have HO567 := n0_; have HB := n1_; clear n0_ n1_; clear hb ho5))
   go_loopg [4] k (fun kq v4 w' => ∃ (x3_1 : List (S138)) (x4_1 : Int), v4 = .int .i64 x4_1 ∧ Aside0 (laws_toInsS.l0 kq l0 x3_1 x4_1 = some r) ∧ Aside0 (kq ≤ k) ∧ Aside0 (Kd.R k138 138 w' w.heap.size (fun _ => True) v566 x3_1) ∧ Aside0 (Below w.heap.size w w'))
   case atStart => exact ⟨(y565), (0), (by first | rfl | (simp; done) | (simp [*]; done)), H', ⟨Nat.le_refl _⟩, ⟨lf HO567⟩, ⟨bw⟩⟩
   case round =>
    clear H'
    try clear c2
    try clear c2b0
    try clear c2b1
    try clear p2
    try clear c3
    try clear c3b0
    try clear c3b1
    obtain ⟨x3_1, x4_1, rfl, HA, HK1, HO_3, HB⟩ := hrel
    cases gk with
    | zero => exact absurd HA.out (by simp [laws_toInsS.l0])
    | succ k1 =>
     have H := HA.out
     clear HA
     simp only [laws_toInsS.l0] at H
     by_cases c6 : x4_1 < (l0.length : Int)
     ·rw [if_pos c6] at H
      have c6b0 : decide (x4_1 < (l0.length : Int)) = true := decide_eq_true c6
      clear c6
      by_cases c7 : 0 ≤ x4_1
      ·rw [if_pos c7] at H
       have c7b0 : decide (0 ≤ x4_1) = true := decide_eq_true c7
       clear c7
       replace H := Option.bind_eq_some_iff.mp H
       obtain ⟨⟨t569, t570, t571, t572, t573, t574, t575, t576, t577, t578, t579⟩, A80, H⟩ := H
       replace H : (if x4_1 < (x3_1.length : Int) then (laws_toInsS.l0 k1 l0 (x3_1.set (x4_1 : Int).toNat (⟨t569, t570, t571, t572, (⟨t573, t574, t575, t576, t577, t578, t579⟩ : S66)⟩ : S138)) (wrap64 (x4_1 + 1))) else (none)) = some r := H
       have A8 := Aside0.mk A80
       clear A80
       by_cases c9 : x4_1 < (x3_1.length : Int)
       ·rw [if_pos c9] at H
        have c9b0 : decide (x4_1 < (x3_1.length : Int)) = true := decide_eq_true c9
        clear c9
        obtain ⟨y580, hy580⟩ : ∃ y_ : List (S138), y_ = (x3_1.set (x4_1 : Int).toNat (⟨t569, t570, t571, t572, (⟨t573, t574, t575, t576, t577, t578, t579⟩ : S66)⟩ : S138)) := ⟨_, rfl⟩
        replace H : (laws_toInsS.l0 k1 l0 y580 (wrap64 (x4_1 + 1))) = some r := by first | (rw [hy580]; with_reducible exact H) | (have H2_ := (Option.bind_some _ _).symm.trans H; rw [hy580]; with_reducible exact H2_) | (have H2_ := (Option.bind_some _ _).symm.trans H; with_reducible exact H2_) | with_reducible exact H | (rw [hy580]; exact H) | exact H
        have Ny580 := Aside0.mk hy580
        clear hy580
        have H' := Aside0.mk H
        clear H
        have p568 : 0 ≤ (x4_1 : Int) := of_decide_eq_true (by first | (with_reducible assumption) | assumption)
        have q568 : x4_1 < (l0.length : Int) := of_decide_eq_true (by first | (with_reducible assumption) | assumption)
        obtain ⟨ad568, e568, hx568_0, hx568_1, hx568_2, hx568_3, hx568_4, hx568_5, hx568_6, hx568_7, hx568_8, hx568_9, hx568_10⟩ := at_T167 HR0.out x4_1 p568 q568
        cases e568
        replace hx568_0 := (HB.out.cell (World.block_lt_of_cell? w _ hx568_0)).trans hx568_0
        replace hx568_1 := (HB.out.cell (World.block_lt_of_cell? w _ hx568_1)).trans hx568_1
        replace hx568_2 := (HB.out.cell (World.block_lt_of_cell? w _ hx568_2)).trans hx568_2
        replace hx568_3 := (HB.out.cell (World.block_lt_of_cell? w _ hx568_3)).trans hx568_3
        replace hx568_4 := (HB.out.cell (World.block_lt_of_cell? w _ hx568_4)).trans hx568_4
        replace hx568_5 := (HB.out.cell (World.block_lt_of_cell? w _ hx568_5)).trans hx568_5
        replace hx568_6 := (HB.out.cell (World.block_lt_of_cell? w _ hx568_6)).trans hx568_6
        replace hx568_7 := (HB.out.cell (World.block_lt_of_cell? w _ hx568_7)).trans hx568_7
        replace hx568_8 := (HB.out.cell (World.block_lt_of_cell? w _ hx568_8)).trans hx568_8
        replace hx568_9 := (HB.out.cell (World.block_lt_of_cell? w _ hx568_9)).trans hx568_9
        replace hx568_10 := (HB.out.cell (World.block_lt_of_cell? w _ hx568_10)).trans hx568_10
        replace p568 := eq_true p568
        replace q568 := eq_true q568
        go_wp2_with (first | ((with_reducible refine at_fn (f := 110) rfl ?_); refine goesL_ (some 20) rfl rfl Try.func110 (by kernel_rfl) rfl #[.agg #[.int .i64 ((rd_T167 l0 x4_1).f0), .int .i64 ((rd_T167 l0 x4_1).f1), .int .i64 ((rd_T167 l0 x4_1).f2), .bool ((rd_T167 l0 x4_1).f3), .int .i64 ((rd_T167 l0 x4_1).f4.f0), .string ((rd_T167 l0 x4_1).f4.f1), .bool ((rd_T167 l0 x4_1).f4.f2), .string ((rd_T167 l0 x4_1).f4.f3), .int .u64 ((rd_T167 l0 x4_1).f4.f4), .int .u64 ((rd_T167 l0 x4_1).f4.f5), .int .i64 ((rd_T167 l0 x4_1).f4.f6)]] rfl (by (try simp only [List.map_toArray, List.map_cons, List.map_nil]); first | done | rfl | (simp only [List.length_drop, List.length_take]; rfl)) ?_; (with_reducible refine (laws_toIns.calls ((rd_T167 l0 x4_1).f0) ((rd_T167 l0 x4_1).f1) ((rd_T167 l0 x4_1).f2) ((rd_T167 l0 x4_1).f3) ((rd_T167 l0 x4_1).f4.f0) ((rd_T167 l0 x4_1).f4.f1) ((rd_T167 l0 x4_1).f4.f2) ((rd_T167 l0 x4_1).f4.f3) ((rd_T167 l0 x4_1).f4.f4) ((rd_T167 l0 x4_1).f4.f5) ((rd_T167 l0 x4_1).f4.f6) t569 t570 t571 t572 t573 t574 t575 t576 t577 t578 t579 _ A8.out).mono ?_); rintro e w11 ⟨rfl, hb⟩; refine ⟨_, rfl, ?_⟩; have n0_ := Aside0.mk (Kd.R_below (lf HO_3) hb); have n1_ := Aside0.mk (below_step bw hb); clear HO_3; clear HB; have HO_3 := n0_; have HB := n1_; clear n0_ n1_; (try clear hb); (try clear hb2); (try clear hk); (try clear hi); have p10 : 0 ≤ (x4_1 : Int) := of_decide_eq_true (by first | (with_reducible assumption) | assumption); have q10 : (x4_1 : Int) < ((x3_1.length : Int) : Int) := of_decide_eq_true (by first | (with_reducible assumption) | assumption); obtain ⟨go10, co10, eo10, gb10, gl10, cl10, HG10⟩ := Kd.R_form HO_3.out (by omega); (first | cases eo10 | (injection eo10 with ea_ en_ ec_; (first | subst ea_ | (injection ea_ with ea_; subst ea_)); subst ec_; clear en_)); have GB10 := Aside0.mk gb10; have GG10 := Aside0.mk HG10; clear gb10 gl10 HG10; obtain ⟨ce10, hcl10, hM10, hcc10, hfr10⟩ := Kd.R_elem HO_3.out z138 (x4_1 : Int) p10 q10; obtain rfl := k138_openM hM10; have hx10_0 : w11.cell? ⟨go10, (x4_1 : Int).toNat * 11, none⟩ = some (.int .i64 ((rd_T138 x3_1 x4_1).f0)) := hcc10 0 _ rfl; have hx10_1 : w11.cell? ⟨go10, (x4_1 : Int).toNat * 11 + 1, none⟩ = some (.int .i64 ((rd_T138 x3_1 x4_1).f1)) := hcc10 1 _ rfl; have hx10_2 : w11.cell? ⟨go10, (x4_1 : Int).toNat * 11 + 2, none⟩ = some (.int .i64 ((rd_T138 x3_1 x4_1).f2)) := hcc10 2 _ rfl; have hx10_3 : w11.cell? ⟨go10, (x4_1 : Int).toNat * 11 + 3, none⟩ = some (.bool ((rd_T138 x3_1 x4_1).f3)) := hcc10 3 _ rfl; have hx10_4 : w11.cell? ⟨go10, (x4_1 : Int).toNat * 11 + 4, none⟩ = some (.int .i64 ((rd_T138 x3_1 x4_1).f4.f0)) := hcc10 4 _ rfl; have hx10_5 : w11.cell? ⟨go10, (x4_1 : Int).toNat * 11 + 5, none⟩ = some (.string ((rd_T138 x3_1 x4_1).f4.f1)) := hcc10 5 _ rfl; have hx10_6 : w11.cell? ⟨go10, (x4_1 : Int).toNat * 11 + 6, none⟩ = some (.bool ((rd_T138 x3_1 x4_1).f4.f2)) := hcc10 6 _ rfl; have hx10_7 : w11.cell? ⟨go10, (x4_1 : Int).toNat * 11 + 7, none⟩ = some (.string ((rd_T138 x3_1 x4_1).f4.f3)) := hcc10 7 _ rfl; have hx10_8 : w11.cell? ⟨go10, (x4_1 : Int).toNat * 11 + 8, none⟩ = some (.int .u64 ((rd_T138 x3_1 x4_1).f4.f4)) := hcc10 8 _ rfl; have hx10_9 : w11.cell? ⟨go10, (x4_1 : Int).toNat * 11 + 9, none⟩ = some (.int .u64 ((rd_T138 x3_1 x4_1).f4.f5)) := hcc10 9 _ rfl; have hx10_10 : w11.cell? ⟨go10, (x4_1 : Int).toNat * 11 + 10, none⟩ = some (.int .i64 ((rd_T138 x3_1 x4_1).f4.f6)) := hcc10 10 _ rfl; have hf10_0 : w11.frozen? ⟨go10, (x4_1 : Int).toNat * 11, none⟩ = false := hfr10 0; have hf10_1 : w11.frozen? ⟨go10, (x4_1 : Int).toNat * 11 + 1, none⟩ = false := hfr10 1; have hf10_2 : w11.frozen? ⟨go10, (x4_1 : Int).toNat * 11 + 2, none⟩ = false := hfr10 2; have hf10_3 : w11.frozen? ⟨go10, (x4_1 : Int).toNat * 11 + 3, none⟩ = false := hfr10 3; have hf10_4 : w11.frozen? ⟨go10, (x4_1 : Int).toNat * 11 + 4, none⟩ = false := hfr10 4; have hf10_5 : w11.frozen? ⟨go10, (x4_1 : Int).toNat * 11 + 5, none⟩ = false := hfr10 5; have hf10_6 : w11.frozen? ⟨go10, (x4_1 : Int).toNat * 11 + 6, none⟩ = false := hfr10 6; have hf10_7 : w11.frozen? ⟨go10, (x4_1 : Int).toNat * 11 + 7, none⟩ = false := hfr10 7; have hf10_8 : w11.frozen? ⟨go10, (x4_1 : Int).toNat * 11 + 8, none⟩ = false := hfr10 8; have hf10_9 : w11.frozen? ⟨go10, (x4_1 : Int).toNat * 11 + 9, none⟩ = false := hfr10 9; have hf10_10 : w11.frozen? ⟨go10, (x4_1 : Int).toNat * 11 + 10, none⟩ = false := hfr10 10; clear hcl10 hcc10 hfr10 hM10; replace p10 := eq_true p10; replace q10 := eq_true q10; have HX12 := Aside0.mk (show Kd.R k138 138 w11 w.heap.size (fun _ => True) (.slice (some ⟨go10, 0, none⟩) x3_1.length co10) x3_1 from (lf HO_3)); obtain ⟨ce12, hcl12, hM12, hcc12, hfr12⟩ := Kd.R_elem HX12.out z138 (x4_1 : Int) (of_decide_eq_true (by first | (with_reducible assumption) | assumption)) (by have h_ : (x4_1 : Int) < ((x3_1.length : Int) : Int) := of_decide_eq_true (by first | (with_reducible assumption) | assumption); first | exact h_ | (have e_ := (Kd.R_reads' HO_3.out).1; omega) | simpa using h_); obtain rfl := k138_openM hM12; have HP12 := Kd.R_seg HX12.out (x4_1 : Int) (of_decide_eq_true (by first | (with_reducible assumption) | assumption)) (by have h_ : (x4_1 : Int) < ((x3_1.length : Int) : Int) := of_decide_eq_true (by first | (with_reducible assumption) | assumption); first | exact h_ | (have e_ := (Kd.R_reads' HO_3.out).1; omega) | simpa using h_) (seg := [.int .i64 t569, .int .i64 t570, .int .i64 t571, .bool t572, .int .i64 t573, .string t574, .bool t575, .string t576, .int .u64 t577, .int .u64 t578, .int .i64 t579]) (j := 0) hcl12 hcc12 (show 11 ≤ 11 from by decide) (x' := (⟨t569, t570, t571, t572, (⟨t573, t574, t575, t576, t577, t578, t579⟩ : S66)⟩ : S138)) (k138_mkM _ _ _ (⟨t569, t570, t571, t572, (⟨t573, t574, t575, t576, t577, t578, t579⟩ : S66)⟩ : S138) ) (fun _ hk => hk); have hx12_0 := hcc12 0 _ rfl; (try simp only [show (k138).sz = 11 from rfl, Nat.mul_one, Nat.add_zero] at hx12_0); have hf12_0 := hfr12 0; (try simp only [show (k138).sz = 11 from rfl, Nat.mul_one, Nat.add_zero] at hf12_0); have hx12_1 := hcc12 1 _ rfl; (try simp only [show (k138).sz = 11 from rfl, Nat.mul_one, Nat.add_zero] at hx12_1); have hf12_1 := hfr12 1; (try simp only [show (k138).sz = 11 from rfl, Nat.mul_one, Nat.add_zero] at hf12_1); have hx12_2 := hcc12 2 _ rfl; (try simp only [show (k138).sz = 11 from rfl, Nat.mul_one, Nat.add_zero] at hx12_2); have hf12_2 := hfr12 2; (try simp only [show (k138).sz = 11 from rfl, Nat.mul_one, Nat.add_zero] at hf12_2); have hx12_3 := hcc12 3 _ rfl; (try simp only [show (k138).sz = 11 from rfl, Nat.mul_one, Nat.add_zero] at hx12_3); have hf12_3 := hfr12 3; (try simp only [show (k138).sz = 11 from rfl, Nat.mul_one, Nat.add_zero] at hf12_3); have hx12_4 := hcc12 4 _ rfl; (try simp only [show (k138).sz = 11 from rfl, Nat.mul_one, Nat.add_zero] at hx12_4); have hf12_4 := hfr12 4; (try simp only [show (k138).sz = 11 from rfl, Nat.mul_one, Nat.add_zero] at hf12_4); have hx12_5 := hcc12 5 _ rfl; (try simp only [show (k138).sz = 11 from rfl, Nat.mul_one, Nat.add_zero] at hx12_5); have hf12_5 := hfr12 5; (try simp only [show (k138).sz = 11 from rfl, Nat.mul_one, Nat.add_zero] at hf12_5); have hx12_6 := hcc12 6 _ rfl; (try simp only [show (k138).sz = 11 from rfl, Nat.mul_one, Nat.add_zero] at hx12_6); have hf12_6 := hfr12 6; (try simp only [show (k138).sz = 11 from rfl, Nat.mul_one, Nat.add_zero] at hf12_6); have hx12_7 := hcc12 7 _ rfl; (try simp only [show (k138).sz = 11 from rfl, Nat.mul_one, Nat.add_zero] at hx12_7); have hf12_7 := hfr12 7; (try simp only [show (k138).sz = 11 from rfl, Nat.mul_one, Nat.add_zero] at hf12_7); have hx12_8 := hcc12 8 _ rfl; (try simp only [show (k138).sz = 11 from rfl, Nat.mul_one, Nat.add_zero] at hx12_8); have hf12_8 := hfr12 8; (try simp only [show (k138).sz = 11 from rfl, Nat.mul_one, Nat.add_zero] at hf12_8); have hx12_9 := hcc12 9 _ rfl; (try simp only [show (k138).sz = 11 from rfl, Nat.mul_one, Nat.add_zero] at hx12_9); have hf12_9 := hfr12 9; (try simp only [show (k138).sz = 11 from rfl, Nat.mul_one, Nat.add_zero] at hf12_9); have hx12_10 := hcc12 10 _ rfl; (try simp only [show (k138).sz = 11 from rfl, Nat.mul_one, Nat.add_zero] at hx12_10); have hf12_10 := hfr12 10; (try simp only [show (k138).sz = 11 from rfl, Nat.mul_one, Nat.add_zero] at hf12_10); clear hcl12 hcc12 hfr12 hM12) | ((with_reducible refine gate_store (t := 138) (p := 21) rfl ?_); refine store_event (t := 138) (p := 21) (v := ?vo_w13) (w1 := (((((((((((w11.setCell ⟨go10, (x4_1 : Int).toNat * 11, none⟩ (.int .i64 t569)).setCell ⟨go10, (x4_1 : Int).toNat * 11 + 1, none⟩ (.int .i64 t570)).setCell ⟨go10, (x4_1 : Int).toNat * 11 + 2, none⟩ (.int .i64 t571)).setCell ⟨go10, (x4_1 : Int).toNat * 11 + 3, none⟩ (.bool t572)).setCell ⟨go10, (x4_1 : Int).toNat * 11 + 4, none⟩ (.int .i64 t573)).setCell ⟨go10, (x4_1 : Int).toNat * 11 + 5, none⟩ (.string t574)).setCell ⟨go10, (x4_1 : Int).toNat * 11 + 6, none⟩ (.bool t575)).setCell ⟨go10, (x4_1 : Int).toNat * 11 + 7, none⟩ (.string t576)).setCell ⟨go10, (x4_1 : Int).toNat * 11 + 8, none⟩ (.int .u64 t577)).setCell ⟨go10, (x4_1 : Int).toNat * 11 + 9, none⟩ (.int .u64 t578)).setCell ⟨go10, (x4_1 : Int).toNat * 11 + 10, none⟩ (.int .i64 t579))) ?hg ?ho ?hn ?hr ?_; (case ho => rfl); (case hg => rfl); (case hn => rfl); (case hr => first | (go_simp; done) | (go_simp; rfl)); intro w13 hw; have hg : w11.grownBy w13 (some go10) := (by rw [hw]; exact HP12.2); have hp_ : Kd.R k138 138 w13 w.heap.size (fun _ => True) (.slice (some ⟨go10, 0, none⟩) x3_1.length co10) y580 := (by rw [hw, Ny580.out]; exact HP12.1); clear HP12; have n0_ := Aside0.mk (hp_); have n1_ := Aside0.mk ((by rw [hw]; exact below_set (below_set (below_set (below_set (below_set (below_set (below_set (below_set (below_set (below_set (below_set (HB.out) GB10.out) GB10.out) GB10.out) GB10.out) GB10.out) GB10.out) GB10.out) GB10.out) GB10.out) GB10.out) GB10.out : Below w.heap.size w w13)); clear HO_3; clear HB; have HO_3 := n0_; have HB := n1_; clear n0_ n1_; clear hg hw hp_))
        go_roundg k1
        case measure => have := HK1.out; omega
        case rel => exact ⟨(y580), (wrap64 (x4_1 + 1)), (by first | rfl | (simp; done) | (simp [*]; done)), H', ⟨by have := HK1.out; omega⟩, ⟨lf HO_3⟩, ⟨bw⟩⟩
       ·rw [if_neg c9] at H
        exact absurd H (by simp)
      ·rw [if_neg c7] at H
       exact absurd H (by simp)
     ·rw [if_neg c6] at H
      have c6b0 : decide (x4_1 < (l0.length : Int)) = false := decide_eq_false c6
      clear c6
      obtain rfl := Option.some.inj H
      go_wp2
      go_ret
      exact ⟨_, by first | rfl | (simp [errW_none, errW_some] <;> rfl) | (simp [*, errW_none, errW_some] <;> rfl), lf HO_3, bw⟩
  ·rw [if_neg c3] at H
   exact absurd H (by simp)
 ·rw [if_neg c2] at H
  exact absurd H (by simp)

end Go.Proofs.Ytcfbbbilonignaa.Q

namespace Go.Proofs.Ytcfbbbilonignaa.Q
open Go.RowKit Go.Proofs.YtcfbbbilonignaaW.PrintWords Go.Proofs.YtcfbbbilonignaaW.PrintLast Go.Proofs.YtcfbbbilonignaaW.PrintMore
set_option linter.unusedVariables false
set_option linter.unusedSimpArgs false

/-! ### laws_toBlock: function 48 -/
def laws_toBlock.f (k : Nat) (l0_0 : List (S167)) (a0_1 : Int) : Option ((List (S138)) × Int) := (laws_toInsS.f k l0_0).bind fun t584 => (some (t584, a0_1))
set_option maxHeartbeats 8000000 in
set_option maxRecDepth 100000 in
theorem laws_toBlock.calls (k : Nat) (A0_0 : Option Addr) (c0_0 : Nat) (l0_0 : List (S167)) (a0_1 : Int) (r1 : List (S138)) (r2 : Int) (w : World) (hr0_0 : Kd.C k167 w A0_0 l0_0.length l0_0) (hc0_0 : l0_0.length ≤ c0_0) (h : laws_toBlock.f k l0_0 a0_1 = some (r1, r2)) :
  Calls Try.prog 48 #[.agg #[.slice A0_0 l0_0.length c0_0, .int .i64 a0_1]] w fun e w' => ∃ v0_ : Value, e = .returned (.agg #[v0_, .int .i64 r2]) ∧ Kd.R k138 138 w' w.heap.size (fun _ => True) v0_ r1 ∧ Below w.heap.size w w' := by
 have hu48 := Try.underlying48
 have hu56 := Try.underlying56
 have HR0_0 := Aside0.mk hr0_0
 have HC0_0 := Aside0.mk hc0_0
 clear hr0_0 hc0_0
 have HB := Aside0.mk (Below.refl w.heap.size w)
 have H : ((laws_toInsS.f k l0_0).bind fun t584 => (some (t584, a0_1))) = some (r1, r2) := h
 clear h
 replace H := Option.bind_eq_some_iff.mp H
 obtain ⟨t584, A20, H⟩ := H
 replace H : (some (t584, a0_1)) = some (r1, r2) := H
 have A2 := Aside0.mk A20
 clear A20
 simp only [Option.some.injEq, Prod.mk.injEq] at H
 obtain ⟨rfl, rfl⟩ := H
 go_enter Try.func48, Try.ntmps48
 go_wp2_with (first | ((with_reducible refine gate_dst (N := 1) rfl ?_); refine box_event ?hg (N := 1) ?hd (cs := #[.slice A0_0 l0_0.length c0_0, .int .i64 a0_1]) (t := 48) ?hr ?_; (case hd => rfl); (case hg => rfl); (case hr => first | (go_simp; done) | (go_simp; rfl)); intro gb581 hg w3 hbox hb; have n0_ := Aside0.mk (below_step bw hb); have n1_ := Aside0.mk (hbox); have n2_ := Aside0.mk ((by rw [hg]; exact (below_size bw) : w.heap.size ≤ gb581)); have n3_ := Aside0.mk ((by rw [hg]; exact (below_size bw) : w.heap.size ≤ gb581)); clear HB; have HB := n0_; have BK581 := n1_; have GW581 := n2_; have GE581 := n3_; clear n0_ n1_ n2_ n3_; clear hb hbox hg) | ((with_reducible refine gate_dst (N := 2) rfl ?_); refine box_event ?hg (N := 2) ?hd (cs := #[.slice none 0 0, .int .i64 0]) (t := 56) ?hr ?_; (case hd => rfl); (case hg => rfl); (case hr => first | (go_simp; done) | (go_simp; rfl)); intro gb582 hg w4 hbox hb; have n0_ := Aside0.mk (blk_below (g := gb581) (o := .cells #[.slice A0_0 l0_0.length c0_0, .int .i64 a0_1] 48 (0, 0)) (lb BK581) hb); have n1_ := Aside0.mk (below_step bw hb); have n2_ := Aside0.mk (hbox); have n3_ := Aside0.mk ((by rw [hg]; exact (below_size bw) : w.heap.size ≤ gb582)); have n4_ := Aside0.mk ((by rw [hg]; exact (below_size bw) : w.heap.size ≤ gb582)); have n5_ := Aside0.mk ((by rw [hg]; exact Nat.ne_of_lt (blk_lt (g := gb581) (o := .cells #[.slice A0_0 l0_0.length c0_0, .int .i64 a0_1] 48 (0, 0)) (lb BK581)) : gb581 ≠ gb582)); have n6_ := Aside0.mk ((by rw [hg]; exact Nat.ne_of_gt (blk_lt (g := gb581) (o := .cells #[.slice A0_0 l0_0.length c0_0, .int .i64 a0_1] 48 (0, 0)) (lb BK581)) : gb582 ≠ gb581)); clear BK581; clear HB; have BK581 := n0_; have HB := n1_; have BK582 := n2_; have GW582 := n3_; have GE582 := n4_; have NB581_582 := n5_; have NB582_581 := n6_; clear n0_ n1_ n2_ n3_ n4_ n5_ n6_; clear hb hbox hg) | ((with_reducible refine gate_dst (N := 3) rfl ?_); refine box_event ?hg (N := 3) ?hd (cs := #[.slice none 0 0, .int .i64 0]) (t := 56) ?hr ?_; (case hd => rfl); (case hg => rfl); (case hr => first | (go_simp; done) | (go_simp; rfl)); intro gb583 hg w5 hbox hb; have n0_ := Aside0.mk (blk_below (g := gb581) (o := .cells #[.slice A0_0 l0_0.length c0_0, .int .i64 a0_1] 48 (0, 0)) (lb BK581) hb); have n1_ := Aside0.mk (blk_below (g := gb582) (o := .cells #[.slice none 0 0, .int .i64 0] 56 (0, 0)) (lb BK582) hb); have n2_ := Aside0.mk (below_step bw hb); have n3_ := Aside0.mk (hbox); have n4_ := Aside0.mk ((by rw [hg]; exact (below_size bw) : w.heap.size ≤ gb583)); have n5_ := Aside0.mk ((by rw [hg]; exact (below_size bw) : w.heap.size ≤ gb583)); have n6_ := Aside0.mk ((by rw [hg]; exact Nat.ne_of_lt (blk_lt (g := gb581) (o := .cells #[.slice A0_0 l0_0.length c0_0, .int .i64 a0_1] 48 (0, 0)) (lb BK581)) : gb581 ≠ gb583)); have n7_ := Aside0.mk ((by rw [hg]; exact Nat.ne_of_gt (blk_lt (g := gb581) (o := .cells #[.slice A0_0 l0_0.length c0_0, .int .i64 a0_1] 48 (0, 0)) (lb BK581)) : gb583 ≠ gb581)); have n8_ := Aside0.mk ((by rw [hg]; exact Nat.ne_of_lt (blk_lt (g := gb582) (o := .cells #[.slice none 0 0, .int .i64 0] 56 (0, 0)) (lb BK582)) : gb582 ≠ gb583)); have n9_ := Aside0.mk ((by rw [hg]; exact Nat.ne_of_gt (blk_lt (g := gb582) (o := .cells #[.slice none 0 0, .int .i64 0] 56 (0, 0)) (lb BK582)) : gb583 ≠ gb582)); clear BK581; clear BK582; clear HB; have BK581 := n0_; have BK582 := n1_; have HB := n2_; have BK583 := n3_; have GW583 := n4_; have GE583 := n5_; have NB581_583 := n6_; have NB583_581 := n7_; have NB582_583 := n8_; have NB583_582 := n9_; clear n0_ n1_ n2_ n3_ n4_ n5_ n6_ n7_ n8_ n9_; clear hb hbox hg; have hnb6 := NB581_582.out; have hnc6 := NB582_581.out; have hnb7 := NB581_583.out; have hnc7 := NB583_581.out; have hcz8_0 : w5.cell? ⟨gb581, 0, none⟩ = some (.slice A0_0 l0_0.length c0_0) := (blk_cell BK581.out 0).trans rfl; have hcz8_1 : w5.cell? ⟨gb581, 1, none⟩ = some (.int .i64 a0_1) := (blk_cell BK581.out 1).trans rfl; have hfz8_0 := blk_frozen BK581.out 0; have hfz8_1 := blk_frozen BK581.out 1) | ((with_reducible refine at_fn (f := 86) rfl ?_); refine goesL_ (some 6) rfl rfl Try.func86 (by kernel_rfl) rfl #[.slice A0_0 l0_0.length c0_0] rfl (by (try simp only [List.map_toArray, List.map_cons, List.map_nil]); first | done | rfl | (simp only [List.length_drop, List.length_take]; rfl)) ?_; (with_reducible refine (laws_toInsS.calls k _ _ l0_0 t584 _ ?side1 ?side2 A2.out).mono ?_); (case side1 => repeat (first | exact (Kd.C_below HR0_0.out HB.out) | (with_reducible refine Kd.C_alloc ?_ _) | (with_reducible refine Kd.C_drewN ?_ _) | (with_reducible refine Kd.C_drew ?_))); (case side2 => exact HC0_0.out); rintro e w9 ⟨v585, rfl, ho0, hb⟩; refine ⟨_, rfl, ?_⟩; have n0_ := Aside0.mk (Kd.R_lower ho0 (below_size bw)); have n1_ := Aside0.mk (blk_below (g := gb581) (o := .cells #[.slice A0_0 l0_0.length c0_0, .int .i64 a0_1] 48 (0, 0)) (lb BK581) hb); have n2_ := Aside0.mk (blk_below (g := gb582) (o := .cells #[.slice none 0 0, .int .i64 0] 56 (0, 0)) (lb BK582) hb); have n3_ := Aside0.mk (blk_below (g := gb583) (o := .cells #[.slice none 0 0, .int .i64 0] 56 (0, 0)) (lb BK583) hb); have n4_ := Aside0.mk (below_step bw hb); clear BK581; clear BK582; clear BK583; clear HB; have HO586 := n0_; have BK581 := n1_; have BK582 := n2_; have BK583 := n3_; have HB := n4_; clear n0_ n1_ n2_ n3_ n4_; (try clear hb); (try clear hb2); (try clear hk); (try clear hi); (try clear ho0); obtain ⟨Ao10, co10, eo10⟩ := Kd.R_slice HO586.out; subst eo10; have hnb11 := NB583_582.out; have hnc11 := NB582_583.out; have hcz12_0 : w9.cell? ⟨gb583, 0, none⟩ = some (.slice none 0 0) := (blk_cell BK583.out 0).trans rfl; have hcz12_1 : w9.cell? ⟨gb583, 1, none⟩ = some (.int .i64 0) := (blk_cell BK583.out 1).trans rfl; have hfz12_0 := blk_frozen BK583.out 0; have hfz12_1 := blk_frozen BK583.out 1; have hcz13_0 : w9.cell? ⟨gb581, 0, none⟩ = some (.slice A0_0 l0_0.length c0_0) := (blk_cell BK581.out 0).trans rfl; have hcz13_1 : w9.cell? ⟨gb581, 1, none⟩ = some (.int .i64 a0_1) := (blk_cell BK581.out 1).trans rfl; have hfz13_0 := blk_frozen BK581.out 0; have hfz13_1 := blk_frozen BK581.out 1; have hcz14_0 : w9.cell? ⟨gb582, 0, none⟩ = some (.slice none 0 0) := (blk_cell BK582.out 0).trans rfl; have hcz14_1 : w9.cell? ⟨gb582, 1, none⟩ = some (.int .i64 0) := (blk_cell BK582.out 1).trans rfl; have hfz14_0 := blk_frozen BK582.out 0; have hfz14_1 := blk_frozen BK582.out 1))
 refine bodyPost_ret (results_cell_row rfl _ _ gb582 56 #[.slice Ao10 t584.length co10, .int .i64 a0_1] (0, 0) _ rfl (by (with_reducible repeat (first | refine blk_drewN ?_ _ | refine blk_drew ?_ | refine blk_alloc ?_ _)); refine blk_put (cs := #[.slice Ao10 t584.length co10, .int .i64 0]) ?_ 1 _ rfl; (with_reducible repeat (first | refine blk_drewN ?_ _ | refine blk_drew ?_ | refine blk_alloc ?_ _)); refine blk_put (cs := #[.slice none 0 0, .int .i64 0]) ?_ 0 _ rfl; (with_reducible repeat (first | refine blk_drewN ?_ _ | refine blk_drew ?_ | refine blk_alloc ?_ _)); refine blk_far ?_ NB582_583.out _; (with_reducible repeat (first | refine blk_drewN ?_ _ | refine blk_drew ?_ | refine blk_alloc ?_ _)); refine blk_far ?_ NB582_583.out _; (with_reducible repeat (first | refine blk_drewN ?_ _ | refine blk_drew ?_ | refine blk_alloc ?_ _)); exact BK582.out) Try.underlying56 rfl (by kernel_rfl)) rfl ?_
 exact ⟨_, by first | rfl | (simp [errW_none, errW_some] <;> rfl) | (simp [*, errW_none, errW_some] <;> rfl), by (with_reducible repeat (first | apply Kd.R_alloc | apply Kd.R_drewN | apply Kd.R_drew)); exact Kd.R_mono (Kd.R_far (p := ⟨gb582, 1, none⟩) (Kd.R_far (p := ⟨gb582, 0, none⟩) (Kd.R_far (p := ⟨gb583, 1, none⟩) (Kd.R_far (p := ⟨gb583, 0, none⟩) (Kd.R_types (Kd.R_types HO586.out BK583.out (by decide)) BK582.out (by decide)) (fun _ hk => hk.1.2) (.slice Ao10 t584.length co10)) (fun _ hk => hk.1.2) (.int .i64 a0_1)) (fun _ hk => hk.2) (.slice Ao10 t584.length co10)) (fun _ hk => hk.2) (.int .i64 a0_1)) (fun _ hk => trivial), bw⟩

end Go.Proofs.Ytcfbbbilonignaa.Q

namespace Go.Proofs.Ytcfbbbilonignaa.Q
open Go.RowKit Go.Proofs.YtcfbbbilonignaaW.PrintWords Go.Proofs.YtcfbbbilonignaaW.PrintLast Go.Proofs.YtcfbbbilonignaaW.PrintMore
set_option linter.unusedVariables false
set_option linter.unusedSimpArgs false

/-! ### laws_toBlockS: function 47 -/
def laws_toBlockS.l0 : Nat → List (S48) → List (S56) → Int → Option ((List (S56)))
 | 0, _, _, _ => none
 | k + 1, x0, x3, x4 => if x4 < (x0.length : Int) then (if 0 ≤ x4 then ((laws_toBlock.f k ((rd_T48 x0 x4).f0) ((rd_T48 x0 x4).f1)).bind fun bt591 => (if x4 < (x3.length : Int) then (laws_toBlockS.l0 k x0 (x3.set (x4 : Int).toNat (⟨bt591.1, bt591.2⟩ : S56)) (wrap64 (x4 + 1))) else (none))) else (none)) else (some x3)
def laws_toBlockS.f (k : Nat) (l0 : List (S48)) : Option ((List (S56))) := if 0 ≤ (l0.length : Int) then (if ((l0.length : Int) : Int).toNat ≤ 8796093022208 then (laws_toBlockS.l0 k l0 (List.replicate ((l0.length : Int) : Int).toNat z56) 0) else (none)) else (none)
set_option maxHeartbeats 8000000 in
set_option maxRecDepth 100000 in
theorem laws_toBlockS.calls (k : Nat) (A0 : Option Addr) (c0 : Nat) (l0 : List (S48)) (r : List (S56)) (w : World) (hr0 : Kd.C k48 w A0 l0.length l0) (hc0 : l0.length ≤ c0) (h : laws_toBlockS.f k l0 = some r) :
  Calls Try.prog 47 #[.slice A0 l0.length c0] w fun e w' => ∃ v0_ : Value, e = .returned (v0_) ∧ Kd.S k56 56 w' w.heap.size (fun _ => True) v0_ r ∧ Below w.heap.size w w' := by
 have hu48 := Try.underlying48
 have hu56 := Try.underlying56
 have HR0 := Aside0.mk hr0
 have HC0 := Aside0.mk hc0
 clear hr0 hc0
 have HB := Aside0.mk (Below.refl w.heap.size w)
 have H : (if 0 ≤ (l0.length : Int) then (if ((l0.length : Int) : Int).toNat ≤ 8796093022208 then (laws_toBlockS.l0 k l0 (List.replicate ((l0.length : Int) : Int).toNat z56) 0) else (none)) else (none)) = some r := h
 clear h
 by_cases c2 : 0 ≤ (l0.length : Int)
 ·rw [if_pos c2] at H
  have c2b0 := eq_true c2
  have c2b1 : decide (0 ≤ (l0.length : Int)) = true := decide_eq_true c2
  clear c2
  by_cases c3 : ((l0.length : Int) : Int).toNat ≤ 8796093022208
  ·rw [if_pos c3] at H
   have c3b0 := eq_true c3
   have c3b1 : decide (((l0.length : Int) : Int).toNat ≤ 8796093022208) = true := decide_eq_true c3
   clear c3
   obtain ⟨y587, hy587⟩ : ∃ y_ : List (S56), y_ = (List.replicate ((l0.length : Int) : Int).toNat z56) := ⟨_, rfl⟩
   replace H : (laws_toBlockS.l0 k l0 y587 0) = some r := by first | (rw [hy587]; with_reducible exact H) | (have H2_ := (Option.bind_some _ _).symm.trans H; rw [hy587]; with_reducible exact H2_) | (have H2_ := (Option.bind_some _ _).symm.trans H; with_reducible exact H2_) | with_reducible exact H | (rw [hy587]; exact H) | exact H
   have Ny587 := Aside0.mk hy587
   clear hy587
   have H' := Aside0.mk H
   clear H
   go_enter Try.func47, Try.ntmps47
   go_wp2_with (first | ((with_reducible refine gate_dst (N := 7) rfl ?_); refine Kd.S_make k56 _ 56 rfl (N := 7) rfl 53 _ _ rfl (l0.length : Int) rfl rfl Try.underlying53 (.agg #[(.slice none 0 0), (.int .i64 0)]) 32 info56 rfl (by decide) (by omega) z56 (ok := fun _ => True) (okp := fun _ => True) (k56_mkM _ _ _ z56 (Kd.R_nil _ _ _ _ _)) (fun _ hk => hk) trivial (of_decide_eq_true (by first | (with_reducible assumption) | assumption)) (Nat.le_trans (Nat.mul_le_mul_right _ (of_decide_eq_true (by first | (with_reducible assumption) | assumption) : (l0.length : Int).toNat ≤ 8796093022208)) (by omega)) (Below.refl _ _) (Nat.le_refl _) ?_; intro v588 w4 ho5 hb hg_ hnew_; clear hg_ hnew_; (first | rw [← Ny587.out] at ho5 | (simp only [Int.reduceToNat] at ho5; rw [← Ny587.out] at ho5)); have n0_ := Aside0.mk (Kd.S_lower ho5 (below_size bw)); have n1_ := Aside0.mk (below_step bw hb); clear HB; have HO589 := n0_; have HB := n1_; clear n0_ n1_; clear hb ho5))
   go_loopg [4] k (fun kq v4 w' => ∃ (x3_1 : List (S56)) (x4_1 : Int), v4 = .int .i64 x4_1 ∧ Aside0 (laws_toBlockS.l0 kq l0 x3_1 x4_1 = some r) ∧ Aside0 (kq ≤ k) ∧ Aside0 (Kd.S k56 56 w' w.heap.size (fun _ => True) v588 x3_1) ∧ Aside0 (Below w.heap.size w w'))
   case atStart => exact ⟨(y587), (0), (by first | rfl | (simp; done) | (simp [*]; done)), H', ⟨Nat.le_refl _⟩, ⟨by (with_reducible repeat (first | apply Kd.S_alloc | apply Kd.S_drewN | apply Kd.S_drew)); exact HO589.out⟩, ⟨bw⟩⟩
   case round =>
    clear H'
    try clear c2
    try clear c2b0
    try clear c2b1
    try clear p2
    try clear c3
    try clear c3b0
    try clear c3b1
    try clear c4
    obtain ⟨x3_1, x4_1, rfl, HA, HK1, HO_3, HB⟩ := hrel
    cases gk with
    | zero => exact absurd HA.out (by simp [laws_toBlockS.l0])
    | succ k1 =>
     have H := HA.out
     clear HA
     simp only [laws_toBlockS.l0] at H
     by_cases c6 : x4_1 < (l0.length : Int)
     ·rw [if_pos c6] at H
      have c6b0 : decide (x4_1 < (l0.length : Int)) = true := decide_eq_true c6
      clear c6
      by_cases c7 : 0 ≤ x4_1
      ·rw [if_pos c7] at H
       have c7b0 : decide (0 ≤ x4_1) = true := decide_eq_true c7
       clear c7
       replace H := Option.bind_eq_some_iff.mp H
       obtain ⟨⟨t591, t594⟩, A80, H⟩ := H
       replace H : (if x4_1 < (x3_1.length : Int) then (laws_toBlockS.l0 k1 l0 (x3_1.set (x4_1 : Int).toNat (⟨t591, t594⟩ : S56)) (wrap64 (x4_1 + 1))) else (none)) = some r := H
       have A8 := Aside0.mk A80
       clear A80
       by_cases c9 : x4_1 < (x3_1.length : Int)
       ·rw [if_pos c9] at H
        have c9b0 : decide (x4_1 < (x3_1.length : Int)) = true := decide_eq_true c9
        clear c9
        obtain ⟨y595, hy595⟩ : ∃ y_ : List (S56), y_ = (x3_1.set (x4_1 : Int).toNat (⟨t591, t594⟩ : S56)) := ⟨_, rfl⟩
        replace H : (laws_toBlockS.l0 k1 l0 y595 (wrap64 (x4_1 + 1))) = some r := by first | (rw [hy595]; with_reducible exact H) | (have H2_ := (Option.bind_some _ _).symm.trans H; rw [hy595]; with_reducible exact H2_) | (have H2_ := (Option.bind_some _ _).symm.trans H; with_reducible exact H2_) | with_reducible exact H | (rw [hy595]; exact H) | exact H
        have Ny595 := Aside0.mk hy595
        clear hy595
        have H' := Aside0.mk H
        clear H
        have p590 : 0 ≤ (x4_1 : Int) := of_decide_eq_true (by first | (with_reducible assumption) | assumption)
        have q590 : x4_1 < (l0.length : Int) := of_decide_eq_true (by first | (with_reducible assumption) | assumption)
        obtain ⟨ad590, A590_0, c590_0, e590, hx590_0, hx590_1, hl590_0, hi590_0⟩ := at_T48 HR0.out x4_1 p590 q590
        cases e590
        replace hx590_0 := (HB.out.cell (World.block_lt_of_cell? w _ hx590_0)).trans hx590_0
        replace hx590_1 := (HB.out.cell (World.block_lt_of_cell? w _ hx590_1)).trans hx590_1
        have HR590_0 := Aside0.mk hi590_0
        have HC590_0 := Aside0.mk hl590_0
        clear hi590_0 hl590_0
        replace p590 := eq_true p590
        replace q590 := eq_true q590
        go_wp2_with (first | ((with_reducible refine at_fn (f := 48) rfl ?_); refine goesL_ (some 20) rfl rfl Try.func48 (by kernel_rfl) rfl #[.agg #[.slice A590_0 ((rd_T48 l0 x4_1).f0).length c590_0, .int .i64 ((rd_T48 l0 x4_1).f1)]] rfl (by (try simp only [List.map_toArray, List.map_cons, List.map_nil]); first | done | rfl | (simp only [List.length_drop, List.length_take]; rfl)) ?_; (with_reducible refine (laws_toBlock.calls k1 _ _ ((rd_T48 l0 x4_1).f0) ((rd_T48 l0 x4_1).f1) t591 t594 _ ?side1 ?side2 A8.out).mono ?_); (case side1 => repeat (first | exact (Kd.C_below HR590_0.out HB.out) | (with_reducible refine Kd.C_alloc ?_ _) | (with_reducible refine Kd.C_drewN ?_ _) | (with_reducible refine Kd.C_drew ?_))); (case side2 => exact HC590_0.out); rintro e w11 ⟨v592, rfl, ho0, hb⟩; refine ⟨_, rfl, ?_⟩; obtain ⟨Av_, cv_, ev_⟩ := Kd.R_slice ho0; subst ev_; have n0_ := Aside0.mk (Kd.S_elder' (by (with_reducible repeat (first | apply Kd.S_alloc | apply Kd.S_drewN | apply Kd.S_drew)); exact HO_3.out) (Kd.R_base ho0) hb); have n1_ := Aside0.mk (Kd.R_lower ho0 (below_size bw)); have n2_ := Aside0.mk (below_step bw hb); clear HO_3; clear HB; have HO_3 := n0_; have HO593 := n1_; have HB := n2_; clear n0_ n1_ n2_; (try clear hb); (try clear hb2); (try clear hk); (try clear hi); (try clear ho0); have p10 : 0 ≤ (x4_1 : Int) := of_decide_eq_true (by first | (with_reducible assumption) | assumption); have q10 : (x4_1 : Int) < ((x3_1.length : Int) : Int) := of_decide_eq_true (by first | (with_reducible assumption) | assumption); obtain ⟨go10, co10, eo10, gb10, gl10, cl10, HG10⟩ := Kd.S_form HO_3.out (by omega); (first | cases eo10 | (injection eo10 with ea_ en_ ec_; (first | subst ea_ | (injection ea_ with ea_; subst ea_)); subst ec_; clear en_)); have GB10 := Aside0.mk gb10; have GG10 := Aside0.mk HG10; clear gb10 gl10 HG10; obtain ⟨_, ce10, hcl10, hM10, hcc10, hfr10, _, _⟩ := Kd.S_elem HO_3.out z56 (x4_1 : Int) p10 q10; obtain ⟨ve10_0, rfl, ge10_0⟩ := k56_openM hM10; have hx10_0 : w11.cell? ⟨go10, (x4_1 : Int).toNat * 2, none⟩ = some (ve10_0) := hcc10 0 _ rfl; have hx10_1 : w11.cell? ⟨go10, (x4_1 : Int).toNat * 2 + 1, none⟩ = some (.int .i64 ((rd_T56 x3_1 x4_1).f1)) := hcc10 1 _ rfl; have hf10_0 : w11.frozen? ⟨go10, (x4_1 : Int).toNat * 2, none⟩ = false := hfr10 0; have hf10_1 : w11.frozen? ⟨go10, (x4_1 : Int).toNat * 2 + 1, none⟩ = false := hfr10 1; clear hcl10 hcc10 hfr10 hM10; replace p10 := eq_true p10; replace q10 := eq_true q10; have n_ := Aside0.mk (Kd.S_mono (ok' := (fun k_ => some k_ ≠ ((.slice Av_ t591.length cv_) : Value).ownBlock)) HO_3.out (fun k_ hk => hk.2)); clear HO_3; have HO_3 := n_; clear n_; have HX12 := Aside0.mk (show Kd.S k56 56 w11 w.heap.size (fun k_ => ((fun _ => True)) k_ ∧ ¬ ((fun k_ => some k_ = ((.slice Av_ t591.length cv_) : Value).ownBlock)) k_) (.slice (some ⟨go10, 0, none⟩) x3_1.length co10) x3_1 from (by (with_reducible repeat (first | apply Kd.S_alloc | apply Kd.S_drewN | apply Kd.S_drew)); exact Kd.S_mono HO_3.out (fun k_ hk => ⟨trivial, fun e_ => hk e_⟩))); obtain ⟨oki12, ce12, hcl12, hM12, hcc12, hfr12, hoki12, hH12⟩ := Kd.S_elem HX12.out z56 (x4_1 : Int) (of_decide_eq_true (by first | (with_reducible assumption) | assumption)) (by have h_ : (x4_1 : Int) < ((x3_1.length : Int) : Int) := of_decide_eq_true (by first | (with_reducible assumption) | assumption); first | exact h_ | (have e_ := (Kd.S_reads' HO_3.out).1; omega) | simpa using h_); obtain ⟨ve12_0, rfl, ge12_0⟩ := k56_openM hM12; have HP12 := Kd.S_seg hH12 (of_decide_eq_true (by first | (with_reducible assumption) | assumption)) (by have h_ : (x4_1 : Int) < ((x3_1.length : Int) : Int) := of_decide_eq_true (by first | (with_reducible assumption) | assumption); first | exact h_ | (have e_ := (Kd.S_reads' HO_3.out).1; omega) | simpa using h_) (seg := [(.slice Av_ t591.length cv_), .int .i64 t594]) (j := 0) (show 2 ≤ 2 from by decide) (x' := (⟨t591, t594⟩ : S56)) (k56_mkM _ _ _ (⟨t591, t594⟩ : S56) (Kd.R_mono (Kd.R_tight rfl (Kd.R_mono (ok' := fun k_ => ((fun _ => True)) k_ ∧ k_ ≠ go10) (Kd.R_apart' (HO593.out) (Kd.S_typed HO_3.out) (by decide)) (fun k_ hk => ⟨trivial, fun e_ => (hk.2) (by rw [e_]; rfl)⟩))) (fun _ h_ => Or.inr (h_)))) (fun _ hk => hk) (fun k_ hk_ => ((Kd.R_mono (ok' := fun k_ => ((fun _ => True)) k_ ∧ k_ ≠ go10) (Kd.R_apart' (HO593.out) (Kd.S_typed HO_3.out) (by decide)) (fun k_ hk => ⟨trivial, fun e_ => (hk.2) (by rw [e_]; rfl)⟩))).1 k_ hk_.symm); have hx12_0 := hcc12 0 _ rfl; (try simp only [show (k56).sz = 2 from rfl, Nat.mul_one, Nat.add_zero] at hx12_0); have hf12_0 := hfr12 0; (try simp only [show (k56).sz = 2 from rfl, Nat.mul_one, Nat.add_zero] at hf12_0); have hx12_1 := hcc12 1 _ rfl; (try simp only [show (k56).sz = 2 from rfl, Nat.mul_one, Nat.add_zero] at hx12_1); have hf12_1 := hfr12 1; (try simp only [show (k56).sz = 2 from rfl, Nat.mul_one, Nat.add_zero] at hf12_1); clear hcl12 hcc12 hfr12 hM12 hoki12 hH12) | ((with_reducible refine gate_store (t := 56) (p := 21) rfl ?_); refine store_event (t := 56) (p := 21) (v := ?vo_w13) (w1 := ((w11.setCell ⟨go10, (x4_1 : Int).toNat * 2, none⟩ ((.slice Av_ t591.length cv_))).setCell ⟨go10, (x4_1 : Int).toNat * 2 + 1, none⟩ (.int .i64 t594))) ?hg ?ho ?hn ?hr ?_; (case ho => rfl); (case hg => rfl); (case hn => rfl); (case hr => first | (go_simp; done) | (go_simp; rfl)); intro w13 hw; have hg : w11.grownBy w13 (some go10) := (by rw [hw]; exact HP12.2); have hp_ : Kd.S k56 56 w13 w.heap.size (fun _ => True) (.slice (some ⟨go10, 0, none⟩) x3_1.length co10) y595 := (by rw [hw, Ny595.out]; exact HP12.1); clear HP12; have n0_ := Aside0.mk (hp_); have n1_ := Aside0.mk ((by rw [hw]; exact below_set (below_set (HB.out) GB10.out) GB10.out : Below w.heap.size w w13)); clear HO_3; clear HB; clear HO593; have HO_3 := n0_; have HB := n1_; clear n0_ n1_; clear hg hw hp_))
        go_roundg k1
        case measure => have := HK1.out; omega
        case rel => exact ⟨(y595), (wrap64 (x4_1 + 1)), (by first | rfl | (simp; done) | (simp [*]; done)), H', ⟨by have := HK1.out; omega⟩, ⟨by (with_reducible repeat (first | apply Kd.S_alloc | apply Kd.S_drewN | apply Kd.S_drew)); exact HO_3.out⟩, ⟨bw⟩⟩
       ·rw [if_neg c9] at H
        exact absurd H (by simp)
      ·rw [if_neg c7] at H
       exact absurd H (by simp)
     ·rw [if_neg c6] at H
      have c6b0 : decide (x4_1 < (l0.length : Int)) = false := decide_eq_false c6
      clear c6
      obtain rfl := Option.some.inj H
      go_wp2
      go_ret
      exact ⟨_, by first | rfl | (simp [errW_none, errW_some] <;> rfl) | (simp [*, errW_none, errW_some] <;> rfl), by (with_reducible repeat (first | apply Kd.S_alloc | apply Kd.S_drewN | apply Kd.S_drew)); exact HO_3.out, bw⟩
  ·rw [if_neg c3] at H
   exact absurd H (by simp)
 ·rw [if_neg c2] at H
  exact absurd H (by simp)

end Go.Proofs.Ytcfbbbilonignaa.Q

namespace Go.Proofs.Ytcfbbbilonignaa.Q
open Go.RowKit Go.Proofs.YtcfbbbilonignaaW.PrintWords Go.Proofs.YtcfbbbilonignaaW.PrintLast Go.Proofs.YtcfbbbilonignaaW.PrintMore
set_option linter.unusedVariables false
set_option linter.unusedSimpArgs false

/-! ### laws_toCode: function 20 -/
def laws_toCode.f (k : Nat) (l0_0 : List (S48)) (l0_1 : List (S167)) (a0_2 : Int) : Option ((List (S56)) × (List (S138)) × Int) := (laws_toBlockS.f k l0_0).bind fun t599 => ((laws_toBlock.f k l0_1 a0_2).bind fun bt602 => (some (t599, bt602.1, bt602.2)))
set_option maxHeartbeats 8000000 in
set_option maxRecDepth 100000 in
theorem laws_toCode.calls (k : Nat) (A0_0 : Option Addr) (c0_0 : Nat) (l0_0 : List (S48)) (A0_1 : Option Addr) (c0_1 : Nat) (l0_1 : List (S167)) (a0_2 : Int) (r1 : List (S56)) (r2 : List (S138)) (r3 : Int) (w : World) (hr0_0 : Kd.C k48 w A0_0 l0_0.length l0_0) (hc0_0 : l0_0.length ≤ c0_0) (hr0_1 : Kd.C k167 w A0_1 l0_1.length l0_1) (hc0_1 : l0_1.length ≤ c0_1) (h : laws_toCode.f k l0_0 l0_1 a0_2 = some (r1, r2, r3)) :
  Calls Try.prog 20 #[.agg #[.slice A0_0 l0_0.length c0_0, .slice A0_1 l0_1.length c0_1, .int .i64 a0_2]] w fun e w' => ∃ v0_ v1_ : Value, e = .returned (.agg #[v0_, v1_, .int .i64 r3]) ∧ Kd.S k56 56 w' w.heap.size (fun k_ => some k_ ≠ (v1_ : Value).ownBlock) v0_ r1 ∧ Kd.R k138 138 w' w.heap.size (fun _ => True) v1_ r2 ∧ Below w.heap.size w w' := by
 have hu50 := Try.underlying50
 have hu58 := Try.underlying58
 have hu48 := Try.underlying48
 have hu56 := Try.underlying56
 have HR0_0 := Aside0.mk hr0_0
 have HC0_0 := Aside0.mk hc0_0
 clear hr0_0 hc0_0
 have HR0_1 := Aside0.mk hr0_1
 have HC0_1 := Aside0.mk hc0_1
 clear hr0_1 hc0_1
 have HB := Aside0.mk (Below.refl w.heap.size w)
 have H : ((laws_toBlockS.f k l0_0).bind fun t599 => ((laws_toBlock.f k l0_1 a0_2).bind fun bt602 => (some (t599, bt602.1, bt602.2)))) = some (r1, r2, r3) := h
 clear h
 replace H := Option.bind_eq_some_iff.mp H
 obtain ⟨t599, A20, H⟩ := H
 replace H : ((laws_toBlock.f k l0_1 a0_2).bind fun bt602 => (some (t599, bt602.1, bt602.2))) = some (r1, r2, r3) := H
 have A2 := Aside0.mk A20
 clear A20
 replace H := Option.bind_eq_some_iff.mp H
 obtain ⟨⟨t602, t605⟩, A30, H⟩ := H
 replace H : (some (t599, t602, t605)) = some (r1, r2, r3) := H
 have A3 := Aside0.mk A30
 clear A30
 simp only [Option.some.injEq, Prod.mk.injEq] at H
 obtain ⟨rfl, rfl, rfl⟩ := H
 go_enter Try.func20, Try.ntmps20
 go_wp2_with (first | ((with_reducible refine gate_dst (N := 1) rfl ?_); refine box_event ?hg (N := 1) ?hd (cs := #[.slice A0_0 l0_0.length c0_0, .slice A0_1 l0_1.length c0_1, .int .i64 a0_2]) (t := 50) ?hr ?_; (case hd => rfl); (case hg => rfl); (case hr => first | (go_simp; done) | (go_simp; rfl)); intro gb596 hg w4 hbox hb; have n0_ := Aside0.mk (below_step bw hb); have n1_ := Aside0.mk (hbox); have n2_ := Aside0.mk ((by rw [hg]; exact (below_size bw) : w.heap.size ≤ gb596)); have n3_ := Aside0.mk ((by rw [hg]; exact (below_size bw) : w.heap.size ≤ gb596)); clear HB; have HB := n0_; have BK596 := n1_; have GW596 := n2_; have GE596 := n3_; clear n0_ n1_ n2_ n3_; clear hb hbox hg) | ((with_reducible refine gate_dst (N := 2) rfl ?_); refine box_event ?hg (N := 2) ?hd (cs := #[.slice none 0 0, .slice none 0 0, .int .i64 0]) (t := 58) ?hr ?_; (case hd => rfl); (case hg => rfl); (case hr => first | (go_simp; done) | (go_simp; rfl)); intro gb597 hg w5 hbox hb; have n0_ := Aside0.mk (blk_below (g := gb596) (o := .cells #[.slice A0_0 l0_0.length c0_0, .slice A0_1 l0_1.length c0_1, .int .i64 a0_2] 50 (0, 0)) (lb BK596) hb); have n1_ := Aside0.mk (below_step bw hb); have n2_ := Aside0.mk (hbox); have n3_ := Aside0.mk ((by rw [hg]; exact (below_size bw) : w.heap.size ≤ gb597)); have n4_ := Aside0.mk ((by rw [hg]; exact (below_size bw) : w.heap.size ≤ gb597)); have n5_ := Aside0.mk ((by rw [hg]; exact Nat.ne_of_lt (blk_lt (g := gb596) (o := .cells #[.slice A0_0 l0_0.length c0_0, .slice A0_1 l0_1.length c0_1, .int .i64 a0_2] 50 (0, 0)) (lb BK596)) : gb596 ≠ gb597)); have n6_ := Aside0.mk ((by rw [hg]; exact Nat.ne_of_gt (blk_lt (g := gb596) (o := .cells #[.slice A0_0 l0_0.length c0_0, .slice A0_1 l0_1.length c0_1, .int .i64 a0_2] 50 (0, 0)) (lb BK596)) : gb597 ≠ gb596)); clear BK596; clear HB; have BK596 := n0_; have HB := n1_; have BK597 := n2_; have GW597 := n3_; have GE597 := n4_; have NB596_597 := n5_; have NB597_596 := n6_; clear n0_ n1_ n2_ n3_ n4_ n5_ n6_; clear hb hbox hg) | ((with_reducible refine gate_dst (N := 3) rfl ?_); refine box_event ?hg (N := 3) ?hd (cs := #[.slice none 0 0, .slice none 0 0, .int .i64 0]) (t := 58) ?hr ?_; (case hd => rfl); (case hg => rfl); (case hr => first | (go_simp; done) | (go_simp; rfl)); intro gb598 hg w6 hbox hb; have n0_ := Aside0.mk (blk_below (g := gb596) (o := .cells #[.slice A0_0 l0_0.length c0_0, .slice A0_1 l0_1.length c0_1, .int .i64 a0_2] 50 (0, 0)) (lb BK596) hb); have n1_ := Aside0.mk (blk_below (g := gb597) (o := .cells #[.slice none 0 0, .slice none 0 0, .int .i64 0] 58 (0, 0)) (lb BK597) hb); have n2_ := Aside0.mk (below_step bw hb); have n3_ := Aside0.mk (hbox); have n4_ := Aside0.mk ((by rw [hg]; exact (below_size bw) : w.heap.size ≤ gb598)); have n5_ := Aside0.mk ((by rw [hg]; exact (below_size bw) : w.heap.size ≤ gb598)); have n6_ := Aside0.mk ((by rw [hg]; exact Nat.ne_of_lt (blk_lt (g := gb596) (o := .cells #[.slice A0_0 l0_0.length c0_0, .slice A0_1 l0_1.length c0_1, .int .i64 a0_2] 50 (0, 0)) (lb BK596)) : gb596 ≠ gb598)); have n7_ := Aside0.mk ((by rw [hg]; exact Nat.ne_of_gt (blk_lt (g := gb596) (o := .cells #[.slice A0_0 l0_0.length c0_0, .slice A0_1 l0_1.length c0_1, .int .i64 a0_2] 50 (0, 0)) (lb BK596)) : gb598 ≠ gb596)); have n8_ := Aside0.mk ((by rw [hg]; exact Nat.ne_of_lt (blk_lt (g := gb597) (o := .cells #[.slice none 0 0, .slice none 0 0, .int .i64 0] 58 (0, 0)) (lb BK597)) : gb597 ≠ gb598)); have n9_ := Aside0.mk ((by rw [hg]; exact Nat.ne_of_gt (blk_lt (g := gb597) (o := .cells #[.slice none 0 0, .slice none 0 0, .int .i64 0] 58 (0, 0)) (lb BK597)) : gb598 ≠ gb597)); clear BK596; clear BK597; clear HB; have BK596 := n0_; have BK597 := n1_; have HB := n2_; have BK598 := n3_; have GW598 := n4_; have GE598 := n5_; have NB596_598 := n6_; have NB598_596 := n7_; have NB597_598 := n8_; have NB598_597 := n9_; clear n0_ n1_ n2_ n3_ n4_ n5_ n6_ n7_ n8_ n9_; clear hb hbox hg; have hnb7 := NB596_597.out; have hnc7 := NB597_596.out; have hnb8 := NB596_598.out; have hnc8 := NB598_596.out; have hcz9_0 : w6.cell? ⟨gb596, 0, none⟩ = some (.slice A0_0 l0_0.length c0_0) := (blk_cell BK596.out 0).trans rfl; have hcz9_1 : w6.cell? ⟨gb596, 1, none⟩ = some (.slice A0_1 l0_1.length c0_1) := (blk_cell BK596.out 1).trans rfl; have hcz9_2 : w6.cell? ⟨gb596, 2, none⟩ = some (.int .i64 a0_2) := (blk_cell BK596.out 2).trans rfl; have hfz9_0 := blk_frozen BK596.out 0; have hfz9_1 := blk_frozen BK596.out 1; have hfz9_2 := blk_frozen BK596.out 2) | ((with_reducible refine at_fn (f := 47) rfl ?_); refine goesL_ (some 6) rfl rfl Try.func47 (by kernel_rfl) rfl #[.slice A0_0 l0_0.length c0_0] rfl (by (try simp only [List.map_toArray, List.map_cons, List.map_nil]); first | done | rfl | (simp only [List.length_drop, List.length_take]; rfl)) ?_; (with_reducible refine (laws_toBlockS.calls k _ _ l0_0 t599 _ ?side1 ?side2 A2.out).mono ?_); (case side1 => repeat (first | exact (Kd.C_below HR0_0.out HB.out) | (with_reducible refine Kd.C_alloc ?_ _) | (with_reducible refine Kd.C_drewN ?_ _) | (with_reducible refine Kd.C_drew ?_))); (case side2 => exact HC0_0.out); rintro e w10 ⟨v600, rfl, ho0, hb⟩; refine ⟨_, rfl, ?_⟩; have n0_ := Aside0.mk (Kd.S_lower ho0 (below_size bw)); have n1_ := Aside0.mk (blk_below (g := gb596) (o := .cells #[.slice A0_0 l0_0.length c0_0, .slice A0_1 l0_1.length c0_1, .int .i64 a0_2] 50 (0, 0)) (lb BK596) hb); have n2_ := Aside0.mk (blk_below (g := gb597) (o := .cells #[.slice none 0 0, .slice none 0 0, .int .i64 0] 58 (0, 0)) (lb BK597) hb); have n3_ := Aside0.mk (blk_below (g := gb598) (o := .cells #[.slice none 0 0, .slice none 0 0, .int .i64 0] 58 (0, 0)) (lb BK598) hb); have n4_ := Aside0.mk (below_step bw hb); clear BK596; clear BK597; clear BK598; clear HB; have HO601 := n0_; have BK596 := n1_; have BK597 := n2_; have BK598 := n3_; have HB := n4_; clear n0_ n1_ n2_ n3_ n4_; (try clear hb); (try clear hb2); (try clear hk); (try clear hi); (try clear ho0); obtain ⟨Ao11, co11, eo11⟩ := Kd.S_slice HO601.out; subst eo11; have hnb12 := NB598_597.out; have hnc12 := NB597_598.out; have hcz13_0 : w10.cell? ⟨gb598, 0, none⟩ = some (.slice none 0 0) := (blk_cell BK598.out 0).trans rfl; have hcz13_1 : w10.cell? ⟨gb598, 1, none⟩ = some (.slice none 0 0) := (blk_cell BK598.out 1).trans rfl; have hcz13_2 : w10.cell? ⟨gb598, 2, none⟩ = some (.int .i64 0) := (blk_cell BK598.out 2).trans rfl; have hfz13_0 := blk_frozen BK598.out 0; have hfz13_1 := blk_frozen BK598.out 1; have hfz13_2 := blk_frozen BK598.out 2; have hcz14_0 : w10.cell? ⟨gb596, 0, none⟩ = some (.slice A0_0 l0_0.length c0_0) := (blk_cell BK596.out 0).trans rfl; have hcz14_1 : w10.cell? ⟨gb596, 1, none⟩ = some (.slice A0_1 l0_1.length c0_1) := (blk_cell BK596.out 1).trans rfl; have hcz14_2 : w10.cell? ⟨gb596, 2, none⟩ = some (.int .i64 a0_2) := (blk_cell BK596.out 2).trans rfl; have hfz14_0 := blk_frozen BK596.out 0; have hfz14_1 := blk_frozen BK596.out 1; have hfz14_2 := blk_frozen BK596.out 2) | ((with_reducible refine at_fn (f := 48) rfl ?_); refine goesL_ (some 10) rfl rfl Try.func48 (by kernel_rfl) rfl #[.agg #[.slice A0_1 l0_1.length c0_1, .int .i64 a0_2]] rfl (by (try simp only [List.map_toArray, List.map_cons, List.map_nil]); first | done | rfl | (simp only [List.length_drop, List.length_take]; rfl)) ?_; (with_reducible refine (laws_toBlock.calls k _ _ l0_1 a0_2 t602 t605 _ ?side1 ?side2 A3.out).mono ?_); (case side1 => exact Kd.C_below HR0_1.out bw); (case side2 => exact HC0_1.out); rintro e w15 ⟨v603, rfl, ho0, hb⟩; refine ⟨_, rfl, ?_⟩; have n0_ := Aside0.mk (Kd.S_elder' (by (with_reducible repeat (first | apply Kd.S_alloc | apply Kd.S_drewN | apply Kd.S_drew)); exact (Kd.S_mono (Kd.S_far (p := ⟨gb598, 0, none⟩) (Kd.S_types HO601.out BK598.out (by decide)) (fun _ hk => hk.2) (.slice Ao11 t599.length co11)) (fun _ h_ => h_.1))) (Kd.R_base ho0) hb); have n1_ := Aside0.mk (Kd.R_lower ho0 (below_size bw)); have n2_ := Aside0.mk (blk_below (g := gb596) (o := .cells #[.slice A0_0 l0_0.length c0_0, .slice A0_1 l0_1.length c0_1, .int .i64 a0_2] 50 (0, 0)) (by (with_reducible repeat (first | refine blk_drewN ?_ _ | refine blk_drew ?_ | refine blk_alloc ?_ _)); refine blk_far ?_ NB596_598.out _; (with_reducible repeat (first | refine blk_drewN ?_ _ | refine blk_drew ?_ | refine blk_alloc ?_ _)); exact BK596.out) hb); have n3_ := Aside0.mk (blk_below (g := gb597) (o := .cells #[.slice none 0 0, .slice none 0 0, .int .i64 0] 58 (0, 0)) (by (with_reducible repeat (first | refine blk_drewN ?_ _ | refine blk_drew ?_ | refine blk_alloc ?_ _)); refine blk_far ?_ NB597_598.out _; (with_reducible repeat (first | refine blk_drewN ?_ _ | refine blk_drew ?_ | refine blk_alloc ?_ _)); exact BK597.out) hb); have n4_ := Aside0.mk (blk_below (g := gb598) (o := .cells #[.slice Ao11 t599.length co11, .slice none 0 0, .int .i64 0] 58 (0, 0)) (by (with_reducible repeat (first | refine blk_drewN ?_ _ | refine blk_drew ?_ | refine blk_alloc ?_ _)); refine blk_put (cs := #[.slice none 0 0, .slice none 0 0, .int .i64 0]) ?_ 0 _ rfl; (with_reducible repeat (first | refine blk_drewN ?_ _ | refine blk_drew ?_ | refine blk_alloc ?_ _)); exact BK598.out) hb); have n5_ := Aside0.mk (below_step bw hb); clear HO601; clear BK596; clear BK597; clear BK598; clear HB; have HO601 := n0_; have HO604 := n1_; have BK596 := n2_; have BK597 := n3_; have BK598 := n4_; have HB := n5_; clear n0_ n1_ n2_ n3_ n4_ n5_; (try clear hb); (try clear hb2); (try clear hk); (try clear hi); (try clear ho0); obtain ⟨Ao16, co16, eo16⟩ := Kd.R_slice HO604.out; subst eo16; have hcz17_0 : w15.cell? ⟨gb598, 0, none⟩ = some (.slice Ao11 t599.length co11) := (blk_cell BK598.out 0).trans rfl; have hcz17_1 : w15.cell? ⟨gb598, 1, none⟩ = some (.slice none 0 0) := (blk_cell BK598.out 1).trans rfl; have hcz17_2 : w15.cell? ⟨gb598, 2, none⟩ = some (.int .i64 0) := (blk_cell BK598.out 2).trans rfl; have hfz17_0 := blk_frozen BK598.out 0; have hfz17_1 := blk_frozen BK598.out 1; have hfz17_2 := blk_frozen BK598.out 2; have hcz18_0 : w15.cell? ⟨gb597, 0, none⟩ = some (.slice none 0 0) := (blk_cell BK597.out 0).trans rfl; have hcz18_1 : w15.cell? ⟨gb597, 1, none⟩ = some (.slice none 0 0) := (blk_cell BK597.out 1).trans rfl; have hcz18_2 : w15.cell? ⟨gb597, 2, none⟩ = some (.int .i64 0) := (blk_cell BK597.out 2).trans rfl; have hfz18_0 := blk_frozen BK597.out 0; have hfz18_1 := blk_frozen BK597.out 1; have hfz18_2 := blk_frozen BK597.out 2))
 refine bodyPost_ret (results_cell_row rfl _ _ gb597 58 #[.slice Ao11 t599.length co11, .slice Ao16 t602.length co16, .int .i64 t605] (0, 0) _ rfl (by (with_reducible repeat (first | refine blk_drewN ?_ _ | refine blk_drew ?_ | refine blk_alloc ?_ _)); refine blk_put (cs := #[.slice Ao11 t599.length co11, .slice Ao16 t602.length co16, .int .i64 0]) ?_ 2 _ rfl; (with_reducible repeat (first | refine blk_drewN ?_ _ | refine blk_drew ?_ | refine blk_alloc ?_ _)); refine blk_put (cs := #[.slice Ao11 t599.length co11, .slice none 0 0, .int .i64 0]) ?_ 1 _ rfl; (with_reducible repeat (first | refine blk_drewN ?_ _ | refine blk_drew ?_ | refine blk_alloc ?_ _)); refine blk_put (cs := #[.slice none 0 0, .slice none 0 0, .int .i64 0]) ?_ 0 _ rfl; (with_reducible repeat (first | refine blk_drewN ?_ _ | refine blk_drew ?_ | refine blk_alloc ?_ _)); refine blk_far ?_ NB597_598.out _; (with_reducible repeat (first | refine blk_drewN ?_ _ | refine blk_drew ?_ | refine blk_alloc ?_ _)); refine blk_far ?_ NB597_598.out _; (with_reducible repeat (first | refine blk_drewN ?_ _ | refine blk_drew ?_ | refine blk_alloc ?_ _)); exact BK597.out) Try.underlying58 rfl (by kernel_rfl)) rfl ?_
 exact ⟨_, _, by first | rfl | (simp [errW_none, errW_some] <;> rfl) | (simp [*, errW_none, errW_some] <;> rfl), by (with_reducible repeat (first | apply Kd.S_alloc | apply Kd.S_drewN | apply Kd.S_drew)); exact Kd.S_mono (Kd.S_far (p := ⟨gb597, 2, none⟩) (Kd.S_far (p := ⟨gb597, 1, none⟩) (Kd.S_far (p := ⟨gb597, 0, none⟩) (Kd.S_far (p := ⟨gb598, 2, none⟩) (Kd.S_far (p := ⟨gb598, 1, none⟩) (Kd.S_types (Kd.S_types HO601.out BK598.out (by decide)) BK597.out (by decide)) (fun _ hk => hk.1.2) (.slice Ao16 t602.length co16)) (fun _ hk => hk.1.2) (.int .i64 t605)) (fun _ hk => hk.2) (.slice Ao11 t599.length co11)) (fun _ hk => hk.2) (.slice Ao16 t602.length co16)) (fun _ hk => hk.2) (.int .i64 t605)) (fun _ hk => hk.1.1.2), by (with_reducible repeat (first | apply Kd.R_alloc | apply Kd.R_drewN | apply Kd.R_drew)); exact Kd.R_mono (Kd.R_far (p := ⟨gb597, 2, none⟩) (Kd.R_far (p := ⟨gb597, 1, none⟩) (Kd.R_far (p := ⟨gb597, 0, none⟩) (Kd.R_far (p := ⟨gb598, 2, none⟩) (Kd.R_far (p := ⟨gb598, 1, none⟩) (Kd.R_types (Kd.R_types HO604.out BK598.out (by decide)) BK597.out (by decide)) (fun _ hk => hk.1.2) (.slice Ao16 t602.length co16)) (fun _ hk => hk.1.2) (.int .i64 t605)) (fun _ hk => hk.2) (.slice Ao11 t599.length co11)) (fun _ hk => hk.2) (.slice Ao16 t602.length co16)) (fun _ hk => hk.2) (.int .i64 t605)) (fun _ hk => trivial), bw⟩

end Go.Proofs.Ytcfbbbilonignaa.Q

namespace Go.Proofs.Ytcfbbbilonignaa.Q
open Go.RowKit Go.Proofs.YtcfbbbilonignaaW.PrintWords Go.Proofs.YtcfbbbilonignaaW.PrintLast Go.Proofs.YtcfbbbilonignaaW.PrintMore
set_option linter.unusedVariables false
set_option linter.unusedSimpArgs false

/-! ### laws_eqNode: function 65 -/
def laws_eqNode.f (a0_0 : Int) (a0_1 : ByteArray) (a0_2 : Bool) (a0_3 : ByteArray) (a0_4 : Int) (a0_5 : Int) (a0_6 : Int) (a1_0 : Int) (a1_1 : ByteArray) (a1_2 : Bool) (a1_3 : ByteArray) (a1_4 : Int) (a1_5 : Int) (a1_6 : Int) : Option (Bool) := if a0_0 = a1_0 then (if a0_1.toList = a1_1.toList then (if (a0_2 != a1_2) = true then (some false) else (if a0_3.toList = a1_3.toList then (if a0_4 = a1_4 then (if a0_5 = a1_5 then (if a0_6 = a1_6 then (some true) else (some false)) else (some false)) else (some false)) else (some false))) else (some false)) else (some false)
set_option maxHeartbeats 8000000 in
set_option maxRecDepth 100000 in
theorem laws_eqNode.calls (a0_0 : Int) (a0_1 : ByteArray) (a0_2 : Bool) (a0_3 : ByteArray) (a0_4 : Int) (a0_5 : Int) (a0_6 : Int) (a1_0 : Int) (a1_1 : ByteArray) (a1_2 : Bool) (a1_3 : ByteArray) (a1_4 : Int) (a1_5 : Int) (a1_6 : Int) (r : Bool) (w : World) (h : laws_eqNode.f a0_0 a0_1 a0_2 a0_3 a0_4 a0_5 a0_6 a1_0 a1_1 a1_2 a1_3 a1_4 a1_5 a1_6 = some r) :
  Calls Try.prog 65 #[.agg #[.int .i64 a0_0, .string a0_1, .bool a0_2, .string a0_3, .int .u64 a0_4, .int .u64 a0_5, .int .i64 a0_6], .agg #[.int .i64 a1_0, .string a1_1, .bool a1_2, .string a1_3, .int .u64 a1_4, .int .u64 a1_5, .int .i64 a1_6]] w fun e w' => e = .returned (.bool r) ∧ Below w.heap.size w w' := by
 have hu66 := Try.underlying66
 have HB := Aside0.mk (Below.refl w.heap.size w)
 have H : (if a0_0 = a1_0 then (if a0_1.toList = a1_1.toList then (if (a0_2 != a1_2) = true then (some false) else (if a0_3.toList = a1_3.toList then (if a0_4 = a1_4 then (if a0_5 = a1_5 then (if a0_6 = a1_6 then (some true) else (some false)) else (some false)) else (some false)) else (some false))) else (some false)) else (some false)) = some r := h
 clear h
 by_cases c3 : a0_0 = a1_0
 ·rw [if_pos c3] at H
  have c3b0 : (a0_0 == a1_0) = true := beq_iff_eq.mpr c3
  have c3b1 : (a0_0 != a1_0) = false := bne_eq_false_iff_eq.mpr c3
  clear c3
  by_cases c4 : a0_1.toList = a1_1.toList
  ·rw [if_pos c4] at H
   have c4b0 : (a0_1.toList == a1_1.toList) = true := beq_iff_eq.mpr c4
   have c4b1 : (a0_1.toList != a1_1.toList) = false := bne_eq_false_iff_eq.mpr c4
   clear c4
   by_cases c5 : (a0_2 != a1_2) = true
   ·rw [if_pos c5] at H
    have c5b0 : (a0_2 != a1_2) = true := c5
    (try (have c5b1 : decide (a0_2 = a1_2) = false := by simpa using c5))
    (try (have c5b2 : (a0_2 == a1_2) = false := by simpa using c5))
    (try (have c5b3 : ¬ (a0_2 = a1_2) := by simpa using c5))
    clear c5
    obtain rfl := Option.some.inj H
    go_enter Try.func65, Try.ntmps65
    go_wp2_with (first | ((with_reducible refine gate_dst (N := 2) rfl ?_); refine box_event ?hg (N := 2) ?hd (cs := #[.int .i64 a0_0, .string a0_1, .bool a0_2, .string a0_3, .int .u64 a0_4, .int .u64 a0_5, .int .i64 a0_6]) (t := 66) ?hr ?_; (case hd => rfl); (case hg => rfl); (case hr => first | (go_simp; done) | (go_simp; rfl)); intro gb200 hg w6 hbox hb; have n0_ := Aside0.mk (below_step bw hb); have n1_ := Aside0.mk (hbox); have n2_ := Aside0.mk ((by rw [hg]; exact (below_size bw) : w.heap.size ≤ gb200)); have n3_ := Aside0.mk ((by rw [hg]; exact (below_size bw) : w.heap.size ≤ gb200)); clear HB; have HB := n0_; have BK200 := n1_; have GW200 := n2_; have GE200 := n3_; clear n0_ n1_ n2_ n3_; clear hb hbox hg) | ((with_reducible refine gate_dst (N := 3) rfl ?_); refine box_event ?hg (N := 3) ?hd (cs := #[.int .i64 a1_0, .string a1_1, .bool a1_2, .string a1_3, .int .u64 a1_4, .int .u64 a1_5, .int .i64 a1_6]) (t := 66) ?hr ?_; (case hd => rfl); (case hg => rfl); (case hr => first | (go_simp; done) | (go_simp; rfl)); intro gb201 hg w7 hbox hb; have n0_ := Aside0.mk (blk_below (g := gb200) (o := .cells #[.int .i64 a0_0, .string a0_1, .bool a0_2, .string a0_3, .int .u64 a0_4, .int .u64 a0_5, .int .i64 a0_6] 66 (0, 0)) (lb BK200) hb); have n1_ := Aside0.mk (below_step bw hb); have n2_ := Aside0.mk (hbox); have n3_ := Aside0.mk ((by rw [hg]; exact (below_size bw) : w.heap.size ≤ gb201)); have n4_ := Aside0.mk ((by rw [hg]; exact (below_size bw) : w.heap.size ≤ gb201)); have n5_ := Aside0.mk ((by rw [hg]; exact Nat.ne_of_lt (blk_lt (g := gb200) (o := .cells #[.int .i64 a0_0, .string a0_1, .bool a0_2, .string a0_3, .int .u64 a0_4, .int .u64 a0_5, .int .i64 a0_6] 66 (0, 0)) (lb BK200)) : gb200 ≠ gb201)); have n6_ := Aside0.mk ((by rw [hg]; exact Nat.ne_of_gt (blk_lt (g := gb200) (o := .cells #[.int .i64 a0_0, .string a0_1, .bool a0_2, .string a0_3, .int .u64 a0_4, .int .u64 a0_5, .int .i64 a0_6] 66 (0, 0)) (lb BK200)) : gb201 ≠ gb200)); clear BK200; clear HB; have BK200 := n0_; have HB := n1_; have BK201 := n2_; have GW201 := n3_; have GE201 := n4_; have NB200_201 := n5_; have NB201_200 := n6_; clear n0_ n1_ n2_ n3_ n4_ n5_ n6_; clear hb hbox hg; have hnb8 := NB200_201.out; have hnc8 := NB201_200.out; have hcz9_0 : w7.cell? ⟨gb200, 0, none⟩ = some (.int .i64 a0_0) := (blk_cell BK200.out 0).trans rfl; have hcz9_1 : w7.cell? ⟨gb200, 1, none⟩ = some (.string a0_1) := (blk_cell BK200.out 1).trans rfl; have hcz9_2 : w7.cell? ⟨gb200, 2, none⟩ = some (.bool a0_2) := (blk_cell BK200.out 2).trans rfl; have hcz9_3 : w7.cell? ⟨gb200, 3, none⟩ = some (.string a0_3) := (blk_cell BK200.out 3).trans rfl; have hcz9_4 : w7.cell? ⟨gb200, 4, none⟩ = some (.int .u64 a0_4) := (blk_cell BK200.out 4).trans rfl; have hcz9_5 : w7.cell? ⟨gb200, 5, none⟩ = some (.int .u64 a0_5) := (blk_cell BK200.out 5).trans rfl; have hcz9_6 : w7.cell? ⟨gb200, 6, none⟩ = some (.int .i64 a0_6) := (blk_cell BK200.out 6).trans rfl; have hfz9_0 := blk_frozen BK200.out 0; have hfz9_1 := blk_frozen BK200.out 1; have hfz9_2 := blk_frozen BK200.out 2; have hfz9_3 := blk_frozen BK200.out 3; have hfz9_4 := blk_frozen BK200.out 4; have hfz9_5 := blk_frozen BK200.out 5; have hfz9_6 := blk_frozen BK200.out 6; have hcz10_0 : w7.cell? ⟨gb201, 0, none⟩ = some (.int .i64 a1_0) := (blk_cell BK201.out 0).trans rfl; have hcz10_1 : w7.cell? ⟨gb201, 1, none⟩ = some (.string a1_1) := (blk_cell BK201.out 1).trans rfl; have hcz10_2 : w7.cell? ⟨gb201, 2, none⟩ = some (.bool a1_2) := (blk_cell BK201.out 2).trans rfl; have hcz10_3 : w7.cell? ⟨gb201, 3, none⟩ = some (.string a1_3) := (blk_cell BK201.out 3).trans rfl; have hcz10_4 : w7.cell? ⟨gb201, 4, none⟩ = some (.int .u64 a1_4) := (blk_cell BK201.out 4).trans rfl; have hcz10_5 : w7.cell? ⟨gb201, 5, none⟩ = some (.int .u64 a1_5) := (blk_cell BK201.out 5).trans rfl; have hcz10_6 : w7.cell? ⟨gb201, 6, none⟩ = some (.int .i64 a1_6) := (blk_cell BK201.out 6).trans rfl; have hfz10_0 := blk_frozen BK201.out 0; have hfz10_1 := blk_frozen BK201.out 1; have hfz10_2 := blk_frozen BK201.out 2; have hfz10_3 := blk_frozen BK201.out 3; have hfz10_4 := blk_frozen BK201.out 4; have hfz10_5 := blk_frozen BK201.out 5; have hfz10_6 := blk_frozen BK201.out 6))
    go_ret
    exact ⟨by first | rfl | (simp [errW_none, errW_some] <;> rfl) | (simp [*, errW_none, errW_some] <;> rfl), bw⟩
   ·rw [if_neg c5] at H
    have c5b0 : (a0_2 != a1_2) = false := by simpa using c5
    (try (have c5b1 : decide (a0_2 = a1_2) = true := by simpa using c5))
    (try (have c5b2 : (a0_2 == a1_2) = true := by simpa using c5))
    clear c5
    by_cases c11 : a0_3.toList = a1_3.toList
    ·rw [if_pos c11] at H
     have c11b0 : (a0_3.toList == a1_3.toList) = true := beq_iff_eq.mpr c11
     have c11b1 : (a0_3.toList != a1_3.toList) = false := bne_eq_false_iff_eq.mpr c11
     clear c11
     by_cases c12 : a0_4 = a1_4
     ·rw [if_pos c12] at H
      have c12b0 : (a0_4 == a1_4) = true := beq_iff_eq.mpr c12
      have c12b1 : (a0_4 != a1_4) = false := bne_eq_false_iff_eq.mpr c12
      clear c12
      by_cases c13 : a0_5 = a1_5
      ·rw [if_pos c13] at H
       have c13b0 : (a0_5 == a1_5) = true := beq_iff_eq.mpr c13
       have c13b1 : (a0_5 != a1_5) = false := bne_eq_false_iff_eq.mpr c13
       clear c13
       by_cases c14 : a0_6 = a1_6
       ·rw [if_pos c14] at H
        have c14b0 : (a0_6 == a1_6) = true := beq_iff_eq.mpr c14
        have c14b1 : (a0_6 != a1_6) = false := bne_eq_false_iff_eq.mpr c14
        clear c14
        obtain rfl := Option.some.inj H
        go_enter Try.func65, Try.ntmps65
        go_wp2_with (first | ((with_reducible refine gate_dst (N := 2) rfl ?_); refine box_event ?hg (N := 2) ?hd (cs := #[.int .i64 a0_0, .string a0_1, .bool a0_2, .string a0_3, .int .u64 a0_4, .int .u64 a0_5, .int .i64 a0_6]) (t := 66) ?hr ?_; (case hd => rfl); (case hg => rfl); (case hr => first | (go_simp; done) | (go_simp; rfl)); intro gb200 hg w15 hbox hb; have n0_ := Aside0.mk (below_step bw hb); have n1_ := Aside0.mk (hbox); have n2_ := Aside0.mk ((by rw [hg]; exact (below_size bw) : w.heap.size ≤ gb200)); have n3_ := Aside0.mk ((by rw [hg]; exact (below_size bw) : w.heap.size ≤ gb200)); clear HB; have HB := n0_; have BK200 := n1_; have GW200 := n2_; have GE200 := n3_; clear n0_ n1_ n2_ n3_; clear hb hbox hg) | ((with_reducible refine gate_dst (N := 3) rfl ?_); refine box_event ?hg (N := 3) ?hd (cs := #[.int .i64 a1_0, .string a1_1, .bool a1_2, .string a1_3, .int .u64 a1_4, .int .u64 a1_5, .int .i64 a1_6]) (t := 66) ?hr ?_; (case hd => rfl); (case hg => rfl); (case hr => first | (go_simp; done) | (go_simp; rfl)); intro gb201 hg w16 hbox hb; have n0_ := Aside0.mk (blk_below (g := gb200) (o := .cells #[.int .i64 a0_0, .string a0_1, .bool a0_2, .string a0_3, .int .u64 a0_4, .int .u64 a0_5, .int .i64 a0_6] 66 (0, 0)) (lb BK200) hb); have n1_ := Aside0.mk (below_step bw hb); have n2_ := Aside0.mk (hbox); have n3_ := Aside0.mk ((by rw [hg]; exact (below_size bw) : w.heap.size ≤ gb201)); have n4_ := Aside0.mk ((by rw [hg]; exact (below_size bw) : w.heap.size ≤ gb201)); have n5_ := Aside0.mk ((by rw [hg]; exact Nat.ne_of_lt (blk_lt (g := gb200) (o := .cells #[.int .i64 a0_0, .string a0_1, .bool a0_2, .string a0_3, .int .u64 a0_4, .int .u64 a0_5, .int .i64 a0_6] 66 (0, 0)) (lb BK200)) : gb200 ≠ gb201)); have n6_ := Aside0.mk ((by rw [hg]; exact Nat.ne_of_gt (blk_lt (g := gb200) (o := .cells #[.int .i64 a0_0, .string a0_1, .bool a0_2, .string a0_3, .int .u64 a0_4, .int .u64 a0_5, .int .i64 a0_6] 66 (0, 0)) (lb BK200)) : gb201 ≠ gb200)); clear BK200; clear HB; have BK200 := n0_; have HB := n1_; have BK201 := n2_; have GW201 := n3_; have GE201 := n4_; have NB200_201 := n5_; have NB201_200 := n6_; clear n0_ n1_ n2_ n3_ n4_ n5_ n6_; clear hb hbox hg; have hnb17 := NB200_201.out; have hnc17 := NB201_200.out; have hcz18_0 : w16.cell? ⟨gb200, 0, none⟩ = some (.int .i64 a0_0) := (blk_cell BK200.out 0).trans rfl; have hcz18_1 : w16.cell? ⟨gb200, 1, none⟩ = some (.string a0_1) := (blk_cell BK200.out 1).trans rfl; have hcz18_2 : w16.cell? ⟨gb200, 2, none⟩ = some (.bool a0_2) := (blk_cell BK200.out 2).trans rfl; have hcz18_3 : w16.cell? ⟨gb200, 3, none⟩ = some (.string a0_3) := (blk_cell BK200.out 3).trans rfl; have hcz18_4 : w16.cell? ⟨gb200, 4, none⟩ = some (.int .u64 a0_4) := (blk_cell BK200.out 4).trans rfl; have hcz18_5 : w16.cell? ⟨gb200, 5, none⟩ = some (.int .u64 a0_5) := (blk_cell BK200.out 5).trans rfl; have hcz18_6 : w16.cell? ⟨gb200, 6, none⟩ = some (.int .i64 a0_6) := (blk_cell BK200.out 6).trans rfl; have hfz18_0 := blk_frozen BK200.out 0; have hfz18_1 := blk_frozen BK200.out 1; have hfz18_2 := blk_frozen BK200.out 2; have hfz18_3 := blk_frozen BK200.out 3; have hfz18_4 := blk_frozen BK200.out 4; have hfz18_5 := blk_frozen BK200.out 5; have hfz18_6 := blk_frozen BK200.out 6; have hcz19_0 : w16.cell? ⟨gb201, 0, none⟩ = some (.int .i64 a1_0) := (blk_cell BK201.out 0).trans rfl; have hcz19_1 : w16.cell? ⟨gb201, 1, none⟩ = some (.string a1_1) := (blk_cell BK201.out 1).trans rfl; have hcz19_2 : w16.cell? ⟨gb201, 2, none⟩ = some (.bool a1_2) := (blk_cell BK201.out 2).trans rfl; have hcz19_3 : w16.cell? ⟨gb201, 3, none⟩ = some (.string a1_3) := (blk_cell BK201.out 3).trans rfl; have hcz19_4 : w16.cell? ⟨gb201, 4, none⟩ = some (.int .u64 a1_4) := (blk_cell BK201.out 4).trans rfl; have hcz19_5 : w16.cell? ⟨gb201, 5, none⟩ = some (.int .u64 a1_5) := (blk_cell BK201.out 5).trans rfl; have hcz19_6 : w16.cell? ⟨gb201, 6, none⟩ = some (.int .i64 a1_6) := (blk_cell BK201.out 6).trans rfl; have hfz19_0 := blk_frozen BK201.out 0; have hfz19_1 := blk_frozen BK201.out 1; have hfz19_2 := blk_frozen BK201.out 2; have hfz19_3 := blk_frozen BK201.out 3; have hfz19_4 := blk_frozen BK201.out 4; have hfz19_5 := blk_frozen BK201.out 5; have hfz19_6 := blk_frozen BK201.out 6))
        go_ret
        exact ⟨by first | rfl | (simp [errW_none, errW_some] <;> rfl) | (simp [*, errW_none, errW_some] <;> rfl), bw⟩
       ·rw [if_neg c14] at H
        have c14b0 : (a0_6 == a1_6) = false := beq_eq_false_iff_ne.mpr c14
        have c14b1 : (a0_6 != a1_6) = true := bne_iff_ne.mpr c14
        obtain rfl := Option.some.inj H
        go_enter Try.func65, Try.ntmps65
        go_wp2_with (first | ((with_reducible refine gate_dst (N := 2) rfl ?_); refine box_event ?hg (N := 2) ?hd (cs := #[.int .i64 a0_0, .string a0_1, .bool a0_2, .string a0_3, .int .u64 a0_4, .int .u64 a0_5, .int .i64 a0_6]) (t := 66) ?hr ?_; (case hd => rfl); (case hg => rfl); (case hr => first | (go_simp; done) | (go_simp; rfl)); intro gb200 hg w20 hbox hb; have n0_ := Aside0.mk (below_step bw hb); have n1_ := Aside0.mk (hbox); have n2_ := Aside0.mk ((by rw [hg]; exact (below_size bw) : w.heap.size ≤ gb200)); have n3_ := Aside0.mk ((by rw [hg]; exact (below_size bw) : w.heap.size ≤ gb200)); clear HB; have HB := n0_; have BK200 := n1_; have GW200 := n2_; have GE200 := n3_; clear n0_ n1_ n2_ n3_; clear hb hbox hg) | ((with_reducible refine gate_dst (N := 3) rfl ?_); refine box_event ?hg (N := 3) ?hd (cs := #[.int .i64 a1_0, .string a1_1, .bool a1_2, .string a1_3, .int .u64 a1_4, .int .u64 a1_5, .int .i64 a1_6]) (t := 66) ?hr ?_; (case hd => rfl); (case hg => rfl); (case hr => first | (go_simp; done) | (go_simp; rfl)); intro gb201 hg w21 hbox hb; have n0_ := Aside0.mk (blk_below (g := gb200) (o := .cells #[.int .i64 a0_0, .string a0_1, .bool a0_2, .string a0_3, .int .u64 a0_4, .int .u64 a0_5, .int .i64 a0_6] 66 (0, 0)) (lb BK200) hb); have n1_ := Aside0.mk (below_step bw hb); have n2_ := Aside0.mk (hbox); have n3_ := Aside0.mk ((by rw [hg]; exact (below_size bw) : w.heap.size ≤ gb201)); have n4_ := Aside0.mk ((by rw [hg]; exact (below_size bw) : w.heap.size ≤ gb201)); have n5_ := Aside0.mk ((by rw [hg]; exact Nat.ne_of_lt (blk_lt (g := gb200) (o := .cells #[.int .i64 a0_0, .string a0_1, .bool a0_2, .string a0_3, .int .u64 a0_4, .int .u64 a0_5, .int .i64 a0_6] 66 (0, 0)) (lb BK200)) : gb200 ≠ gb201)); have n6_ := Aside0.mk ((by rw [hg]; exact Nat.ne_of_gt (blk_lt (g := gb200) (o := .cells #[.int .i64 a0_0, .string a0_1, .bool a0_2, .string a0_3, .int .u64 a0_4, .int .u64 a0_5, .int .i64 a0_6] 66 (0, 0)) (lb BK200)) : gb201 ≠ gb200)); clear BK200; clear HB; have BK200 := n0_; have HB := n1_; have BK201 := n2_; have GW201 := n3_; have GE201 := n4_; have NB200_201 := n5_; have NB201_200 := n6_; clear n0_ n1_ n2_ n3_ n4_ n5_ n6_; clear hb hbox hg; have hnb22 := NB200_201.out; have hnc22 := NB201_200.out; have hcz23_0 : w21.cell? ⟨gb200, 0, none⟩ = some (.int .i64 a0_0) := (blk_cell BK200.out 0).trans rfl; have hcz23_1 : w21.cell? ⟨gb200, 1, none⟩ = some (.string a0_1) := (blk_cell BK200.out 1).trans rfl; have hcz23_2 : w21.cell? ⟨gb200, 2, none⟩ = some (.bool a0_2) := (blk_cell BK200.out 2).trans rfl; have hcz23_3 : w21.cell? ⟨gb200, 3, none⟩ = some (.string a0_3) := (blk_cell BK200.out 3).trans rfl; have hcz23_4 : w21.cell? ⟨gb200, 4, none⟩ = some (.int .u64 a0_4) := (blk_cell BK200.out 4).trans rfl; have hcz23_5 : w21.cell? ⟨gb200, 5, none⟩ = some (.int .u64 a0_5) := (blk_cell BK200.out 5).trans rfl; have hcz23_6 : w21.cell? ⟨gb200, 6, none⟩ = some (.int .i64 a0_6) := (blk_cell BK200.out 6).trans rfl; have hfz23_0 := blk_frozen BK200.out 0; have hfz23_1 := blk_frozen BK200.out 1; have hfz23_2 := blk_frozen BK200.out 2; have hfz23_3 := blk_frozen BK200.out 3; have hfz23_4 := blk_frozen BK200.out 4; have hfz23_5 := blk_frozen BK200.out 5; have hfz23_6 := blk_frozen BK200.out 6; have hcz24_0 : w21.cell? ⟨gb201, 0, none⟩ = some (.int .i64 a1_0) := (blk_cell BK201.out 0).trans rfl; have hcz24_1 : w21.cell? ⟨gb201, 1, none⟩ = some (.string a1_1) := (blk_cell BK201.out 1).trans rfl; have hcz24_2 : w21.cell? ⟨gb201, 2, none⟩ = some (.bool a1_2) := (blk_cell BK201.out 2).trans rfl; have hcz24_3 : w21.cell? ⟨gb201, 3, none⟩ = some (.string a1_3) := (blk_cell BK201.out 3).trans rfl; have hcz24_4 : w21.cell? ⟨gb201, 4, none⟩ = some (.int .u64 a1_4) := (blk_cell BK201.out 4).trans rfl; have hcz24_5 : w21.cell? ⟨gb201, 5, none⟩ = some (.int .u64 a1_5) := (blk_cell BK201.out 5).trans rfl; have hcz24_6 : w21.cell? ⟨gb201, 6, none⟩ = some (.int .i64 a1_6) := (blk_cell BK201.out 6).trans rfl; have hfz24_0 := blk_frozen BK201.out 0; have hfz24_1 := blk_frozen BK201.out 1; have hfz24_2 := blk_frozen BK201.out 2; have hfz24_3 := blk_frozen BK201.out 3; have hfz24_4 := blk_frozen BK201.out 4; have hfz24_5 := blk_frozen BK201.out 5; have hfz24_6 := blk_frozen BK201.out 6))
        go_ret
        exact ⟨by first | rfl | (simp [errW_none, errW_some] <;> rfl) | (simp [*, errW_none, errW_some] <;> rfl), bw⟩
      ·rw [if_neg c13] at H
       have c13b0 : (a0_5 == a1_5) = false := beq_eq_false_iff_ne.mpr c13
       have c13b1 : (a0_5 != a1_5) = true := bne_iff_ne.mpr c13
       obtain rfl := Option.some.inj H
       go_enter Try.func65, Try.ntmps65
       go_wp2_with (first | ((with_reducible refine gate_dst (N := 2) rfl ?_); refine box_event ?hg (N := 2) ?hd (cs := #[.int .i64 a0_0, .string a0_1, .bool a0_2, .string a0_3, .int .u64 a0_4, .int .u64 a0_5, .int .i64 a0_6]) (t := 66) ?hr ?_; (case hd => rfl); (case hg => rfl); (case hr => first | (go_simp; done) | (go_simp; rfl)); intro gb200 hg w25 hbox hb; have n0_ := Aside0.mk (below_step bw hb); have n1_ := Aside0.mk (hbox); have n2_ := Aside0.mk ((by rw [hg]; exact (below_size bw) : w.heap.size ≤ gb200)); have n3_ := Aside0.mk ((by rw [hg]; exact (below_size bw) : w.heap.size ≤ gb200)); clear HB; have HB := n0_; have BK200 := n1_; have GW200 := n2_; have GE200 := n3_; clear n0_ n1_ n2_ n3_; clear hb hbox hg) | ((with_reducible refine gate_dst (N := 3) rfl ?_); refine box_event ?hg (N := 3) ?hd (cs := #[.int .i64 a1_0, .string a1_1, .bool a1_2, .string a1_3, .int .u64 a1_4, .int .u64 a1_5, .int .i64 a1_6]) (t := 66) ?hr ?_; (case hd => rfl); (case hg => rfl); (case hr => first | (go_simp; done) | (go_simp; rfl)); intro gb201 hg w26 hbox hb; have n0_ := Aside0.mk (blk_below (g := gb200) (o := .cells #[.int .i64 a0_0, .string a0_1, .bool a0_2, .string a0_3, .int .u64 a0_4, .int .u64 a0_5, .int .i64 a0_6] 66 (0, 0)) (lb BK200) hb); have n1_ := Aside0.mk (below_step bw hb); have n2_ := Aside0.mk (hbox); have n3_ := Aside0.mk ((by rw [hg]; exact (below_size bw) : w.heap.size ≤ gb201)); have n4_ := Aside0.mk ((by rw [hg]; exact (below_size bw) : w.heap.size ≤ gb201)); have n5_ := Aside0.mk ((by rw [hg]; exact Nat.ne_of_lt (blk_lt (g := gb200) (o := .cells #[.int .i64 a0_0, .string a0_1, .bool a0_2, .string a0_3, .int .u64 a0_4, .int .u64 a0_5, .int .i64 a0_6] 66 (0, 0)) (lb BK200)) : gb200 ≠ gb201)); have n6_ := Aside0.mk ((by rw [hg]; exact Nat.ne_of_gt (blk_lt (g := gb200) (o := .cells #[.int .i64 a0_0, .string a0_1, .bool a0_2, .string a0_3, .int .u64 a0_4, .int .u64 a0_5, .int .i64 a0_6] 66 (0, 0)) (lb BK200)) : gb201 ≠ gb200)); clear BK200; clear HB; have BK200 := n0_; have HB := n1_; have BK201 := n2_; have GW201 := n3_; have GE201 := n4_; have NB200_201 := n5_; have NB201_200 := n6_; clear n0_ n1_ n2_ n3_ n4_ n5_ n6_; clear hb hbox hg; have hnb27 := NB200_201.out; have hnc27 := NB201_200.out; have hcz28_0 : w26.cell? ⟨gb200, 0, none⟩ = some (.int .i64 a0_0) := (blk_cell BK200.out 0).trans rfl; have hcz28_1 : w26.cell? ⟨gb200, 1, none⟩ = some (.string a0_1) := (blk_cell BK200.out 1).trans rfl; have hcz28_2 : w26.cell? ⟨gb200, 2, none⟩ = some (.bool a0_2) := (blk_cell BK200.out 2).trans rfl; have hcz28_3 : w26.cell? ⟨gb200, 3, none⟩ = some (.string a0_3) := (blk_cell BK200.out 3).trans rfl; have hcz28_4 : w26.cell? ⟨gb200, 4, none⟩ = some (.int .u64 a0_4) := (blk_cell BK200.out 4).trans rfl; have hcz28_5 : w26.cell? ⟨gb200, 5, none⟩ = some (.int .u64 a0_5) := (blk_cell BK200.out 5).trans rfl; have hcz28_6 : w26.cell? ⟨gb200, 6, none⟩ = some (.int .i64 a0_6) := (blk_cell BK200.out 6).trans rfl; have hfz28_0 := blk_frozen BK200.out 0; have hfz28_1 := blk_frozen BK200.out 1; have hfz28_2 := blk_frozen BK200.out 2; have hfz28_3 := blk_frozen BK200.out 3; have hfz28_4 := blk_frozen BK200.out 4; have hfz28_5 := blk_frozen BK200.out 5; have hfz28_6 := blk_frozen BK200.out 6; have hcz29_0 : w26.cell? ⟨gb201, 0, none⟩ = some (.int .i64 a1_0) := (blk_cell BK201.out 0).trans rfl; have hcz29_1 : w26.cell? ⟨gb201, 1, none⟩ = some (.string a1_1) := (blk_cell BK201.out 1).trans rfl; have hcz29_2 : w26.cell? ⟨gb201, 2, none⟩ = some (.bool a1_2) := (blk_cell BK201.out 2).trans rfl; have hcz29_3 : w26.cell? ⟨gb201, 3, none⟩ = some (.string a1_3) := (blk_cell BK201.out 3).trans rfl; have hcz29_4 : w26.cell? ⟨gb201, 4, none⟩ = some (.int .u64 a1_4) := (blk_cell BK201.out 4).trans rfl; have hcz29_5 : w26.cell? ⟨gb201, 5, none⟩ = some (.int .u64 a1_5) := (blk_cell BK201.out 5).trans rfl; have hcz29_6 : w26.cell? ⟨gb201, 6, none⟩ = some (.int .i64 a1_6) := (blk_cell BK201.out 6).trans rfl; have hfz29_0 := blk_frozen BK201.out 0; have hfz29_1 := blk_frozen BK201.out 1; have hfz29_2 := blk_frozen BK201.out 2; have hfz29_3 := blk_frozen BK201.out 3; have hfz29_4 := blk_frozen BK201.out 4; have hfz29_5 := blk_frozen BK201.out 5; have hfz29_6 := blk_frozen BK201.out 6))
       go_ret
       exact ⟨by first | rfl | (simp [errW_none, errW_some] <;> rfl) | (simp [*, errW_none, errW_some] <;> rfl), bw⟩
     ·rw [if_neg c12] at H
      have c12b0 : (a0_4 == a1_4) = false := beq_eq_false_iff_ne.mpr c12
      have c12b1 : (a0_4 != a1_4) = true := bne_iff_ne.mpr c12
      obtain rfl := Option.some.inj H
      go_enter Try.func65, Try.ntmps65
      go_wp2_with (first | ((with_reducible refine gate_dst (N := 2) rfl ?_); refine box_event ?hg (N := 2) ?hd (cs := #[.int .i64 a0_0, .string a0_1, .bool a0_2, .string a0_3, .int .u64 a0_4, .int .u64 a0_5, .int .i64 a0_6]) (t := 66) ?hr ?_; (case hd => rfl); (case hg => rfl); (case hr => first | (go_simp; done) | (go_simp; rfl)); intro gb200 hg w30 hbox hb; have n0_ := Aside0.mk (below_step bw hb); have n1_ := Aside0.mk (hbox); have n2_ := Aside0.mk ((by rw [hg]; exact (below_size bw) : w.heap.size ≤ gb200)); have n3_ := Aside0.mk ((by rw [hg]; exact (below_size bw) : w.heap.size ≤ gb200)); clear HB; have HB := n0_; have BK200 := n1_; have GW200 := n2_; have GE200 := n3_; clear n0_ n1_ n2_ n3_; clear hb hbox hg) | ((with_reducible refine gate_dst (N := 3) rfl ?_); refine box_event ?hg (N := 3) ?hd (cs := #[.int .i64 a1_0, .string a1_1, .bool a1_2, .string a1_3, .int .u64 a1_4, .int .u64 a1_5, .int .i64 a1_6]) (t := 66) ?hr ?_; (case hd => rfl); (case hg => rfl); (case hr => first | (go_simp; done) | (go_simp; rfl)); intro gb201 hg w31 hbox hb; have n0_ := Aside0.mk (blk_below (g := gb200) (o := .cells #[.int .i64 a0_0, .string a0_1, .bool a0_2, .string a0_3, .int .u64 a0_4, .int .u64 a0_5, .int .i64 a0_6] 66 (0, 0)) (lb BK200) hb); have n1_ := Aside0.mk (below_step bw hb); have n2_ := Aside0.mk (hbox); have n3_ := Aside0.mk ((by rw [hg]; exact (below_size bw) : w.heap.size ≤ gb201)); have n4_ := Aside0.mk ((by rw [hg]; exact (below_size bw) : w.heap.size ≤ gb201)); have n5_ := Aside0.mk ((by rw [hg]; exact Nat.ne_of_lt (blk_lt (g := gb200) (o := .cells #[.int .i64 a0_0, .string a0_1, .bool a0_2, .string a0_3, .int .u64 a0_4, .int .u64 a0_5, .int .i64 a0_6] 66 (0, 0)) (lb BK200)) : gb200 ≠ gb201)); have n6_ := Aside0.mk ((by rw [hg]; exact Nat.ne_of_gt (blk_lt (g := gb200) (o := .cells #[.int .i64 a0_0, .string a0_1, .bool a0_2, .string a0_3, .int .u64 a0_4, .int .u64 a0_5, .int .i64 a0_6] 66 (0, 0)) (lb BK200)) : gb201 ≠ gb200)); clear BK200; clear HB; have BK200 := n0_; have HB := n1_; have BK201 := n2_; have GW201 := n3_; have GE201 := n4_; have NB200_201 := n5_; have NB201_200 := n6_; clear n0_ n1_ n2_ n3_ n4_ n5_ n6_; clear hb hbox hg; have hnb32 := NB200_201.out; have hnc32 := NB201_200.out; have hcz33_0 : w31.cell? ⟨gb200, 0, none⟩ = some (.int .i64 a0_0) := (blk_cell BK200.out 0).trans rfl; have hcz33_1 : w31.cell? ⟨gb200, 1, none⟩ = some (.string a0_1) := (blk_cell BK200.out 1).trans rfl; have hcz33_2 : w31.cell? ⟨gb200, 2, none⟩ = some (.bool a0_2) := (blk_cell BK200.out 2).trans rfl; have hcz33_3 : w31.cell? ⟨gb200, 3, none⟩ = some (.string a0_3) := (blk_cell BK200.out 3).trans rfl; have hcz33_4 : w31.cell? ⟨gb200, 4, none⟩ = some (.int .u64 a0_4) := (blk_cell BK200.out 4).trans rfl; have hcz33_5 : w31.cell? ⟨gb200, 5, none⟩ = some (.int .u64 a0_5) := (blk_cell BK200.out 5).trans rfl; have hcz33_6 : w31.cell? ⟨gb200, 6, none⟩ = some (.int .i64 a0_6) := (blk_cell BK200.out 6).trans rfl; have hfz33_0 := blk_frozen BK200.out 0; have hfz33_1 := blk_frozen BK200.out 1; have hfz33_2 := blk_frozen BK200.out 2; have hfz33_3 := blk_frozen BK200.out 3; have hfz33_4 := blk_frozen BK200.out 4; have hfz33_5 := blk_frozen BK200.out 5; have hfz33_6 := blk_frozen BK200.out 6; have hcz34_0 : w31.cell? ⟨gb201, 0, none⟩ = some (.int .i64 a1_0) := (blk_cell BK201.out 0).trans rfl; have hcz34_1 : w31.cell? ⟨gb201, 1, none⟩ = some (.string a1_1) := (blk_cell BK201.out 1).trans rfl; have hcz34_2 : w31.cell? ⟨gb201, 2, none⟩ = some (.bool a1_2) := (blk_cell BK201.out 2).trans rfl; have hcz34_3 : w31.cell? ⟨gb201, 3, none⟩ = some (.string a1_3) := (blk_cell BK201.out 3).trans rfl; have hcz34_4 : w31.cell? ⟨gb201, 4, none⟩ = some (.int .u64 a1_4) := (blk_cell BK201.out 4).trans rfl; have hcz34_5 : w31.cell? ⟨gb201, 5, none⟩ = some (.int .u64 a1_5) := (blk_cell BK201.out 5).trans rfl; have hcz34_6 : w31.cell? ⟨gb201, 6, none⟩ = some (.int .i64 a1_6) := (blk_cell BK201.out 6).trans rfl; have hfz34_0 := blk_frozen BK201.out 0; have hfz34_1 := blk_frozen BK201.out 1; have hfz34_2 := blk_frozen BK201.out 2; have hfz34_3 := blk_frozen BK201.out 3; have hfz34_4 := blk_frozen BK201.out 4; have hfz34_5 := blk_frozen BK201.out 5; have hfz34_6 := blk_frozen BK201.out 6))
      go_ret
      exact ⟨by first | rfl | (simp [errW_none, errW_some] <;> rfl) | (simp [*, errW_none, errW_some] <;> rfl), bw⟩
    ·rw [if_neg c11] at H
     have c11b0 : (a0_3.toList == a1_3.toList) = false := beq_eq_false_iff_ne.mpr c11
     have c11b1 : (a0_3.toList != a1_3.toList) = true := bne_iff_ne.mpr c11
     obtain rfl := Option.some.inj H
     go_enter Try.func65, Try.ntmps65
     go_wp2_with (first | ((with_reducible refine gate_dst (N := 2) rfl ?_); refine box_event ?hg (N := 2) ?hd (cs := #[.int .i64 a0_0, .string a0_1, .bool a0_2, .string a0_3, .int .u64 a0_4, .int .u64 a0_5, .int .i64 a0_6]) (t := 66) ?hr ?_; (case hd => rfl); (case hg => rfl); (case hr => first | (go_simp; done) | (go_simp; rfl)); intro gb200 hg w35 hbox hb; have n0_ := Aside0.mk (below_step bw hb); have n1_ := Aside0.mk (hbox); have n2_ := Aside0.mk ((by rw [hg]; exact (below_size bw) : w.heap.size ≤ gb200)); have n3_ := Aside0.mk ((by rw [hg]; exact (below_size bw) : w.heap.size ≤ gb200)); clear HB; have HB := n0_; have BK200 := n1_; have GW200 := n2_; have GE200 := n3_; clear n0_ n1_ n2_ n3_; clear hb hbox hg) | ((with_reducible refine gate_dst (N := 3) rfl ?_); refine box_event ?hg (N := 3) ?hd (cs := #[.int .i64 a1_0, .string a1_1, .bool a1_2, .string a1_3, .int .u64 a1_4, .int .u64 a1_5, .int .i64 a1_6]) (t := 66) ?hr ?_; (case hd => rfl); (case hg => rfl); (case hr => first | (go_simp; done) | (go_simp; rfl)); intro gb201 hg w36 hbox hb; have n0_ := Aside0.mk (blk_below (g := gb200) (o := .cells #[.int .i64 a0_0, .string a0_1, .bool a0_2, .string a0_3, .int .u64 a0_4, .int .u64 a0_5, .int .i64 a0_6] 66 (0, 0)) (lb BK200) hb); have n1_ := Aside0.mk (below_step bw hb); have n2_ := Aside0.mk (hbox); have n3_ := Aside0.mk ((by rw [hg]; exact (below_size bw) : w.heap.size ≤ gb201)); have n4_ := Aside0.mk ((by rw [hg]; exact (below_size bw) : w.heap.size ≤ gb201)); have n5_ := Aside0.mk ((by rw [hg]; exact Nat.ne_of_lt (blk_lt (g := gb200) (o := .cells #[.int .i64 a0_0, .string a0_1, .bool a0_2, .string a0_3, .int .u64 a0_4, .int .u64 a0_5, .int .i64 a0_6] 66 (0, 0)) (lb BK200)) : gb200 ≠ gb201)); have n6_ := Aside0.mk ((by rw [hg]; exact Nat.ne_of_gt (blk_lt (g := gb200) (o := .cells #[.int .i64 a0_0, .string a0_1, .bool a0_2, .string a0_3, .int .u64 a0_4, .int .u64 a0_5, .int .i64 a0_6] 66 (0, 0)) (lb BK200)) : gb201 ≠ gb200)); clear BK200; clear HB; have BK200 := n0_; have HB := n1_; have BK201 := n2_; have GW201 := n3_; have GE201 := n4_; have NB200_201 := n5_; have NB201_200 := n6_; clear n0_ n1_ n2_ n3_ n4_ n5_ n6_; clear hb hbox hg; have hnb37 := NB200_201.out; have hnc37 := NB201_200.out; have hcz38_0 : w36.cell? ⟨gb200, 0, none⟩ = some (.int .i64 a0_0) := (blk_cell BK200.out 0).trans rfl; have hcz38_1 : w36.cell? ⟨gb200, 1, none⟩ = some (.string a0_1) := (blk_cell BK200.out 1).trans rfl; have hcz38_2 : w36.cell? ⟨gb200, 2, none⟩ = some (.bool a0_2) := (blk_cell BK200.out 2).trans rfl; have hcz38_3 : w36.cell? ⟨gb200, 3, none⟩ = some (.string a0_3) := (blk_cell BK200.out 3).trans rfl; have hcz38_4 : w36.cell? ⟨gb200, 4, none⟩ = some (.int .u64 a0_4) := (blk_cell BK200.out 4).trans rfl; have hcz38_5 : w36.cell? ⟨gb200, 5, none⟩ = some (.int .u64 a0_5) := (blk_cell BK200.out 5).trans rfl; have hcz38_6 : w36.cell? ⟨gb200, 6, none⟩ = some (.int .i64 a0_6) := (blk_cell BK200.out 6).trans rfl; have hfz38_0 := blk_frozen BK200.out 0; have hfz38_1 := blk_frozen BK200.out 1; have hfz38_2 := blk_frozen BK200.out 2; have hfz38_3 := blk_frozen BK200.out 3; have hfz38_4 := blk_frozen BK200.out 4; have hfz38_5 := blk_frozen BK200.out 5; have hfz38_6 := blk_frozen BK200.out 6; have hcz39_0 : w36.cell? ⟨gb201, 0, none⟩ = some (.int .i64 a1_0) := (blk_cell BK201.out 0).trans rfl; have hcz39_1 : w36.cell? ⟨gb201, 1, none⟩ = some (.string a1_1) := (blk_cell BK201.out 1).trans rfl; have hcz39_2 : w36.cell? ⟨gb201, 2, none⟩ = some (.bool a1_2) := (blk_cell BK201.out 2).trans rfl; have hcz39_3 : w36.cell? ⟨gb201, 3, none⟩ = some (.string a1_3) := (blk_cell BK201.out 3).trans rfl; have hcz39_4 : w36.cell? ⟨gb201, 4, none⟩ = some (.int .u64 a1_4) := (blk_cell BK201.out 4).trans rfl; have hcz39_5 : w36.cell? ⟨gb201, 5, none⟩ = some (.int .u64 a1_5) := (blk_cell BK201.out 5).trans rfl; have hcz39_6 : w36.cell? ⟨gb201, 6, none⟩ = some (.int .i64 a1_6) := (blk_cell BK201.out 6).trans rfl; have hfz39_0 := blk_frozen BK201.out 0; have hfz39_1 := blk_frozen BK201.out 1; have hfz39_2 := blk_frozen BK201.out 2; have hfz39_3 := blk_frozen BK201.out 3; have hfz39_4 := blk_frozen BK201.out 4; have hfz39_5 := blk_frozen BK201.out 5; have hfz39_6 := blk_frozen BK201.out 6))
     go_ret
     exact ⟨by first | rfl | (simp [errW_none, errW_some] <;> rfl) | (simp [*, errW_none, errW_some] <;> rfl), bw⟩
  ·rw [if_neg c4] at H
   have c4b0 : (a0_1.toList == a1_1.toList) = false := beq_eq_false_iff_ne.mpr c4
   have c4b1 : (a0_1.toList != a1_1.toList) = true := bne_iff_ne.mpr c4
   obtain rfl := Option.some.inj H
   go_enter Try.func65, Try.ntmps65
   go_wp2_with (first | ((with_reducible refine gate_dst (N := 2) rfl ?_); refine box_event ?hg (N := 2) ?hd (cs := #[.int .i64 a0_0, .string a0_1, .bool a0_2, .string a0_3, .int .u64 a0_4, .int .u64 a0_5, .int .i64 a0_6]) (t := 66) ?hr ?_; (case hd => rfl); (case hg => rfl); (case hr => first | (go_simp; done) | (go_simp; rfl)); intro gb200 hg w40 hbox hb; have n0_ := Aside0.mk (below_step bw hb); have n1_ := Aside0.mk (hbox); have n2_ := Aside0.mk ((by rw [hg]; exact (below_size bw) : w.heap.size ≤ gb200)); have n3_ := Aside0.mk ((by rw [hg]; exact (below_size bw) : w.heap.size ≤ gb200)); clear HB; have HB := n0_; have BK200 := n1_; have GW200 := n2_; have GE200 := n3_; clear n0_ n1_ n2_ n3_; clear hb hbox hg) | ((with_reducible refine gate_dst (N := 3) rfl ?_); refine box_event ?hg (N := 3) ?hd (cs := #[.int .i64 a1_0, .string a1_1, .bool a1_2, .string a1_3, .int .u64 a1_4, .int .u64 a1_5, .int .i64 a1_6]) (t := 66) ?hr ?_; (case hd => rfl); (case hg => rfl); (case hr => first | (go_simp; done) | (go_simp; rfl)); intro gb201 hg w41 hbox hb; have n0_ := Aside0.mk (blk_below (g := gb200) (o := .cells #[.int .i64 a0_0, .string a0_1, .bool a0_2, .string a0_3, .int .u64 a0_4, .int .u64 a0_5, .int .i64 a0_6] 66 (0, 0)) (lb BK200) hb); have n1_ := Aside0.mk (below_step bw hb); have n2_ := Aside0.mk (hbox); have n3_ := Aside0.mk ((by rw [hg]; exact (below_size bw) : w.heap.size ≤ gb201)); have n4_ := Aside0.mk ((by rw [hg]; exact (below_size bw) : w.heap.size ≤ gb201)); have n5_ := Aside0.mk ((by rw [hg]; exact Nat.ne_of_lt (blk_lt (g := gb200) (o := .cells #[.int .i64 a0_0, .string a0_1, .bool a0_2, .string a0_3, .int .u64 a0_4, .int .u64 a0_5, .int .i64 a0_6] 66 (0, 0)) (lb BK200)) : gb200 ≠ gb201)); have n6_ := Aside0.mk ((by rw [hg]; exact Nat.ne_of_gt (blk_lt (g := gb200) (o := .cells #[.int .i64 a0_0, .string a0_1, .bool a0_2, .string a0_3, .int .u64 a0_4, .int .u64 a0_5, .int .i64 a0_6] 66 (0, 0)) (lb BK200)) : gb201 ≠ gb200)); clear BK200; clear HB; have BK200 := n0_; have HB := n1_; have BK201 := n2_; have GW201 := n3_; have GE201 := n4_; have NB200_201 := n5_; have NB201_200 := n6_; clear n0_ n1_ n2_ n3_ n4_ n5_ n6_; clear hb hbox hg; have hnb42 := NB200_201.out; have hnc42 := NB201_200.out; have hcz43_0 : w41.cell? ⟨gb200, 0, none⟩ = some (.int .i64 a0_0) := (blk_cell BK200.out 0).trans rfl; have hcz43_1 : w41.cell? ⟨gb200, 1, none⟩ = some (.string a0_1) := (blk_cell BK200.out 1).trans rfl; have hcz43_2 : w41.cell? ⟨gb200, 2, none⟩ = some (.bool a0_2) := (blk_cell BK200.out 2).trans rfl; have hcz43_3 : w41.cell? ⟨gb200, 3, none⟩ = some (.string a0_3) := (blk_cell BK200.out 3).trans rfl; have hcz43_4 : w41.cell? ⟨gb200, 4, none⟩ = some (.int .u64 a0_4) := (blk_cell BK200.out 4).trans rfl; have hcz43_5 : w41.cell? ⟨gb200, 5, none⟩ = some (.int .u64 a0_5) := (blk_cell BK200.out 5).trans rfl; have hcz43_6 : w41.cell? ⟨gb200, 6, none⟩ = some (.int .i64 a0_6) := (blk_cell BK200.out 6).trans rfl; have hfz43_0 := blk_frozen BK200.out 0; have hfz43_1 := blk_frozen BK200.out 1; have hfz43_2 := blk_frozen BK200.out 2; have hfz43_3 := blk_frozen BK200.out 3; have hfz43_4 := blk_frozen BK200.out 4; have hfz43_5 := blk_frozen BK200.out 5; have hfz43_6 := blk_frozen BK200.out 6; have hcz44_0 : w41.cell? ⟨gb201, 0, none⟩ = some (.int .i64 a1_0) := (blk_cell BK201.out 0).trans rfl; have hcz44_1 : w41.cell? ⟨gb201, 1, none⟩ = some (.string a1_1) := (blk_cell BK201.out 1).trans rfl; have hcz44_2 : w41.cell? ⟨gb201, 2, none⟩ = some (.bool a1_2) := (blk_cell BK201.out 2).trans rfl; have hcz44_3 : w41.cell? ⟨gb201, 3, none⟩ = some (.string a1_3) := (blk_cell BK201.out 3).trans rfl; have hcz44_4 : w41.cell? ⟨gb201, 4, none⟩ = some (.int .u64 a1_4) := (blk_cell BK201.out 4).trans rfl; have hcz44_5 : w41.cell? ⟨gb201, 5, none⟩ = some (.int .u64 a1_5) := (blk_cell BK201.out 5).trans rfl; have hcz44_6 : w41.cell? ⟨gb201, 6, none⟩ = some (.int .i64 a1_6) := (blk_cell BK201.out 6).trans rfl; have hfz44_0 := blk_frozen BK201.out 0; have hfz44_1 := blk_frozen BK201.out 1; have hfz44_2 := blk_frozen BK201.out 2; have hfz44_3 := blk_frozen BK201.out 3; have hfz44_4 := blk_frozen BK201.out 4; have hfz44_5 := blk_frozen BK201.out 5; have hfz44_6 := blk_frozen BK201.out 6))
   go_ret
   exact ⟨by first | rfl | (simp [errW_none, errW_some] <;> rfl) | (simp [*, errW_none, errW_some] <;> rfl), bw⟩
 ·rw [if_neg c3] at H
  have c3b0 : (a0_0 == a1_0) = false := beq_eq_false_iff_ne.mpr c3
  have c3b1 : (a0_0 != a1_0) = true := bne_iff_ne.mpr c3
  obtain rfl := Option.some.inj H
  go_enter Try.func65, Try.ntmps65
  go_wp2_with (first | ((with_reducible refine gate_dst (N := 2) rfl ?_); refine box_event ?hg (N := 2) ?hd (cs := #[.int .i64 a0_0, .string a0_1, .bool a0_2, .string a0_3, .int .u64 a0_4, .int .u64 a0_5, .int .i64 a0_6]) (t := 66) ?hr ?_; (case hd => rfl); (case hg => rfl); (case hr => first | (go_simp; done) | (go_simp; rfl)); intro gb200 hg w45 hbox hb; have n0_ := Aside0.mk (below_step bw hb); have n1_ := Aside0.mk (hbox); have n2_ := Aside0.mk ((by rw [hg]; exact (below_size bw) : w.heap.size ≤ gb200)); have n3_ := Aside0.mk ((by rw [hg]; exact (below_size bw) : w.heap.size ≤ gb200)); clear HB; have HB := n0_; have BK200 := n1_; have GW200 := n2_; have GE200 := n3_; clear n0_ n1_ n2_ n3_; clear hb hbox hg) | ((with_reducible refine gate_dst (N := 3) rfl ?_); refine box_event ?hg (N := 3) ?hd (cs := #[.int .i64 a1_0, .string a1_1, .bool a1_2, .string a1_3, .int .u64 a1_4, .int .u64 a1_5, .int .i64 a1_6]) (t := 66) ?hr ?_; (case hd => rfl); (case hg => rfl); (case hr => first | (go_simp; done) | (go_simp; rfl)); intro gb201 hg w46 hbox hb; have n0_ := Aside0.mk (blk_below (g := gb200) (o := .cells #[.int .i64 a0_0, .string a0_1, .bool a0_2, .string a0_3, .int .u64 a0_4, .int .u64 a0_5, .int .i64 a0_6] 66 (0, 0)) (lb BK200) hb); have n1_ := Aside0.mk (below_step bw hb); have n2_ := Aside0.mk (hbox); have n3_ := Aside0.mk ((by rw [hg]; exact (below_size bw) : w.heap.size ≤ gb201)); have n4_ := Aside0.mk ((by rw [hg]; exact (below_size bw) : w.heap.size ≤ gb201)); have n5_ := Aside0.mk ((by rw [hg]; exact Nat.ne_of_lt (blk_lt (g := gb200) (o := .cells #[.int .i64 a0_0, .string a0_1, .bool a0_2, .string a0_3, .int .u64 a0_4, .int .u64 a0_5, .int .i64 a0_6] 66 (0, 0)) (lb BK200)) : gb200 ≠ gb201)); have n6_ := Aside0.mk ((by rw [hg]; exact Nat.ne_of_gt (blk_lt (g := gb200) (o := .cells #[.int .i64 a0_0, .string a0_1, .bool a0_2, .string a0_3, .int .u64 a0_4, .int .u64 a0_5, .int .i64 a0_6] 66 (0, 0)) (lb BK200)) : gb201 ≠ gb200)); clear BK200; clear HB; have BK200 := n0_; have HB := n1_; have BK201 := n2_; have GW201 := n3_; have GE201 := n4_; have NB200_201 := n5_; have NB201_200 := n6_; clear n0_ n1_ n2_ n3_ n4_ n5_ n6_; clear hb hbox hg; have hnb47 := NB200_201.out; have hnc47 := NB201_200.out; have hcz48_0 : w46.cell? ⟨gb200, 0, none⟩ = some (.int .i64 a0_0) := (blk_cell BK200.out 0).trans rfl; have hcz48_1 : w46.cell? ⟨gb200, 1, none⟩ = some (.string a0_1) := (blk_cell BK200.out 1).trans rfl; have hcz48_2 : w46.cell? ⟨gb200, 2, none⟩ = some (.bool a0_2) := (blk_cell BK200.out 2).trans rfl; have hcz48_3 : w46.cell? ⟨gb200, 3, none⟩ = some (.string a0_3) := (blk_cell BK200.out 3).trans rfl; have hcz48_4 : w46.cell? ⟨gb200, 4, none⟩ = some (.int .u64 a0_4) := (blk_cell BK200.out 4).trans rfl; have hcz48_5 : w46.cell? ⟨gb200, 5, none⟩ = some (.int .u64 a0_5) := (blk_cell BK200.out 5).trans rfl; have hcz48_6 : w46.cell? ⟨gb200, 6, none⟩ = some (.int .i64 a0_6) := (blk_cell BK200.out 6).trans rfl; have hfz48_0 := blk_frozen BK200.out 0; have hfz48_1 := blk_frozen BK200.out 1; have hfz48_2 := blk_frozen BK200.out 2; have hfz48_3 := blk_frozen BK200.out 3; have hfz48_4 := blk_frozen BK200.out 4; have hfz48_5 := blk_frozen BK200.out 5; have hfz48_6 := blk_frozen BK200.out 6; have hcz49_0 : w46.cell? ⟨gb201, 0, none⟩ = some (.int .i64 a1_0) := (blk_cell BK201.out 0).trans rfl; have hcz49_1 : w46.cell? ⟨gb201, 1, none⟩ = some (.string a1_1) := (blk_cell BK201.out 1).trans rfl; have hcz49_2 : w46.cell? ⟨gb201, 2, none⟩ = some (.bool a1_2) := (blk_cell BK201.out 2).trans rfl; have hcz49_3 : w46.cell? ⟨gb201, 3, none⟩ = some (.string a1_3) := (blk_cell BK201.out 3).trans rfl; have hcz49_4 : w46.cell? ⟨gb201, 4, none⟩ = some (.int .u64 a1_4) := (blk_cell BK201.out 4).trans rfl; have hcz49_5 : w46.cell? ⟨gb201, 5, none⟩ = some (.int .u64 a1_5) := (blk_cell BK201.out 5).trans rfl; have hcz49_6 : w46.cell? ⟨gb201, 6, none⟩ = some (.int .i64 a1_6) := (blk_cell BK201.out 6).trans rfl; have hfz49_0 := blk_frozen BK201.out 0; have hfz49_1 := blk_frozen BK201.out 1; have hfz49_2 := blk_frozen BK201.out 2; have hfz49_3 := blk_frozen BK201.out 3; have hfz49_4 := blk_frozen BK201.out 4; have hfz49_5 := blk_frozen BK201.out 5; have hfz49_6 := blk_frozen BK201.out 6))
  go_ret
  exact ⟨by first | rfl | (simp [errW_none, errW_some] <;> rfl) | (simp [*, errW_none, errW_some] <;> rfl), bw⟩

end Go.Proofs.Ytcfbbbilonignaa.Q

namespace Go.Proofs.Ytcfbbbilonignaa.Q
open Go.RowKit Go.Proofs.YtcfbbbilonignaaW.PrintWords Go.Proofs.YtcfbbbilonignaaW.PrintLast Go.Proofs.YtcfbbbilonignaaW.PrintMore
set_option linter.unusedVariables false
set_option linter.unusedSimpArgs false

/-! ### laws_eqIns: function 112 -/
def laws_eqIns.f (a0_0 : Int) (a0_1 : Int) (a0_2 : Int) (a0_3 : Bool) (a0_4 : Int) (a0_5 : ByteArray) (a0_6 : Bool) (a0_7 : ByteArray) (a0_8 : Int) (a0_9 : Int) (a0_10 : Int) (a1_0 : Int) (a1_1 : Int) (a1_2 : Int) (a1_3 : Bool) (a1_4 : Int) (a1_5 : ByteArray) (a1_6 : Bool) (a1_7 : ByteArray) (a1_8 : Int) (a1_9 : Int) (a1_10 : Int) : Option (Bool) := if a0_0 = a1_0 then (if a0_1 = a1_1 then (if a0_2 = a1_2 then (if (a0_3 != a1_3) = true then (some false) else ((laws_eqNode.f a0_4 a0_5 a0_6 a0_7 a0_8 a0_9 a0_10 a1_4 a1_5 a1_6 a1_7 a1_8 a1_9 a1_10).bind fun t625 => (if t625 = true then (some true) else (some false)))) else (some false)) else (some false)) else (some false)
set_option maxHeartbeats 8000000 in
set_option maxRecDepth 100000 in
theorem laws_eqIns.calls (a0_0 : Int) (a0_1 : Int) (a0_2 : Int) (a0_3 : Bool) (a0_4 : Int) (a0_5 : ByteArray) (a0_6 : Bool) (a0_7 : ByteArray) (a0_8 : Int) (a0_9 : Int) (a0_10 : Int) (a1_0 : Int) (a1_1 : Int) (a1_2 : Int) (a1_3 : Bool) (a1_4 : Int) (a1_5 : ByteArray) (a1_6 : Bool) (a1_7 : ByteArray) (a1_8 : Int) (a1_9 : Int) (a1_10 : Int) (r : Bool) (w : World) (h : laws_eqIns.f a0_0 a0_1 a0_2 a0_3 a0_4 a0_5 a0_6 a0_7 a0_8 a0_9 a0_10 a1_0 a1_1 a1_2 a1_3 a1_4 a1_5 a1_6 a1_7 a1_8 a1_9 a1_10 = some r) :
  Calls Try.prog 112 #[.agg #[.int .i64 a0_0, .int .i64 a0_1, .int .i64 a0_2, .bool a0_3, .int .i64 a0_4, .string a0_5, .bool a0_6, .string a0_7, .int .u64 a0_8, .int .u64 a0_9, .int .i64 a0_10], .agg #[.int .i64 a1_0, .int .i64 a1_1, .int .i64 a1_2, .bool a1_3, .int .i64 a1_4, .string a1_5, .bool a1_6, .string a1_7, .int .u64 a1_8, .int .u64 a1_9, .int .i64 a1_10]] w fun e w' => e = .returned (.bool r) ∧ Below w.heap.size w w' := by
 have hu138 := Try.underlying138
 have hu66 := Try.underlying66
 have HB := Aside0.mk (Below.refl w.heap.size w)
 have H : (if a0_0 = a1_0 then (if a0_1 = a1_1 then (if a0_2 = a1_2 then (if (a0_3 != a1_3) = true then (some false) else ((laws_eqNode.f a0_4 a0_5 a0_6 a0_7 a0_8 a0_9 a0_10 a1_4 a1_5 a1_6 a1_7 a1_8 a1_9 a1_10).bind fun t625 => (if t625 = true then (some true) else (some false)))) else (some false)) else (some false)) else (some false)) = some r := h
 clear h
 by_cases c3 : a0_0 = a1_0
 ·rw [if_pos c3] at H
  have c3b0 : (a0_0 == a1_0) = true := beq_iff_eq.mpr c3
  have c3b1 : (a0_0 != a1_0) = false := bne_eq_false_iff_eq.mpr c3
  clear c3
  by_cases c4 : a0_1 = a1_1
  ·rw [if_pos c4] at H
   have c4b0 : (a0_1 == a1_1) = true := beq_iff_eq.mpr c4
   have c4b1 : (a0_1 != a1_1) = false := bne_eq_false_iff_eq.mpr c4
   clear c4
   by_cases c5 : a0_2 = a1_2
   ·rw [if_pos c5] at H
    have c5b0 : (a0_2 == a1_2) = true := beq_iff_eq.mpr c5
    have c5b1 : (a0_2 != a1_2) = false := bne_eq_false_iff_eq.mpr c5
    clear c5
    by_cases c6 : (a0_3 != a1_3) = true
    ·rw [if_pos c6] at H
     have c6b0 : (a0_3 != a1_3) = true := c6
     (try (have c6b1 : decide (a0_3 = a1_3) = false := by simpa using c6))
     (try (have c6b2 : (a0_3 == a1_3) = false := by simpa using c6))
     (try (have c6b3 : ¬ (a0_3 = a1_3) := by simpa using c6))
     clear c6
     obtain rfl := Option.some.inj H
     go_enter Try.func112, Try.ntmps112
     go_wp2_with (first | ((with_reducible refine gate_dst (N := 2) rfl ?_); refine box_event ?hg (N := 2) ?hd (cs := #[.int .i64 a0_0, .int .i64 a0_1, .int .i64 a0_2, .bool a0_3, .int .i64 a0_4, .string a0_5, .bool a0_6, .string a0_7, .int .u64 a0_8, .int .u64 a0_9, .int .i64 a0_10]) (t := 138) ?hr ?_; (case hd => rfl); (case hg => rfl); (case hr => first | (go_simp; done) | (go_simp; rfl)); intro gb623 hg w7 hbox hb; have n0_ := Aside0.mk (below_step bw hb); have n1_ := Aside0.mk (hbox); have n2_ := Aside0.mk ((by rw [hg]; exact (below_size bw) : w.heap.size ≤ gb623)); have n3_ := Aside0.mk ((by rw [hg]; exact (below_size bw) : w.heap.size ≤ gb623)); clear HB; have HB := n0_; have BK623 := n1_; have GW623 := n2_; have GE623 := n3_; clear n0_ n1_ n2_ n3_; clear hb hbox hg) | ((with_reducible refine gate_dst (N := 3) rfl ?_); refine box_event ?hg (N := 3) ?hd (cs := #[.int .i64 a1_0, .int .i64 a1_1, .int .i64 a1_2, .bool a1_3, .int .i64 a1_4, .string a1_5, .bool a1_6, .string a1_7, .int .u64 a1_8, .int .u64 a1_9, .int .i64 a1_10]) (t := 138) ?hr ?_; (case hd => rfl); (case hg => rfl); (case hr => first | (go_simp; done) | (go_simp; rfl)); intro gb624 hg w8 hbox hb; have n0_ := Aside0.mk (blk_below (g := gb623) (o := .cells #[.int .i64 a0_0, .int .i64 a0_1, .int .i64 a0_2, .bool a0_3, .int .i64 a0_4, .string a0_5, .bool a0_6, .string a0_7, .int .u64 a0_8, .int .u64 a0_9, .int .i64 a0_10] 138 (0, 0)) (lb BK623) hb); have n1_ := Aside0.mk (below_step bw hb); have n2_ := Aside0.mk (hbox); have n3_ := Aside0.mk ((by rw [hg]; exact (below_size bw) : w.heap.size ≤ gb624)); have n4_ := Aside0.mk ((by rw [hg]; exact (below_size bw) : w.heap.size ≤ gb624)); have n5_ := Aside0.mk ((by rw [hg]; exact Nat.ne_of_lt (blk_lt (g := gb623) (o := .cells #[.int .i64 a0_0, .int .i64 a0_1, .int .i64 a0_2, .bool a0_3, .int .i64 a0_4, .string a0_5, .bool a0_6, .string a0_7, .int .u64 a0_8, .int .u64 a0_9, .int .i64 a0_10] 138 (0, 0)) (lb BK623)) : gb623 ≠ gb624)); have n6_ := Aside0.mk ((by rw [hg]; exact Nat.ne_of_gt (blk_lt (g := gb623) (o := .cells #[.int .i64 a0_0, .int .i64 a0_1, .int .i64 a0_2, .bool a0_3, .int .i64 a0_4, .string a0_5, .bool a0_6, .string a0_7, .int .u64 a0_8, .int .u64 a0_9, .int .i64 a0_10] 138 (0, 0)) (lb BK623)) : gb624 ≠ gb623)); clear BK623; clear HB; have BK623 := n0_; have HB := n1_; have BK624 := n2_; have GW624 := n3_; have GE624 := n4_; have NB623_624 := n5_; have NB624_623 := n6_; clear n0_ n1_ n2_ n3_ n4_ n5_ n6_; clear hb hbox hg; have hnb9 := NB623_624.out; have hnc9 := NB624_623.out; have hcz10_0 : w8.cell? ⟨gb623, 0, none⟩ = some (.int .i64 a0_0) := (blk_cell BK623.out 0).trans rfl; have hcz10_1 : w8.cell? ⟨gb623, 1, none⟩ = some (.int .i64 a0_1) := (blk_cell BK623.out 1).trans rfl; have hcz10_2 : w8.cell? ⟨gb623, 2, none⟩ = some (.int .i64 a0_2) := (blk_cell BK623.out 2).trans rfl; have hcz10_3 : w8.cell? ⟨gb623, 3, none⟩ = some (.bool a0_3) := (blk_cell BK623.out 3).trans rfl; have hcz10_4 : w8.cell? ⟨gb623, 4, none⟩ = some (.int .i64 a0_4) := (blk_cell BK623.out 4).trans rfl; have hcz10_5 : w8.cell? ⟨gb623, 5, none⟩ = some (.string a0_5) := (blk_cell BK623.out 5).trans rfl; have hcz10_6 : w8.cell? ⟨gb623, 6, none⟩ = some (.bool a0_6) := (blk_cell BK623.out 6).trans rfl; have hcz10_7 : w8.cell? ⟨gb623, 7, none⟩ = some (.string a0_7) := (blk_cell BK623.out 7).trans rfl; have hcz10_8 : w8.cell? ⟨gb623, 8, none⟩ = some (.int .u64 a0_8) := (blk_cell BK623.out 8).trans rfl; have hcz10_9 : w8.cell? ⟨gb623, 9, none⟩ = some (.int .u64 a0_9) := (blk_cell BK623.out 9).trans rfl; have hcz10_10 : w8.cell? ⟨gb623, 10, none⟩ = some (.int .i64 a0_10) := (blk_cell BK623.out 10).trans rfl; have hfz10_0 := blk_frozen BK623.out 0; have hfz10_1 := blk_frozen BK623.out 1; have hfz10_2 := blk_frozen BK623.out 2; have hfz10_3 := blk_frozen BK623.out 3; have hfz10_4 := blk_frozen BK623.out 4; have hfz10_5 := blk_frozen BK623.out 5; have hfz10_6 := blk_frozen BK623.out 6; have hfz10_7 := blk_frozen BK623.out 7; have hfz10_8 := blk_frozen BK623.out 8; have hfz10_9 := blk_frozen BK623.out 9; have hfz10_10 := blk_frozen BK623.out 10; have hcz11_0 : w8.cell? ⟨gb624, 0, none⟩ = some (.int .i64 a1_0) := (blk_cell BK624.out 0).trans rfl; have hcz11_1 : w8.cell? ⟨gb624, 1, none⟩ = some (.int .i64 a1_1) := (blk_cell BK624.out 1).trans rfl; have hcz11_2 : w8.cell? ⟨gb624, 2, none⟩ = some (.int .i64 a1_2) := (blk_cell BK624.out 2).trans rfl; have hcz11_3 : w8.cell? ⟨gb624, 3, none⟩ = some (.bool a1_3) := (blk_cell BK624.out 3).trans rfl; have hcz11_4 : w8.cell? ⟨gb624, 4, none⟩ = some (.int .i64 a1_4) := (blk_cell BK624.out 4).trans rfl; have hcz11_5 : w8.cell? ⟨gb624, 5, none⟩ = some (.string a1_5) := (blk_cell BK624.out 5).trans rfl; have hcz11_6 : w8.cell? ⟨gb624, 6, none⟩ = some (.bool a1_6) := (blk_cell BK624.out 6).trans rfl; have hcz11_7 : w8.cell? ⟨gb624, 7, none⟩ = some (.string a1_7) := (blk_cell BK624.out 7).trans rfl; have hcz11_8 : w8.cell? ⟨gb624, 8, none⟩ = some (.int .u64 a1_8) := (blk_cell BK624.out 8).trans rfl; have hcz11_9 : w8.cell? ⟨gb624, 9, none⟩ = some (.int .u64 a1_9) := (blk_cell BK624.out 9).trans rfl; have hcz11_10 : w8.cell? ⟨gb624, 10, none⟩ = some (.int .i64 a1_10) := (blk_cell BK624.out 10).trans rfl; have hfz11_0 := blk_frozen BK624.out 0; have hfz11_1 := blk_frozen BK624.out 1; have hfz11_2 := blk_frozen BK624.out 2; have hfz11_3 := blk_frozen BK624.out 3; have hfz11_4 := blk_frozen BK624.out 4; have hfz11_5 := blk_frozen BK624.out 5; have hfz11_6 := blk_frozen BK624.out 6; have hfz11_7 := blk_frozen BK624.out 7; have hfz11_8 := blk_frozen BK624.out 8; have hfz11_9 := blk_frozen BK624.out 9; have hfz11_10 := blk_frozen BK624.out 10))
     go_ret
     exact ⟨by first | rfl | (simp [errW_none, errW_some] <;> rfl) | (simp [*, errW_none, errW_some] <;> rfl), bw⟩
    ·rw [if_neg c6] at H
     have c6b0 : (a0_3 != a1_3) = false := by simpa using c6
     (try (have c6b1 : decide (a0_3 = a1_3) = true := by simpa using c6))
     (try (have c6b2 : (a0_3 == a1_3) = true := by simpa using c6))
     clear c6
     replace H := Option.bind_eq_some_iff.mp H
     obtain ⟨t625, A120, H⟩ := H
     replace H : (if t625 = true then (some true) else (some false)) = some r := H
     have A12 := Aside0.mk A120
     clear A120
     by_cases c13 : t625 = true
     ·subst c13
      have H1 : (some true) = some r := by rw [if_pos rfl] at H; exact H
      clear H
      have H := H1
      clear H1
      obtain rfl := Option.some.inj H
      go_enter Try.func112, Try.ntmps112
      go_wp2_with (first | ((with_reducible refine gate_dst (N := 2) rfl ?_); refine box_event ?hg (N := 2) ?hd (cs := #[.int .i64 a0_0, .int .i64 a0_1, .int .i64 a0_2, .bool a0_3, .int .i64 a0_4, .string a0_5, .bool a0_6, .string a0_7, .int .u64 a0_8, .int .u64 a0_9, .int .i64 a0_10]) (t := 138) ?hr ?_; (case hd => rfl); (case hg => rfl); (case hr => first | (go_simp; done) | (go_simp; rfl)); intro gb623 hg w14 hbox hb; have n0_ := Aside0.mk (below_step bw hb); have n1_ := Aside0.mk (hbox); have n2_ := Aside0.mk ((by rw [hg]; exact (below_size bw) : w.heap.size ≤ gb623)); have n3_ := Aside0.mk ((by rw [hg]; exact (below_size bw) : w.heap.size ≤ gb623)); clear HB; have HB := n0_; have BK623 := n1_; have GW623 := n2_; have GE623 := n3_; clear n0_ n1_ n2_ n3_; clear hb hbox hg) | ((with_reducible refine gate_dst (N := 3) rfl ?_); refine box_event ?hg (N := 3) ?hd (cs := #[.int .i64 a1_0, .int .i64 a1_1, .int .i64 a1_2, .bool a1_3, .int .i64 a1_4, .string a1_5, .bool a1_6, .string a1_7, .int .u64 a1_8, .int .u64 a1_9, .int .i64 a1_10]) (t := 138) ?hr ?_; (case hd => rfl); (case hg => rfl); (case hr => first | (go_simp; done) | (go_simp; rfl)); intro gb624 hg w15 hbox hb; have n0_ := Aside0.mk (blk_below (g := gb623) (o := .cells #[.int .i64 a0_0, .int .i64 a0_1, .int .i64 a0_2, .bool a0_3, .int .i64 a0_4, .string a0_5, .bool a0_6, .string a0_7, .int .u64 a0_8, .int .u64 a0_9, .int .i64 a0_10] 138 (0, 0)) (lb BK623) hb); have n1_ := Aside0.mk (below_step bw hb); have n2_ := Aside0.mk (hbox); have n3_ := Aside0.mk ((by rw [hg]; exact (below_size bw) : w.heap.size ≤ gb624)); have n4_ := Aside0.mk ((by rw [hg]; exact (below_size bw) : w.heap.size ≤ gb624)); have n5_ := Aside0.mk ((by rw [hg]; exact Nat.ne_of_lt (blk_lt (g := gb623) (o := .cells #[.int .i64 a0_0, .int .i64 a0_1, .int .i64 a0_2, .bool a0_3, .int .i64 a0_4, .string a0_5, .bool a0_6, .string a0_7, .int .u64 a0_8, .int .u64 a0_9, .int .i64 a0_10] 138 (0, 0)) (lb BK623)) : gb623 ≠ gb624)); have n6_ := Aside0.mk ((by rw [hg]; exact Nat.ne_of_gt (blk_lt (g := gb623) (o := .cells #[.int .i64 a0_0, .int .i64 a0_1, .int .i64 a0_2, .bool a0_3, .int .i64 a0_4, .string a0_5, .bool a0_6, .string a0_7, .int .u64 a0_8, .int .u64 a0_9, .int .i64 a0_10] 138 (0, 0)) (lb BK623)) : gb624 ≠ gb623)); clear BK623; clear HB; have BK623 := n0_; have HB := n1_; have BK624 := n2_; have GW624 := n3_; have GE624 := n4_; have NB623_624 := n5_; have NB624_623 := n6_; clear n0_ n1_ n2_ n3_ n4_ n5_ n6_; clear hb hbox hg; have hnb16 := NB623_624.out; have hnc16 := NB624_623.out; have hcz17_0 : w15.cell? ⟨gb623, 0, none⟩ = some (.int .i64 a0_0) := (blk_cell BK623.out 0).trans rfl; have hcz17_1 : w15.cell? ⟨gb623, 1, none⟩ = some (.int .i64 a0_1) := (blk_cell BK623.out 1).trans rfl; have hcz17_2 : w15.cell? ⟨gb623, 2, none⟩ = some (.int .i64 a0_2) := (blk_cell BK623.out 2).trans rfl; have hcz17_3 : w15.cell? ⟨gb623, 3, none⟩ = some (.bool a0_3) := (blk_cell BK623.out 3).trans rfl; have hcz17_4 : w15.cell? ⟨gb623, 4, none⟩ = some (.int .i64 a0_4) := (blk_cell BK623.out 4).trans rfl; have hcz17_5 : w15.cell? ⟨gb623, 5, none⟩ = some (.string a0_5) := (blk_cell BK623.out 5).trans rfl; have hcz17_6 : w15.cell? ⟨gb623, 6, none⟩ = some (.bool a0_6) := (blk_cell BK623.out 6).trans rfl; have hcz17_7 : w15.cell? ⟨gb623, 7, none⟩ = some (.string a0_7) := (blk_cell BK623.out 7).trans rfl; have hcz17_8 : w15.cell? ⟨gb623, 8, none⟩ = some (.int .u64 a0_8) := (blk_cell BK623.out 8).trans rfl; have hcz17_9 : w15.cell? ⟨gb623, 9, none⟩ = some (.int .u64 a0_9) := (blk_cell BK623.out 9).trans rfl; have hcz17_10 : w15.cell? ⟨gb623, 10, none⟩ = some (.int .i64 a0_10) := (blk_cell BK623.out 10).trans rfl; have hfz17_0 := blk_frozen BK623.out 0; have hfz17_1 := blk_frozen BK623.out 1; have hfz17_2 := blk_frozen BK623.out 2; have hfz17_3 := blk_frozen BK623.out 3; have hfz17_4 := blk_frozen BK623.out 4; have hfz17_5 := blk_frozen BK623.out 5; have hfz17_6 := blk_frozen BK623.out 6; have hfz17_7 := blk_frozen BK623.out 7; have hfz17_8 := blk_frozen BK623.out 8; have hfz17_9 := blk_frozen BK623.out 9; have hfz17_10 := blk_frozen BK623.out 10; have hcz18_0 : w15.cell? ⟨gb624, 0, none⟩ = some (.int .i64 a1_0) := (blk_cell BK624.out 0).trans rfl; have hcz18_1 : w15.cell? ⟨gb624, 1, none⟩ = some (.int .i64 a1_1) := (blk_cell BK624.out 1).trans rfl; have hcz18_2 : w15.cell? ⟨gb624, 2, none⟩ = some (.int .i64 a1_2) := (blk_cell BK624.out 2).trans rfl; have hcz18_3 : w15.cell? ⟨gb624, 3, none⟩ = some (.bool a1_3) := (blk_cell BK624.out 3).trans rfl; have hcz18_4 : w15.cell? ⟨gb624, 4, none⟩ = some (.int .i64 a1_4) := (blk_cell BK624.out 4).trans rfl; have hcz18_5 : w15.cell? ⟨gb624, 5, none⟩ = some (.string a1_5) := (blk_cell BK624.out 5).trans rfl; have hcz18_6 : w15.cell? ⟨gb624, 6, none⟩ = some (.bool a1_6) := (blk_cell BK624.out 6).trans rfl; have hcz18_7 : w15.cell? ⟨gb624, 7, none⟩ = some (.string a1_7) := (blk_cell BK624.out 7).trans rfl; have hcz18_8 : w15.cell? ⟨gb624, 8, none⟩ = some (.int .u64 a1_8) := (blk_cell BK624.out 8).trans rfl; have hcz18_9 : w15.cell? ⟨gb624, 9, none⟩ = some (.int .u64 a1_9) := (blk_cell BK624.out 9).trans rfl; have hcz18_10 : w15.cell? ⟨gb624, 10, none⟩ = some (.int .i64 a1_10) := (blk_cell BK624.out 10).trans rfl; have hfz18_0 := blk_frozen BK624.out 0; have hfz18_1 := blk_frozen BK624.out 1; have hfz18_2 := blk_frozen BK624.out 2; have hfz18_3 := blk_frozen BK624.out 3; have hfz18_4 := blk_frozen BK624.out 4; have hfz18_5 := blk_frozen BK624.out 5; have hfz18_6 := blk_frozen BK624.out 6; have hfz18_7 := blk_frozen BK624.out 7; have hfz18_8 := blk_frozen BK624.out 8; have hfz18_9 := blk_frozen BK624.out 9; have hfz18_10 := blk_frozen BK624.out 10) | ((with_reducible refine at_fn (f := 65) rfl ?_); refine goesL_ (some 29) rfl rfl Try.func65 (by kernel_rfl) rfl #[.agg #[.int .i64 a0_4, .string a0_5, .bool a0_6, .string a0_7, .int .u64 a0_8, .int .u64 a0_9, .int .i64 a0_10], .agg #[.int .i64 a1_4, .string a1_5, .bool a1_6, .string a1_7, .int .u64 a1_8, .int .u64 a1_9, .int .i64 a1_10]] rfl (by (try simp only [List.map_toArray, List.map_cons, List.map_nil]); first | done | rfl | (simp only [List.length_drop, List.length_take]; rfl)) ?_; (with_reducible refine (laws_eqNode.calls a0_4 a0_5 a0_6 a0_7 a0_8 a0_9 a0_10 a1_4 a1_5 a1_6 a1_7 a1_8 a1_9 a1_10 true _ A12.out).mono ?_); rintro e w19 ⟨rfl, hb⟩; refine ⟨_, rfl, ?_⟩; have n0_ := Aside0.mk (blk_below (g := gb623) (o := .cells #[.int .i64 a0_0, .int .i64 a0_1, .int .i64 a0_2, .bool a0_3, .int .i64 a0_4, .string a0_5, .bool a0_6, .string a0_7, .int .u64 a0_8, .int .u64 a0_9, .int .i64 a0_10] 138 (0, 0)) (lb BK623) hb); have n1_ := Aside0.mk (blk_below (g := gb624) (o := .cells #[.int .i64 a1_0, .int .i64 a1_1, .int .i64 a1_2, .bool a1_3, .int .i64 a1_4, .string a1_5, .bool a1_6, .string a1_7, .int .u64 a1_8, .int .u64 a1_9, .int .i64 a1_10] 138 (0, 0)) (lb BK624) hb); have n2_ := Aside0.mk (below_step bw hb); clear BK623; clear BK624; clear HB; have BK623 := n0_; have BK624 := n1_; have HB := n2_; clear n0_ n1_ n2_; (try clear hb); (try clear hb2); (try clear hk); (try clear hi)))
      go_ret
      exact ⟨by first | rfl | (simp [errW_none, errW_some] <;> rfl) | (simp [*, errW_none, errW_some] <;> rfl), bw⟩
     ·replace c13 := Bool.eq_false_iff.mpr c13
      subst c13
      have H1 : (some false) = some r := by rw [if_neg (show ¬ (false = true) by decide)] at H; exact H
      clear H
      have H := H1
      clear H1
      obtain rfl := Option.some.inj H
      go_enter Try.func112, Try.ntmps112
      go_wp2_with (first | ((with_reducible refine gate_dst (N := 2) rfl ?_); refine box_event ?hg (N := 2) ?hd (cs := #[.int .i64 a0_0, .int .i64 a0_1, .int .i64 a0_2, .bool a0_3, .int .i64 a0_4, .string a0_5, .bool a0_6, .string a0_7, .int .u64 a0_8, .int .u64 a0_9, .int .i64 a0_10]) (t := 138) ?hr ?_; (case hd => rfl); (case hg => rfl); (case hr => first | (go_simp; done) | (go_simp; rfl)); intro gb623 hg w20 hbox hb; have n0_ := Aside0.mk (below_step bw hb); have n1_ := Aside0.mk (hbox); have n2_ := Aside0.mk ((by rw [hg]; exact (below_size bw) : w.heap.size ≤ gb623)); have n3_ := Aside0.mk ((by rw [hg]; exact (below_size bw) : w.heap.size ≤ gb623)); clear HB; have HB := n0_; have BK623 := n1_; have GW623 := n2_; have GE623 := n3_; clear n0_ n1_ n2_ n3_; clear hb hbox hg) | ((with_reducible refine gate_dst (N := 3) rfl ?_); refine box_event ?hg (N := 3) ?hd (cs := #[.int .i64 a1_0, .int .i64 a1_1, .int .i64 a1_2, .bool a1_3, .int .i64 a1_4, .string a1_5, .bool a1_6, .string a1_7, .int .u64 a1_8, .int .u64 a1_9, .int .i64 a1_10]) (t := 138) ?hr ?_; (case hd => rfl); (case hg => rfl); (case hr => first | (go_simp; done) | (go_simp; rfl)); intro gb624 hg w21 hbox hb; have n0_ := Aside0.mk (blk_below (g := gb623) (o := .cells #[.int .i64 a0_0, .int .i64 a0_1, .int .i64 a0_2, .bool a0_3, .int .i64 a0_4, .string a0_5, .bool a0_6, .string a0_7, .int .u64 a0_8, .int .u64 a0_9, .int .i64 a0_10] 138 (0, 0)) (lb BK623) hb); have n1_ := Aside0.mk (below_step bw hb); have n2_ := Aside0.mk (hbox); have n3_ := Aside0.mk ((by rw [hg]; exact (below_size bw) : w.heap.size ≤ gb624)); have n4_ := Aside0.mk ((by rw [hg]; exact (below_size bw) : w.heap.size ≤ gb624)); have n5_ := Aside0.mk ((by rw [hg]; exact Nat.ne_of_lt (blk_lt (g := gb623) (o := .cells #[.int .i64 a0_0, .int .i64 a0_1, .int .i64 a0_2, .bool a0_3, .int .i64 a0_4, .string a0_5, .bool a0_6, .string a0_7, .int .u64 a0_8, .int .u64 a0_9, .int .i64 a0_10] 138 (0, 0)) (lb BK623)) : gb623 ≠ gb624)); have n6_ := Aside0.mk ((by rw [hg]; exact Nat.ne_of_gt (blk_lt (g := gb623) (o := .cells #[.int .i64 a0_0, .int .i64 a0_1, .int .i64 a0_2, .bool a0_3, .int .i64 a0_4, .string a0_5, .bool a0_6, .string a0_7, .int .u64 a0_8, .int .u64 a0_9, .int .i64 a0_10] 138 (0, 0)) (lb BK623)) : gb624 ≠ gb623)); clear BK623; clear HB; have BK623 := n0_; have HB := n1_; have BK624 := n2_; have GW624 := n3_; have GE624 := n4_; have NB623_624 := n5_; have NB624_623 := n6_; clear n0_ n1_ n2_ n3_ n4_ n5_ n6_; clear hb hbox hg; have hnb22 := NB623_624.out; have hnc22 := NB624_623.out; have hcz23_0 : w21.cell? ⟨gb623, 0, none⟩ = some (.int .i64 a0_0) := (blk_cell BK623.out 0).trans rfl; have hcz23_1 : w21.cell? ⟨gb623, 1, none⟩ = some (.int .i64 a0_1) := (blk_cell BK623.out 1).trans rfl; have hcz23_2 : w21.cell? ⟨gb623, 2, none⟩ = some (.int .i64 a0_2) := (blk_cell BK623.out 2).trans rfl; have hcz23_3 : w21.cell? ⟨gb623, 3, none⟩ = some (.bool a0_3) := (blk_cell BK623.out 3).trans rfl; have hcz23_4 : w21.cell? ⟨gb623, 4, none⟩ = some (.int .i64 a0_4) := (blk_cell BK623.out 4).trans rfl; have hcz23_5 : w21.cell? ⟨gb623, 5, none⟩ = some (.string a0_5) := (blk_cell BK623.out 5).trans rfl; have hcz23_6 : w21.cell? ⟨gb623, 6, none⟩ = some (.bool a0_6) := (blk_cell BK623.out 6).trans rfl; have hcz23_7 : w21.cell? ⟨gb623, 7, none⟩ = some (.string a0_7) := (blk_cell BK623.out 7).trans rfl; have hcz23_8 : w21.cell? ⟨gb623, 8, none⟩ = some (.int .u64 a0_8) := (blk_cell BK623.out 8).trans rfl; have hcz23_9 : w21.cell? ⟨gb623, 9, none⟩ = some (.int .u64 a0_9) := (blk_cell BK623.out 9).trans rfl; have hcz23_10 : w21.cell? ⟨gb623, 10, none⟩ = some (.int .i64 a0_10) := (blk_cell BK623.out 10).trans rfl; have hfz23_0 := blk_frozen BK623.out 0; have hfz23_1 := blk_frozen BK623.out 1; have hfz23_2 := blk_frozen BK623.out 2; have hfz23_3 := blk_frozen BK623.out 3; have hfz23_4 := blk_frozen BK623.out 4; have hfz23_5 := blk_frozen BK623.out 5; have hfz23_6 := blk_frozen BK623.out 6; have hfz23_7 := blk_frozen BK623.out 7; have hfz23_8 := blk_frozen BK623.out 8; have hfz23_9 := blk_frozen BK623.out 9; have hfz23_10 := blk_frozen BK623.out 10; have hcz24_0 : w21.cell? ⟨gb624, 0, none⟩ = some (.int .i64 a1_0) := (blk_cell BK624.out 0).trans rfl; have hcz24_1 : w21.cell? ⟨gb624, 1, none⟩ = some (.int .i64 a1_1) := (blk_cell BK624.out 1).trans rfl; have hcz24_2 : w21.cell? ⟨gb624, 2, none⟩ = some (.int .i64 a1_2) := (blk_cell BK624.out 2).trans rfl; have hcz24_3 : w21.cell? ⟨gb624, 3, none⟩ = some (.bool a1_3) := (blk_cell BK624.out 3).trans rfl; have hcz24_4 : w21.cell? ⟨gb624, 4, none⟩ = some (.int .i64 a1_4) := (blk_cell BK624.out 4).trans rfl; have hcz24_5 : w21.cell? ⟨gb624, 5, none⟩ = some (.string a1_5) := (blk_cell BK624.out 5).trans rfl; have hcz24_6 : w21.cell? ⟨gb624, 6, none⟩ = some (.bool a1_6) := (blk_cell BK624.out 6).trans rfl; have hcz24_7 : w21.cell? ⟨gb624, 7, none⟩ = some (.string a1_7) := (blk_cell BK624.out 7).trans rfl; have hcz24_8 : w21.cell? ⟨gb624, 8, none⟩ = some (.int .u64 a1_8) := (blk_cell BK624.out 8).trans rfl; have hcz24_9 : w21.cell? ⟨gb624, 9, none⟩ = some (.int .u64 a1_9) := (blk_cell BK624.out 9).trans rfl; have hcz24_10 : w21.cell? ⟨gb624, 10, none⟩ = some (.int .i64 a1_10) := (blk_cell BK624.out 10).trans rfl; have hfz24_0 := blk_frozen BK624.out 0; have hfz24_1 := blk_frozen BK624.out 1; have hfz24_2 := blk_frozen BK624.out 2; have hfz24_3 := blk_frozen BK624.out 3; have hfz24_4 := blk_frozen BK624.out 4; have hfz24_5 := blk_frozen BK624.out 5; have hfz24_6 := blk_frozen BK624.out 6; have hfz24_7 := blk_frozen BK624.out 7; have hfz24_8 := blk_frozen BK624.out 8; have hfz24_9 := blk_frozen BK624.out 9; have hfz24_10 := blk_frozen BK624.out 10) | ((with_reducible refine at_fn (f := 65) rfl ?_); refine goesL_ (some 29) rfl rfl Try.func65 (by kernel_rfl) rfl #[.agg #[.int .i64 a0_4, .string a0_5, .bool a0_6, .string a0_7, .int .u64 a0_8, .int .u64 a0_9, .int .i64 a0_10], .agg #[.int .i64 a1_4, .string a1_5, .bool a1_6, .string a1_7, .int .u64 a1_8, .int .u64 a1_9, .int .i64 a1_10]] rfl (by (try simp only [List.map_toArray, List.map_cons, List.map_nil]); first | done | rfl | (simp only [List.length_drop, List.length_take]; rfl)) ?_; (with_reducible refine (laws_eqNode.calls a0_4 a0_5 a0_6 a0_7 a0_8 a0_9 a0_10 a1_4 a1_5 a1_6 a1_7 a1_8 a1_9 a1_10 false _ A12.out).mono ?_); rintro e w25 ⟨rfl, hb⟩; refine ⟨_, rfl, ?_⟩; have n0_ := Aside0.mk (blk_below (g := gb623) (o := .cells #[.int .i64 a0_0, .int .i64 a0_1, .int .i64 a0_2, .bool a0_3, .int .i64 a0_4, .string a0_5, .bool a0_6, .string a0_7, .int .u64 a0_8, .int .u64 a0_9, .int .i64 a0_10] 138 (0, 0)) (lb BK623) hb); have n1_ := Aside0.mk (blk_below (g := gb624) (o := .cells #[.int .i64 a1_0, .int .i64 a1_1, .int .i64 a1_2, .bool a1_3, .int .i64 a1_4, .string a1_5, .bool a1_6, .string a1_7, .int .u64 a1_8, .int .u64 a1_9, .int .i64 a1_10] 138 (0, 0)) (lb BK624) hb); have n2_ := Aside0.mk (below_step bw hb); clear BK623; clear BK624; clear HB; have BK623 := n0_; have BK624 := n1_; have HB := n2_; clear n0_ n1_ n2_; (try clear hb); (try clear hb2); (try clear hk); (try clear hi)))
      go_ret
      exact ⟨by first | rfl | (simp [errW_none, errW_some] <;> rfl) | (simp [*, errW_none, errW_some] <;> rfl), bw⟩
   ·rw [if_neg c5] at H
    have c5b0 : (a0_2 == a1_2) = false := beq_eq_false_iff_ne.mpr c5
    have c5b1 : (a0_2 != a1_2) = true := bne_iff_ne.mpr c5
    obtain rfl := Option.some.inj H
    go_enter Try.func112, Try.ntmps112
    go_wp2_with (first | ((with_reducible refine gate_dst (N := 2) rfl ?_); refine box_event ?hg (N := 2) ?hd (cs := #[.int .i64 a0_0, .int .i64 a0_1, .int .i64 a0_2, .bool a0_3, .int .i64 a0_4, .string a0_5, .bool a0_6, .string a0_7, .int .u64 a0_8, .int .u64 a0_9, .int .i64 a0_10]) (t := 138) ?hr ?_; (case hd => rfl); (case hg => rfl); (case hr => first | (go_simp; done) | (go_simp; rfl)); intro gb623 hg w26 hbox hb; have n0_ := Aside0.mk (below_step bw hb); have n1_ := Aside0.mk (hbox); have n2_ := Aside0.mk ((by rw [hg]; exact (below_size bw) : w.heap.size ≤ gb623)); have n3_ := Aside0.mk ((by rw [hg]; exact (below_size bw) : w.heap.size ≤ gb623)); clear HB; have HB := n0_; have BK623 := n1_; have GW623 := n2_; have GE623 := n3_; clear n0_ n1_ n2_ n3_; clear hb hbox hg) | ((with_reducible refine gate_dst (N := 3) rfl ?_); refine box_event ?hg (N := 3) ?hd (cs := #[.int .i64 a1_0, .int .i64 a1_1, .int .i64 a1_2, .bool a1_3, .int .i64 a1_4, .string a1_5, .bool a1_6, .string a1_7, .int .u64 a1_8, .int .u64 a1_9, .int .i64 a1_10]) (t := 138) ?hr ?_; (case hd => rfl); (case hg => rfl); (case hr => first | (go_simp; done) | (go_simp; rfl)); intro gb624 hg w27 hbox hb; have n0_ := Aside0.mk (blk_below (g := gb623) (o := .cells #[.int .i64 a0_0, .int .i64 a0_1, .int .i64 a0_2, .bool a0_3, .int .i64 a0_4, .string a0_5, .bool a0_6, .string a0_7, .int .u64 a0_8, .int .u64 a0_9, .int .i64 a0_10] 138 (0, 0)) (lb BK623) hb); have n1_ := Aside0.mk (below_step bw hb); have n2_ := Aside0.mk (hbox); have n3_ := Aside0.mk ((by rw [hg]; exact (below_size bw) : w.heap.size ≤ gb624)); have n4_ := Aside0.mk ((by rw [hg]; exact (below_size bw) : w.heap.size ≤ gb624)); have n5_ := Aside0.mk ((by rw [hg]; exact Nat.ne_of_lt (blk_lt (g := gb623) (o := .cells #[.int .i64 a0_0, .int .i64 a0_1, .int .i64 a0_2, .bool a0_3, .int .i64 a0_4, .string a0_5, .bool a0_6, .string a0_7, .int .u64 a0_8, .int .u64 a0_9, .int .i64 a0_10] 138 (0, 0)) (lb BK623)) : gb623 ≠ gb624)); have n6_ := Aside0.mk ((by rw [hg]; exact Nat.ne_of_gt (blk_lt (g := gb623) (o := .cells #[.int .i64 a0_0, .int .i64 a0_1, .int .i64 a0_2, .bool a0_3, .int .i64 a0_4, .string a0_5, .bool a0_6, .string a0_7, .int .u64 a0_8, .int .u64 a0_9, .int .i64 a0_10] 138 (0, 0)) (lb BK623)) : gb624 ≠ gb623)); clear BK623; clear HB; have BK623 := n0_; have HB := n1_; have BK624 := n2_; have GW624 := n3_; have GE624 := n4_; have NB623_624 := n5_; have NB624_623 := n6_; clear n0_ n1_ n2_ n3_ n4_ n5_ n6_; clear hb hbox hg; have hnb28 := NB623_624.out; have hnc28 := NB624_623.out; have hcz29_0 : w27.cell? ⟨gb623, 0, none⟩ = some (.int .i64 a0_0) := (blk_cell BK623.out 0).trans rfl; have hcz29_1 : w27.cell? ⟨gb623, 1, none⟩ = some (.int .i64 a0_1) := (blk_cell BK623.out 1).trans rfl; have hcz29_2 : w27.cell? ⟨gb623, 2, none⟩ = some (.int .i64 a0_2) := (blk_cell BK623.out 2).trans rfl; have hcz29_3 : w27.cell? ⟨gb623, 3, none⟩ = some (.bool a0_3) := (blk_cell BK623.out 3).trans rfl; have hcz29_4 : w27.cell? ⟨gb623, 4, none⟩ = some (.int .i64 a0_4) := (blk_cell BK623.out 4).trans rfl; have hcz29_5 : w27.cell? ⟨gb623, 5, none⟩ = some (.string a0_5) := (blk_cell BK623.out 5).trans rfl; have hcz29_6 : w27.cell? ⟨gb623, 6, none⟩ = some (.bool a0_6) := (blk_cell BK623.out 6).trans rfl; have hcz29_7 : w27.cell? ⟨gb623, 7, none⟩ = some (.string a0_7) := (blk_cell BK623.out 7).trans rfl; have hcz29_8 : w27.cell? ⟨gb623, 8, none⟩ = some (.int .u64 a0_8) := (blk_cell BK623.out 8).trans rfl; have hcz29_9 : w27.cell? ⟨gb623, 9, none⟩ = some (.int .u64 a0_9) := (blk_cell BK623.out 9).trans rfl; have hcz29_10 : w27.cell? ⟨gb623, 10, none⟩ = some (.int .i64 a0_10) := (blk_cell BK623.out 10).trans rfl; have hfz29_0 := blk_frozen BK623.out 0; have hfz29_1 := blk_frozen BK623.out 1; have hfz29_2 := blk_frozen BK623.out 2; have hfz29_3 := blk_frozen BK623.out 3; have hfz29_4 := blk_frozen BK623.out 4; have hfz29_5 := blk_frozen BK623.out 5; have hfz29_6 := blk_frozen BK623.out 6; have hfz29_7 := blk_frozen BK623.out 7; have hfz29_8 := blk_frozen BK623.out 8; have hfz29_9 := blk_frozen BK623.out 9; have hfz29_10 := blk_frozen BK623.out 10; have hcz30_0 : w27.cell? ⟨gb624, 0, none⟩ = some (.int .i64 a1_0) := (blk_cell BK624.out 0).trans rfl; have hcz30_1 : w27.cell? ⟨gb624, 1, none⟩ = some (.int .i64 a1_1) := (blk_cell BK624.out 1).trans rfl; have hcz30_2 : w27.cell? ⟨gb624, 2, none⟩ = some (.int .i64 a1_2) := (blk_cell BK624.out 2).trans rfl; have hcz30_3 : w27.cell? ⟨gb624, 3, none⟩ = some (.bool a1_3) := (blk_cell BK624.out 3).trans rfl; have hcz30_4 : w27.cell? ⟨gb624, 4, none⟩ = some (.int .i64 a1_4) := (blk_cell BK624.out 4).trans rfl; have hcz30_5 : w27.cell? ⟨gb624, 5, none⟩ = some (.string a1_5) := (blk_cell BK624.out 5).trans rfl; have hcz30_6 : w27.cell? ⟨gb624, 6, none⟩ = some (.bool a1_6) := (blk_cell BK624.out 6).trans rfl; have hcz30_7 : w27.cell? ⟨gb624, 7, none⟩ = some (.string a1_7) := (blk_cell BK624.out 7).trans rfl; have hcz30_8 : w27.cell? ⟨gb624, 8, none⟩ = some (.int .u64 a1_8) := (blk_cell BK624.out 8).trans rfl; have hcz30_9 : w27.cell? ⟨gb624, 9, none⟩ = some (.int .u64 a1_9) := (blk_cell BK624.out 9).trans rfl; have hcz30_10 : w27.cell? ⟨gb624, 10, none⟩ = some (.int .i64 a1_10) := (blk_cell BK624.out 10).trans rfl; have hfz30_0 := blk_frozen BK624.out 0; have hfz30_1 := blk_frozen BK624.out 1; have hfz30_2 := blk_frozen BK624.out 2; have hfz30_3 := blk_frozen BK624.out 3; have hfz30_4 := blk_frozen BK624.out 4; have hfz30_5 := blk_frozen BK624.out 5; have hfz30_6 := blk_frozen BK624.out 6; have hfz30_7 := blk_frozen BK624.out 7; have hfz30_8 := blk_frozen BK624.out 8; have hfz30_9 := blk_frozen BK624.out 9; have hfz30_10 := blk_frozen BK624.out 10))
    go_ret
    exact ⟨by first | rfl | (simp [errW_none, errW_some] <;> rfl) | (simp [*, errW_none, errW_some] <;> rfl), bw⟩
  ·rw [if_neg c4] at H
   have c4b0 : (a0_1 == a1_1) = false := beq_eq_false_iff_ne.mpr c4
   have c4b1 : (a0_1 != a1_1) = true := bne_iff_ne.mpr c4
   obtain rfl := Option.some.inj H
   go_enter Try.func112, Try.ntmps112
   go_wp2_with (first | ((with_reducible refine gate_dst (N := 2) rfl ?_); refine box_event ?hg (N := 2) ?hd (cs := #[.int .i64 a0_0, .int .i64 a0_1, .int .i64 a0_2, .bool a0_3, .int .i64 a0_4, .string a0_5, .bool a0_6, .string a0_7, .int .u64 a0_8, .int .u64 a0_9, .int .i64 a0_10]) (t := 138) ?hr ?_; (case hd => rfl); (case hg => rfl); (case hr => first | (go_simp; done) | (go_simp; rfl)); intro gb623 hg w31 hbox hb; have n0_ := Aside0.mk (below_step bw hb); have n1_ := Aside0.mk (hbox); have n2_ := Aside0.mk ((by rw [hg]; exact (below_size bw) : w.heap.size ≤ gb623)); have n3_ := Aside0.mk ((by rw [hg]; exact (below_size bw) : w.heap.size ≤ gb623)); clear HB; have HB := n0_; have BK623 := n1_; have GW623 := n2_; have GE623 := n3_; clear n0_ n1_ n2_ n3_; clear hb hbox hg) | ((with_reducible refine gate_dst (N := 3) rfl ?_); refine box_event ?hg (N := 3) ?hd (cs := #[.int .i64 a1_0, .int .i64 a1_1, .int .i64 a1_2, .bool a1_3, .int .i64 a1_4, .string a1_5, .bool a1_6, .string a1_7, .int .u64 a1_8, .int .u64 a1_9, .int .i64 a1_10]) (t := 138) ?hr ?_; (case hd => rfl); (case hg => rfl); (case hr => first | (go_simp; done) | (go_simp; rfl)); intro gb624 hg w32 hbox hb; have n0_ := Aside0.mk (blk_below (g := gb623) (o := .cells #[.int .i64 a0_0, .int .i64 a0_1, .int .i64 a0_2, .bool a0_3, .int .i64 a0_4, .string a0_5, .bool a0_6, .string a0_7, .int .u64 a0_8, .int .u64 a0_9, .int .i64 a0_10] 138 (0, 0)) (lb BK623) hb); have n1_ := Aside0.mk (below_step bw hb); have n2_ := Aside0.mk (hbox); have n3_ := Aside0.mk ((by rw [hg]; exact (below_size bw) : w.heap.size ≤ gb624)); have n4_ := Aside0.mk ((by rw [hg]; exact (below_size bw) : w.heap.size ≤ gb624)); have n5_ := Aside0.mk ((by rw [hg]; exact Nat.ne_of_lt (blk_lt (g := gb623) (o := .cells #[.int .i64 a0_0, .int .i64 a0_1, .int .i64 a0_2, .bool a0_3, .int .i64 a0_4, .string a0_5, .bool a0_6, .string a0_7, .int .u64 a0_8, .int .u64 a0_9, .int .i64 a0_10] 138 (0, 0)) (lb BK623)) : gb623 ≠ gb624)); have n6_ := Aside0.mk ((by rw [hg]; exact Nat.ne_of_gt (blk_lt (g := gb623) (o := .cells #[.int .i64 a0_0, .int .i64 a0_1, .int .i64 a0_2, .bool a0_3, .int .i64 a0_4, .string a0_5, .bool a0_6, .string a0_7, .int .u64 a0_8, .int .u64 a0_9, .int .i64 a0_10] 138 (0, 0)) (lb BK623)) : gb624 ≠ gb623)); clear BK623; clear HB; have BK623 := n0_; have HB := n1_; have BK624 := n2_; have GW624 := n3_; have GE624 := n4_; have NB623_624 := n5_; have NB624_623 := n6_; clear n0_ n1_ n2_ n3_ n4_ n5_ n6_; clear hb hbox hg; have hnb33 := NB623_624.out; have hnc33 := NB624_623.out; have hcz34_0 : w32.cell? ⟨gb623, 0, none⟩ = some (.int .i64 a0_0) := (blk_cell BK623.out 0).trans rfl; have hcz34_1 : w32.cell? ⟨gb623, 1, none⟩ = some (.int .i64 a0_1) := (blk_cell BK623.out 1).trans rfl; have hcz34_2 : w32.cell? ⟨gb623, 2, none⟩ = some (.int .i64 a0_2) := (blk_cell BK623.out 2).trans rfl; have hcz34_3 : w32.cell? ⟨gb623, 3, none⟩ = some (.bool a0_3) := (blk_cell BK623.out 3).trans rfl; have hcz34_4 : w32.cell? ⟨gb623, 4, none⟩ = some (.int .i64 a0_4) := (blk_cell BK623.out 4).trans rfl; have hcz34_5 : w32.cell? ⟨gb623, 5, none⟩ = some (.string a0_5) := (blk_cell BK623.out 5).trans rfl; have hcz34_6 : w32.cell? ⟨gb623, 6, none⟩ = some (.bool a0_6) := (blk_cell BK623.out 6).trans rfl; have hcz34_7 : w32.cell? ⟨gb623, 7, none⟩ = some (.string a0_7) := (blk_cell BK623.out 7).trans rfl; have hcz34_8 : w32.cell? ⟨gb623, 8, none⟩ = some (.int .u64 a0_8) := (blk_cell BK623.out 8).trans rfl; have hcz34_9 : w32.cell? ⟨gb623, 9, none⟩ = some (.int .u64 a0_9) := (blk_cell BK623.out 9).trans rfl; have hcz34_10 : w32.cell? ⟨gb623, 10, none⟩ = some (.int .i64 a0_10) := (blk_cell BK623.out 10).trans rfl; have hfz34_0 := blk_frozen BK623.out 0; have hfz34_1 := blk_frozen BK623.out 1; have hfz34_2 := blk_frozen BK623.out 2; have hfz34_3 := blk_frozen BK623.out 3; have hfz34_4 := blk_frozen BK623.out 4; have hfz34_5 := blk_frozen BK623.out 5; have hfz34_6 := blk_frozen BK623.out 6; have hfz34_7 := blk_frozen BK623.out 7; have hfz34_8 := blk_frozen BK623.out 8; have hfz34_9 := blk_frozen BK623.out 9; have hfz34_10 := blk_frozen BK623.out 10; have hcz35_0 : w32.cell? ⟨gb624, 0, none⟩ = some (.int .i64 a1_0) := (blk_cell BK624.out 0).trans rfl; have hcz35_1 : w32.cell? ⟨gb624, 1, none⟩ = some (.int .i64 a1_1) := (blk_cell BK624.out 1).trans rfl; have hcz35_2 : w32.cell? ⟨gb624, 2, none⟩ = some (.int .i64 a1_2) := (blk_cell BK624.out 2).trans rfl; have hcz35_3 : w32.cell? ⟨gb624, 3, none⟩ = some (.bool a1_3) := (blk_cell BK624.out 3).trans rfl; have hcz35_4 : w32.cell? ⟨gb624, 4, none⟩ = some (.int .i64 a1_4) := (blk_cell BK624.out 4).trans rfl; have hcz35_5 : w32.cell? ⟨gb624, 5, none⟩ = some (.string a1_5) := (blk_cell BK624.out 5).trans rfl; have hcz35_6 : w32.cell? ⟨gb624, 6, none⟩ = some (.bool a1_6) := (blk_cell BK624.out 6).trans rfl; have hcz35_7 : w32.cell? ⟨gb624, 7, none⟩ = some (.string a1_7) := (blk_cell BK624.out 7).trans rfl; have hcz35_8 : w32.cell? ⟨gb624, 8, none⟩ = some (.int .u64 a1_8) := (blk_cell BK624.out 8).trans rfl; have hcz35_9 : w32.cell? ⟨gb624, 9, none⟩ = some (.int .u64 a1_9) := (blk_cell BK624.out 9).trans rfl; have hcz35_10 : w32.cell? ⟨gb624, 10, none⟩ = some (.int .i64 a1_10) := (blk_cell BK624.out 10).trans rfl; have hfz35_0 := blk_frozen BK624.out 0; have hfz35_1 := blk_frozen BK624.out 1; have hfz35_2 := blk_frozen BK624.out 2; have hfz35_3 := blk_frozen BK624.out 3; have hfz35_4 := blk_frozen BK624.out 4; have hfz35_5 := blk_frozen BK624.out 5; have hfz35_6 := blk_frozen BK624.out 6; have hfz35_7 := blk_frozen BK624.out 7; have hfz35_8 := blk_frozen BK624.out 8; have hfz35_9 := blk_frozen BK624.out 9; have hfz35_10 := blk_frozen BK624.out 10))
   go_ret
   exact ⟨by first | rfl | (simp [errW_none, errW_some] <;> rfl) | (simp [*, errW_none, errW_some] <;> rfl), bw⟩
 ·rw [if_neg c3] at H
  have c3b0 : (a0_0 == a1_0) = false := beq_eq_false_iff_ne.mpr c3
  have c3b1 : (a0_0 != a1_0) = true := bne_iff_ne.mpr c3
  obtain rfl := Option.some.inj H
  go_enter Try.func112, Try.ntmps112
  go_wp2_with (first | ((with_reducible refine gate_dst (N := 2) rfl ?_); refine box_event ?hg (N := 2) ?hd (cs := #[.int .i64 a0_0, .int .i64 a0_1, .int .i64 a0_2, .bool a0_3, .int .i64 a0_4, .string a0_5, .bool a0_6, .string a0_7, .int .u64 a0_8, .int .u64 a0_9, .int .i64 a0_10]) (t := 138) ?hr ?_; (case hd => rfl); (case hg => rfl); (case hr => first | (go_simp; done) | (go_simp; rfl)); intro gb623 hg w36 hbox hb; have n0_ := Aside0.mk (below_step bw hb); have n1_ := Aside0.mk (hbox); have n2_ := Aside0.mk ((by rw [hg]; exact (below_size bw) : w.heap.size ≤ gb623)); have n3_ := Aside0.mk ((by rw [hg]; exact (below_size bw) : w.heap.size ≤ gb623)); clear HB; have HB := n0_; have BK623 := n1_; have GW623 := n2_; have GE623 := n3_; clear n0_ n1_ n2_ n3_; clear hb hbox hg) | ((with_reducible refine gate_dst (N := 3) rfl ?_); refine box_event ?hg (N := 3) ?hd (cs := #[.int .i64 a1_0, .int .i64 a1_1, .int .i64 a1_2, .bool a1_3, .int .i64 a1_4, .string a1_5, .bool a1_6, .string a1_7, .int .u64 a1_8, .int .u64 a1_9, .int .i64 a1_10]) (t := 138) ?hr ?_; (case hd => rfl); (case hg => rfl); (case hr => first | (go_simp; done) | (go_simp; rfl)); intro gb624 hg w37 hbox hb; have n0_ := Aside0.mk (blk_below (g := gb623) (o := .cells #[.int .i64 a0_0, .int .i64 a0_1, .int .i64 a0_2, .bool a0_3, .int .i64 a0_4, .string a0_5, .bool a0_6, .string a0_7, .int .u64 a0_8, .int .u64 a0_9, .int .i64 a0_10] 138 (0, 0)) (lb BK623) hb); have n1_ := Aside0.mk (below_step bw hb); have n2_ := Aside0.mk (hbox); have n3_ := Aside0.mk ((by rw [hg]; exact (below_size bw) : w.heap.size ≤ gb624)); have n4_ := Aside0.mk ((by rw [hg]; exact (below_size bw) : w.heap.size ≤ gb624)); have n5_ := Aside0.mk ((by rw [hg]; exact Nat.ne_of_lt (blk_lt (g := gb623) (o := .cells #[.int .i64 a0_0, .int .i64 a0_1, .int .i64 a0_2, .bool a0_3, .int .i64 a0_4, .string a0_5, .bool a0_6, .string a0_7, .int .u64 a0_8, .int .u64 a0_9, .int .i64 a0_10] 138 (0, 0)) (lb BK623)) : gb623 ≠ gb624)); have n6_ := Aside0.mk ((by rw [hg]; exact Nat.ne_of_gt (blk_lt (g := gb623) (o := .cells #[.int .i64 a0_0, .int .i64 a0_1, .int .i64 a0_2, .bool a0_3, .int .i64 a0_4, .string a0_5, .bool a0_6, .string a0_7, .int .u64 a0_8, .int .u64 a0_9, .int .i64 a0_10] 138 (0, 0)) (lb BK623)) : gb624 ≠ gb623)); clear BK623; clear HB; have BK623 := n0_; have HB := n1_; have BK624 := n2_; have GW624 := n3_; have GE624 := n4_; have NB623_624 := n5_; have NB624_623 := n6_; clear n0_ n1_ n2_ n3_ n4_ n5_ n6_; clear hb hbox hg; have hnb38 := NB623_624.out; have hnc38 := NB624_623.out; have hcz39_0 : w37.cell? ⟨gb623, 0, none⟩ = some (.int .i64 a0_0) := (blk_cell BK623.out 0).trans rfl; have hcz39_1 : w37.cell? ⟨gb623, 1, none⟩ = some (.int .i64 a0_1) := (blk_cell BK623.out 1).trans rfl; have hcz39_2 : w37.cell? ⟨gb623, 2, none⟩ = some (.int .i64 a0_2) := (blk_cell BK623.out 2).trans rfl; have hcz39_3 : w37.cell? ⟨gb623, 3, none⟩ = some (.bool a0_3) := (blk_cell BK623.out 3).trans rfl; have hcz39_4 : w37.cell? ⟨gb623, 4, none⟩ = some (.int .i64 a0_4) := (blk_cell BK623.out 4).trans rfl; have hcz39_5 : w37.cell? ⟨gb623, 5, none⟩ = some (.string a0_5) := (blk_cell BK623.out 5).trans rfl; have hcz39_6 : w37.cell? ⟨gb623, 6, none⟩ = some (.bool a0_6) := (blk_cell BK623.out 6).trans rfl; have hcz39_7 : w37.cell? ⟨gb623, 7, none⟩ = some (.string a0_7) := (blk_cell BK623.out 7).trans rfl; have hcz39_8 : w37.cell? ⟨gb623, 8, none⟩ = some (.int .u64 a0_8) := (blk_cell BK623.out 8).trans rfl; have hcz39_9 : w37.cell? ⟨gb623, 9, none⟩ = some (.int .u64 a0_9) := (blk_cell BK623.out 9).trans rfl; have hcz39_10 : w37.cell? ⟨gb623, 10, none⟩ = some (.int .i64 a0_10) := (blk_cell BK623.out 10).trans rfl; have hfz39_0 := blk_frozen BK623.out 0; have hfz39_1 := blk_frozen BK623.out 1; have hfz39_2 := blk_frozen BK623.out 2; have hfz39_3 := blk_frozen BK623.out 3; have hfz39_4 := blk_frozen BK623.out 4; have hfz39_5 := blk_frozen BK623.out 5; have hfz39_6 := blk_frozen BK623.out 6; have hfz39_7 := blk_frozen BK623.out 7; have hfz39_8 := blk_frozen BK623.out 8; have hfz39_9 := blk_frozen BK623.out 9; have hfz39_10 := blk_frozen BK623.out 10; have hcz40_0 : w37.cell? ⟨gb624, 0, none⟩ = some (.int .i64 a1_0) := (blk_cell BK624.out 0).trans rfl; have hcz40_1 : w37.cell? ⟨gb624, 1, none⟩ = some (.int .i64 a1_1) := (blk_cell BK624.out 1).trans rfl; have hcz40_2 : w37.cell? ⟨gb624, 2, none⟩ = some (.int .i64 a1_2) := (blk_cell BK624.out 2).trans rfl; have hcz40_3 : w37.cell? ⟨gb624, 3, none⟩ = some (.bool a1_3) := (blk_cell BK624.out 3).trans rfl; have hcz40_4 : w37.cell? ⟨gb624, 4, none⟩ = some (.int .i64 a1_4) := (blk_cell BK624.out 4).trans rfl; have hcz40_5 : w37.cell? ⟨gb624, 5, none⟩ = some (.string a1_5) := (blk_cell BK624.out 5).trans rfl; have hcz40_6 : w37.cell? ⟨gb624, 6, none⟩ = some (.bool a1_6) := (blk_cell BK624.out 6).trans rfl; have hcz40_7 : w37.cell? ⟨gb624, 7, none⟩ = some (.string a1_7) := (blk_cell BK624.out 7).trans rfl; have hcz40_8 : w37.cell? ⟨gb624, 8, none⟩ = some (.int .u64 a1_8) := (blk_cell BK624.out 8).trans rfl; have hcz40_9 : w37.cell? ⟨gb624, 9, none⟩ = some (.int .u64 a1_9) := (blk_cell BK624.out 9).trans rfl; have hcz40_10 : w37.cell? ⟨gb624, 10, none⟩ = some (.int .i64 a1_10) := (blk_cell BK624.out 10).trans rfl; have hfz40_0 := blk_frozen BK624.out 0; have hfz40_1 := blk_frozen BK624.out 1; have hfz40_2 := blk_frozen BK624.out 2; have hfz40_3 := blk_frozen BK624.out 3; have hfz40_4 := blk_frozen BK624.out 4; have hfz40_5 := blk_frozen BK624.out 5; have hfz40_6 := blk_frozen BK624.out 6; have hfz40_7 := blk_frozen BK624.out 7; have hfz40_8 := blk_frozen BK624.out 8; have hfz40_9 := blk_frozen BK624.out 9; have hfz40_10 := blk_frozen BK624.out 10))
  go_ret
  exact ⟨by first | rfl | (simp [errW_none, errW_some] <;> rfl) | (simp [*, errW_none, errW_some] <;> rfl), bw⟩

end Go.Proofs.Ytcfbbbilonignaa.Q

namespace Go.Proofs.Ytcfbbbilonignaa.Q
open Go.RowKit Go.Proofs.YtcfbbbilonignaaW.PrintWords Go.Proofs.YtcfbbbilonignaaW.PrintLast Go.Proofs.YtcfbbbilonignaaW.PrintMore
set_option linter.unusedVariables false
set_option linter.unusedSimpArgs false

/-! ### laws_eqInsS: function 89 -/
def laws_eqInsS.l0 : Nat → List (S138) → List (S138) → Int → Option (Bool)
 | 0, _, _, _ => none
 | k + 1, x0, x1, x5 => if x5 < (x0.length : Int) then (if 0 ≤ x5 then (if x5 < (x1.length : Int) then ((laws_eqIns.f ((rd_T138 x0 x5).f0) ((rd_T138 x0 x5).f1) ((rd_T138 x0 x5).f2) ((rd_T138 x0 x5).f3) ((rd_T138 x0 x5).f4.f0) ((rd_T138 x0 x5).f4.f1) ((rd_T138 x0 x5).f4.f2) ((rd_T138 x0 x5).f4.f3) ((rd_T138 x0 x5).f4.f4) ((rd_T138 x0 x5).f4.f5) ((rd_T138 x0 x5).f4.f6) ((rd_T138 x1 x5).f0) ((rd_T138 x1 x5).f1) ((rd_T138 x1 x5).f2) ((rd_T138 x1 x5).f3) ((rd_T138 x1 x5).f4.f0) ((rd_T138 x1 x5).f4.f1) ((rd_T138 x1 x5).f4.f2) ((rd_T138 x1 x5).f4.f3) ((rd_T138 x1 x5).f4.f4) ((rd_T138 x1 x5).f4.f5) ((rd_T138 x1 x5).f4.f6)).bind fun t628 => (if t628 = true then (laws_eqInsS.l0 k x0 x1 (wrap64 (x5 + 1))) else (some false))) else (none)) else (none)) else (some true)
def laws_eqInsS.f (k : Nat) (l0 : List (S138)) (l1 : List (S138)) : Option (Bool) := if (l0.length : Int) = (l1.length : Int) then (laws_eqInsS.l0 k l0 l1 0) else (some false)
def laws_eqInsS.T6 : Bool × List (List Nat × List Nat) := (true, [([], []), ([], []), ([0, 1], [0, 1]), ([2], [2]), ([], []), ([], []), ([4, 5], [4, 5]), ([6], [6]), ([3, 7], [3, 7]), ([8], [8])])
def laws_eqInsS.B6 : List Nat := [0, 0, 3, 7, 0, 0, 48, 112, 255, 511]
theorem laws_eqInsS.tab6 : rtab .any (opsOf Try.f89 6) = laws_eqInsS.T6 := by kernel_rfl
theorem laws_eqInsS.bits6 : waitsOk laws_eqInsS.T6.2 laws_eqInsS.B6 = true := by kernel_rfl
set_option maxHeartbeats 8000000 in
set_option maxRecDepth 100000 in
theorem laws_eqInsS.calls (k : Nat) (A0 : Option Addr) (c0 : Nat) (l0 : List (S138)) (A1 : Option Addr) (c1 : Nat) (l1 : List (S138)) (r : Bool) (w : World) (hr0 : Kd.C k138 w A0 l0.length l0) (hc0 : l0.length ≤ c0) (hr1 : Kd.C k138 w A1 l1.length l1) (hc1 : l1.length ≤ c1) (h : laws_eqInsS.f k l0 l1 = some r) :
  Calls Try.prog 89 #[.slice A0 l0.length c0, .slice A1 l1.length c1] w fun e w' => e = .returned (.bool r) ∧ Below w.heap.size w w' := by
 have hu138 := Try.underlying138
 have HR0 := Aside0.mk hr0
 have HC0 := Aside0.mk hc0
 clear hr0 hc0
 have HR1 := Aside0.mk hr1
 have HC1 := Aside0.mk hc1
 clear hr1 hc1
 have HB := Aside0.mk (Below.refl w.heap.size w)
 have H : (if (l0.length : Int) = (l1.length : Int) then (laws_eqInsS.l0 k l0 l1 0) else (some false)) = some r := h
 clear h
 by_cases c3 : (l0.length : Int) = (l1.length : Int)
 ·rw [if_pos c3] at H
  have c3b0 : ((l0.length : Int) == (l1.length : Int)) = true := beq_iff_eq.mpr c3
  have c3b1 : ((l0.length : Int) != (l1.length : Int)) = false := bne_eq_false_iff_eq.mpr c3
  have c3b2 : (l0.length == l1.length) = true := by first | simpa using c3 | (simp at c3 ⊢; omega)
  clear c3
  have H' := Aside0.mk H
  clear H
  go_enter Try.func89, Try.ntmps89
  go_wp2
  go_loopg [5] k (fun kq v5 w' => ∃ (x5_1 : Int), v5 = .int .i64 x5_1 ∧ Aside0 (laws_eqInsS.l0 kq l0 l1 x5_1 = some r) ∧ Aside0 (kq ≤ k) ∧ Aside0 (Below w.heap.size w w'))
  case atStart => exact ⟨(0), (by first | rfl | (simp; done) | (simp [*]; done)), H', ⟨Nat.le_refl _⟩, ⟨bw⟩⟩
  case round =>
   clear H'
   try clear c1
   try clear p2
   try clear c3
   try clear c3b0
   try clear c3b1
   try clear c3b2
   obtain ⟨x5_1, rfl, HA, HK1, HB⟩ := hrel
   cases gk with
   | zero => exact absurd HA.out (by simp [laws_eqInsS.l0])
   | succ k1 =>
    have H := HA.out
    clear HA
    simp only [laws_eqInsS.l0] at H
    by_cases c4 : x5_1 < (l0.length : Int)
    ·rw [if_pos c4] at H
     have c4b0 : decide (x5_1 < (l0.length : Int)) = true := decide_eq_true c4
     clear c4
     by_cases c5 : 0 ≤ x5_1
     ·rw [if_pos c5] at H
      have c5b0 : decide (0 ≤ x5_1) = true := decide_eq_true c5
      clear c5
      by_cases c6 : x5_1 < (l1.length : Int)
      ·rw [if_pos c6] at H
       have c6b0 : decide (x5_1 < (l1.length : Int)) = true := decide_eq_true c6
       clear c6
       replace H := Option.bind_eq_some_iff.mp H
       obtain ⟨t628, A70, H⟩ := H
       replace H : (if t628 = true then (laws_eqInsS.l0 k1 l0 l1 (wrap64 (x5_1 + 1))) else (some false)) = some r := H
       have A7 := Aside0.mk A70
       clear A70
       by_cases c8 : t628 = true
       ·subst c8
        have H1 : (laws_eqInsS.l0 k1 l0 l1 (wrap64 (x5_1 + 1))) = some r := by rw [if_pos rfl] at H; exact H
        clear H
        have H := H1
        clear H1
        have H' := Aside0.mk H
        clear H
        try go_wp2
        have n0_ := Aside0.mk (below_drew1 HB.out)
        clear HB
        have HB := n0_
        clear n0_
        have p626 : 0 ≤ (x5_1 : Int) := of_decide_eq_true (by first | (with_reducible assumption) | assumption)
        have q626 : x5_1 < (l0.length : Int) := of_decide_eq_true (by first | (with_reducible assumption) | assumption)
        obtain ⟨ad626, e626, hx626_0, hx626_1, hx626_2, hx626_3, hx626_4, hx626_5, hx626_6, hx626_7, hx626_8, hx626_9, hx626_10⟩ := at_T138 HR0.out x5_1 p626 q626
        have hw626_10 := hx626_10
        have hw626_9 := hx626_9
        have hw626_8 := hx626_8
        have hw626_7 := hx626_7
        have hw626_6 := hx626_6
        have hw626_5 := hx626_5
        have hw626_4 := hx626_4
        have hw626_3 := hx626_3
        have hw626_2 := hx626_2
        have hw626_1 := hx626_1
        have hw626_0 := hx626_0
        cases e626
        replace hx626_0 := (HB.out.cell (World.block_lt_of_cell? w _ hx626_0)).trans hx626_0
        replace hx626_1 := (HB.out.cell (World.block_lt_of_cell? w _ hx626_1)).trans hx626_1
        replace hx626_2 := (HB.out.cell (World.block_lt_of_cell? w _ hx626_2)).trans hx626_2
        replace hx626_3 := (HB.out.cell (World.block_lt_of_cell? w _ hx626_3)).trans hx626_3
        replace hx626_4 := (HB.out.cell (World.block_lt_of_cell? w _ hx626_4)).trans hx626_4
        replace hx626_5 := (HB.out.cell (World.block_lt_of_cell? w _ hx626_5)).trans hx626_5
        replace hx626_6 := (HB.out.cell (World.block_lt_of_cell? w _ hx626_6)).trans hx626_6
        replace hx626_7 := (HB.out.cell (World.block_lt_of_cell? w _ hx626_7)).trans hx626_7
        replace hx626_8 := (HB.out.cell (World.block_lt_of_cell? w _ hx626_8)).trans hx626_8
        replace hx626_9 := (HB.out.cell (World.block_lt_of_cell? w _ hx626_9)).trans hx626_9
        replace hx626_10 := (HB.out.cell (World.block_lt_of_cell? w _ hx626_10)).trans hx626_10
        replace p626 := eq_true p626
        replace q626 := eq_true q626
        have p627 : 0 ≤ (x5_1 : Int) := of_decide_eq_true (by first | (with_reducible assumption) | assumption)
        have q627 : x5_1 < (l1.length : Int) := of_decide_eq_true (by first | (with_reducible assumption) | assumption)
        obtain ⟨ad627, e627, hx627_0, hx627_1, hx627_2, hx627_3, hx627_4, hx627_5, hx627_6, hx627_7, hx627_8, hx627_9, hx627_10⟩ := at_T138 HR1.out x5_1 p627 q627
        have hw627_10 := hx627_10
        have hw627_9 := hx627_9
        have hw627_8 := hx627_8
        have hw627_7 := hx627_7
        have hw627_6 := hx627_6
        have hw627_5 := hx627_5
        have hw627_4 := hx627_4
        have hw627_3 := hx627_3
        have hw627_2 := hx627_2
        have hw627_1 := hx627_1
        have hw627_0 := hx627_0
        cases e627
        replace hx627_0 := (HB.out.cell (World.block_lt_of_cell? w _ hx627_0)).trans hx627_0
        replace hx627_1 := (HB.out.cell (World.block_lt_of_cell? w _ hx627_1)).trans hx627_1
        replace hx627_2 := (HB.out.cell (World.block_lt_of_cell? w _ hx627_2)).trans hx627_2
        replace hx627_3 := (HB.out.cell (World.block_lt_of_cell? w _ hx627_3)).trans hx627_3
        replace hx627_4 := (HB.out.cell (World.block_lt_of_cell? w _ hx627_4)).trans hx627_4
        replace hx627_5 := (HB.out.cell (World.block_lt_of_cell? w _ hx627_5)).trans hx627_5
        replace hx627_6 := (HB.out.cell (World.block_lt_of_cell? w _ hx627_6)).trans hx627_6
        replace hx627_7 := (HB.out.cell (World.block_lt_of_cell? w _ hx627_7)).trans hx627_7
        replace hx627_8 := (HB.out.cell (World.block_lt_of_cell? w _ hx627_8)).trans hx627_8
        replace hx627_9 := (HB.out.cell (World.block_lt_of_cell? w _ hx627_9)).trans hx627_9
        replace hx627_10 := (HB.out.cell (World.block_lt_of_cell? w _ hx627_10)).trans hx627_10
        replace p627 := eq_true p627
        replace q627 := eq_true q627
        refine start_ (n := 10) (S := fun w' => w'.cell? (ad626.add ((x5_1).toNat * 11)) = some (.int .i64 ((rd_T138 l0 x5_1).f0)) ∧ w'.cell? ⟨(ad626.add ((x5_1).toNat * 11)).block, (ad626.add ((x5_1).toNat * 11)).off + 1, none⟩ = some (.int .i64 ((rd_T138 l0 x5_1).f1)) ∧ w'.cell? ⟨(ad626.add ((x5_1).toNat * 11)).block, (ad626.add ((x5_1).toNat * 11)).off + 2, none⟩ = some (.int .i64 ((rd_T138 l0 x5_1).f2)) ∧ w'.cell? ⟨(ad626.add ((x5_1).toNat * 11)).block, (ad626.add ((x5_1).toNat * 11)).off + 3, none⟩ = some (.bool ((rd_T138 l0 x5_1).f3)) ∧ w'.cell? ⟨(ad626.add ((x5_1).toNat * 11)).block, (ad626.add ((x5_1).toNat * 11)).off + 4, none⟩ = some (.int .i64 ((rd_T138 l0 x5_1).f4.f0)) ∧ w'.cell? ⟨(ad626.add ((x5_1).toNat * 11)).block, (ad626.add ((x5_1).toNat * 11)).off + 5, none⟩ = some (.string ((rd_T138 l0 x5_1).f4.f1)) ∧ w'.cell? ⟨(ad626.add ((x5_1).toNat * 11)).block, (ad626.add ((x5_1).toNat * 11)).off + 6, none⟩ = some (.bool ((rd_T138 l0 x5_1).f4.f2)) ∧ w'.cell? ⟨(ad626.add ((x5_1).toNat * 11)).block, (ad626.add ((x5_1).toNat * 11)).off + 7, none⟩ = some (.string ((rd_T138 l0 x5_1).f4.f3)) ∧ w'.cell? ⟨(ad626.add ((x5_1).toNat * 11)).block, (ad626.add ((x5_1).toNat * 11)).off + 8, none⟩ = some (.int .u64 ((rd_T138 l0 x5_1).f4.f4)) ∧ w'.cell? ⟨(ad626.add ((x5_1).toNat * 11)).block, (ad626.add ((x5_1).toNat * 11)).off + 9, none⟩ = some (.int .u64 ((rd_T138 l0 x5_1).f4.f5)) ∧ w'.cell? ⟨(ad626.add ((x5_1).toNat * 11)).block, (ad626.add ((x5_1).toNat * 11)).off + 10, none⟩ = some (.int .i64 ((rd_T138 l0 x5_1).f4.f6)) ∧ w'.cell? (ad627.add ((x5_1).toNat * 11)) = some (.int .i64 ((rd_T138 l1 x5_1).f0)) ∧ w'.cell? ⟨(ad627.add ((x5_1).toNat * 11)).block, (ad627.add ((x5_1).toNat * 11)).off + 1, none⟩ = some (.int .i64 ((rd_T138 l1 x5_1).f1)) ∧ w'.cell? ⟨(ad627.add ((x5_1).toNat * 11)).block, (ad627.add ((x5_1).toNat * 11)).off + 2, none⟩ = some (.int .i64 ((rd_T138 l1 x5_1).f2)) ∧ w'.cell? ⟨(ad627.add ((x5_1).toNat * 11)).block, (ad627.add ((x5_1).toNat * 11)).off + 3, none⟩ = some (.bool ((rd_T138 l1 x5_1).f3)) ∧ w'.cell? ⟨(ad627.add ((x5_1).toNat * 11)).block, (ad627.add ((x5_1).toNat * 11)).off + 4, none⟩ = some (.int .i64 ((rd_T138 l1 x5_1).f4.f0)) ∧ w'.cell? ⟨(ad627.add ((x5_1).toNat * 11)).block, (ad627.add ((x5_1).toNat * 11)).off + 5, none⟩ = some (.string ((rd_T138 l1 x5_1).f4.f1)) ∧ w'.cell? ⟨(ad627.add ((x5_1).toNat * 11)).block, (ad627.add ((x5_1).toNat * 11)).off + 6, none⟩ = some (.bool ((rd_T138 l1 x5_1).f4.f2)) ∧ w'.cell? ⟨(ad627.add ((x5_1).toNat * 11)).block, (ad627.add ((x5_1).toNat * 11)).off + 7, none⟩ = some (.string ((rd_T138 l1 x5_1).f4.f3)) ∧ w'.cell? ⟨(ad627.add ((x5_1).toNat * 11)).block, (ad627.add ((x5_1).toNat * 11)).off + 8, none⟩ = some (.int .u64 ((rd_T138 l1 x5_1).f4.f4)) ∧ w'.cell? ⟨(ad627.add ((x5_1).toNat * 11)).block, (ad627.add ((x5_1).toNat * 11)).off + 9, none⟩ = some (.int .u64 ((rd_T138 l1 x5_1).f4.f5)) ∧ w'.cell? ⟨(ad627.add ((x5_1).toNat * 11)).block, (ad627.add ((x5_1).toNat * 11)).off + 10, none⟩ = some (.int .i64 ((rd_T138 l1 x5_1).f4.f6))) (ds := []) #[false, false, false, false, false, false, false, false, false, false] (by kernel_rfl) rfl rfl ⟨((HB.out.cell (World.block_lt_of_cell? w _ hw626_0)).trans hw626_0), ((HB.out.cell (World.block_lt_of_cell? w _ hw626_1)).trans hw626_1), ((HB.out.cell (World.block_lt_of_cell? w _ hw626_2)).trans hw626_2), ((HB.out.cell (World.block_lt_of_cell? w _ hw626_3)).trans hw626_3), ((HB.out.cell (World.block_lt_of_cell? w _ hw626_4)).trans hw626_4), ((HB.out.cell (World.block_lt_of_cell? w _ hw626_5)).trans hw626_5), ((HB.out.cell (World.block_lt_of_cell? w _ hw626_6)).trans hw626_6), ((HB.out.cell (World.block_lt_of_cell? w _ hw626_7)).trans hw626_7), ((HB.out.cell (World.block_lt_of_cell? w _ hw626_8)).trans hw626_8), ((HB.out.cell (World.block_lt_of_cell? w _ hw626_9)).trans hw626_9), ((HB.out.cell (World.block_lt_of_cell? w _ hw626_10)).trans hw626_10), ((HB.out.cell (World.block_lt_of_cell? w _ hw627_0)).trans hw627_0), ((HB.out.cell (World.block_lt_of_cell? w _ hw627_1)).trans hw627_1), ((HB.out.cell (World.block_lt_of_cell? w _ hw627_2)).trans hw627_2), ((HB.out.cell (World.block_lt_of_cell? w _ hw627_3)).trans hw627_3), ((HB.out.cell (World.block_lt_of_cell? w _ hw627_4)).trans hw627_4), ((HB.out.cell (World.block_lt_of_cell? w _ hw627_5)).trans hw627_5), ((HB.out.cell (World.block_lt_of_cell? w _ hw627_6)).trans hw627_6), ((HB.out.cell (World.block_lt_of_cell? w _ hw627_7)).trans hw627_7), ((HB.out.cell (World.block_lt_of_cell? w _ hw627_8)).trans hw627_8), ((HB.out.cell (World.block_lt_of_cell? w _ hw627_9)).trans hw627_9), ((HB.out.cell (World.block_lt_of_cell? w _ hw627_10)).trans hw627_10)⟩ (fun hHeld => ?_); refine with_tabW laws_eqInsS.tab6 laws_eqInsS.bits6 (fun HT_ HW_ => ?_)
        generalize wr.drew = w9 at HB hx626_0 hx626_1 hx626_10 hx626_2 hx626_3 hx626_4 hx626_5 hx626_6 hx626_7 hx626_8 hx626_9 hx627_0 hx627_1 hx627_10 hx627_2 hx627_3 hx627_4 hx627_5 hx627_6 hx627_7 hx627_8 hx627_9 hHeld ⊢
        refine pure_ (i := 0) (N := some 17) (v := ?_) (a' := ?_) #[true, false, false, false, false, false, false, false, false, false] rfl rfl (any_of HT_.out (by kernel_rfl)) (fun _ _ _ h => h) (Or.inl ⟨by rfl, ?_⟩) ?_ ?_
        rotate_left
        ·intro w'
         go_simp
         with_reducible rfl
        rotate_left
        ·simp only [Act.put, List.setIfInBounds_toArray, List.set_cons_zero, List.set_cons_succ, i64_w, i32_w]
         rfl
        refine pure_ (i := 1) (N := some 18) (v := ?_) (a' := ?_) #[true, true, false, false, false, false, false, false, false, false] rfl rfl (any_of HT_.out (by kernel_rfl)) (fun _ _ _ h => h) (Or.inl ⟨by rfl, ?_⟩) ?_ ?_
        rotate_left
        ·intro w'
         go_simp
         with_reducible rfl
        rotate_left
        ·simp only [Act.put, List.setIfInBounds_toArray, List.set_cons_zero, List.set_cons_succ, i64_w, i32_w]
         rfl
        refine pure_ (i := 2) (N := some 19) (v := ?_) (a' := ?_) #[true, true, true, false, false, false, false, false, false, false] rfl rfl (any_of HT_.out (by kernel_rfl)) (fun _ _ _ h => h) (Or.inl ⟨by rfl, ?_⟩) ?_ ?_
        rotate_left
        ·intro w'
         go_simp
         with_reducible rfl
        rotate_left
        ·simp only [Act.put, List.setIfInBounds_toArray, List.set_cons_zero, List.set_cons_succ, i64_w, i32_w]
         rfl
        refine pure_ (i := 4) (N := some 21) (v := ?_) (a' := ?_) #[true, true, true, false, true, false, false, false, false, false] rfl rfl (any_of HT_.out (by kernel_rfl)) (fun _ _ _ h => h) (Or.inl ⟨by rfl, ?_⟩) ?_ ?_
        rotate_left
        ·intro w'
         go_simp
         with_reducible rfl
        rotate_left
        ·simp only [Act.put, List.setIfInBounds_toArray, List.set_cons_zero, List.set_cons_succ, i64_w, i32_w]
         rfl
        refine pure_ (i := 5) (N := some 22) (v := ?_) (a' := ?_) #[true, true, true, false, true, true, false, false, false, false] rfl rfl (any_of HT_.out (by kernel_rfl)) (fun _ _ _ h => h) (Or.inl ⟨by rfl, ?_⟩) ?_ ?_
        rotate_left
        ·intro w'
         go_simp
         with_reducible rfl
        rotate_left
        ·simp only [Act.put, List.setIfInBounds_toArray, List.set_cons_zero, List.set_cons_succ, i64_w, i32_w]
         rfl
        refine pure_ (i := 6) (N := some 23) (v := ?_) (a' := ?_) #[true, true, true, false, true, true, true, false, false, false] rfl rfl (any_of HT_.out (by kernel_rfl)) (fun _ _ _ h => h) (Or.inl ⟨by rfl, ?_⟩) ?_ ?_
        rotate_left
        ·intro w'
         go_simp
         with_reducible rfl
        rotate_left
        ·simp only [Act.put, List.setIfInBounds_toArray, List.set_cons_zero, List.set_cons_succ, i64_w, i32_w]
         rfl
        refine take_ (i := 3) (N := some 20) (v := ?_) (a' := ?_) #[true, true, true, true, true, true, true, false, false, false] rfl rfl (take_ofW HT_.out HW_.out (by kernel_rfl)) (fun _ _ _ h => h) (Or.inl ⟨by rfl, ?_⟩) hHeld ?_ ?_
        rotate_left
        ·rintro w' ⟨s0, s1, s2, s3, s4, s5, s6, s7, s8, s9, s10, s11, s12, s13, s14, s15, s16, s17, s18, s19, s20, s21⟩
         go_simp
         with_reducible rfl
        rotate_left
        ·simp only [Act.put, List.setIfInBounds_toArray, List.set_cons_zero, List.set_cons_succ, i64_w, i32_w]
         rfl
        refine take_ (i := 7) (N := some 24) (v := ?_) (a' := ?_) #[true, true, true, true, true, true, true, true, false, false] rfl rfl (take_ofW HT_.out HW_.out (by kernel_rfl)) (fun _ _ _ h => h) (Or.inl ⟨by rfl, ?_⟩) hHeld ?_ ?_
        rotate_left
        ·rintro w' ⟨s0, s1, s2, s3, s4, s5, s6, s7, s8, s9, s10, s11, s12, s13, s14, s15, s16, s17, s18, s19, s20, s21⟩
         go_simp
         with_reducible rfl
        rotate_left
        ·simp only [Act.put, List.setIfInBounds_toArray, List.set_cons_zero, List.set_cons_succ, i64_w, i32_w]
         rfl
        refine one_ (i := 8) (N := some 25) #[true, true, true, true, true, true, true, true, true, false] rfl rfl (one_of HT_.out (by kernel_rfl)) (by decide) (fun K hK => ?_)
        refine goes_ Try.func112 (by kernel_rfl) rfl #[.agg #[.int .i64 ((rd_T138 l0 x5_1).f0), .int .i64 ((rd_T138 l0 x5_1).f1), .int .i64 ((rd_T138 l0 x5_1).f2), .bool ((rd_T138 l0 x5_1).f3), .int .i64 ((rd_T138 l0 x5_1).f4.f0), .string ((rd_T138 l0 x5_1).f4.f1), .bool ((rd_T138 l0 x5_1).f4.f2), .string ((rd_T138 l0 x5_1).f4.f3), .int .u64 ((rd_T138 l0 x5_1).f4.f4), .int .u64 ((rd_T138 l0 x5_1).f4.f5), .int .i64 ((rd_T138 l0 x5_1).f4.f6)], .agg #[.int .i64 ((rd_T138 l1 x5_1).f0), .int .i64 ((rd_T138 l1 x5_1).f1), .int .i64 ((rd_T138 l1 x5_1).f2), .bool ((rd_T138 l1 x5_1).f3), .int .i64 ((rd_T138 l1 x5_1).f4.f0), .string ((rd_T138 l1 x5_1).f4.f1), .bool ((rd_T138 l1 x5_1).f4.f2), .string ((rd_T138 l1 x5_1).f4.f3), .int .u64 ((rd_T138 l1 x5_1).f4.f4), .int .u64 ((rd_T138 l1 x5_1).f4.f5), .int .i64 ((rd_T138 l1 x5_1).f4.f6)]] (by rfl) rfl rfl (by (try simp only [List.map_toArray, List.map_cons, List.map_nil]); first | done | rfl | (simp only [List.length_drop, List.length_take]; rfl)) ?_
        with_reducible refine (laws_eqIns.calls ((rd_T138 l0 x5_1).f0) ((rd_T138 l0 x5_1).f1) ((rd_T138 l0 x5_1).f2) ((rd_T138 l0 x5_1).f3) ((rd_T138 l0 x5_1).f4.f0) ((rd_T138 l0 x5_1).f4.f1) ((rd_T138 l0 x5_1).f4.f2) ((rd_T138 l0 x5_1).f4.f3) ((rd_T138 l0 x5_1).f4.f4) ((rd_T138 l0 x5_1).f4.f5) ((rd_T138 l0 x5_1).f4.f6) ((rd_T138 l1 x5_1).f0) ((rd_T138 l1 x5_1).f1) ((rd_T138 l1 x5_1).f2) ((rd_T138 l1 x5_1).f3) ((rd_T138 l1 x5_1).f4.f0) ((rd_T138 l1 x5_1).f4.f1) ((rd_T138 l1 x5_1).f4.f2) ((rd_T138 l1 x5_1).f4.f3) ((rd_T138 l1 x5_1).f4.f4) ((rd_T138 l1 x5_1).f4.f5) ((rd_T138 l1 x5_1).f4.f6) true _ A7.out).mono ?_
        rintro e w10 ⟨rfl, hb⟩
        refine ⟨_, rfl, ?_⟩
        have n0_ := Aside0.mk (below_step bw hb)
        clear HB
        have HB := n0_
        clear n0_
        (try clear hb)
        (try clear hb2)
        (try clear hk)
        (try clear hi)
        refine hK.out _ _ ⟨((HB.out.cell (World.block_lt_of_cell? w _ hw626_0)).trans hw626_0), ((HB.out.cell (World.block_lt_of_cell? w _ hw626_1)).trans hw626_1), ((HB.out.cell (World.block_lt_of_cell? w _ hw626_2)).trans hw626_2), ((HB.out.cell (World.block_lt_of_cell? w _ hw626_3)).trans hw626_3), ((HB.out.cell (World.block_lt_of_cell? w _ hw626_4)).trans hw626_4), ((HB.out.cell (World.block_lt_of_cell? w _ hw626_5)).trans hw626_5), ((HB.out.cell (World.block_lt_of_cell? w _ hw626_6)).trans hw626_6), ((HB.out.cell (World.block_lt_of_cell? w _ hw626_7)).trans hw626_7), ((HB.out.cell (World.block_lt_of_cell? w _ hw626_8)).trans hw626_8), ((HB.out.cell (World.block_lt_of_cell? w _ hw626_9)).trans hw626_9), ((HB.out.cell (World.block_lt_of_cell? w _ hw626_10)).trans hw626_10), ((HB.out.cell (World.block_lt_of_cell? w _ hw627_0)).trans hw627_0), ((HB.out.cell (World.block_lt_of_cell? w _ hw627_1)).trans hw627_1), ((HB.out.cell (World.block_lt_of_cell? w _ hw627_2)).trans hw627_2), ((HB.out.cell (World.block_lt_of_cell? w _ hw627_3)).trans hw627_3), ((HB.out.cell (World.block_lt_of_cell? w _ hw627_4)).trans hw627_4), ((HB.out.cell (World.block_lt_of_cell? w _ hw627_5)).trans hw627_5), ((HB.out.cell (World.block_lt_of_cell? w _ hw627_6)).trans hw627_6), ((HB.out.cell (World.block_lt_of_cell? w _ hw627_7)).trans hw627_7), ((HB.out.cell (World.block_lt_of_cell? w _ hw627_8)).trans hw627_8), ((HB.out.cell (World.block_lt_of_cell? w _ hw627_9)).trans hw627_9), ((HB.out.cell (World.block_lt_of_cell? w _ hw627_10)).trans hw627_10)⟩ (fun hHeld => ?_)
        clear hK K
        refine norm_ (a' := ?_) ?_ ?_
        rotate_left
        ·show Act.put _ (some 25) _ = _
         simp only [Act.put, List.setIfInBounds_toArray, List.set_cons_zero, List.set_cons_succ, i64_w, i32_w]
         rfl
        refine pure_ (i := 9) (N := some 26) (v := ?_) (a' := ?_) #[true, true, true, true, true, true, true, true, true, true] rfl rfl (any_of HT_.out (by kernel_rfl)) (fun _ _ _ h => h) (Or.inl ⟨by rfl, ?_⟩) ?_ ?_
        rotate_left
        ·intro w'
         go_simp
         with_reducible rfl
        rotate_left
        ·simp only [Act.put, List.setIfInBounds_toArray, List.set_cons_zero, List.set_cons_succ, i64_w, i32_w]
         rfl
        refine done_ (done_of HT_.out (by kernel_rfl)) ?_
        try go_wp2
        go_roundg k1
        case measure => have := HK1.out; omega
        case rel => exact ⟨(wrap64 (x5_1 + 1)), (by first | rfl | (simp; done) | (simp [*]; done)), H', ⟨by have := HK1.out; omega⟩, ⟨bw⟩⟩
       ·replace c8 := Bool.eq_false_iff.mpr c8
        subst c8
        have H1 : (some false) = some r := by rw [if_neg (show ¬ (false = true) by decide)] at H; exact H
        clear H
        have H := H1
        clear H1
        obtain rfl := Option.some.inj H
        try go_wp2
        have n0_ := Aside0.mk (below_drew1 HB.out)
        clear HB
        have HB := n0_
        clear n0_
        have p626 : 0 ≤ (x5_1 : Int) := of_decide_eq_true (by first | (with_reducible assumption) | assumption)
        have q626 : x5_1 < (l0.length : Int) := of_decide_eq_true (by first | (with_reducible assumption) | assumption)
        obtain ⟨ad626, e626, hx626_0, hx626_1, hx626_2, hx626_3, hx626_4, hx626_5, hx626_6, hx626_7, hx626_8, hx626_9, hx626_10⟩ := at_T138 HR0.out x5_1 p626 q626
        have hw626_10 := hx626_10
        have hw626_9 := hx626_9
        have hw626_8 := hx626_8
        have hw626_7 := hx626_7
        have hw626_6 := hx626_6
        have hw626_5 := hx626_5
        have hw626_4 := hx626_4
        have hw626_3 := hx626_3
        have hw626_2 := hx626_2
        have hw626_1 := hx626_1
        have hw626_0 := hx626_0
        cases e626
        replace hx626_0 := (HB.out.cell (World.block_lt_of_cell? w _ hx626_0)).trans hx626_0
        replace hx626_1 := (HB.out.cell (World.block_lt_of_cell? w _ hx626_1)).trans hx626_1
        replace hx626_2 := (HB.out.cell (World.block_lt_of_cell? w _ hx626_2)).trans hx626_2
        replace hx626_3 := (HB.out.cell (World.block_lt_of_cell? w _ hx626_3)).trans hx626_3
        replace hx626_4 := (HB.out.cell (World.block_lt_of_cell? w _ hx626_4)).trans hx626_4
        replace hx626_5 := (HB.out.cell (World.block_lt_of_cell? w _ hx626_5)).trans hx626_5
        replace hx626_6 := (HB.out.cell (World.block_lt_of_cell? w _ hx626_6)).trans hx626_6
        replace hx626_7 := (HB.out.cell (World.block_lt_of_cell? w _ hx626_7)).trans hx626_7
        replace hx626_8 := (HB.out.cell (World.block_lt_of_cell? w _ hx626_8)).trans hx626_8
        replace hx626_9 := (HB.out.cell (World.block_lt_of_cell? w _ hx626_9)).trans hx626_9
        replace hx626_10 := (HB.out.cell (World.block_lt_of_cell? w _ hx626_10)).trans hx626_10
        replace p626 := eq_true p626
        replace q626 := eq_true q626
        have p627 : 0 ≤ (x5_1 : Int) := of_decide_eq_true (by first | (with_reducible assumption) | assumption)
        have q627 : x5_1 < (l1.length : Int) := of_decide_eq_true (by first | (with_reducible assumption) | assumption)
        obtain ⟨ad627, e627, hx627_0, hx627_1, hx627_2, hx627_3, hx627_4, hx627_5, hx627_6, hx627_7, hx627_8, hx627_9, hx627_10⟩ := at_T138 HR1.out x5_1 p627 q627
        have hw627_10 := hx627_10
        have hw627_9 := hx627_9
        have hw627_8 := hx627_8
        have hw627_7 := hx627_7
        have hw627_6 := hx627_6
        have hw627_5 := hx627_5
        have hw627_4 := hx627_4
        have hw627_3 := hx627_3
        have hw627_2 := hx627_2
        have hw627_1 := hx627_1
        have hw627_0 := hx627_0
        cases e627
        replace hx627_0 := (HB.out.cell (World.block_lt_of_cell? w _ hx627_0)).trans hx627_0
        replace hx627_1 := (HB.out.cell (World.block_lt_of_cell? w _ hx627_1)).trans hx627_1
        replace hx627_2 := (HB.out.cell (World.block_lt_of_cell? w _ hx627_2)).trans hx627_2
        replace hx627_3 := (HB.out.cell (World.block_lt_of_cell? w _ hx627_3)).trans hx627_3
        replace hx627_4 := (HB.out.cell (World.block_lt_of_cell? w _ hx627_4)).trans hx627_4
        replace hx627_5 := (HB.out.cell (World.block_lt_of_cell? w _ hx627_5)).trans hx627_5
        replace hx627_6 := (HB.out.cell (World.block_lt_of_cell? w _ hx627_6)).trans hx627_6
        replace hx627_7 := (HB.out.cell (World.block_lt_of_cell? w _ hx627_7)).trans hx627_7
        replace hx627_8 := (HB.out.cell (World.block_lt_of_cell? w _ hx627_8)).trans hx627_8
        replace hx627_9 := (HB.out.cell (World.block_lt_of_cell? w _ hx627_9)).trans hx627_9
        replace hx627_10 := (HB.out.cell (World.block_lt_of_cell? w _ hx627_10)).trans hx627_10
        replace p627 := eq_true p627
        replace q627 := eq_true q627
        refine start_ (n := 10) (S := fun w' => w'.cell? (ad626.add ((x5_1).toNat * 11)) = some (.int .i64 ((rd_T138 l0 x5_1).f0)) ∧ w'.cell? ⟨(ad626.add ((x5_1).toNat * 11)).block, (ad626.add ((x5_1).toNat * 11)).off + 1, none⟩ = some (.int .i64 ((rd_T138 l0 x5_1).f1)) ∧ w'.cell? ⟨(ad626.add ((x5_1).toNat * 11)).block, (ad626.add ((x5_1).toNat * 11)).off + 2, none⟩ = some (.int .i64 ((rd_T138 l0 x5_1).f2)) ∧ w'.cell? ⟨(ad626.add ((x5_1).toNat * 11)).block, (ad626.add ((x5_1).toNat * 11)).off + 3, none⟩ = some (.bool ((rd_T138 l0 x5_1).f3)) ∧ w'.cell? ⟨(ad626.add ((x5_1).toNat * 11)).block, (ad626.add ((x5_1).toNat * 11)).off + 4, none⟩ = some (.int .i64 ((rd_T138 l0 x5_1).f4.f0)) ∧ w'.cell? ⟨(ad626.add ((x5_1).toNat * 11)).block, (ad626.add ((x5_1).toNat * 11)).off + 5, none⟩ = some (.string ((rd_T138 l0 x5_1).f4.f1)) ∧ w'.cell? ⟨(ad626.add ((x5_1).toNat * 11)).block, (ad626.add ((x5_1).toNat * 11)).off + 6, none⟩ = some (.bool ((rd_T138 l0 x5_1).f4.f2)) ∧ w'.cell? ⟨(ad626.add ((x5_1).toNat * 11)).block, (ad626.add ((x5_1).toNat * 11)).off + 7, none⟩ = some (.string ((rd_T138 l0 x5_1).f4.f3)) ∧ w'.cell? ⟨(ad626.add ((x5_1).toNat * 11)).block, (ad626.add ((x5_1).toNat * 11)).off + 8, none⟩ = some (.int .u64 ((rd_T138 l0 x5_1).f4.f4)) ∧ w'.cell? ⟨(ad626.add ((x5_1).toNat * 11)).block, (ad626.add ((x5_1).toNat * 11)).off + 9, none⟩ = some (.int .u64 ((rd_T138 l0 x5_1).f4.f5)) ∧ w'.cell? ⟨(ad626.add ((x5_1).toNat * 11)).block, (ad626.add ((x5_1).toNat * 11)).off + 10, none⟩ = some (.int .i64 ((rd_T138 l0 x5_1).f4.f6)) ∧ w'.cell? (ad627.add ((x5_1).toNat * 11)) = some (.int .i64 ((rd_T138 l1 x5_1).f0)) ∧ w'.cell? ⟨(ad627.add ((x5_1).toNat * 11)).block, (ad627.add ((x5_1).toNat * 11)).off + 1, none⟩ = some (.int .i64 ((rd_T138 l1 x5_1).f1)) ∧ w'.cell? ⟨(ad627.add ((x5_1).toNat * 11)).block, (ad627.add ((x5_1).toNat * 11)).off + 2, none⟩ = some (.int .i64 ((rd_T138 l1 x5_1).f2)) ∧ w'.cell? ⟨(ad627.add ((x5_1).toNat * 11)).block, (ad627.add ((x5_1).toNat * 11)).off + 3, none⟩ = some (.bool ((rd_T138 l1 x5_1).f3)) ∧ w'.cell? ⟨(ad627.add ((x5_1).toNat * 11)).block, (ad627.add ((x5_1).toNat * 11)).off + 4, none⟩ = some (.int .i64 ((rd_T138 l1 x5_1).f4.f0)) ∧ w'.cell? ⟨(ad627.add ((x5_1).toNat * 11)).block, (ad627.add ((x5_1).toNat * 11)).off + 5, none⟩ = some (.string ((rd_T138 l1 x5_1).f4.f1)) ∧ w'.cell? ⟨(ad627.add ((x5_1).toNat * 11)).block, (ad627.add ((x5_1).toNat * 11)).off + 6, none⟩ = some (.bool ((rd_T138 l1 x5_1).f4.f2)) ∧ w'.cell? ⟨(ad627.add ((x5_1).toNat * 11)).block, (ad627.add ((x5_1).toNat * 11)).off + 7, none⟩ = some (.string ((rd_T138 l1 x5_1).f4.f3)) ∧ w'.cell? ⟨(ad627.add ((x5_1).toNat * 11)).block, (ad627.add ((x5_1).toNat * 11)).off + 8, none⟩ = some (.int .u64 ((rd_T138 l1 x5_1).f4.f4)) ∧ w'.cell? ⟨(ad627.add ((x5_1).toNat * 11)).block, (ad627.add ((x5_1).toNat * 11)).off + 9, none⟩ = some (.int .u64 ((rd_T138 l1 x5_1).f4.f5)) ∧ w'.cell? ⟨(ad627.add ((x5_1).toNat * 11)).block, (ad627.add ((x5_1).toNat * 11)).off + 10, none⟩ = some (.int .i64 ((rd_T138 l1 x5_1).f4.f6))) (ds := []) #[false, false, false, false, false, false, false, false, false, false] (by kernel_rfl) rfl rfl ⟨((HB.out.cell (World.block_lt_of_cell? w _ hw626_0)).trans hw626_0), ((HB.out.cell (World.block_lt_of_cell? w _ hw626_1)).trans hw626_1), ((HB.out.cell (World.block_lt_of_cell? w _ hw626_2)).trans hw626_2), ((HB.out.cell (World.block_lt_of_cell? w _ hw626_3)).trans hw626_3), ((HB.out.cell (World.block_lt_of_cell? w _ hw626_4)).trans hw626_4), ((HB.out.cell (World.block_lt_of_cell? w _ hw626_5)).trans hw626_5), ((HB.out.cell (World.block_lt_of_cell? w _ hw626_6)).trans hw626_6), ((HB.out.cell (World.block_lt_of_cell? w _ hw626_7)).trans hw626_7), ((HB.out.cell (World.block_lt_of_cell? w _ hw626_8)).trans hw626_8), ((HB.out.cell (World.block_lt_of_cell? w _ hw626_9)).trans hw626_9), ((HB.out.cell (World.block_lt_of_cell? w _ hw626_10)).trans hw626_10), ((HB.out.cell (World.block_lt_of_cell? w _ hw627_0)).trans hw627_0), ((HB.out.cell (World.block_lt_of_cell? w _ hw627_1)).trans hw627_1), ((HB.out.cell (World.block_lt_of_cell? w _ hw627_2)).trans hw627_2), ((HB.out.cell (World.block_lt_of_cell? w _ hw627_3)).trans hw627_3), ((HB.out.cell (World.block_lt_of_cell? w _ hw627_4)).trans hw627_4), ((HB.out.cell (World.block_lt_of_cell? w _ hw627_5)).trans hw627_5), ((HB.out.cell (World.block_lt_of_cell? w _ hw627_6)).trans hw627_6), ((HB.out.cell (World.block_lt_of_cell? w _ hw627_7)).trans hw627_7), ((HB.out.cell (World.block_lt_of_cell? w _ hw627_8)).trans hw627_8), ((HB.out.cell (World.block_lt_of_cell? w _ hw627_9)).trans hw627_9), ((HB.out.cell (World.block_lt_of_cell? w _ hw627_10)).trans hw627_10)⟩ (fun hHeld => ?_); refine with_tabW laws_eqInsS.tab6 laws_eqInsS.bits6 (fun HT_ HW_ => ?_)
        generalize wr.drew = w11 at HB hx626_0 hx626_1 hx626_10 hx626_2 hx626_3 hx626_4 hx626_5 hx626_6 hx626_7 hx626_8 hx626_9 hx627_0 hx627_1 hx627_10 hx627_2 hx627_3 hx627_4 hx627_5 hx627_6 hx627_7 hx627_8 hx627_9 hHeld ⊢
        refine pure_ (i := 0) (N := some 17) (v := ?_) (a' := ?_) #[true, false, false, false, false, false, false, false, false, false] rfl rfl (any_of HT_.out (by kernel_rfl)) (fun _ _ _ h => h) (Or.inl ⟨by rfl, ?_⟩) ?_ ?_
        rotate_left
        ·intro w'
         go_simp
         with_reducible rfl
        rotate_left
        ·simp only [Act.put, List.setIfInBounds_toArray, List.set_cons_zero, List.set_cons_succ, i64_w, i32_w]
         rfl
        refine pure_ (i := 1) (N := some 18) (v := ?_) (a' := ?_) #[true, true, false, false, false, false, false, false, false, false] rfl rfl (any_of HT_.out (by kernel_rfl)) (fun _ _ _ h => h) (Or.inl ⟨by rfl, ?_⟩) ?_ ?_
        rotate_left
        ·intro w'
         go_simp
         with_reducible rfl
        rotate_left
        ·simp only [Act.put, List.setIfInBounds_toArray, List.set_cons_zero, List.set_cons_succ, i64_w, i32_w]
         rfl
        refine pure_ (i := 2) (N := some 19) (v := ?_) (a' := ?_) #[true, true, true, false, false, false, false, false, false, false] rfl rfl (any_of HT_.out (by kernel_rfl)) (fun _ _ _ h => h) (Or.inl ⟨by rfl, ?_⟩) ?_ ?_
        rotate_left
        ·intro w'
         go_simp
         with_reducible rfl
        rotate_left
        ·simp only [Act.put, List.setIfInBounds_toArray, List.set_cons_zero, List.set_cons_succ, i64_w, i32_w]
         rfl
        refine pure_ (i := 4) (N := some 21) (v := ?_) (a' := ?_) #[true, true, true, false, true, false, false, false, false, false] rfl rfl (any_of HT_.out (by kernel_rfl)) (fun _ _ _ h => h) (Or.inl ⟨by rfl, ?_⟩) ?_ ?_
        rotate_left
        ·intro w'
         go_simp
         with_reducible rfl
        rotate_left
        ·simp only [Act.put, List.setIfInBounds_toArray, List.set_cons_zero, List.set_cons_succ, i64_w, i32_w]
         rfl
        refine pure_ (i := 5) (N := some 22) (v := ?_) (a' := ?_) #[true, true, true, false, true, true, false, false, false, false] rfl rfl (any_of HT_.out (by kernel_rfl)) (fun _ _ _ h => h) (Or.inl ⟨by rfl, ?_⟩) ?_ ?_
        rotate_left
        ·intro w'
         go_simp
         with_reducible rfl
        rotate_left
        ·simp only [Act.put, List.setIfInBounds_toArray, List.set_cons_zero, List.set_cons_succ, i64_w, i32_w]
         rfl
        refine pure_ (i := 6) (N := some 23) (v := ?_) (a' := ?_) #[true, true, true, false, true, true, true, false, false, false] rfl rfl (any_of HT_.out (by kernel_rfl)) (fun _ _ _ h => h) (Or.inl ⟨by rfl, ?_⟩) ?_ ?_
        rotate_left
        ·intro w'
         go_simp
         with_reducible rfl
        rotate_left
        ·simp only [Act.put, List.setIfInBounds_toArray, List.set_cons_zero, List.set_cons_succ, i64_w, i32_w]
         rfl
        refine take_ (i := 3) (N := some 20) (v := ?_) (a' := ?_) #[true, true, true, true, true, true, true, false, false, false] rfl rfl (take_ofW HT_.out HW_.out (by kernel_rfl)) (fun _ _ _ h => h) (Or.inl ⟨by rfl, ?_⟩) hHeld ?_ ?_
        rotate_left
        ·rintro w' ⟨s0, s1, s2, s3, s4, s5, s6, s7, s8, s9, s10, s11, s12, s13, s14, s15, s16, s17, s18, s19, s20, s21⟩
         go_simp
         with_reducible rfl
        rotate_left
        ·simp only [Act.put, List.setIfInBounds_toArray, List.set_cons_zero, List.set_cons_succ, i64_w, i32_w]
         rfl
        refine take_ (i := 7) (N := some 24) (v := ?_) (a' := ?_) #[true, true, true, true, true, true, true, true, false, false] rfl rfl (take_ofW HT_.out HW_.out (by kernel_rfl)) (fun _ _ _ h => h) (Or.inl ⟨by rfl, ?_⟩) hHeld ?_ ?_
        rotate_left
        ·rintro w' ⟨s0, s1, s2, s3, s4, s5, s6, s7, s8, s9, s10, s11, s12, s13, s14, s15, s16, s17, s18, s19, s20, s21⟩
         go_simp
         with_reducible rfl
        rotate_left
        ·simp only [Act.put, List.setIfInBounds_toArray, List.set_cons_zero, List.set_cons_succ, i64_w, i32_w]
         rfl
        refine one_ (i := 8) (N := some 25) #[true, true, true, true, true, true, true, true, true, false] rfl rfl (one_of HT_.out (by kernel_rfl)) (by decide) (fun K hK => ?_)
        refine goes_ Try.func112 (by kernel_rfl) rfl #[.agg #[.int .i64 ((rd_T138 l0 x5_1).f0), .int .i64 ((rd_T138 l0 x5_1).f1), .int .i64 ((rd_T138 l0 x5_1).f2), .bool ((rd_T138 l0 x5_1).f3), .int .i64 ((rd_T138 l0 x5_1).f4.f0), .string ((rd_T138 l0 x5_1).f4.f1), .bool ((rd_T138 l0 x5_1).f4.f2), .string ((rd_T138 l0 x5_1).f4.f3), .int .u64 ((rd_T138 l0 x5_1).f4.f4), .int .u64 ((rd_T138 l0 x5_1).f4.f5), .int .i64 ((rd_T138 l0 x5_1).f4.f6)], .agg #[.int .i64 ((rd_T138 l1 x5_1).f0), .int .i64 ((rd_T138 l1 x5_1).f1), .int .i64 ((rd_T138 l1 x5_1).f2), .bool ((rd_T138 l1 x5_1).f3), .int .i64 ((rd_T138 l1 x5_1).f4.f0), .string ((rd_T138 l1 x5_1).f4.f1), .bool ((rd_T138 l1 x5_1).f4.f2), .string ((rd_T138 l1 x5_1).f4.f3), .int .u64 ((rd_T138 l1 x5_1).f4.f4), .int .u64 ((rd_T138 l1 x5_1).f4.f5), .int .i64 ((rd_T138 l1 x5_1).f4.f6)]] (by rfl) rfl rfl (by (try simp only [List.map_toArray, List.map_cons, List.map_nil]); first | done | rfl | (simp only [List.length_drop, List.length_take]; rfl)) ?_
        with_reducible refine (laws_eqIns.calls ((rd_T138 l0 x5_1).f0) ((rd_T138 l0 x5_1).f1) ((rd_T138 l0 x5_1).f2) ((rd_T138 l0 x5_1).f3) ((rd_T138 l0 x5_1).f4.f0) ((rd_T138 l0 x5_1).f4.f1) ((rd_T138 l0 x5_1).f4.f2) ((rd_T138 l0 x5_1).f4.f3) ((rd_T138 l0 x5_1).f4.f4) ((rd_T138 l0 x5_1).f4.f5) ((rd_T138 l0 x5_1).f4.f6) ((rd_T138 l1 x5_1).f0) ((rd_T138 l1 x5_1).f1) ((rd_T138 l1 x5_1).f2) ((rd_T138 l1 x5_1).f3) ((rd_T138 l1 x5_1).f4.f0) ((rd_T138 l1 x5_1).f4.f1) ((rd_T138 l1 x5_1).f4.f2) ((rd_T138 l1 x5_1).f4.f3) ((rd_T138 l1 x5_1).f4.f4) ((rd_T138 l1 x5_1).f4.f5) ((rd_T138 l1 x5_1).f4.f6) false _ A7.out).mono ?_
        rintro e w12 ⟨rfl, hb⟩
        refine ⟨_, rfl, ?_⟩
        have n0_ := Aside0.mk (below_step bw hb)
        clear HB
        have HB := n0_
        clear n0_
        (try clear hb)
        (try clear hb2)
        (try clear hk)
        (try clear hi)
        refine hK.out _ _ ⟨((HB.out.cell (World.block_lt_of_cell? w _ hw626_0)).trans hw626_0), ((HB.out.cell (World.block_lt_of_cell? w _ hw626_1)).trans hw626_1), ((HB.out.cell (World.block_lt_of_cell? w _ hw626_2)).trans hw626_2), ((HB.out.cell (World.block_lt_of_cell? w _ hw626_3)).trans hw626_3), ((HB.out.cell (World.block_lt_of_cell? w _ hw626_4)).trans hw626_4), ((HB.out.cell (World.block_lt_of_cell? w _ hw626_5)).trans hw626_5), ((HB.out.cell (World.block_lt_of_cell? w _ hw626_6)).trans hw626_6), ((HB.out.cell (World.block_lt_of_cell? w _ hw626_7)).trans hw626_7), ((HB.out.cell (World.block_lt_of_cell? w _ hw626_8)).trans hw626_8), ((HB.out.cell (World.block_lt_of_cell? w _ hw626_9)).trans hw626_9), ((HB.out.cell (World.block_lt_of_cell? w _ hw626_10)).trans hw626_10), ((HB.out.cell (World.block_lt_of_cell? w _ hw627_0)).trans hw627_0), ((HB.out.cell (World.block_lt_of_cell? w _ hw627_1)).trans hw627_1), ((HB.out.cell (World.block_lt_of_cell? w _ hw627_2)).trans hw627_2), ((HB.out.cell (World.block_lt_of_cell? w _ hw627_3)).trans hw627_3), ((HB.out.cell (World.block_lt_of_cell? w _ hw627_4)).trans hw627_4), ((HB.out.cell (World.block_lt_of_cell? w _ hw627_5)).trans hw627_5), ((HB.out.cell (World.block_lt_of_cell? w _ hw627_6)).trans hw627_6), ((HB.out.cell (World.block_lt_of_cell? w _ hw627_7)).trans hw627_7), ((HB.out.cell (World.block_lt_of_cell? w _ hw627_8)).trans hw627_8), ((HB.out.cell (World.block_lt_of_cell? w _ hw627_9)).trans hw627_9), ((HB.out.cell (World.block_lt_of_cell? w _ hw627_10)).trans hw627_10)⟩ (fun hHeld => ?_)
        clear hK K
        refine norm_ (a' := ?_) ?_ ?_
        rotate_left
        ·show Act.put _ (some 25) _ = _
         simp only [Act.put, List.setIfInBounds_toArray, List.set_cons_zero, List.set_cons_succ, i64_w, i32_w]
         rfl
        refine pure_ (i := 9) (N := some 26) (v := ?_) (a' := ?_) #[true, true, true, true, true, true, true, true, true, true] rfl rfl (any_of HT_.out (by kernel_rfl)) (fun _ _ _ h => h) (Or.inl ⟨by rfl, ?_⟩) ?_ ?_
        rotate_left
        ·intro w'
         go_simp
         with_reducible rfl
        rotate_left
        ·simp only [Act.put, List.setIfInBounds_toArray, List.set_cons_zero, List.set_cons_succ, i64_w, i32_w]
         rfl
        refine done_ (done_of HT_.out (by kernel_rfl)) ?_
        try go_wp2
        go_ret
        exact ⟨by first | rfl | (simp [errW_none, errW_some] <;> rfl) | (simp [*, errW_none, errW_some] <;> rfl), bw⟩
      ·rw [if_neg c6] at H
       exact absurd H (by simp)
     ·rw [if_neg c5] at H
      exact absurd H (by simp)
    ·rw [if_neg c4] at H
     have c4b0 : decide (x5_1 < (l0.length : Int)) = false := decide_eq_false c4
     clear c4
     obtain rfl := Option.some.inj H
     go_wp2
     go_ret
     exact ⟨by first | rfl | (simp [errW_none, errW_some] <;> rfl) | (simp [*, errW_none, errW_some] <;> rfl), bw⟩
 ·rw [if_neg c3] at H
  have c3b0 : ((l0.length : Int) == (l1.length : Int)) = false := beq_eq_false_iff_ne.mpr c3
  have c3b1 : ((l0.length : Int) != (l1.length : Int)) = true := bne_iff_ne.mpr c3
  have c3b2 : (l0.length == l1.length) = false := by first | simpa using c3 | (simp at c3 ⊢; omega)
  obtain rfl := Option.some.inj H
  go_enter Try.func89, Try.ntmps89
  go_wp2
  go_ret
  exact ⟨by first | rfl | (simp [errW_none, errW_some] <;> rfl) | (simp [*, errW_none, errW_some] <;> rfl), bw⟩

end Go.Proofs.Ytcfbbbilonignaa.Q

namespace Go.Proofs.Ytcfbbbilonignaa.Q
open Go.RowKit Go.Proofs.YtcfbbbilonignaaW.PrintWords Go.Proofs.YtcfbbbilonignaaW.PrintLast Go.Proofs.YtcfbbbilonignaaW.PrintMore
set_option linter.unusedVariables false
set_option linter.unusedSimpArgs false

/-! ### laws_eqBlock: function 51 -/
def laws_eqBlock.f (k : Nat) (l0_0 : List (S138)) (a0_1 : Int) (l1_0 : List (S138)) (a1_1 : Int) : Option (Bool) := (laws_eqInsS.f k l0_0 l1_0).bind fun t631 => (if t631 = true then (if a0_1 = a1_1 then (some true) else (some false)) else (some false))
set_option maxHeartbeats 8000000 in
set_option maxRecDepth 100000 in
theorem laws_eqBlock.calls (k : Nat) (A0_0 : Option Addr) (c0_0 : Nat) (l0_0 : List (S138)) (a0_1 : Int) (A1_0 : Option Addr) (c1_0 : Nat) (l1_0 : List (S138)) (a1_1 : Int) (r : Bool) (w : World) (hr0_0 : Kd.C k138 w A0_0 l0_0.length l0_0) (hc0_0 : l0_0.length ≤ c0_0) (hr1_0 : Kd.C k138 w A1_0 l1_0.length l1_0) (hc1_0 : l1_0.length ≤ c1_0) (h : laws_eqBlock.f k l0_0 a0_1 l1_0 a1_1 = some r) :
  Calls Try.prog 51 #[.agg #[.slice A0_0 l0_0.length c0_0, .int .i64 a0_1], .agg #[.slice A1_0 l1_0.length c1_0, .int .i64 a1_1]] w fun e w' => e = .returned (.bool r) ∧ Below w.heap.size w w' := by
 have hu56 := Try.underlying56
 have HR0_0 := Aside0.mk hr0_0
 have HC0_0 := Aside0.mk hc0_0
 clear hr0_0 hc0_0
 have HR1_0 := Aside0.mk hr1_0
 have HC1_0 := Aside0.mk hc1_0
 clear hr1_0 hc1_0
 have HB := Aside0.mk (Below.refl w.heap.size w)
 have H : ((laws_eqInsS.f k l0_0 l1_0).bind fun t631 => (if t631 = true then (if a0_1 = a1_1 then (some true) else (some false)) else (some false))) = some r := h
 clear h
 replace H := Option.bind_eq_some_iff.mp H
 obtain ⟨t631, A30, H⟩ := H
 replace H : (if t631 = true then (if a0_1 = a1_1 then (some true) else (some false)) else (some false)) = some r := H
 have A3 := Aside0.mk A30
 clear A30
 by_cases c4 : t631 = true
 ·subst c4
  have H1 : (if a0_1 = a1_1 then (some true) else (some false)) = some r := by rw [if_pos rfl] at H; exact H
  clear H
  have H := H1
  clear H1
  by_cases c5 : a0_1 = a1_1
  ·rw [if_pos c5] at H
   have c5b0 : (a0_1 == a1_1) = true := beq_iff_eq.mpr c5
   have c5b1 : (a0_1 != a1_1) = false := bne_eq_false_iff_eq.mpr c5
   clear c5
   obtain rfl := Option.some.inj H
   go_enter Try.func51, Try.ntmps51
   go_wp2_with (first | ((with_reducible refine gate_dst (N := 2) rfl ?_); refine box_event ?hg (N := 2) ?hd (cs := #[.slice A0_0 l0_0.length c0_0, .int .i64 a0_1]) (t := 56) ?hr ?_; (case hd => rfl); (case hg => rfl); (case hr => first | (go_simp; done) | (go_simp; rfl)); intro gb629 hg w6 hbox hb; have n0_ := Aside0.mk (below_step bw hb); have n1_ := Aside0.mk (hbox); have n2_ := Aside0.mk ((by rw [hg]; exact (below_size bw) : w.heap.size ≤ gb629)); have n3_ := Aside0.mk ((by rw [hg]; exact (below_size bw) : w.heap.size ≤ gb629)); clear HB; have HB := n0_; have BK629 := n1_; have GW629 := n2_; have GE629 := n3_; clear n0_ n1_ n2_ n3_; clear hb hbox hg) | ((with_reducible refine gate_dst (N := 3) rfl ?_); refine box_event ?hg (N := 3) ?hd (cs := #[.slice A1_0 l1_0.length c1_0, .int .i64 a1_1]) (t := 56) ?hr ?_; (case hd => rfl); (case hg => rfl); (case hr => first | (go_simp; done) | (go_simp; rfl)); intro gb630 hg w7 hbox hb; have n0_ := Aside0.mk (blk_below (g := gb629) (o := .cells #[.slice A0_0 l0_0.length c0_0, .int .i64 a0_1] 56 (0, 0)) (lb BK629) hb); have n1_ := Aside0.mk (below_step bw hb); have n2_ := Aside0.mk (hbox); have n3_ := Aside0.mk ((by rw [hg]; exact (below_size bw) : w.heap.size ≤ gb630)); have n4_ := Aside0.mk ((by rw [hg]; exact (below_size bw) : w.heap.size ≤ gb630)); have n5_ := Aside0.mk ((by rw [hg]; exact Nat.ne_of_lt (blk_lt (g := gb629) (o := .cells #[.slice A0_0 l0_0.length c0_0, .int .i64 a0_1] 56 (0, 0)) (lb BK629)) : gb629 ≠ gb630)); have n6_ := Aside0.mk ((by rw [hg]; exact Nat.ne_of_gt (blk_lt (g := gb629) (o := .cells #[.slice A0_0 l0_0.length c0_0, .int .i64 a0_1] 56 (0, 0)) (lb BK629)) : gb630 ≠ gb629)); clear BK629; clear HB; have BK629 := n0_; have HB := n1_; have BK630 := n2_; have GW630 := n3_; have GE630 := n4_; have NB629_630 := n5_; have NB630_629 := n6_; clear n0_ n1_ n2_ n3_ n4_ n5_ n6_; clear hb hbox hg; have hnb8 := NB629_630.out; have hnc8 := NB630_629.out; have hcz9_0 : w7.cell? ⟨gb629, 0, none⟩ = some (.slice A0_0 l0_0.length c0_0) := (blk_cell BK629.out 0).trans rfl; have hcz9_1 : w7.cell? ⟨gb629, 1, none⟩ = some (.int .i64 a0_1) := (blk_cell BK629.out 1).trans rfl; have hfz9_0 := blk_frozen BK629.out 0; have hfz9_1 := blk_frozen BK629.out 1; have hcz10_0 : w7.cell? ⟨gb630, 0, none⟩ = some (.slice A1_0 l1_0.length c1_0) := (blk_cell BK630.out 0).trans rfl; have hcz10_1 : w7.cell? ⟨gb630, 1, none⟩ = some (.int .i64 a1_1) := (blk_cell BK630.out 1).trans rfl; have hfz10_0 := blk_frozen BK630.out 0; have hfz10_1 := blk_frozen BK630.out 1) | ((with_reducible refine at_fn (f := 89) rfl ?_); refine goesL_ (some 9) rfl rfl Try.func89 (by kernel_rfl) rfl #[.slice A0_0 l0_0.length c0_0, .slice A1_0 l1_0.length c1_0] rfl (by (try simp only [List.map_toArray, List.map_cons, List.map_nil]); first | done | rfl | (simp only [List.length_drop, List.length_take]; rfl)) ?_; (with_reducible refine (laws_eqInsS.calls k _ _ l0_0 _ _ l1_0 true _ ?side1 ?side2 ?side3 ?side4 A3.out).mono ?_); (case side1 => repeat (first | exact (Kd.C_below HR0_0.out HB.out) | (with_reducible refine Kd.C_alloc ?_ _) | (with_reducible refine Kd.C_drewN ?_ _) | (with_reducible refine Kd.C_drew ?_))); (case side2 => exact HC0_0.out); (case side3 => repeat (first | exact (Kd.C_below HR1_0.out HB.out) | (with_reducible refine Kd.C_alloc ?_ _) | (with_reducible refine Kd.C_drewN ?_ _) | (with_reducible refine Kd.C_drew ?_))); (case side4 => exact HC1_0.out); rintro e w11 ⟨rfl, hb⟩; refine ⟨_, rfl, ?_⟩; have n0_ := Aside0.mk (blk_below (g := gb629) (o := .cells #[.slice A0_0 l0_0.length c0_0, .int .i64 a0_1] 56 (0, 0)) (lb BK629) hb); have n1_ := Aside0.mk (blk_below (g := gb630) (o := .cells #[.slice A1_0 l1_0.length c1_0, .int .i64 a1_1] 56 (0, 0)) (lb BK630) hb); have n2_ := Aside0.mk (below_step bw hb); clear BK629; clear BK630; clear HB; have BK629 := n0_; have BK630 := n1_; have HB := n2_; clear n0_ n1_ n2_; (try clear hb); (try clear hb2); (try clear hk); (try clear hi); have hcz12_0 : w11.cell? ⟨gb629, 0, none⟩ = some (.slice A0_0 l0_0.length c0_0) := (blk_cell BK629.out 0).trans rfl; have hcz12_1 : w11.cell? ⟨gb629, 1, none⟩ = some (.int .i64 a0_1) := (blk_cell BK629.out 1).trans rfl; have hfz12_0 := blk_frozen BK629.out 0; have hfz12_1 := blk_frozen BK629.out 1; have hcz13_0 : w11.cell? ⟨gb630, 0, none⟩ = some (.slice A1_0 l1_0.length c1_0) := (blk_cell BK630.out 0).trans rfl; have hcz13_1 : w11.cell? ⟨gb630, 1, none⟩ = some (.int .i64 a1_1) := (blk_cell BK630.out 1).trans rfl; have hfz13_0 := blk_frozen BK630.out 0; have hfz13_1 := blk_frozen BK630.out 1))
   go_ret
   exact ⟨by first | rfl | (simp [errW_none, errW_some] <;> rfl) | (simp [*, errW_none, errW_some] <;> rfl), bw⟩
  ·rw [if_neg c5] at H
   have c5b0 : (a0_1 == a1_1) = false := beq_eq_false_iff_ne.mpr c5
   have c5b1 : (a0_1 != a1_1) = true := bne_iff_ne.mpr c5
   obtain rfl := Option.some.inj H
   go_enter Try.func51, Try.ntmps51
   go_wp2_with (first | ((with_reducible refine gate_dst (N := 2) rfl ?_); refine box_event ?hg (N := 2) ?hd (cs := #[.slice A0_0 l0_0.length c0_0, .int .i64 a0_1]) (t := 56) ?hr ?_; (case hd => rfl); (case hg => rfl); (case hr => first | (go_simp; done) | (go_simp; rfl)); intro gb629 hg w14 hbox hb; have n0_ := Aside0.mk (below_step bw hb); have n1_ := Aside0.mk (hbox); have n2_ := Aside0.mk ((by rw [hg]; exact (below_size bw) : w.heap.size ≤ gb629)); have n3_ := Aside0.mk ((by rw [hg]; exact (below_size bw) : w.heap.size ≤ gb629)); clear HB; have HB := n0_; have BK629 := n1_; have GW629 := n2_; have GE629 := n3_; clear n0_ n1_ n2_ n3_; clear hb hbox hg) | ((with_reducible refine gate_dst (N := 3) rfl ?_); refine box_event ?hg (N := 3) ?hd (cs := #[.slice A1_0 l1_0.length c1_0, .int .i64 a1_1]) (t := 56) ?hr ?_; (case hd => rfl); (case hg => rfl); (case hr => first | (go_simp; done) | (go_simp; rfl)); intro gb630 hg w15 hbox hb; have n0_ := Aside0.mk (blk_below (g := gb629) (o := .cells #[.slice A0_0 l0_0.length c0_0, .int .i64 a0_1] 56 (0, 0)) (lb BK629) hb); have n1_ := Aside0.mk (below_step bw hb); have n2_ := Aside0.mk (hbox); have n3_ := Aside0.mk ((by rw [hg]; exact (below_size bw) : w.heap.size ≤ gb630)); have n4_ := Aside0.mk ((by rw [hg]; exact (below_size bw) : w.heap.size ≤ gb630)); have n5_ := Aside0.mk ((by rw [hg]; exact Nat.ne_of_lt (blk_lt (g := gb629) (o := .cells #[.slice A0_0 l0_0.length c0_0, .int .i64 a0_1] 56 (0, 0)) (lb BK629)) : gb629 ≠ gb630)); have n6_ := Aside0.mk ((by rw [hg]; exact Nat.ne_of_gt (blk_lt (g := gb629) (o := .cells #[.slice A0_0 l0_0.length c0_0, .int .i64 a0_1] 56 (0, 0)) (lb BK629)) : gb630 ≠ gb629)); clear BK629; clear HB; have BK629 := n0_; have HB := n1_; have BK630 := n2_; have GW630 := n3_; have GE630 := n4_; have NB629_630 := n5_; have NB630_629 := n6_; clear n0_ n1_ n2_ n3_ n4_ n5_ n6_; clear hb hbox hg; have hnb16 := NB629_630.out; have hnc16 := NB630_629.out; have hcz17_0 : w15.cell? ⟨gb629, 0, none⟩ = some (.slice A0_0 l0_0.length c0_0) := (blk_cell BK629.out 0).trans rfl; have hcz17_1 : w15.cell? ⟨gb629, 1, none⟩ = some (.int .i64 a0_1) := (blk_cell BK629.out 1).trans rfl; have hfz17_0 := blk_frozen BK629.out 0; have hfz17_1 := blk_frozen BK629.out 1; have hcz18_0 : w15.cell? ⟨gb630, 0, none⟩ = some (.slice A1_0 l1_0.length c1_0) := (blk_cell BK630.out 0).trans rfl; have hcz18_1 : w15.cell? ⟨gb630, 1, none⟩ = some (.int .i64 a1_1) := (blk_cell BK630.out 1).trans rfl; have hfz18_0 := blk_frozen BK630.out 0; have hfz18_1 := blk_frozen BK630.out 1) | ((with_reducible refine at_fn (f := 89) rfl ?_); refine goesL_ (some 9) rfl rfl Try.func89 (by kernel_rfl) rfl #[.slice A0_0 l0_0.length c0_0, .slice A1_0 l1_0.length c1_0] rfl (by (try simp only [List.map_toArray, List.map_cons, List.map_nil]); first | done | rfl | (simp only [List.length_drop, List.length_take]; rfl)) ?_; (with_reducible refine (laws_eqInsS.calls k _ _ l0_0 _ _ l1_0 true _ ?side1 ?side2 ?side3 ?side4 A3.out).mono ?_); (case side1 => repeat (first | exact (Kd.C_below HR0_0.out HB.out) | (with_reducible refine Kd.C_alloc ?_ _) | (with_reducible refine Kd.C_drewN ?_ _) | (with_reducible refine Kd.C_drew ?_))); (case side2 => exact HC0_0.out); (case side3 => repeat (first | exact (Kd.C_below HR1_0.out HB.out) | (with_reducible refine Kd.C_alloc ?_ _) | (with_reducible refine Kd.C_drewN ?_ _) | (with_reducible refine Kd.C_drew ?_))); (case side4 => exact HC1_0.out); rintro e w19 ⟨rfl, hb⟩; refine ⟨_, rfl, ?_⟩; have n0_ := Aside0.mk (blk_below (g := gb629) (o := .cells #[.slice A0_0 l0_0.length c0_0, .int .i64 a0_1] 56 (0, 0)) (lb BK629) hb); have n1_ := Aside0.mk (blk_below (g := gb630) (o := .cells #[.slice A1_0 l1_0.length c1_0, .int .i64 a1_1] 56 (0, 0)) (lb BK630) hb); have n2_ := Aside0.mk (below_step bw hb); clear BK629; clear BK630; clear HB; have BK629 := n0_; have BK630 := n1_; have HB := n2_; clear n0_ n1_ n2_; (try clear hb); (try clear hb2); (try clear hk); (try clear hi); have hcz20_0 : w19.cell? ⟨gb629, 0, none⟩ = some (.slice A0_0 l0_0.length c0_0) := (blk_cell BK629.out 0).trans rfl; have hcz20_1 : w19.cell? ⟨gb629, 1, none⟩ = some (.int .i64 a0_1) := (blk_cell BK629.out 1).trans rfl; have hfz20_0 := blk_frozen BK629.out 0; have hfz20_1 := blk_frozen BK629.out 1; have hcz21_0 : w19.cell? ⟨gb630, 0, none⟩ = some (.slice A1_0 l1_0.length c1_0) := (blk_cell BK630.out 0).trans rfl; have hcz21_1 : w19.cell? ⟨gb630, 1, none⟩ = some (.int .i64 a1_1) := (blk_cell BK630.out 1).trans rfl; have hfz21_0 := blk_frozen BK630.out 0; have hfz21_1 := blk_frozen BK630.out 1))
   go_ret
   exact ⟨by first | rfl | (simp [errW_none, errW_some] <;> rfl) | (simp [*, errW_none, errW_some] <;> rfl), bw⟩
 ·replace c4 := Bool.eq_false_iff.mpr c4
  subst c4
  have H1 : (some false) = some r := by rw [if_neg (show ¬ (false = true) by decide)] at H; exact H
  clear H
  have H := H1
  clear H1
  obtain rfl := Option.some.inj H
  go_enter Try.func51, Try.ntmps51
  go_wp2_with (first | ((with_reducible refine gate_dst (N := 2) rfl ?_); refine box_event ?hg (N := 2) ?hd (cs := #[.slice A0_0 l0_0.length c0_0, .int .i64 a0_1]) (t := 56) ?hr ?_; (case hd => rfl); (case hg => rfl); (case hr => first | (go_simp; done) | (go_simp; rfl)); intro gb629 hg w22 hbox hb; have n0_ := Aside0.mk (below_step bw hb); have n1_ := Aside0.mk (hbox); have n2_ := Aside0.mk ((by rw [hg]; exact (below_size bw) : w.heap.size ≤ gb629)); have n3_ := Aside0.mk ((by rw [hg]; exact (below_size bw) : w.heap.size ≤ gb629)); clear HB; have HB := n0_; have BK629 := n1_; have GW629 := n2_; have GE629 := n3_; clear n0_ n1_ n2_ n3_; clear hb hbox hg) | ((with_reducible refine gate_dst (N := 3) rfl ?_); refine box_event ?hg (N := 3) ?hd (cs := #[.slice A1_0 l1_0.length c1_0, .int .i64 a1_1]) (t := 56) ?hr ?_; (case hd => rfl); (case hg => rfl); (case hr => first | (go_simp; done) | (go_simp; rfl)); intro gb630 hg w23 hbox hb; have n0_ := Aside0.mk (blk_below (g := gb629) (o := .cells #[.slice A0_0 l0_0.length c0_0, .int .i64 a0_1] 56 (0, 0)) (lb BK629) hb); have n1_ := Aside0.mk (below_step bw hb); have n2_ := Aside0.mk (hbox); have n3_ := Aside0.mk ((by rw [hg]; exact (below_size bw) : w.heap.size ≤ gb630)); have n4_ := Aside0.mk ((by rw [hg]; exact (below_size bw) : w.heap.size ≤ gb630)); have n5_ := Aside0.mk ((by rw [hg]; exact Nat.ne_of_lt (blk_lt (g := gb629) (o := .cells #[.slice A0_0 l0_0.length c0_0, .int .i64 a0_1] 56 (0, 0)) (lb BK629)) : gb629 ≠ gb630)); have n6_ := Aside0.mk ((by rw [hg]; exact Nat.ne_of_gt (blk_lt (g := gb629) (o := .cells #[.slice A0_0 l0_0.length c0_0, .int .i64 a0_1] 56 (0, 0)) (lb BK629)) : gb630 ≠ gb629)); clear BK629; clear HB; have BK629 := n0_; have HB := n1_; have BK630 := n2_; have GW630 := n3_; have GE630 := n4_; have NB629_630 := n5_; have NB630_629 := n6_; clear n0_ n1_ n2_ n3_ n4_ n5_ n6_; clear hb hbox hg; have hnb24 := NB629_630.out; have hnc24 := NB630_629.out; have hcz25_0 : w23.cell? ⟨gb629, 0, none⟩ = some (.slice A0_0 l0_0.length c0_0) := (blk_cell BK629.out 0).trans rfl; have hcz25_1 : w23.cell? ⟨gb629, 1, none⟩ = some (.int .i64 a0_1) := (blk_cell BK629.out 1).trans rfl; have hfz25_0 := blk_frozen BK629.out 0; have hfz25_1 := blk_frozen BK629.out 1; have hcz26_0 : w23.cell? ⟨gb630, 0, none⟩ = some (.slice A1_0 l1_0.length c1_0) := (blk_cell BK630.out 0).trans rfl; have hcz26_1 : w23.cell? ⟨gb630, 1, none⟩ = some (.int .i64 a1_1) := (blk_cell BK630.out 1).trans rfl; have hfz26_0 := blk_frozen BK630.out 0; have hfz26_1 := blk_frozen BK630.out 1) | ((with_reducible refine at_fn (f := 89) rfl ?_); refine goesL_ (some 9) rfl rfl Try.func89 (by kernel_rfl) rfl #[.slice A0_0 l0_0.length c0_0, .slice A1_0 l1_0.length c1_0] rfl (by (try simp only [List.map_toArray, List.map_cons, List.map_nil]); first | done | rfl | (simp only [List.length_drop, List.length_take]; rfl)) ?_; (with_reducible refine (laws_eqInsS.calls k _ _ l0_0 _ _ l1_0 false _ ?side1 ?side2 ?side3 ?side4 A3.out).mono ?_); (case side1 => repeat (first | exact (Kd.C_below HR0_0.out HB.out) | (with_reducible refine Kd.C_alloc ?_ _) | (with_reducible refine Kd.C_drewN ?_ _) | (with_reducible refine Kd.C_drew ?_))); (case side2 => exact HC0_0.out); (case side3 => repeat (first | exact (Kd.C_below HR1_0.out HB.out) | (with_reducible refine Kd.C_alloc ?_ _) | (with_reducible refine Kd.C_drewN ?_ _) | (with_reducible refine Kd.C_drew ?_))); (case side4 => exact HC1_0.out); rintro e w27 ⟨rfl, hb⟩; refine ⟨_, rfl, ?_⟩; have n0_ := Aside0.mk (blk_below (g := gb629) (o := .cells #[.slice A0_0 l0_0.length c0_0, .int .i64 a0_1] 56 (0, 0)) (lb BK629) hb); have n1_ := Aside0.mk (blk_below (g := gb630) (o := .cells #[.slice A1_0 l1_0.length c1_0, .int .i64 a1_1] 56 (0, 0)) (lb BK630) hb); have n2_ := Aside0.mk (below_step bw hb); clear BK629; clear BK630; clear HB; have BK629 := n0_; have BK630 := n1_; have HB := n2_; clear n0_ n1_ n2_; (try clear hb); (try clear hb2); (try clear hk); (try clear hi)))
  go_ret
  exact ⟨by first | rfl | (simp [errW_none, errW_some] <;> rfl) | (simp [*, errW_none, errW_some] <;> rfl), bw⟩

end Go.Proofs.Ytcfbbbilonignaa.Q

namespace Go.Proofs.Ytcfbbbilonignaa.Q
open Go.RowKit Go.Proofs.YtcfbbbilonignaaW.PrintWords Go.Proofs.YtcfbbbilonignaaW.PrintLast Go.Proofs.YtcfbbbilonignaaW.PrintMore
set_option linter.unusedVariables false
set_option linter.unusedSimpArgs false

/-! ### laws_eqBlockS: function 50 -/
def laws_eqBlockS.l0 : Nat → List (S56) → List (S56) → Int → Option (Bool)
 | 0, _, _, _ => none
 | k + 1, x0, x1, x5 => if x5 < (x0.length : Int) then (if 0 ≤ x5 then (if x5 < (x1.length : Int) then ((laws_eqBlock.f k ((rd_T56 x0 x5).f0) ((rd_T56 x0 x5).f1) ((rd_T56 x1 x5).f0) ((rd_T56 x1 x5).f1)).bind fun t634 => (if t634 = true then (laws_eqBlockS.l0 k x0 x1 (wrap64 (x5 + 1))) else (some false))) else (none)) else (none)) else (some true)
def laws_eqBlockS.f (k : Nat) (l0 : List (S56)) (l1 : List (S56)) : Option (Bool) := if (l0.length : Int) = (l1.length : Int) then (laws_eqBlockS.l0 k l0 l1 0) else (some false)
def laws_eqBlockS.T6 : Bool × List (List Nat × List Nat) := (true, [([], []), ([], []), ([0, 1], [0, 1]), ([2], [2]), ([], []), ([], []), ([4, 5], [4, 5]), ([6], [6]), ([3, 7], [3, 7]), ([8], [8])])
def laws_eqBlockS.B6 : List Nat := [0, 0, 3, 7, 0, 0, 48, 112, 255, 511]
theorem laws_eqBlockS.tab6 : rtab .any (opsOf Try.f50 6) = laws_eqBlockS.T6 := by kernel_rfl
theorem laws_eqBlockS.bits6 : waitsOk laws_eqBlockS.T6.2 laws_eqBlockS.B6 = true := by kernel_rfl
set_option maxHeartbeats 8000000 in
set_option maxRecDepth 100000 in
theorem laws_eqBlockS.calls (k : Nat) (A0 : Option Addr) (c0 : Nat) (l0 : List (S56)) (A1 : Option Addr) (c1 : Nat) (l1 : List (S56)) (r : Bool) (w : World) (hr0 : Kd.C k56 w A0 l0.length l0) (hc0 : l0.length ≤ c0) (hr1 : Kd.C k56 w A1 l1.length l1) (hc1 : l1.length ≤ c1) (h : laws_eqBlockS.f k l0 l1 = some r) :
  Calls Try.prog 50 #[.slice A0 l0.length c0, .slice A1 l1.length c1] w fun e w' => e = .returned (.bool r) ∧ Below w.heap.size w w' := by
 have hu56 := Try.underlying56
 have HR0 := Aside0.mk hr0
 have HC0 := Aside0.mk hc0
 clear hr0 hc0
 have HR1 := Aside0.mk hr1
 have HC1 := Aside0.mk hc1
 clear hr1 hc1
 have HB := Aside0.mk (Below.refl w.heap.size w)
 have H : (if (l0.length : Int) = (l1.length : Int) then (laws_eqBlockS.l0 k l0 l1 0) else (some false)) = some r := h
 clear h
 by_cases c3 : (l0.length : Int) = (l1.length : Int)
 ·rw [if_pos c3] at H
  have c3b0 : ((l0.length : Int) == (l1.length : Int)) = true := beq_iff_eq.mpr c3
  have c3b1 : ((l0.length : Int) != (l1.length : Int)) = false := bne_eq_false_iff_eq.mpr c3
  have c3b2 : (l0.length == l1.length) = true := by first | simpa using c3 | (simp at c3 ⊢; omega)
  clear c3
  have H' := Aside0.mk H
  clear H
  go_enter Try.func50, Try.ntmps50
  go_wp2
  go_loopg [5] k (fun kq v5 w' => ∃ (x5_1 : Int), v5 = .int .i64 x5_1 ∧ Aside0 (laws_eqBlockS.l0 kq l0 l1 x5_1 = some r) ∧ Aside0 (kq ≤ k) ∧ Aside0 (Below w.heap.size w w'))
  case atStart => exact ⟨(0), (by first | rfl | (simp; done) | (simp [*]; done)), H', ⟨Nat.le_refl _⟩, ⟨bw⟩⟩
  case round =>
   clear H'
   try clear c1
   try clear p2
   try clear c3
   try clear c3b0
   try clear c3b1
   try clear c3b2
   obtain ⟨x5_1, rfl, HA, HK1, HB⟩ := hrel
   cases gk with
   | zero => exact absurd HA.out (by simp [laws_eqBlockS.l0])
   | succ k1 =>
    have H := HA.out
    clear HA
    simp only [laws_eqBlockS.l0] at H
    by_cases c4 : x5_1 < (l0.length : Int)
    ·rw [if_pos c4] at H
     have c4b0 : decide (x5_1 < (l0.length : Int)) = true := decide_eq_true c4
     clear c4
     by_cases c5 : 0 ≤ x5_1
     ·rw [if_pos c5] at H
      have c5b0 : decide (0 ≤ x5_1) = true := decide_eq_true c5
      clear c5
      by_cases c6 : x5_1 < (l1.length : Int)
      ·rw [if_pos c6] at H
       have c6b0 : decide (x5_1 < (l1.length : Int)) = true := decide_eq_true c6
       clear c6
       replace H := Option.bind_eq_some_iff.mp H
       obtain ⟨t634, A70, H⟩ := H
       replace H : (if t634 = true then (laws_eqBlockS.l0 k1 l0 l1 (wrap64 (x5_1 + 1))) else (some false)) = some r := H
       have A7 := Aside0.mk A70
       clear A70
       by_cases c8 : t634 = true
       ·subst c8
        have H1 : (laws_eqBlockS.l0 k1 l0 l1 (wrap64 (x5_1 + 1))) = some r := by rw [if_pos rfl] at H; exact H
        clear H
        have H := H1
        clear H1
        have H' := Aside0.mk H
        clear H
        try go_wp2
        have n0_ := Aside0.mk (below_drew1 HB.out)
        clear HB
        have HB := n0_
        clear n0_
        have p632 : 0 ≤ (x5_1 : Int) := of_decide_eq_true (by first | (with_reducible assumption) | assumption)
        have q632 : x5_1 < (l0.length : Int) := of_decide_eq_true (by first | (with_reducible assumption) | assumption)
        obtain ⟨ad632, A632_0, c632_0, e632, hx632_0, hx632_1, hl632_0, hi632_0⟩ := at_T56 HR0.out x5_1 p632 q632
        have hw632_1 := hx632_1
        have hw632_0 := hx632_0
        cases e632
        replace hx632_0 := (HB.out.cell (World.block_lt_of_cell? w _ hx632_0)).trans hx632_0
        replace hx632_1 := (HB.out.cell (World.block_lt_of_cell? w _ hx632_1)).trans hx632_1
        have HR632_0 := Aside0.mk hi632_0
        have HC632_0 := Aside0.mk hl632_0
        clear hi632_0 hl632_0
        replace p632 := eq_true p632
        replace q632 := eq_true q632
        have p633 : 0 ≤ (x5_1 : Int) := of_decide_eq_true (by first | (with_reducible assumption) | assumption)
        have q633 : x5_1 < (l1.length : Int) := of_decide_eq_true (by first | (with_reducible assumption) | assumption)
        obtain ⟨ad633, A633_0, c633_0, e633, hx633_0, hx633_1, hl633_0, hi633_0⟩ := at_T56 HR1.out x5_1 p633 q633
        have hw633_1 := hx633_1
        have hw633_0 := hx633_0
        cases e633
        replace hx633_0 := (HB.out.cell (World.block_lt_of_cell? w _ hx633_0)).trans hx633_0
        replace hx633_1 := (HB.out.cell (World.block_lt_of_cell? w _ hx633_1)).trans hx633_1
        have HR633_0 := Aside0.mk hi633_0
        have HC633_0 := Aside0.mk hl633_0
        clear hi633_0 hl633_0
        replace p633 := eq_true p633
        replace q633 := eq_true q633
        refine start_ (n := 10) (S := fun w' => w'.cell? (ad632.add ((x5_1).toNat * 2)) = some (.slice A632_0 ((rd_T56 l0 x5_1).f0).length c632_0) ∧ w'.cell? ⟨(ad632.add ((x5_1).toNat * 2)).block, (ad632.add ((x5_1).toNat * 2)).off + 1, none⟩ = some (.int .i64 ((rd_T56 l0 x5_1).f1)) ∧ w'.cell? (ad633.add ((x5_1).toNat * 2)) = some (.slice A633_0 ((rd_T56 l1 x5_1).f0).length c633_0) ∧ w'.cell? ⟨(ad633.add ((x5_1).toNat * 2)).block, (ad633.add ((x5_1).toNat * 2)).off + 1, none⟩ = some (.int .i64 ((rd_T56 l1 x5_1).f1))) (ds := []) #[false, false, false, false, false, false, false, false, false, false] (by kernel_rfl) rfl rfl ⟨((HB.out.cell (World.block_lt_of_cell? w _ hw632_0)).trans hw632_0), ((HB.out.cell (World.block_lt_of_cell? w _ hw632_1)).trans hw632_1), ((HB.out.cell (World.block_lt_of_cell? w _ hw633_0)).trans hw633_0), ((HB.out.cell (World.block_lt_of_cell? w _ hw633_1)).trans hw633_1)⟩ (fun hHeld => ?_); refine with_tabW laws_eqBlockS.tab6 laws_eqBlockS.bits6 (fun HT_ HW_ => ?_)
        generalize wr.drew = w9 at HB HR632_0 HR633_0 hx632_0 hx632_1 hx633_0 hx633_1 hHeld ⊢
        refine pure_ (i := 0) (N := some 17) (v := ?_) (a' := ?_) #[true, false, false, false, false, false, false, false, false, false] rfl rfl (any_of HT_.out (by kernel_rfl)) (fun _ _ _ h => h) (Or.inl ⟨by rfl, ?_⟩) ?_ ?_
        rotate_left
        ·intro w'
         go_simp
         with_reducible rfl
        rotate_left
        ·simp only [Act.put, List.setIfInBounds_toArray, List.set_cons_zero, List.set_cons_succ, i64_w, i32_w]
         rfl
        refine pure_ (i := 1) (N := some 18) (v := ?_) (a' := ?_) #[true, true, false, false, false, false, false, false, false, false] rfl rfl (any_of HT_.out (by kernel_rfl)) (fun _ _ _ h => h) (Or.inl ⟨by rfl, ?_⟩) ?_ ?_
        rotate_left
        ·intro w'
         go_simp
         with_reducible rfl
        rotate_left
        ·simp only [Act.put, List.setIfInBounds_toArray, List.set_cons_zero, List.set_cons_succ, i64_w, i32_w]
         rfl
        refine pure_ (i := 2) (N := some 19) (v := ?_) (a' := ?_) #[true, true, true, false, false, false, false, false, false, false] rfl rfl (any_of HT_.out (by kernel_rfl)) (fun _ _ _ h => h) (Or.inl ⟨by rfl, ?_⟩) ?_ ?_
        rotate_left
        ·intro w'
         go_simp
         with_reducible rfl
        rotate_left
        ·simp only [Act.put, List.setIfInBounds_toArray, List.set_cons_zero, List.set_cons_succ, i64_w, i32_w]
         rfl
        refine pure_ (i := 4) (N := some 21) (v := ?_) (a' := ?_) #[true, true, true, false, true, false, false, false, false, false] rfl rfl (any_of HT_.out (by kernel_rfl)) (fun _ _ _ h => h) (Or.inl ⟨by rfl, ?_⟩) ?_ ?_
        rotate_left
        ·intro w'
         go_simp
         with_reducible rfl
        rotate_left
        ·simp only [Act.put, List.setIfInBounds_toArray, List.set_cons_zero, List.set_cons_succ, i64_w, i32_w]
         rfl
        refine pure_ (i := 5) (N := some 22) (v := ?_) (a' := ?_) #[true, true, true, false, true, true, false, false, false, false] rfl rfl (any_of HT_.out (by kernel_rfl)) (fun _ _ _ h => h) (Or.inl ⟨by rfl, ?_⟩) ?_ ?_
        rotate_left
        ·intro w'
         go_simp
         with_reducible rfl
        rotate_left
        ·simp only [Act.put, List.setIfInBounds_toArray, List.set_cons_zero, List.set_cons_succ, i64_w, i32_w]
         rfl
        refine pure_ (i := 6) (N := some 23) (v := ?_) (a' := ?_) #[true, true, true, false, true, true, true, false, false, false] rfl rfl (any_of HT_.out (by kernel_rfl)) (fun _ _ _ h => h) (Or.inl ⟨by rfl, ?_⟩) ?_ ?_
        rotate_left
        ·intro w'
         go_simp
         with_reducible rfl
        rotate_left
        ·simp only [Act.put, List.setIfInBounds_toArray, List.set_cons_zero, List.set_cons_succ, i64_w, i32_w]
         rfl
        refine take_ (i := 3) (N := some 20) (v := ?_) (a' := ?_) #[true, true, true, true, true, true, true, false, false, false] rfl rfl (take_ofW HT_.out HW_.out (by kernel_rfl)) (fun _ _ _ h => h) (Or.inl ⟨by rfl, ?_⟩) hHeld ?_ ?_
        rotate_left
        ·rintro w' ⟨s0, s1, s2, s3⟩
         go_simp
         with_reducible rfl
        rotate_left
        ·simp only [Act.put, List.setIfInBounds_toArray, List.set_cons_zero, List.set_cons_succ, i64_w, i32_w]
         rfl
        refine take_ (i := 7) (N := some 24) (v := ?_) (a' := ?_) #[true, true, true, true, true, true, true, true, false, false] rfl rfl (take_ofW HT_.out HW_.out (by kernel_rfl)) (fun _ _ _ h => h) (Or.inl ⟨by rfl, ?_⟩) hHeld ?_ ?_
        rotate_left
        ·rintro w' ⟨s0, s1, s2, s3⟩
         go_simp
         with_reducible rfl
        rotate_left
        ·simp only [Act.put, List.setIfInBounds_toArray, List.set_cons_zero, List.set_cons_succ, i64_w, i32_w]
         rfl
        refine one_ (i := 8) (N := some 25) #[true, true, true, true, true, true, true, true, true, false] rfl rfl (one_of HT_.out (by kernel_rfl)) (by decide) (fun K hK => ?_)
        refine goes_ Try.func51 (by kernel_rfl) rfl #[.agg #[.slice A632_0 ((rd_T56 l0 x5_1).f0).length c632_0, .int .i64 ((rd_T56 l0 x5_1).f1)], .agg #[.slice A633_0 ((rd_T56 l1 x5_1).f0).length c633_0, .int .i64 ((rd_T56 l1 x5_1).f1)]] (by rfl) rfl rfl (by (try simp only [List.map_toArray, List.map_cons, List.map_nil]); first | done | rfl | (simp only [List.length_drop, List.length_take]; rfl)) ?_
        with_reducible refine (laws_eqBlock.calls k1 _ _ ((rd_T56 l0 x5_1).f0) ((rd_T56 l0 x5_1).f1) _ _ ((rd_T56 l1 x5_1).f0) ((rd_T56 l1 x5_1).f1) true _ ?side1 ?side2 ?side3 ?side4 A7.out).mono ?_
        (case side1 => repeat (first | exact (Kd.C_below HR632_0.out HB.out) | (with_reducible refine Kd.C_alloc ?_ _) | (with_reducible refine Kd.C_drewN ?_ _) | (with_reducible refine Kd.C_drew ?_)))
        (case side2 => exact HC632_0.out)
        (case side3 => repeat (first | exact (Kd.C_below HR633_0.out HB.out) | (with_reducible refine Kd.C_alloc ?_ _) | (with_reducible refine Kd.C_drewN ?_ _) | (with_reducible refine Kd.C_drew ?_)))
        (case side4 => exact HC633_0.out)
        rintro e w10 ⟨rfl, hb⟩
        refine ⟨_, rfl, ?_⟩
        have n0_ := Aside0.mk (below_step bw hb)
        clear HB
        have HB := n0_
        clear n0_
        (try clear hb)
        (try clear hb2)
        (try clear hk)
        (try clear hi)
        refine hK.out _ _ ⟨((HB.out.cell (World.block_lt_of_cell? w _ hw632_0)).trans hw632_0), ((HB.out.cell (World.block_lt_of_cell? w _ hw632_1)).trans hw632_1), ((HB.out.cell (World.block_lt_of_cell? w _ hw633_0)).trans hw633_0), ((HB.out.cell (World.block_lt_of_cell? w _ hw633_1)).trans hw633_1)⟩ (fun hHeld => ?_)
        clear hK K
        refine norm_ (a' := ?_) ?_ ?_
        rotate_left
        ·show Act.put _ (some 25) _ = _
         simp only [Act.put, List.setIfInBounds_toArray, List.set_cons_zero, List.set_cons_succ, i64_w, i32_w]
         rfl
        refine pure_ (i := 9) (N := some 26) (v := ?_) (a' := ?_) #[true, true, true, true, true, true, true, true, true, true] rfl rfl (any_of HT_.out (by kernel_rfl)) (fun _ _ _ h => h) (Or.inl ⟨by rfl, ?_⟩) ?_ ?_
        rotate_left
        ·intro w'
         go_simp
         with_reducible rfl
        rotate_left
        ·simp only [Act.put, List.setIfInBounds_toArray, List.set_cons_zero, List.set_cons_succ, i64_w, i32_w]
         rfl
        refine done_ (done_of HT_.out (by kernel_rfl)) ?_
        try go_wp2
        go_roundg k1
        case measure => have := HK1.out; omega
        case rel => exact ⟨(wrap64 (x5_1 + 1)), (by first | rfl | (simp; done) | (simp [*]; done)), H', ⟨by have := HK1.out; omega⟩, ⟨bw⟩⟩
       ·replace c8 := Bool.eq_false_iff.mpr c8
        subst c8
        have H1 : (some false) = some r := by rw [if_neg (show ¬ (false = true) by decide)] at H; exact H
        clear H
        have H := H1
        clear H1
        obtain rfl := Option.some.inj H
        try go_wp2
        have n0_ := Aside0.mk (below_drew1 HB.out)
        clear HB
        have HB := n0_
        clear n0_
        have p632 : 0 ≤ (x5_1 : Int) := of_decide_eq_true (by first | (with_reducible assumption) | assumption)
        have q632 : x5_1 < (l0.length : Int) := of_decide_eq_true (by first | (with_reducible assumption) | assumption)
        obtain ⟨ad632, A632_0, c632_0, e632, hx632_0, hx632_1, hl632_0, hi632_0⟩ := at_T56 HR0.out x5_1 p632 q632
        have hw632_1 := hx632_1
        have hw632_0 := hx632_0
        cases e632
        replace hx632_0 := (HB.out.cell (World.block_lt_of_cell? w _ hx632_0)).trans hx632_0
        replace hx632_1 := (HB.out.cell (World.block_lt_of_cell? w _ hx632_1)).trans hx632_1
        have HR632_0 := Aside0.mk hi632_0
        have HC632_0 := Aside0.mk hl632_0
        clear hi632_0 hl632_0
        replace p632 := eq_true p632
        replace q632 := eq_true q632
        have p633 : 0 ≤ (x5_1 : Int) := of_decide_eq_true (by first | (with_reducible assumption) | assumption)
        have q633 : x5_1 < (l1.length : Int) := of_decide_eq_true (by first | (with_reducible assumption) | assumption)
        obtain ⟨ad633, A633_0, c633_0, e633, hx633_0, hx633_1, hl633_0, hi633_0⟩ := at_T56 HR1.out x5_1 p633 q633
        have hw633_1 := hx633_1
        have hw633_0 := hx633_0
        cases e633
        replace hx633_0 := (HB.out.cell (World.block_lt_of_cell? w _ hx633_0)).trans hx633_0
        replace hx633_1 := (HB.out.cell (World.block_lt_of_cell? w _ hx633_1)).trans hx633_1
        have HR633_0 := Aside0.mk hi633_0
        have HC633_0 := Aside0.mk hl633_0
        clear hi633_0 hl633_0
        replace p633 := eq_true p633
        replace q633 := eq_true q633
        refine start_ (n := 10) (S := fun w' => w'.cell? (ad632.add ((x5_1).toNat * 2)) = some (.slice A632_0 ((rd_T56 l0 x5_1).f0).length c632_0) ∧ w'.cell? ⟨(ad632.add ((x5_1).toNat * 2)).block, (ad632.add ((x5_1).toNat * 2)).off + 1, none⟩ = some (.int .i64 ((rd_T56 l0 x5_1).f1)) ∧ w'.cell? (ad633.add ((x5_1).toNat * 2)) = some (.slice A633_0 ((rd_T56 l1 x5_1).f0).length c633_0) ∧ w'.cell? ⟨(ad633.add ((x5_1).toNat * 2)).block, (ad633.add ((x5_1).toNat * 2)).off + 1, none⟩ = some (.int .i64 ((rd_T56 l1 x5_1).f1))) (ds := []) #[false, false, false, false, false, false, false, false, false, false] (by kernel_rfl) rfl rfl ⟨((HB.out.cell (World.block_lt_of_cell? w _ hw632_0)).trans hw632_0), ((HB.out.cell (World.block_lt_of_cell? w _ hw632_1)).trans hw632_1), ((HB.out.cell (World.block_lt_of_cell? w _ hw633_0)).trans hw633_0), ((HB.out.cell (World.block_lt_of_cell? w _ hw633_1)).trans hw633_1)⟩ (fun hHeld => ?_); refine with_tabW laws_eqBlockS.tab6 laws_eqBlockS.bits6 (fun HT_ HW_ => ?_)
        generalize wr.drew = w11 at HB HR632_0 HR633_0 hx632_0 hx632_1 hx633_0 hx633_1 hHeld ⊢
        refine pure_ (i := 0) (N := some 17) (v := ?_) (a' := ?_) #[true, false, false, false, false, false, false, false, false, false] rfl rfl (any_of HT_.out (by kernel_rfl)) (fun _ _ _ h => h) (Or.inl ⟨by rfl, ?_⟩) ?_ ?_
        rotate_left
        ·intro w'
         go_simp
         with_reducible rfl
        rotate_left
        ·simp only [Act.put, List.setIfInBounds_toArray, List.set_cons_zero, List.set_cons_succ, i64_w, i32_w]
         rfl
        refine pure_ (i := 1) (N := some 18) (v := ?_) (a' := ?_) #[true, true, false, false, false, false, false, false, false, false] rfl rfl (any_of HT_.out (by kernel_rfl)) (fun _ _ _ h => h) (Or.inl ⟨by rfl, ?_⟩) ?_ ?_
        rotate_left
        ·intro w'
         go_simp
         with_reducible rfl
        rotate_left
        ·simp only [Act.put, List.setIfInBounds_toArray, List.set_cons_zero, List.set_cons_succ, i64_w, i32_w]
         rfl
        refine pure_ (i := 2) (N := some 19) (v := ?_) (a' := ?_) #[true, true, true, false, false, false, false, false, false, false] rfl rfl (any_of HT_.out (by kernel_rfl)) (fun _ _ _ h => h) (Or.inl ⟨by rfl, ?_⟩) ?_ ?_
        rotate_left
        ·intro w'
         go_simp
         with_reducible rfl
        rotate_left
        ·simp only [Act.put, List.setIfInBounds_toArray, List.set_cons_zero, List.set_cons_succ, i64_w, i32_w]
         rfl
        refine pure_ (i := 4) (N := some 21) (v := ?_) (a' := ?_) #[true, true, true, false, true, false, false, false, false, false] rfl rfl (any_of HT_.out (by kernel_rfl)) (fun _ _ _ h => h) (Or.inl ⟨by rfl, ?_⟩) ?_ ?_
        rotate_left
        ·intro w'
         go_simp
         with_reducible rfl
        rotate_left
        ·simp only [Act.put, List.setIfInBounds_toArray, List.set_cons_zero, List.set_cons_succ, i64_w, i32_w]
         rfl
        refine pure_ (i := 5) (N := some 22) (v := ?_) (a' := ?_) #[true, true, true, false, true, true, false, false, false, false] rfl rfl (any_of HT_.out (by kernel_rfl)) (fun _ _ _ h => h) (Or.inl ⟨by rfl, ?_⟩) ?_ ?_
        rotate_left
        ·intro w'
         go_simp
         with_reducible rfl
        rotate_left
        ·simp only [Act.put, List.setIfInBounds_toArray, List.set_cons_zero, List.set_cons_succ, i64_w, i32_w]
         rfl
        refine pure_ (i := 6) (N := some 23) (v := ?_) (a' := ?_) #[true, true, true, false, true, true, true, false, false, false] rfl rfl (any_of HT_.out (by kernel_rfl)) (fun _ _ _ h => h) (Or.inl ⟨by rfl, ?_⟩) ?_ ?_
        rotate_left
        ·intro w'
         go_simp
         with_reducible rfl
        rotate_left
        ·simp only [Act.put, List.setIfInBounds_toArray, List.set_cons_zero, List.set_cons_succ, i64_w, i32_w]
         rfl
        refine take_ (i := 3) (N := some 20) (v := ?_) (a' := ?_) #[true, true, true, true, true, true, true, false, false, false] rfl rfl (take_ofW HT_.out HW_.out (by kernel_rfl)) (fun _ _ _ h => h) (Or.inl ⟨by rfl, ?_⟩) hHeld ?_ ?_
        rotate_left
        ·rintro w' ⟨s0, s1, s2, s3⟩
         go_simp
         with_reducible rfl
        rotate_left
        ·simp only [Act.put, List.setIfInBounds_toArray, List.set_cons_zero, List.set_cons_succ, i64_w, i32_w]
         rfl
        refine take_ (i := 7) (N := some 24) (v := ?_) (a' := ?_) #[true, true, true, true, true, true, true, true, false, false] rfl rfl (take_ofW HT_.out HW_.out (by kernel_rfl)) (fun _ _ _ h => h) (Or.inl ⟨by rfl, ?_⟩) hHeld ?_ ?_
        rotate_left
        ·rintro w' ⟨s0, s1, s2, s3⟩
         go_simp
         with_reducible rfl
        rotate_left
        ·simp only [Act.put, List.setIfInBounds_toArray, List.set_cons_zero, List.set_cons_succ, i64_w, i32_w]
         rfl
        refine one_ (i := 8) (N := some 25) #[true, true, true, true, true, true, true, true, true, false] rfl rfl (one_of HT_.out (by kernel_rfl)) (by decide) (fun K hK => ?_)
        refine goes_ Try.func51 (by kernel_rfl) rfl #[.agg #[.slice A632_0 ((rd_T56 l0 x5_1).f0).length c632_0, .int .i64 ((rd_T56 l0 x5_1).f1)], .agg #[.slice A633_0 ((rd_T56 l1 x5_1).f0).length c633_0, .int .i64 ((rd_T56 l1 x5_1).f1)]] (by rfl) rfl rfl (by (try simp only [List.map_toArray, List.map_cons, List.map_nil]); first | done | rfl | (simp only [List.length_drop, List.length_take]; rfl)) ?_
        with_reducible refine (laws_eqBlock.calls k1 _ _ ((rd_T56 l0 x5_1).f0) ((rd_T56 l0 x5_1).f1) _ _ ((rd_T56 l1 x5_1).f0) ((rd_T56 l1 x5_1).f1) false _ ?side1 ?side2 ?side3 ?side4 A7.out).mono ?_
        (case side1 => repeat (first | exact (Kd.C_below HR632_0.out HB.out) | (with_reducible refine Kd.C_alloc ?_ _) | (with_reducible refine Kd.C_drewN ?_ _) | (with_reducible refine Kd.C_drew ?_)))
        (case side2 => exact HC632_0.out)
        (case side3 => repeat (first | exact (Kd.C_below HR633_0.out HB.out) | (with_reducible refine Kd.C_alloc ?_ _) | (with_reducible refine Kd.C_drewN ?_ _) | (with_reducible refine Kd.C_drew ?_)))
        (case side4 => exact HC633_0.out)
        rintro e w12 ⟨rfl, hb⟩
        refine ⟨_, rfl, ?_⟩
        have n0_ := Aside0.mk (below_step bw hb)
        clear HB
        have HB := n0_
        clear n0_
        (try clear hb)
        (try clear hb2)
        (try clear hk)
        (try clear hi)
        refine hK.out _ _ ⟨((HB.out.cell (World.block_lt_of_cell? w _ hw632_0)).trans hw632_0), ((HB.out.cell (World.block_lt_of_cell? w _ hw632_1)).trans hw632_1), ((HB.out.cell (World.block_lt_of_cell? w _ hw633_0)).trans hw633_0), ((HB.out.cell (World.block_lt_of_cell? w _ hw633_1)).trans hw633_1)⟩ (fun hHeld => ?_)
        clear hK K
        refine norm_ (a' := ?_) ?_ ?_
        rotate_left
        ·show Act.put _ (some 25) _ = _
         simp only [Act.put, List.setIfInBounds_toArray, List.set_cons_zero, List.set_cons_succ, i64_w, i32_w]
         rfl
        refine pure_ (i := 9) (N := some 26) (v := ?_) (a' := ?_) #[true, true, true, true, true, true, true, true, true, true] rfl rfl (any_of HT_.out (by kernel_rfl)) (fun _ _ _ h => h) (Or.inl ⟨by rfl, ?_⟩) ?_ ?_
        rotate_left
        ·intro w'
         go_simp
         with_reducible rfl
        rotate_left
        ·simp only [Act.put, List.setIfInBounds_toArray, List.set_cons_zero, List.set_cons_succ, i64_w, i32_w]
         rfl
        refine done_ (done_of HT_.out (by kernel_rfl)) ?_
        try go_wp2
        go_ret
        exact ⟨by first | rfl | (simp [errW_none, errW_some] <;> rfl) | (simp [*, errW_none, errW_some] <;> rfl), bw⟩
      ·rw [if_neg c6] at H
       exact absurd H (by simp)
     ·rw [if_neg c5] at H
      exact absurd H (by simp)
    ·rw [if_neg c4] at H
     have c4b0 : decide (x5_1 < (l0.length : Int)) = false := decide_eq_false c4
     clear c4
     obtain rfl := Option.some.inj H
     go_wp2
     go_ret
     exact ⟨by first | rfl | (simp [errW_none, errW_some] <;> rfl) | (simp [*, errW_none, errW_some] <;> rfl), bw⟩
 ·rw [if_neg c3] at H
  have c3b0 : ((l0.length : Int) == (l1.length : Int)) = false := beq_eq_false_iff_ne.mpr c3
  have c3b1 : ((l0.length : Int) != (l1.length : Int)) = true := bne_iff_ne.mpr c3
  have c3b2 : (l0.length == l1.length) = false := by first | simpa using c3 | (simp at c3 ⊢; omega)
  obtain rfl := Option.some.inj H
  go_enter Try.func50, Try.ntmps50
  go_wp2
  go_ret
  exact ⟨by first | rfl | (simp [errW_none, errW_some] <;> rfl) | (simp [*, errW_none, errW_some] <;> rfl), bw⟩

end Go.Proofs.Ytcfbbbilonignaa.Q

namespace Go.Proofs.Ytcfbbbilonignaa.Q
open Go.RowKit Go.Proofs.YtcfbbbilonignaaW.PrintWords Go.Proofs.YtcfbbbilonignaaW.PrintLast Go.Proofs.YtcfbbbilonignaaW.PrintMore
set_option linter.unusedVariables false
set_option linter.unusedSimpArgs false

/-! ### laws_eqCode: function 22 -/
def laws_eqCode.f (k : Nat) (l0_0 : List (S56)) (l0_1 : List (S138)) (a0_2 : Int) (l1_0 : List (S56)) (l1_1 : List (S138)) (a1_2 : Int) : Option (Bool) := (laws_eqBlockS.f k l0_0 l1_0).bind fun t637 => (if t637 = true then ((laws_eqBlock.f k l0_1 a0_2 l1_1 a1_2).bind fun t638 => (if t638 = true then (some true) else (some false))) else (some false))
set_option maxHeartbeats 8000000 in
set_option maxRecDepth 100000 in
theorem laws_eqCode.calls (k : Nat) (A0_0 : Option Addr) (c0_0 : Nat) (l0_0 : List (S56)) (A0_1 : Option Addr) (c0_1 : Nat) (l0_1 : List (S138)) (a0_2 : Int) (A1_0 : Option Addr) (c1_0 : Nat) (l1_0 : List (S56)) (A1_1 : Option Addr) (c1_1 : Nat) (l1_1 : List (S138)) (a1_2 : Int) (r : Bool) (w : World) (hr0_0 : Kd.C k56 w A0_0 l0_0.length l0_0) (hc0_0 : l0_0.length ≤ c0_0) (hr0_1 : Kd.C k138 w A0_1 l0_1.length l0_1) (hc0_1 : l0_1.length ≤ c0_1) (hr1_0 : Kd.C k56 w A1_0 l1_0.length l1_0) (hc1_0 : l1_0.length ≤ c1_0) (hr1_1 : Kd.C k138 w A1_1 l1_1.length l1_1) (hc1_1 : l1_1.length ≤ c1_1) (h : laws_eqCode.f k l0_0 l0_1 a0_2 l1_0 l1_1 a1_2 = some r) :
  Calls Try.prog 22 #[.agg #[.slice A0_0 l0_0.length c0_0, .slice A0_1 l0_1.length c0_1, .int .i64 a0_2], .agg #[.slice A1_0 l1_0.length c1_0, .slice A1_1 l1_1.length c1_1, .int .i64 a1_2]] w fun e w' => e = .returned (.bool r) ∧ Below w.heap.size w w' := by
 have hu58 := Try.underlying58
 have hu56 := Try.underlying56
 have HR0_0 := Aside0.mk hr0_0
 have HC0_0 := Aside0.mk hc0_0
 clear hr0_0 hc0_0
 have HR0_1 := Aside0.mk hr0_1
 have HC0_1 := Aside0.mk hc0_1
 clear hr0_1 hc0_1
 have HR1_0 := Aside0.mk hr1_0
 have HC1_0 := Aside0.mk hc1_0
 clear hr1_0 hc1_0
 have HR1_1 := Aside0.mk hr1_1
 have HC1_1 := Aside0.mk hc1_1
 clear hr1_1 hc1_1
 have HB := Aside0.mk (Below.refl w.heap.size w)
 have H : ((laws_eqBlockS.f k l0_0 l1_0).bind fun t637 => (if t637 = true then ((laws_eqBlock.f k l0_1 a0_2 l1_1 a1_2).bind fun t638 => (if t638 = true then (some true) else (some false))) else (some false))) = some r := h
 clear h
 replace H := Option.bind_eq_some_iff.mp H
 obtain ⟨t637, A30, H⟩ := H
 replace H : (if t637 = true then ((laws_eqBlock.f k l0_1 a0_2 l1_1 a1_2).bind fun t638 => (if t638 = true then (some true) else (some false))) else (some false)) = some r := H
 have A3 := Aside0.mk A30
 clear A30
 by_cases c4 : t637 = true
 ·subst c4
  have H1 : ((laws_eqBlock.f k l0_1 a0_2 l1_1 a1_2).bind fun t638 => (if t638 = true then (some true) else (some false))) = some r := by rw [if_pos rfl] at H; exact H
  clear H
  have H := H1
  clear H1
  replace H := Option.bind_eq_some_iff.mp H
  obtain ⟨t638, A50, H⟩ := H
  replace H : (if t638 = true then (some true) else (some false)) = some r := H
  have A5 := Aside0.mk A50
  clear A50
  by_cases c6 : t638 = true
  ·subst c6
   have H1 : (some true) = some r := by rw [if_pos rfl] at H; exact H
   clear H
   have H := H1
   clear H1
   obtain rfl := Option.some.inj H
   go_enter Try.func22, Try.ntmps22
   go_wp2_with (first | ((with_reducible refine gate_dst (N := 2) rfl ?_); refine box_event ?hg (N := 2) ?hd (cs := #[.slice A0_0 l0_0.length c0_0, .slice A0_1 l0_1.length c0_1, .int .i64 a0_2]) (t := 58) ?hr ?_; (case hd => rfl); (case hg => rfl); (case hr => first | (go_simp; done) | (go_simp; rfl)); intro gb635 hg w7 hbox hb; have n0_ := Aside0.mk (below_step bw hb); have n1_ := Aside0.mk (hbox); have n2_ := Aside0.mk ((by rw [hg]; exact (below_size bw) : w.heap.size ≤ gb635)); have n3_ := Aside0.mk ((by rw [hg]; exact (below_size bw) : w.heap.size ≤ gb635)); clear HB; have HB := n0_; have BK635 := n1_; have GW635 := n2_; have GE635 := n3_; clear n0_ n1_ n2_ n3_; clear hb hbox hg) | ((with_reducible refine gate_dst (N := 3) rfl ?_); refine box_event ?hg (N := 3) ?hd (cs := #[.slice A1_0 l1_0.length c1_0, .slice A1_1 l1_1.length c1_1, .int .i64 a1_2]) (t := 58) ?hr ?_; (case hd => rfl); (case hg => rfl); (case hr => first | (go_simp; done) | (go_simp; rfl)); intro gb636 hg w8 hbox hb; have n0_ := Aside0.mk (blk_below (g := gb635) (o := .cells #[.slice A0_0 l0_0.length c0_0, .slice A0_1 l0_1.length c0_1, .int .i64 a0_2] 58 (0, 0)) (lb BK635) hb); have n1_ := Aside0.mk (below_step bw hb); have n2_ := Aside0.mk (hbox); have n3_ := Aside0.mk ((by rw [hg]; exact (below_size bw) : w.heap.size ≤ gb636)); have n4_ := Aside0.mk ((by rw [hg]; exact (below_size bw) : w.heap.size ≤ gb636)); have n5_ := Aside0.mk ((by rw [hg]; exact Nat.ne_of_lt (blk_lt (g := gb635) (o := .cells #[.slice A0_0 l0_0.length c0_0, .slice A0_1 l0_1.length c0_1, .int .i64 a0_2] 58 (0, 0)) (lb BK635)) : gb635 ≠ gb636)); have n6_ := Aside0.mk ((by rw [hg]; exact Nat.ne_of_gt (blk_lt (g := gb635) (o := .cells #[.slice A0_0 l0_0.length c0_0, .slice A0_1 l0_1.length c0_1, .int .i64 a0_2] 58 (0, 0)) (lb BK635)) : gb636 ≠ gb635)); clear BK635; clear HB; have BK635 := n0_; have HB := n1_; have BK636 := n2_; have GW636 := n3_; have GE636 := n4_; have NB635_636 := n5_; have NB636_635 := n6_; clear n0_ n1_ n2_ n3_ n4_ n5_ n6_; clear hb hbox hg; have hnb9 := NB635_636.out; have hnc9 := NB636_635.out; have hcz10_0 : w8.cell? ⟨gb635, 0, none⟩ = some (.slice A0_0 l0_0.length c0_0) := (blk_cell BK635.out 0).trans rfl; have hcz10_1 : w8.cell? ⟨gb635, 1, none⟩ = some (.slice A0_1 l0_1.length c0_1) := (blk_cell BK635.out 1).trans rfl; have hcz10_2 : w8.cell? ⟨gb635, 2, none⟩ = some (.int .i64 a0_2) := (blk_cell BK635.out 2).trans rfl; have hfz10_0 := blk_frozen BK635.out 0; have hfz10_1 := blk_frozen BK635.out 1; have hfz10_2 := blk_frozen BK635.out 2; have hcz11_0 : w8.cell? ⟨gb636, 0, none⟩ = some (.slice A1_0 l1_0.length c1_0) := (blk_cell BK636.out 0).trans rfl; have hcz11_1 : w8.cell? ⟨gb636, 1, none⟩ = some (.slice A1_1 l1_1.length c1_1) := (blk_cell BK636.out 1).trans rfl; have hcz11_2 : w8.cell? ⟨gb636, 2, none⟩ = some (.int .i64 a1_2) := (blk_cell BK636.out 2).trans rfl; have hfz11_0 := blk_frozen BK636.out 0; have hfz11_1 := blk_frozen BK636.out 1; have hfz11_2 := blk_frozen BK636.out 2) | ((with_reducible refine at_fn (f := 50) rfl ?_); refine goesL_ (some 9) rfl rfl Try.func50 (by kernel_rfl) rfl #[.slice A0_0 l0_0.length c0_0, .slice A1_0 l1_0.length c1_0] rfl (by (try simp only [List.map_toArray, List.map_cons, List.map_nil]); first | done | rfl | (simp only [List.length_drop, List.length_take]; rfl)) ?_; (with_reducible refine (laws_eqBlockS.calls k _ _ l0_0 _ _ l1_0 true _ ?side1 ?side2 ?side3 ?side4 A3.out).mono ?_); (case side1 => repeat (first | exact (Kd.C_below HR0_0.out HB.out) | (with_reducible refine Kd.C_alloc ?_ _) | (with_reducible refine Kd.C_drewN ?_ _) | (with_reducible refine Kd.C_drew ?_))); (case side2 => exact HC0_0.out); (case side3 => repeat (first | exact (Kd.C_below HR1_0.out HB.out) | (with_reducible refine Kd.C_alloc ?_ _) | (with_reducible refine Kd.C_drewN ?_ _) | (with_reducible refine Kd.C_drew ?_))); (case side4 => exact HC1_0.out); rintro e w12 ⟨rfl, hb⟩; refine ⟨_, rfl, ?_⟩; have n0_ := Aside0.mk (blk_below (g := gb635) (o := .cells #[.slice A0_0 l0_0.length c0_0, .slice A0_1 l0_1.length c0_1, .int .i64 a0_2] 58 (0, 0)) (lb BK635) hb); have n1_ := Aside0.mk (blk_below (g := gb636) (o := .cells #[.slice A1_0 l1_0.length c1_0, .slice A1_1 l1_1.length c1_1, .int .i64 a1_2] 58 (0, 0)) (lb BK636) hb); have n2_ := Aside0.mk (below_step bw hb); clear BK635; clear BK636; clear HB; have BK635 := n0_; have BK636 := n1_; have HB := n2_; clear n0_ n1_ n2_; (try clear hb); (try clear hb2); (try clear hk); (try clear hi); have hcz13_0 : w12.cell? ⟨gb635, 0, none⟩ = some (.slice A0_0 l0_0.length c0_0) := (blk_cell BK635.out 0).trans rfl; have hcz13_1 : w12.cell? ⟨gb635, 1, none⟩ = some (.slice A0_1 l0_1.length c0_1) := (blk_cell BK635.out 1).trans rfl; have hcz13_2 : w12.cell? ⟨gb635, 2, none⟩ = some (.int .i64 a0_2) := (blk_cell BK635.out 2).trans rfl; have hfz13_0 := blk_frozen BK635.out 0; have hfz13_1 := blk_frozen BK635.out 1; have hfz13_2 := blk_frozen BK635.out 2; have hcz14_0 : w12.cell? ⟨gb636, 0, none⟩ = some (.slice A1_0 l1_0.length c1_0) := (blk_cell BK636.out 0).trans rfl; have hcz14_1 : w12.cell? ⟨gb636, 1, none⟩ = some (.slice A1_1 l1_1.length c1_1) := (blk_cell BK636.out 1).trans rfl; have hcz14_2 : w12.cell? ⟨gb636, 2, none⟩ = some (.int .i64 a1_2) := (blk_cell BK636.out 2).trans rfl; have hfz14_0 := blk_frozen BK636.out 0; have hfz14_1 := blk_frozen BK636.out 1; have hfz14_2 := blk_frozen BK636.out 2) | ((with_reducible refine at_fn (f := 51) rfl ?_); refine goesL_ (some 15) rfl rfl Try.func51 (by kernel_rfl) rfl #[.agg #[.slice A0_1 l0_1.length c0_1, .int .i64 a0_2], .agg #[.slice A1_1 l1_1.length c1_1, .int .i64 a1_2]] rfl (by (try simp only [List.map_toArray, List.map_cons, List.map_nil]); first | done | rfl | (simp only [List.length_drop, List.length_take]; rfl)) ?_; (with_reducible refine (laws_eqBlock.calls k _ _ l0_1 a0_2 _ _ l1_1 a1_2 true _ ?side1 ?side2 ?side3 ?side4 A5.out).mono ?_); (case side1 => repeat (first | exact (Kd.C_below HR0_1.out HB.out) | (with_reducible refine Kd.C_alloc ?_ _) | (with_reducible refine Kd.C_drewN ?_ _) | (with_reducible refine Kd.C_drew ?_))); (case side2 => exact HC0_1.out); (case side3 => repeat (first | exact (Kd.C_below HR1_1.out HB.out) | (with_reducible refine Kd.C_alloc ?_ _) | (with_reducible refine Kd.C_drewN ?_ _) | (with_reducible refine Kd.C_drew ?_))); (case side4 => exact HC1_1.out); rintro e w15 ⟨rfl, hb⟩; refine ⟨_, rfl, ?_⟩; have n0_ := Aside0.mk (blk_below (g := gb635) (o := .cells #[.slice A0_0 l0_0.length c0_0, .slice A0_1 l0_1.length c0_1, .int .i64 a0_2] 58 (0, 0)) (lb BK635) hb); have n1_ := Aside0.mk (blk_below (g := gb636) (o := .cells #[.slice A1_0 l1_0.length c1_0, .slice A1_1 l1_1.length c1_1, .int .i64 a1_2] 58 (0, 0)) (lb BK636) hb); have n2_ := Aside0.mk (below_step bw hb); clear BK635; clear BK636; clear HB; have BK635 := n0_; have BK636 := n1_; have HB := n2_; clear n0_ n1_ n2_; (try clear hb); (try clear hb2); (try clear hk); (try clear hi)))
   go_ret
   exact ⟨by first | rfl | (simp [errW_none, errW_some] <;> rfl) | (simp [*, errW_none, errW_some] <;> rfl), bw⟩
  ·replace c6 := Bool.eq_false_iff.mpr c6
   subst c6
   have H1 : (some false) = some r := by rw [if_neg (show ¬ (false = true) by decide)] at H; exact H
   clear H
   have H := H1
   clear H1
   obtain rfl := Option.some.inj H
   go_enter Try.func22, Try.ntmps22
   go_wp2_with (first | ((with_reducible refine gate_dst (N := 2) rfl ?_); refine box_event ?hg (N := 2) ?hd (cs := #[.slice A0_0 l0_0.length c0_0, .slice A0_1 l0_1.length c0_1, .int .i64 a0_2]) (t := 58) ?hr ?_; (case hd => rfl); (case hg => rfl); (case hr => first | (go_simp; done) | (go_simp; rfl)); intro gb635 hg w16 hbox hb; have n0_ := Aside0.mk (below_step bw hb); have n1_ := Aside0.mk (hbox); have n2_ := Aside0.mk ((by rw [hg]; exact (below_size bw) : w.heap.size ≤ gb635)); have n3_ := Aside0.mk ((by rw [hg]; exact (below_size bw) : w.heap.size ≤ gb635)); clear HB; have HB := n0_; have BK635 := n1_; have GW635 := n2_; have GE635 := n3_; clear n0_ n1_ n2_ n3_; clear hb hbox hg) | ((with_reducible refine gate_dst (N := 3) rfl ?_); refine box_event ?hg (N := 3) ?hd (cs := #[.slice A1_0 l1_0.length c1_0, .slice A1_1 l1_1.length c1_1, .int .i64 a1_2]) (t := 58) ?hr ?_; (case hd => rfl); (case hg => rfl); (case hr => first | (go_simp; done) | (go_simp; rfl)); intro gb636 hg w17 hbox hb; have n0_ := Aside0.mk (blk_below (g := gb635) (o := .cells #[.slice A0_0 l0_0.length c0_0, .slice A0_1 l0_1.length c0_1, .int .i64 a0_2] 58 (0, 0)) (lb BK635) hb); have n1_ := Aside0.mk (below_step bw hb); have n2_ := Aside0.mk (hbox); have n3_ := Aside0.mk ((by rw [hg]; exact (below_size bw) : w.heap.size ≤ gb636)); have n4_ := Aside0.mk ((by rw [hg]; exact (below_size bw) : w.heap.size ≤ gb636)); have n5_ := Aside0.mk ((by rw [hg]; exact Nat.ne_of_lt (blk_lt (g := gb635) (o := .cells #[.slice A0_0 l0_0.length c0_0, .slice A0_1 l0_1.length c0_1, .int .i64 a0_2] 58 (0, 0)) (lb BK635)) : gb635 ≠ gb636)); have n6_ := Aside0.mk ((by rw [hg]; exact Nat.ne_of_gt (blk_lt (g := gb635) (o := .cells #[.slice A0_0 l0_0.length c0_0, .slice A0_1 l0_1.length c0_1, .int .i64 a0_2] 58 (0, 0)) (lb BK635)) : gb636 ≠ gb635)); clear BK635; clear HB; have BK635 := n0_; have HB := n1_; have BK636 := n2_; have GW636 := n3_; have GE636 := n4_; have NB635_636 := n5_; have NB636_635 := n6_; clear n0_ n1_ n2_ n3_ n4_ n5_ n6_; clear hb hbox hg; have hnb18 := NB635_636.out; have hnc18 := NB636_635.out; have hcz19_0 : w17.cell? ⟨gb635, 0, none⟩ = some (.slice A0_0 l0_0.length c0_0) := (blk_cell BK635.out 0).trans rfl; have hcz19_1 : w17.cell? ⟨gb635, 1, none⟩ = some (.slice A0_1 l0_1.length c0_1) := (blk_cell BK635.out 1).trans rfl; have hcz19_2 : w17.cell? ⟨gb635, 2, none⟩ = some (.int .i64 a0_2) := (blk_cell BK635.out 2).trans rfl; have hfz19_0 := blk_frozen BK635.out 0; have hfz19_1 := blk_frozen BK635.out 1; have hfz19_2 := blk_frozen BK635.out 2; have hcz20_0 : w17.cell? ⟨gb636, 0, none⟩ = some (.slice A1_0 l1_0.length c1_0) := (blk_cell BK636.out 0).trans rfl; have hcz20_1 : w17.cell? ⟨gb636, 1, none⟩ = some (.slice A1_1 l1_1.length c1_1) := (blk_cell BK636.out 1).trans rfl; have hcz20_2 : w17.cell? ⟨gb636, 2, none⟩ = some (.int .i64 a1_2) := (blk_cell BK636.out 2).trans rfl; have hfz20_0 := blk_frozen BK636.out 0; have hfz20_1 := blk_frozen BK636.out 1; have hfz20_2 := blk_frozen BK636.out 2) | ((with_reducible refine at_fn (f := 50) rfl ?_); refine goesL_ (some 9) rfl rfl Try.func50 (by kernel_rfl) rfl #[.slice A0_0 l0_0.length c0_0, .slice A1_0 l1_0.length c1_0] rfl (by (try simp only [List.map_toArray, List.map_cons, List.map_nil]); first | done | rfl | (simp only [List.length_drop, List.length_take]; rfl)) ?_; (with_reducible refine (laws_eqBlockS.calls k _ _ l0_0 _ _ l1_0 true _ ?side1 ?side2 ?side3 ?side4 A3.out).mono ?_); (case side1 => repeat (first | exact (Kd.C_below HR0_0.out HB.out) | (with_reducible refine Kd.C_alloc ?_ _) | (with_reducible refine Kd.C_drewN ?_ _) | (with_reducible refine Kd.C_drew ?_))); (case side2 => exact HC0_0.out); (case side3 => repeat (first | exact (Kd.C_below HR1_0.out HB.out) | (with_reducible refine Kd.C_alloc ?_ _) | (with_reducible refine Kd.C_drewN ?_ _) | (with_reducible refine Kd.C_drew ?_))); (case side4 => exact HC1_0.out); rintro e w21 ⟨rfl, hb⟩; refine ⟨_, rfl, ?_⟩; have n0_ := Aside0.mk (blk_below (g := gb635) (o := .cells #[.slice A0_0 l0_0.length c0_0, .slice A0_1 l0_1.length c0_1, .int .i64 a0_2] 58 (0, 0)) (lb BK635) hb); have n1_ := Aside0.mk (blk_below (g := gb636) (o := .cells #[.slice A1_0 l1_0.length c1_0, .slice A1_1 l1_1.length c1_1, .int .i64 a1_2] 58 (0, 0)) (lb BK636) hb); have n2_ := Aside0.mk (below_step bw hb); clear BK635; clear BK636; clear HB; have BK635 := n0_; have BK636 := n1_; have HB := n2_; clear n0_ n1_ n2_; (try clear hb); (try clear hb2); (try clear hk); (try clear hi); have hcz22_0 : w21.cell? ⟨gb635, 0, none⟩ = some (.slice A0_0 l0_0.length c0_0) := (blk_cell BK635.out 0).trans rfl; have hcz22_1 : w21.cell? ⟨gb635, 1, none⟩ = some (.slice A0_1 l0_1.length c0_1) := (blk_cell BK635.out 1).trans rfl; have hcz22_2 : w21.cell? ⟨gb635, 2, none⟩ = some (.int .i64 a0_2) := (blk_cell BK635.out 2).trans rfl; have hfz22_0 := blk_frozen BK635.out 0; have hfz22_1 := blk_frozen BK635.out 1; have hfz22_2 := blk_frozen BK635.out 2; have hcz23_0 : w21.cell? ⟨gb636, 0, none⟩ = some (.slice A1_0 l1_0.length c1_0) := (blk_cell BK636.out 0).trans rfl; have hcz23_1 : w21.cell? ⟨gb636, 1, none⟩ = some (.slice A1_1 l1_1.length c1_1) := (blk_cell BK636.out 1).trans rfl; have hcz23_2 : w21.cell? ⟨gb636, 2, none⟩ = some (.int .i64 a1_2) := (blk_cell BK636.out 2).trans rfl; have hfz23_0 := blk_frozen BK636.out 0; have hfz23_1 := blk_frozen BK636.out 1; have hfz23_2 := blk_frozen BK636.out 2) | ((with_reducible refine at_fn (f := 51) rfl ?_); refine goesL_ (some 15) rfl rfl Try.func51 (by kernel_rfl) rfl #[.agg #[.slice A0_1 l0_1.length c0_1, .int .i64 a0_2], .agg #[.slice A1_1 l1_1.length c1_1, .int .i64 a1_2]] rfl (by (try simp only [List.map_toArray, List.map_cons, List.map_nil]); first | done | rfl | (simp only [List.length_drop, List.length_take]; rfl)) ?_; (with_reducible refine (laws_eqBlock.calls k _ _ l0_1 a0_2 _ _ l1_1 a1_2 false _ ?side1 ?side2 ?side3 ?side4 A5.out).mono ?_); (case side1 => repeat (first | exact (Kd.C_below HR0_1.out HB.out) | (with_reducible refine Kd.C_alloc ?_ _) | (with_reducible refine Kd.C_drewN ?_ _) | (with_reducible refine Kd.C_drew ?_))); (case side2 => exact HC0_1.out); (case side3 => repeat (first | exact (Kd.C_below HR1_1.out HB.out) | (with_reducible refine Kd.C_alloc ?_ _) | (with_reducible refine Kd.C_drewN ?_ _) | (with_reducible refine Kd.C_drew ?_))); (case side4 => exact HC1_1.out); rintro e w24 ⟨rfl, hb⟩; refine ⟨_, rfl, ?_⟩; have n0_ := Aside0.mk (blk_below (g := gb635) (o := .cells #[.slice A0_0 l0_0.length c0_0, .slice A0_1 l0_1.length c0_1, .int .i64 a0_2] 58 (0, 0)) (lb BK635) hb); have n1_ := Aside0.mk (blk_below (g := gb636) (o := .cells #[.slice A1_0 l1_0.length c1_0, .slice A1_1 l1_1.length c1_1, .int .i64 a1_2] 58 (0, 0)) (lb BK636) hb); have n2_ := Aside0.mk (below_step bw hb); clear BK635; clear BK636; clear HB; have BK635 := n0_; have BK636 := n1_; have HB := n2_; clear n0_ n1_ n2_; (try clear hb); (try clear hb2); (try clear hk); (try clear hi)))
   go_ret
   exact ⟨by first | rfl | (simp [errW_none, errW_some] <;> rfl) | (simp [*, errW_none, errW_some] <;> rfl), bw⟩
 ·replace c4 := Bool.eq_false_iff.mpr c4
  subst c4
  have H1 : (some false) = some r := by rw [if_neg (show ¬ (false = true) by decide)] at H; exact H
  clear H
  have H := H1
  clear H1
  obtain rfl := Option.some.inj H
  go_enter Try.func22, Try.ntmps22
  go_wp2_with (first | ((with_reducible refine gate_dst (N := 2) rfl ?_); refine box_event ?hg (N := 2) ?hd (cs := #[.slice A0_0 l0_0.length c0_0, .slice A0_1 l0_1.length c0_1, .int .i64 a0_2]) (t := 58) ?hr ?_; (case hd => rfl); (case hg => rfl); (case hr => first | (go_simp; done) | (go_simp; rfl)); intro gb635 hg w25 hbox hb; have n0_ := Aside0.mk (below_step bw hb); have n1_ := Aside0.mk (hbox); have n2_ := Aside0.mk ((by rw [hg]; exact (below_size bw) : w.heap.size ≤ gb635)); have n3_ := Aside0.mk ((by rw [hg]; exact (below_size bw) : w.heap.size ≤ gb635)); clear HB; have HB := n0_; have BK635 := n1_; have GW635 := n2_; have GE635 := n3_; clear n0_ n1_ n2_ n3_; clear hb hbox hg) | ((with_reducible refine gate_dst (N := 3) rfl ?_); refine box_event ?hg (N := 3) ?hd (cs := #[.slice A1_0 l1_0.length c1_0, .slice A1_1 l1_1.length c1_1, .int .i64 a1_2]) (t := 58) ?hr ?_; (case hd => rfl); (case hg => rfl); (case hr => first | (go_simp; done) | (go_simp; rfl)); intro gb636 hg w26 hbox hb; have n0_ := Aside0.mk (blk_below (g := gb635) (o := .cells #[.slice A0_0 l0_0.length c0_0, .slice A0_1 l0_1.length c0_1, .int .i64 a0_2] 58 (0, 0)) (lb BK635) hb); have n1_ := Aside0.mk (below_step bw hb); have n2_ := Aside0.mk (hbox); have n3_ := Aside0.mk ((by rw [hg]; exact (below_size bw) : w.heap.size ≤ gb636)); have n4_ := Aside0.mk ((by rw [hg]; exact (below_size bw) : w.heap.size ≤ gb636)); have n5_ := Aside0.mk ((by rw [hg]; exact Nat.ne_of_lt (blk_lt (g := gb635) (o := .cells #[.slice A0_0 l0_0.length c0_0, .slice A0_1 l0_1.length c0_1, .int .i64 a0_2] 58 (0, 0)) (lb BK635)) : gb635 ≠ gb636)); have n6_ := Aside0.mk ((by rw [hg]; exact Nat.ne_of_gt (blk_lt (g := gb635) (o := .cells #[.slice A0_0 l0_0.length c0_0, .slice A0_1 l0_1.length c0_1, .int .i64 a0_2] 58 (0, 0)) (lb BK635)) : gb636 ≠ gb635)); clear BK635; clear HB; have BK635 := n0_; have HB := n1_; have BK636 := n2_; have GW636 := n3_; have GE636 := n4_; have NB635_636 := n5_; have NB636_635 := n6_; clear n0_ n1_ n2_ n3_ n4_ n5_ n6_; clear hb hbox hg; have hnb27 := NB635_636.out; have hnc27 := NB636_635.out; have hcz28_0 : w26.cell? ⟨gb635, 0, none⟩ = some (.slice A0_0 l0_0.length c0_0) := (blk_cell BK635.out 0).trans rfl; have hcz28_1 : w26.cell? ⟨gb635, 1, none⟩ = some (.slice A0_1 l0_1.length c0_1) := (blk_cell BK635.out 1).trans rfl; have hcz28_2 : w26.cell? ⟨gb635, 2, none⟩ = some (.int .i64 a0_2) := (blk_cell BK635.out 2).trans rfl; have hfz28_0 := blk_frozen BK635.out 0; have hfz28_1 := blk_frozen BK635.out 1; have hfz28_2 := blk_frozen BK635.out 2; have hcz29_0 : w26.cell? ⟨gb636, 0, none⟩ = some (.slice A1_0 l1_0.length c1_0) := (blk_cell BK636.out 0).trans rfl; have hcz29_1 : w26.cell? ⟨gb636, 1, none⟩ = some (.slice A1_1 l1_1.length c1_1) := (blk_cell BK636.out 1).trans rfl; have hcz29_2 : w26.cell? ⟨gb636, 2, none⟩ = some (.int .i64 a1_2) := (blk_cell BK636.out 2).trans rfl; have hfz29_0 := blk_frozen BK636.out 0; have hfz29_1 := blk_frozen BK636.out 1; have hfz29_2 := blk_frozen BK636.out 2) | ((with_reducible refine at_fn (f := 50) rfl ?_); refine goesL_ (some 9) rfl rfl Try.func50 (by kernel_rfl) rfl #[.slice A0_0 l0_0.length c0_0, .slice A1_0 l1_0.length c1_0] rfl (by (try simp only [List.map_toArray, List.map_cons, List.map_nil]); first | done | rfl | (simp only [List.length_drop, List.length_take]; rfl)) ?_; (with_reducible refine (laws_eqBlockS.calls k _ _ l0_0 _ _ l1_0 false _ ?side1 ?side2 ?side3 ?side4 A3.out).mono ?_); (case side1 => repeat (first | exact (Kd.C_below HR0_0.out HB.out) | (with_reducible refine Kd.C_alloc ?_ _) | (with_reducible refine Kd.C_drewN ?_ _) | (with_reducible refine Kd.C_drew ?_))); (case side2 => exact HC0_0.out); (case side3 => repeat (first | exact (Kd.C_below HR1_0.out HB.out) | (with_reducible refine Kd.C_alloc ?_ _) | (with_reducible refine Kd.C_drewN ?_ _) | (with_reducible refine Kd.C_drew ?_))); (case side4 => exact HC1_0.out); rintro e w30 ⟨rfl, hb⟩; refine ⟨_, rfl, ?_⟩; have n0_ := Aside0.mk (blk_below (g := gb635) (o := .cells #[.slice A0_0 l0_0.length c0_0, .slice A0_1 l0_1.length c0_1, .int .i64 a0_2] 58 (0, 0)) (lb BK635) hb); have n1_ := Aside0.mk (blk_below (g := gb636) (o := .cells #[.slice A1_0 l1_0.length c1_0, .slice A1_1 l1_1.length c1_1, .int .i64 a1_2] 58 (0, 0)) (lb BK636) hb); have n2_ := Aside0.mk (below_step bw hb); clear BK635; clear BK636; clear HB; have BK635 := n0_; have BK636 := n1_; have HB := n2_; clear n0_ n1_ n2_; (try clear hb); (try clear hb2); (try clear hk); (try clear hi)))
  go_ret
  exact ⟨by first | rfl | (simp [errW_none, errW_some] <;> rfl) | (simp [*, errW_none, errW_some] <;> rfl), bw⟩

end Go.Proofs.Ytcfbbbilonignaa.Q
