/- FnExactEncodeRun: the row of the law: its arguments opened, its walk, its statement over lists (PrFnExactEncodeRun). No condition. -/
import Derived.Test.YtdknjbadnbangaaCFnExactEncodeRun3
import Derived.Outline

namespace Go.Proofs.Ytdknjbadnbangaa.Q
open Go.RowKit Go.Proofs.YtdknjbadnbangaaW.PrintWords Go.Proofs.YtdknjbadnbangaaW.PrintLast Go.Proofs.YtdknjbadnbangaaW.PrintMore
set_option linter.unusedVariables false
set_option linter.unusedSimpArgs false

/-! ### impl_Entry_compare: function 62 -/
def impl_Entry_compare.f (k : Nat) (a0_0 : ByteArray) (a0_1 : ByteArray) (a0_2 : ByteArray) (a0_3 : Int) (a0_4 : Int) (a0_5 : ByteArray) (a1_0 : ByteArray) (a1_1 : ByteArray) (a1_2 : ByteArray) (a1_3 : Int) (a1_4 : Int) (a1_5 : ByteArray) : Option (Int) := (strings_Compare.f a0_0 a1_0).bind fun t176 => ((strings_Compare.f a0_1 a1_1).bind fun t177 => ((strings_Compare.f a0_2 a1_2).bind fun t178 => ((impl_Entry_marks.f a0_0 a0_1 a0_2 a0_3 a0_4 a0_5).bind fun t179 => ((impl_Entry_marks.f a1_0 a1_1 a1_2 a1_3 a1_4 a1_5).bind fun t180 => ((cmp_Compare_int.f t179 t180).bind fun t181 => ((cmp_Compare_uint64.f a1_3 a0_3).bind fun t182 => ((cmp_Or_int.f k (([t176, t177, t178, t181, t182] : List Int))).bind fun t186 => (some t186))))))))
def impl_Entry_compare.T1 : Bool × List (List Nat × List Nat) := (true, [([], []), ([0], [0]), ([], []), ([2], [2]), ([1, 3], [1, 3]), ([], []), ([5], [5]), ([], []), ([7], [7]), ([6, 8, 4], [6, 8]), ([], []), ([10], [10]), ([], []), ([12], [12]), ([11, 13, 9], [11, 13]), ([], []), ([15, 14], [15]), ([], []), ([17, 16], [17]), ([16, 18, 18], [16, 18]), ([], []), ([20], [20]), ([], []), ([22], [22]), ([21, 23, 19], [21, 23]), ([4, 9, 14, 19, 24], [4, 9, 14, 19, 24]), ([25, 24], [25]), ([26, 26, 0, 1, 2, 3, 4, 5, 6, 7, 8, 9, 10, 11, 12, 13, 14, 15, 16, 17, 18, 19, 20, 21, 22, 23, 24, 25, 26], [26])])
def impl_Entry_compare.B1 : List Nat := [0, 1, 0, 4, 15, 0, 32, 0, 128, 511, 0, 1024, 0, 4096, 16383, 0, 65535, 0, 262143, 524287, 0, 1048576, 0, 4194304, 16777215, 33554431, 67108863, 134217727]
theorem impl_Entry_compare.tab1 : rtab .any (opsOf Try.f62 1) = impl_Entry_compare.T1 := by kernel_rfl
theorem impl_Entry_compare.bits1 : waitsOk impl_Entry_compare.T1.2 impl_Entry_compare.B1 = true := by kernel_rfl
set_option maxHeartbeats 8000000 in
set_option maxRecDepth 100000 in
theorem impl_Entry_compare.calls (k : Nat) (a0_0 : ByteArray) (a0_1 : ByteArray) (a0_2 : ByteArray) (a0_3 : Int) (a0_4 : Int) (a0_5 : ByteArray) (a1_0 : ByteArray) (a1_1 : ByteArray) (a1_2 : ByteArray) (a1_3 : Int) (a1_4 : Int) (a1_5 : ByteArray) (r : Int) (w : World) (h : impl_Entry_compare.f k a0_0 a0_1 a0_2 a0_3 a0_4 a0_5 a1_0 a1_1 a1_2 a1_3 a1_4 a1_5 = some r) :
  Calls Try.prog 62 #[.agg #[.string a0_0, .string a0_1, .string a0_2, .int .u64 a0_3, .int .i64 a0_4, .string a0_5], .agg #[.string a1_0, .string a1_1, .string a1_2, .int .u64 a1_3, .int .i64 a1_4, .string a1_5]] w fun e w' => e = .returned (.int .i64 r) ∧ Below w.heap.size w w' := by
 have hu35 := Try.underlying35
 have HB := Aside0.mk (Below.refl w.heap.size w)
 have H : ((strings_Compare.f a0_0 a1_0).bind fun t176 => ((strings_Compare.f a0_1 a1_1).bind fun t177 => ((strings_Compare.f a0_2 a1_2).bind fun t178 => ((impl_Entry_marks.f a0_0 a0_1 a0_2 a0_3 a0_4 a0_5).bind fun t179 => ((impl_Entry_marks.f a1_0 a1_1 a1_2 a1_3 a1_4 a1_5).bind fun t180 => ((cmp_Compare_int.f t179 t180).bind fun t181 => ((cmp_Compare_uint64.f a1_3 a0_3).bind fun t182 => ((cmp_Or_int.f k (([t176, t177, t178, t181, t182] : List Int))).bind fun t186 => (some t186))))))))) = some r := h
 clear h
 replace H := Option.bind_eq_some_iff.mp H
 obtain ⟨t176, A30, H⟩ := H
 replace H : ((strings_Compare.f a0_1 a1_1).bind fun t177 => ((strings_Compare.f a0_2 a1_2).bind fun t178 => ((impl_Entry_marks.f a0_0 a0_1 a0_2 a0_3 a0_4 a0_5).bind fun t179 => ((impl_Entry_marks.f a1_0 a1_1 a1_2 a1_3 a1_4 a1_5).bind fun t180 => ((cmp_Compare_int.f t179 t180).bind fun t181 => ((cmp_Compare_uint64.f a1_3 a0_3).bind fun t182 => ((cmp_Or_int.f k (([t176, t177, t178, t181, t182] : List Int))).bind fun t186 => (some t186)))))))) = some r := H
 have A3 := Aside0.mk A30
 clear A30
 replace H := Option.bind_eq_some_iff.mp H
 obtain ⟨t177, A40, H⟩ := H
 replace H : ((strings_Compare.f a0_2 a1_2).bind fun t178 => ((impl_Entry_marks.f a0_0 a0_1 a0_2 a0_3 a0_4 a0_5).bind fun t179 => ((impl_Entry_marks.f a1_0 a1_1 a1_2 a1_3 a1_4 a1_5).bind fun t180 => ((cmp_Compare_int.f t179 t180).bind fun t181 => ((cmp_Compare_uint64.f a1_3 a0_3).bind fun t182 => ((cmp_Or_int.f k (([t176, t177, t178, t181, t182] : List Int))).bind fun t186 => (some t186))))))) = some r := H
 have A4 := Aside0.mk A40
 clear A40
 replace H := Option.bind_eq_some_iff.mp H
 obtain ⟨t178, A50, H⟩ := H
 replace H : ((impl_Entry_marks.f a0_0 a0_1 a0_2 a0_3 a0_4 a0_5).bind fun t179 => ((impl_Entry_marks.f a1_0 a1_1 a1_2 a1_3 a1_4 a1_5).bind fun t180 => ((cmp_Compare_int.f t179 t180).bind fun t181 => ((cmp_Compare_uint64.f a1_3 a0_3).bind fun t182 => ((cmp_Or_int.f k (([t176, t177, t178, t181, t182] : List Int))).bind fun t186 => (some t186)))))) = some r := H
 have A5 := Aside0.mk A50
 clear A50
 replace H := Option.bind_eq_some_iff.mp H
 obtain ⟨t179, A60, H⟩ := H
 replace H : ((impl_Entry_marks.f a1_0 a1_1 a1_2 a1_3 a1_4 a1_5).bind fun t180 => ((cmp_Compare_int.f t179 t180).bind fun t181 => ((cmp_Compare_uint64.f a1_3 a0_3).bind fun t182 => ((cmp_Or_int.f k (([t176, t177, t178, t181, t182] : List Int))).bind fun t186 => (some t186))))) = some r := H
 have A6 := Aside0.mk A60
 clear A60
 replace H := Option.bind_eq_some_iff.mp H
 obtain ⟨t180, A70, H⟩ := H
 replace H : ((cmp_Compare_int.f t179 t180).bind fun t181 => ((cmp_Compare_uint64.f a1_3 a0_3).bind fun t182 => ((cmp_Or_int.f k (([t176, t177, t178, t181, t182] : List Int))).bind fun t186 => (some t186)))) = some r := H
 have A7 := Aside0.mk A70
 clear A70
 replace H := Option.bind_eq_some_iff.mp H
 obtain ⟨t181, A80, H⟩ := H
 replace H : ((cmp_Compare_uint64.f a1_3 a0_3).bind fun t182 => ((cmp_Or_int.f k (([t176, t177, t178, t181, t182] : List Int))).bind fun t186 => (some t186))) = some r := H
 have A8 := Aside0.mk A80
 clear A80
 replace H := Option.bind_eq_some_iff.mp H
 obtain ⟨t182, A90, H⟩ := H
 replace H : ((cmp_Or_int.f k (([t176, t177, t178, t181, t182] : List Int))).bind fun t186 => (some t186)) = some r := H
 have A9 := Aside0.mk A90
 clear A90
 obtain ⟨y183, hy183⟩ : ∃ y_ : List Int, y_ = (([t176, t177, t178, t181, t182] : List Int)) := ⟨_, rfl⟩
 replace H : ((cmp_Or_int.f k y183).bind fun t186 => (some t186)) = some r := by first | (rw [hy183]; with_reducible exact H) | (have H2_ := (Option.bind_some _ _).symm.trans H; rw [hy183]; with_reducible exact H2_) | (have H2_ := (Option.bind_some _ _).symm.trans H; with_reducible exact H2_) | with_reducible exact H | (rw [hy183]; exact H) | exact H
 have Ny183 := Aside0.mk hy183
 clear hy183
 replace H := Option.bind_eq_some_iff.mp H
 obtain ⟨t186, A100, H⟩ := H
 replace H : (some t186) = some r := H
 have A10 := Aside0.mk A100
 clear A100
 obtain rfl := Option.some.inj H
 go_enter Try.func62, Try.ntmps62
 try go_wp2_with (first | ((with_reducible refine gate_dst (N := 2) rfl ?_); refine box_event ?hg (N := 2) ?hd (cs := #[.string a0_0, .string a0_1, .string a0_2, .int .u64 a0_3, .int .i64 a0_4, .string a0_5]) (t := 35) ?hr ?_; (case hd => rfl); (case hg => rfl); (case hr => first | (go_simp; done) | (go_simp; rfl)); intro gb174 hg w11 hbox hb; have n0_ := Aside0.mk (below_step bw hb); have n1_ := Aside0.mk (hbox); have n2_ := Aside0.mk ((by rw [hg]; exact (below_size bw) : w.heap.size ≤ gb174)); have n3_ := Aside0.mk ((by rw [hg]; exact (below_size bw) : w.heap.size ≤ gb174)); clear HB; have HB := n0_; have BK174 := n1_; have GW174 := n2_; have GE174 := n3_; clear n0_ n1_ n2_ n3_; clear hb hbox hg) | ((with_reducible refine gate_dst (N := 3) rfl ?_); refine box_event ?hg (N := 3) ?hd (cs := #[.string a1_0, .string a1_1, .string a1_2, .int .u64 a1_3, .int .i64 a1_4, .string a1_5]) (t := 35) ?hr ?_; (case hd => rfl); (case hg => rfl); (case hr => first | (go_simp; done) | (go_simp; rfl)); intro gb175 hg w12 hbox hb; have n0_ := Aside0.mk (blk_below (g := gb174) (o := .cells #[.string a0_0, .string a0_1, .string a0_2, .int .u64 a0_3, .int .i64 a0_4, .string a0_5] 35 (0, 0)) (lb BK174) hb); have n1_ := Aside0.mk (below_step bw hb); have n2_ := Aside0.mk (hbox); have n3_ := Aside0.mk ((by rw [hg]; exact (below_size bw) : w.heap.size ≤ gb175)); have n4_ := Aside0.mk ((by rw [hg]; exact (below_size bw) : w.heap.size ≤ gb175)); have n5_ := Aside0.mk ((by rw [hg]; exact Nat.ne_of_lt (blk_lt (g := gb174) (o := .cells #[.string a0_0, .string a0_1, .string a0_2, .int .u64 a0_3, .int .i64 a0_4, .string a0_5] 35 (0, 0)) (lb BK174)) : gb174 ≠ gb175)); have n6_ := Aside0.mk ((by rw [hg]; exact Nat.ne_of_gt (blk_lt (g := gb174) (o := .cells #[.string a0_0, .string a0_1, .string a0_2, .int .u64 a0_3, .int .i64 a0_4, .string a0_5] 35 (0, 0)) (lb BK174)) : gb175 ≠ gb174)); clear BK174; clear HB; have BK174 := n0_; have HB := n1_; have BK175 := n2_; have GW175 := n3_; have GE175 := n4_; have NB174_175 := n5_; have NB175_174 := n6_; clear n0_ n1_ n2_ n3_ n4_ n5_ n6_; clear hb hbox hg))
 have n0_ := Aside0.mk (blk_drew BK174.out)
 have n1_ := Aside0.mk (blk_drew BK175.out)
 have n2_ := Aside0.mk (below_drew1 HB.out)
 clear BK174
 clear BK175
 clear HB
 have BK174 := n0_
 have BK175 := n1_
 have HB := n2_
 clear n0_ n1_ n2_
 refine start_ (n := 28) (S := fun w' => w'.cell? ⟨gb174, 0, none⟩ = some (.string a0_0) ∧ w'.cell? ⟨gb174, 1, none⟩ = some (.string a0_1) ∧ w'.cell? ⟨gb174, 2, none⟩ = some (.string a0_2) ∧ w'.cell? ⟨gb174, 3, none⟩ = some (.int .u64 a0_3) ∧ w'.cell? ⟨gb174, 4, none⟩ = some (.int .i64 a0_4) ∧ w'.cell? ⟨gb174, 5, none⟩ = some (.string a0_5) ∧ w'.cell? ⟨gb175, 0, none⟩ = some (.string a1_0) ∧ w'.cell? ⟨gb175, 1, none⟩ = some (.string a1_1) ∧ w'.cell? ⟨gb175, 2, none⟩ = some (.string a1_2) ∧ w'.cell? ⟨gb175, 3, none⟩ = some (.int .u64 a1_3) ∧ w'.cell? ⟨gb175, 4, none⟩ = some (.int .i64 a1_4) ∧ w'.cell? ⟨gb175, 5, none⟩ = some (.string a1_5)) (ds := []) #[false, false, false, false, false, false, false, false, false, false, false, false, false, false, false, false, false, false, false, false, false, false, false, false, false, false, false, false] (by kernel_rfl) rfl rfl ⟨(blk_cell BK174.out 0).trans rfl, (blk_cell BK174.out 1).trans rfl, (blk_cell BK174.out 2).trans rfl, (blk_cell BK174.out 3).trans rfl, (blk_cell BK174.out 4).trans rfl, (blk_cell BK174.out 5).trans rfl, (blk_cell BK175.out 0).trans rfl, (blk_cell BK175.out 1).trans rfl, (blk_cell BK175.out 2).trans rfl, (blk_cell BK175.out 3).trans rfl, (blk_cell BK175.out 4).trans rfl, (blk_cell BK175.out 5).trans rfl⟩ (fun hHeld => ?_); refine with_tabW impl_Entry_compare.tab1 impl_Entry_compare.bits1 (fun HT_ HW_ => ?_)
 generalize w12.drew = w13 at BK174 BK175 HB hHeld ⊢
 refine pure_ (i := 0) (N := some 5) (v := ?_) (a' := ?_) #[true, false, false, false, false, false, false, false, false, false, false, false, false, false, false, false, false, false, false, false, false, false, false, false, false, false, false, false] rfl rfl (any_of HT_.out (by kernel_rfl)) (fun _ _ _ h => h) (Or.inl ⟨by rfl, ?_⟩) ?_ ?_
 rotate_left
 ·intro w'
  go_simp
  with_reducible rfl
 rotate_left
 ·simp only [Act.put, List.setIfInBounds_toArray, List.set_cons_zero, List.set_cons_succ, i64_w, i32_w]
  rfl
 refine pure_ (i := 2) (N := some 7) (v := ?_) (a' := ?_) #[true, false, true, false, false, false, false, false, false, false, false, false, false, false, false, false, false, false, false, false, false, false, false, false, false, false, false, false] rfl rfl (any_of HT_.out (by kernel_rfl)) (fun _ _ _ h => h) (Or.inl ⟨by rfl, ?_⟩) ?_ ?_
 rotate_left
 ·intro w'
  go_simp
  with_reducible rfl
 rotate_left
 ·simp only [Act.put, List.setIfInBounds_toArray, List.set_cons_zero, List.set_cons_succ, i64_w, i32_w]
  rfl
 refine pure_ (i := 5) (N := some 10) (v := ?_) (a' := ?_) #[true, false, true, false, false, true, false, false, false, false, false, false, false, false, false, false, false, false, false, false, false, false, false, false, false, false, false, false] rfl rfl (any_of HT_.out (by kernel_rfl)) (fun _ _ _ h => h) (Or.inl ⟨by rfl, ?_⟩) ?_ ?_
 rotate_left
 ·intro w'
  go_simp
  with_reducible rfl
 rotate_left
 ·simp only [Act.put, List.setIfInBounds_toArray, List.set_cons_zero, List.set_cons_succ, i64_w, i32_w]
  rfl
 refine pure_ (i := 7) (N := some 12) (v := ?_) (a' := ?_) #[true, false, true, false, false, true, false, true, false, false, false, false, false, false, false, false, false, false, false, false, false, false, false, false, false, false, false, false] rfl rfl (any_of HT_.out (by kernel_rfl)) (fun _ _ _ h => h) (Or.inl ⟨by rfl, ?_⟩) ?_ ?_
 rotate_left
 ·intro w'
  go_simp
  with_reducible rfl
 rotate_left
 ·simp only [Act.put, List.setIfInBounds_toArray, List.set_cons_zero, List.set_cons_succ, i64_w, i32_w]
  rfl
 refine pure_ (i := 10) (N := some 15) (v := ?_) (a' := ?_) #[true, false, true, false, false, true, false, true, false, false, true, false, false, false, false, false, false, false, false, false, false, false, false, false, false, false, false, false] rfl rfl (any_of HT_.out (by kernel_rfl)) (fun _ _ _ h => h) (Or.inl ⟨by rfl, ?_⟩) ?_ ?_
 rotate_left
 ·intro w'
  go_simp
  with_reducible rfl
 rotate_left
 ·simp only [Act.put, List.setIfInBounds_toArray, List.set_cons_zero, List.set_cons_succ, i64_w, i32_w]
  rfl
 refine pure_ (i := 12) (N := some 17) (v := ?_) (a' := ?_) #[true, false, true, false, false, true, false, true, false, false, true, false, true, false, false, false, false, false, false, false, false, false, false, false, false, false, false, false] rfl rfl (any_of HT_.out (by kernel_rfl)) (fun _ _ _ h => h) (Or.inl ⟨by rfl, ?_⟩) ?_ ?_
 rotate_left
 ·intro w'
  go_simp
  with_reducible rfl
 rotate_left
 ·simp only [Act.put, List.setIfInBounds_toArray, List.set_cons_zero, List.set_cons_succ, i64_w, i32_w]
  rfl
 refine pure_ (i := 20) (N := some 25) (v := ?_) (a' := ?_) #[true, false, true, false, false, true, false, true, false, false, true, false, true, false, false, false, false, false, false, false, true, false, false, false, false, false, false, false] rfl rfl (any_of HT_.out (by kernel_rfl)) (fun _ _ _ h => h) (Or.inl ⟨by rfl, ?_⟩) ?_ ?_
 rotate_left
 ·intro w'
  go_simp
  with_reducible rfl
 rotate_left
 ·simp only [Act.put, List.setIfInBounds_toArray, List.set_cons_zero, List.set_cons_succ, i64_w, i32_w]
  rfl
 refine pure_ (i := 22) (N := some 27) (v := ?_) (a' := ?_) #[true, false, true, false, false, true, false, true, false, false, true, false, true, false, false, false, false, false, false, false, true, false, true, false, false, false, false, false] rfl rfl (any_of HT_.out (by kernel_rfl)) (fun _ _ _ h => h) (Or.inl ⟨by rfl, ?_⟩) ?_ ?_
 rotate_left
 ·intro w'
  go_simp
  with_reducible rfl
 rotate_left
 ·simp only [Act.put, List.setIfInBounds_toArray, List.set_cons_zero, List.set_cons_succ, i64_w, i32_w]
  rfl
 refine take_ (i := 1) (N := some 6) (v := ?_) (a' := ?_) #[true, true, true, false, false, true, false, true, false, false, true, false, true, false, false, false, false, false, false, false, true, false, true, false, false, false, false, false] rfl rfl (take_ofW HT_.out HW_.out (by kernel_rfl)) (fun _ _ _ h => h) (Or.inl ⟨by rfl, ?_⟩) hHeld ?_ ?_
 rotate_left
 ·rintro w' ⟨s0, s1, s2, s3, s4, s5, s6, s7, s8, s9, s10, s11⟩
  go_simp
  with_reducible rfl
 rotate_left
 ·simp only [Act.put, List.setIfInBounds_toArray, List.set_cons_zero, List.set_cons_succ, i64_w, i32_w]
  rfl
 refine take_ (i := 3) (N := some 8) (v := ?_) (a' := ?_) #[true, true, true, true, false, true, false, true, false, false, true, false, true, false, false, false, false, false, false, false, true, false, true, false, false, false, false, false] rfl rfl (take_ofW HT_.out HW_.out (by kernel_rfl)) (fun _ _ _ h => h) (Or.inl ⟨by rfl, ?_⟩) hHeld ?_ ?_
 rotate_left
 ·rintro w' ⟨s0, s1, s2, s3, s4, s5, s6, s7, s8, s9, s10, s11⟩
  go_simp
  with_reducible rfl
 rotate_left
 ·simp only [Act.put, List.setIfInBounds_toArray, List.set_cons_zero, List.set_cons_succ, i64_w, i32_w]
  rfl
 refine take_ (i := 6) (N := some 11) (v := ?_) (a' := ?_) #[true, true, true, true, false, true, true, true, false, false, true, false, true, false, false, false, false, false, false, false, true, false, true, false, false, false, false, false] rfl rfl (take_ofW HT_.out HW_.out (by kernel_rfl)) (fun _ _ _ h => h) (Or.inl ⟨by rfl, ?_⟩) hHeld ?_ ?_
 rotate_left
 ·rintro w' ⟨s0, s1, s2, s3, s4, s5, s6, s7, s8, s9, s10, s11⟩
  go_simp
  with_reducible rfl
 rotate_left
 ·simp only [Act.put, List.setIfInBounds_toArray, List.set_cons_zero, List.set_cons_succ, i64_w, i32_w]
  rfl
 refine take_ (i := 8) (N := some 13) (v := ?_) (a' := ?_) #[true, true, true, true, false, true, true, true, true, false, true, false, true, false, false, false, false, false, false, false, true, false, true, false, false, false, false, false] rfl rfl (take_ofW HT_.out HW_.out (by kernel_rfl)) (fun _ _ _ h => h) (Or.inl ⟨by rfl, ?_⟩) hHeld ?_ ?_
 rotate_left
 ·rintro w' ⟨s0, s1, s2, s3, s4, s5, s6, s7, s8, s9, s10, s11⟩
  go_simp
  with_reducible rfl
 rotate_left
 ·simp only [Act.put, List.setIfInBounds_toArray, List.set_cons_zero, List.set_cons_succ, i64_w, i32_w]
  rfl
 refine take_ (i := 11) (N := some 16) (v := ?_) (a' := ?_) #[true, true, true, true, false, true, true, true, true, false, true, true, true, false, false, false, false, false, false, false, true, false, true, false, false, false, false, false] rfl rfl (take_ofW HT_.out HW_.out (by kernel_rfl)) (fun _ _ _ h => h) (Or.inl ⟨by rfl, ?_⟩) hHeld ?_ ?_
 rotate_left
 ·rintro w' ⟨s0, s1, s2, s3, s4, s5, s6, s7, s8, s9, s10, s11⟩
  go_simp
  with_reducible rfl
 rotate_left
 ·simp only [Act.put, List.setIfInBounds_toArray, List.set_cons_zero, List.set_cons_succ, i64_w, i32_w]
  rfl
 refine take_ (i := 13) (N := some 18) (v := ?_) (a' := ?_) #[true, true, true, true, false, true, true, true, true, false, true, true, true, true, false, false, false, false, false, false, true, false, true, false, false, false, false, false] rfl rfl (take_ofW HT_.out HW_.out (by kernel_rfl)) (fun _ _ _ h => h) (Or.inl ⟨by rfl, ?_⟩) hHeld ?_ ?_
 rotate_left
 ·rintro w' ⟨s0, s1, s2, s3, s4, s5, s6, s7, s8, s9, s10, s11⟩
  go_simp
  with_reducible rfl
 rotate_left
 ·simp only [Act.put, List.setIfInBounds_toArray, List.set_cons_zero, List.set_cons_succ, i64_w, i32_w]
  rfl
 refine take_ (i := 15) (N := some 20) (v := ?_) (a' := ?_) #[true, true, true, true, false, true, true, true, true, false, true, true, true, true, false, true, false, false, false, false, true, false, true, false, false, false, false, false] rfl rfl (take_ofW HT_.out HW_.out (by kernel_rfl)) (fun _ _ _ h => h) (Or.inl ⟨by rfl, ?_⟩) hHeld ?_ ?_
 rotate_left
 ·rintro w' ⟨s0, s1, s2, s3, s4, s5, s6, s7, s8, s9, s10, s11⟩
  go_simp
  with_reducible rfl
 rotate_left
 ·simp only [Act.put, List.setIfInBounds_toArray, List.set_cons_zero, List.set_cons_succ, i64_w, i32_w]
  rfl
 refine take_ (i := 17) (N := some 22) (v := ?_) (a' := ?_) #[true, true, true, true, false, true, true, true, true, false, true, true, true, true, false, true, false, true, false, false, true, false, true, false, false, false, false, false] rfl rfl (take_ofW HT_.out HW_.out (by kernel_rfl)) (fun _ _ _ h => h) (Or.inl ⟨by rfl, ?_⟩) hHeld ?_ ?_
 rotate_left
 ·rintro w' ⟨s0, s1, s2, s3, s4, s5, s6, s7, s8, s9, s10, s11⟩
  go_simp
  with_reducible rfl
 rotate_left
 ·simp only [Act.put, List.setIfInBounds_toArray, List.set_cons_zero, List.set_cons_succ, i64_w, i32_w]
  rfl
 refine take_ (i := 21) (N := some 26) (v := ?_) (a' := ?_) #[true, true, true, true, false, true, true, true, true, false, true, true, true, true, false, true, false, true, false, false, true, true, true, false, false, false, false, false] rfl rfl (take_ofW HT_.out HW_.out (by kernel_rfl)) (fun _ _ _ h => h) (Or.inl ⟨by rfl, ?_⟩) hHeld ?_ ?_
 rotate_left
 ·rintro w' ⟨s0, s1, s2, s3, s4, s5, s6, s7, s8, s9, s10, s11⟩
  go_simp
  with_reducible rfl
 rotate_left
 ·simp only [Act.put, List.setIfInBounds_toArray, List.set_cons_zero, List.set_cons_succ, i64_w, i32_w]
  rfl
 refine take_ (i := 23) (N := some 28) (v := ?_) (a' := ?_) #[true, true, true, true, false, true, true, true, true, false, true, true, true, true, false, true, false, true, false, false, true, true, true, true, false, false, false, false] rfl rfl (take_ofW HT_.out HW_.out (by kernel_rfl)) (fun _ _ _ h => h) (Or.inl ⟨by rfl, ?_⟩) hHeld ?_ ?_
 rotate_left
 ·rintro w' ⟨s0, s1, s2, s3, s4, s5, s6, s7, s8, s9, s10, s11⟩
  go_simp
  with_reducible rfl
 rotate_left
 ·simp only [Act.put, List.setIfInBounds_toArray, List.set_cons_zero, List.set_cons_succ, i64_w, i32_w]
  rfl
 refine one_ (i := 4) (N := some 9) #[true, true, true, true, true, true, true, true, true, false, true, true, true, true, false, true, false, true, false, false, true, true, true, true, false, false, false, false] rfl rfl (one_of HT_.out (by kernel_rfl)) (by decide) (fun K hK => ?_)
 refine goes_ Try.func95 (by kernel_rfl) rfl #[.string a0_0, .string a1_0] (by rfl) rfl rfl (by (try simp only [List.map_toArray, List.map_cons, List.map_nil]); first | done | rfl | (simp only [List.length_drop, List.length_take]; rfl)) ?_
 with_reducible refine (strings_Compare.calls a0_0 a1_0 t176 _ A3.out).mono ?_
 rintro e w' ⟨rfl, ⟨nd, rfl⟩⟩
 refine ⟨_, rfl, ?_⟩
 refine hK.out _ _ ⟨(blk_cell BK174.out 0).trans rfl, (blk_cell BK174.out 1).trans rfl, (blk_cell BK174.out 2).trans rfl, (blk_cell BK174.out 3).trans rfl, (blk_cell BK174.out 4).trans rfl, (blk_cell BK174.out 5).trans rfl, (blk_cell BK175.out 0).trans rfl, (blk_cell BK175.out 1).trans rfl, (blk_cell BK175.out 2).trans rfl, (blk_cell BK175.out 3).trans rfl, (blk_cell BK175.out 4).trans rfl, (blk_cell BK175.out 5).trans rfl⟩ (fun hHeld => ?_)
 clear hK K
 refine norm_ (a' := ?_) ?_ ?_
 rotate_left
 ·show Act.put _ (some 9) _ = _
  simp only [Act.put, List.setIfInBounds_toArray, List.set_cons_zero, List.set_cons_succ, i64_w, i32_w]
  rfl
 refine one_ (i := 9) (N := some 14) #[true, true, true, true, true, true, true, true, true, true, true, true, true, true, false, true, false, true, false, false, true, true, true, true, false, false, false, false] rfl rfl (one_of HT_.out (by kernel_rfl)) (by decide) (fun K hK => ?_)
 refine goes_ Try.func95 (by kernel_rfl) rfl #[.string a0_1, .string a1_1] (by rfl) rfl rfl (by (try simp only [List.map_toArray, List.map_cons, List.map_nil]); first | done | rfl | (simp only [List.length_drop, List.length_take]; rfl)) ?_
 with_reducible refine (strings_Compare.calls a0_1 a1_1 t177 _ A4.out).mono ?_
 rintro e w' ⟨rfl, ⟨nd, rfl⟩⟩
 refine ⟨_, rfl, ?_⟩
 refine hK.out _ _ ⟨(blk_cell BK174.out 0).trans rfl, (blk_cell BK174.out 1).trans rfl, (blk_cell BK174.out 2).trans rfl, (blk_cell BK174.out 3).trans rfl, (blk_cell BK174.out 4).trans rfl, (blk_cell BK174.out 5).trans rfl, (blk_cell BK175.out 0).trans rfl, (blk_cell BK175.out 1).trans rfl, (blk_cell BK175.out 2).trans rfl, (blk_cell BK175.out 3).trans rfl, (blk_cell BK175.out 4).trans rfl, (blk_cell BK175.out 5).trans rfl⟩ (fun hHeld => ?_)
 clear hK K
 refine norm_ (a' := ?_) ?_ ?_
 rotate_left
 ·show Act.put _ (some 14) _ = _
  simp only [Act.put, List.setIfInBounds_toArray, List.set_cons_zero, List.set_cons_succ, i64_w, i32_w]
  rfl
 refine one_ (i := 14) (N := some 19) #[true, true, true, true, true, true, true, true, true, true, true, true, true, true, true, true, false, true, false, false, true, true, true, true, false, false, false, false] rfl rfl (one_of HT_.out (by kernel_rfl)) (by decide) (fun K hK => ?_)
 refine goes_ Try.func95 (by kernel_rfl) rfl #[.string a0_2, .string a1_2] (by rfl) rfl rfl (by (try simp only [List.map_toArray, List.map_cons, List.map_nil]); first | done | rfl | (simp only [List.length_drop, List.length_take]; rfl)) ?_
 with_reducible refine (strings_Compare.calls a0_2 a1_2 t178 _ A5.out).mono ?_
 rintro e w' ⟨rfl, ⟨nd, rfl⟩⟩
 refine ⟨_, rfl, ?_⟩
 refine hK.out _ _ ⟨(blk_cell BK174.out 0).trans rfl, (blk_cell BK174.out 1).trans rfl, (blk_cell BK174.out 2).trans rfl, (blk_cell BK174.out 3).trans rfl, (blk_cell BK174.out 4).trans rfl, (blk_cell BK174.out 5).trans rfl, (blk_cell BK175.out 0).trans rfl, (blk_cell BK175.out 1).trans rfl, (blk_cell BK175.out 2).trans rfl, (blk_cell BK175.out 3).trans rfl, (blk_cell BK175.out 4).trans rfl, (blk_cell BK175.out 5).trans rfl⟩ (fun hHeld => ?_)
 clear hK K
 refine norm_ (a' := ?_) ?_ ?_
 rotate_left
 ·show Act.put _ (some 19) _ = _
  simp only [Act.put, List.setIfInBounds_toArray, List.set_cons_zero, List.set_cons_succ, i64_w, i32_w]
  rfl
 refine one_ (i := 16) (N := some 21) #[true, true, true, true, true, true, true, true, true, true, true, true, true, true, true, true, true, true, false, false, true, true, true, true, false, false, false, false] rfl rfl (one_of HT_.out (by kernel_rfl)) (by decide) (fun K hK => ?_)
 refine goes_ Try.func97 (by kernel_rfl) rfl #[.agg #[.string a0_0, .string a0_1, .string a0_2, .int .u64 a0_3, .int .i64 a0_4, .string a0_5]] (by rfl) rfl rfl (by (try simp only [List.map_toArray, List.map_cons, List.map_nil]); first | done | rfl | (simp only [List.length_drop, List.length_take]; rfl)) ?_
 with_reducible refine (impl_Entry_marks.calls a0_0 a0_1 a0_2 a0_3 a0_4 a0_5 t179 _ A6.out).mono ?_
 rintro e w14 ⟨rfl, hb⟩
 refine ⟨_, rfl, ?_⟩
 have n0_ := Aside0.mk (blk_below (g := gb174) (o := .cells #[.string a0_0, .string a0_1, .string a0_2, .int .u64 a0_3, .int .i64 a0_4, .string a0_5] 35 (0, 0)) (lb BK174) hb)
 have n1_ := Aside0.mk (blk_below (g := gb175) (o := .cells #[.string a1_0, .string a1_1, .string a1_2, .int .u64 a1_3, .int .i64 a1_4, .string a1_5] 35 (0, 0)) (lb BK175) hb)
 have n2_ := Aside0.mk (below_step bw hb)
 clear BK174
 clear BK175
 clear HB
 have BK174 := n0_
 have BK175 := n1_
 have HB := n2_
 clear n0_ n1_ n2_
 (try clear hb)
 (try clear hb2)
 (try clear hk)
 (try clear hi)
 refine hK.out _ _ ⟨(blk_cell BK174.out 0).trans rfl, (blk_cell BK174.out 1).trans rfl, (blk_cell BK174.out 2).trans rfl, (blk_cell BK174.out 3).trans rfl, (blk_cell BK174.out 4).trans rfl, (blk_cell BK174.out 5).trans rfl, (blk_cell BK175.out 0).trans rfl, (blk_cell BK175.out 1).trans rfl, (blk_cell BK175.out 2).trans rfl, (blk_cell BK175.out 3).trans rfl, (blk_cell BK175.out 4).trans rfl, (blk_cell BK175.out 5).trans rfl⟩ (fun hHeld => ?_)
 clear hK K
 refine norm_ (a' := ?_) ?_ ?_
 rotate_left
 ·show Act.put _ (some 21) _ = _
  simp only [Act.put, List.setIfInBounds_toArray, List.set_cons_zero, List.set_cons_succ, i64_w, i32_w]
  rfl
 refine one_ (i := 18) (N := some 23) #[true, true, true, true, true, true, true, true, true, true, true, true, true, true, true, true, true, true, true, false, true, true, true, true, false, false, false, false] rfl rfl (one_of HT_.out (by kernel_rfl)) (by decide) (fun K hK => ?_)
 refine goes_ Try.func97 (by kernel_rfl) rfl #[.agg #[.string a1_0, .string a1_1, .string a1_2, .int .u64 a1_3, .int .i64 a1_4, .string a1_5]] (by rfl) rfl rfl (by (try simp only [List.map_toArray, List.map_cons, List.map_nil]); first | done | rfl | (simp only [List.length_drop, List.length_take]; rfl)) ?_
 with_reducible refine (impl_Entry_marks.calls a1_0 a1_1 a1_2 a1_3 a1_4 a1_5 t180 _ A7.out).mono ?_
 rintro e w15 ⟨rfl, hb⟩
 refine ⟨_, rfl, ?_⟩
 have n0_ := Aside0.mk (blk_below (g := gb174) (o := .cells #[.string a0_0, .string a0_1, .string a0_2, .int .u64 a0_3, .int .i64 a0_4, .string a0_5] 35 (0, 0)) (lb BK174) hb)
 have n1_ := Aside0.mk (blk_below (g := gb175) (o := .cells #[.string a1_0, .string a1_1, .string a1_2, .int .u64 a1_3, .int .i64 a1_4, .string a1_5] 35 (0, 0)) (lb BK175) hb)
 have n2_ := Aside0.mk (below_step bw hb)
 clear BK174
 clear BK175
 clear HB
 have BK174 := n0_
 have BK175 := n1_
 have HB := n2_
 clear n0_ n1_ n2_
 (try clear hb)
 (try clear hb2)
 (try clear hk)
 (try clear hi)
 refine hK.out _ _ ⟨(blk_cell BK174.out 0).trans rfl, (blk_cell BK174.out 1).trans rfl, (blk_cell BK174.out 2).trans rfl, (blk_cell BK174.out 3).trans rfl, (blk_cell BK174.out 4).trans rfl, (blk_cell BK174.out 5).trans rfl, (blk_cell BK175.out 0).trans rfl, (blk_cell BK175.out 1).trans rfl, (blk_cell BK175.out 2).trans rfl, (blk_cell BK175.out 3).trans rfl, (blk_cell BK175.out 4).trans rfl, (blk_cell BK175.out 5).trans rfl⟩ (fun hHeld => ?_)
 clear hK K
 refine norm_ (a' := ?_) ?_ ?_
 rotate_left
 ·show Act.put _ (some 23) _ = _
  simp only [Act.put, List.setIfInBounds_toArray, List.set_cons_zero, List.set_cons_succ, i64_w, i32_w]
  rfl
 refine one_ (i := 19) (N := some 24) #[true, true, true, true, true, true, true, true, true, true, true, true, true, true, true, true, true, true, true, true, true, true, true, true, false, false, false, false] rfl rfl (one_of HT_.out (by kernel_rfl)) (by decide) (fun K hK => ?_)
 refine goes_ Try.func96 (by kernel_rfl) rfl #[.int .i64 t179, .int .i64 t180] (by rfl) rfl rfl (by (try simp only [List.map_toArray, List.map_cons, List.map_nil]); first | done | rfl | (simp only [List.length_drop, List.length_take]; rfl)) ?_
 with_reducible refine (cmp_Compare_int.calls t179 t180 t181 _ A8.out).mono ?_
 rintro e w' ⟨rfl, ⟨nd, rfl⟩⟩
 refine ⟨_, rfl, ?_⟩
 refine hK.out _ _ ⟨(blk_cell BK174.out 0).trans rfl, (blk_cell BK174.out 1).trans rfl, (blk_cell BK174.out 2).trans rfl, (blk_cell BK174.out 3).trans rfl, (blk_cell BK174.out 4).trans rfl, (blk_cell BK174.out 5).trans rfl, (blk_cell BK175.out 0).trans rfl, (blk_cell BK175.out 1).trans rfl, (blk_cell BK175.out 2).trans rfl, (blk_cell BK175.out 3).trans rfl, (blk_cell BK175.out 4).trans rfl, (blk_cell BK175.out 5).trans rfl⟩ (fun hHeld => ?_)
 clear hK K
 refine norm_ (a' := ?_) ?_ ?_
 rotate_left
 ·show Act.put _ (some 24) _ = _
  simp only [Act.put, List.setIfInBounds_toArray, List.set_cons_zero, List.set_cons_succ, i64_w, i32_w]
  rfl
 refine one_ (i := 24) (N := some 29) #[true, true, true, true, true, true, true, true, true, true, true, true, true, true, true, true, true, true, true, true, true, true, true, true, true, false, false, false] rfl rfl (one_of HT_.out (by kernel_rfl)) (by decide) (fun K hK => ?_)
 refine goes_ Try.func98 (by kernel_rfl) rfl #[.int .u64 a1_3, .int .u64 a0_3] (by rfl) rfl rfl (by (try simp only [List.map_toArray, List.map_cons, List.map_nil]); first | done | rfl | (simp only [List.length_drop, List.length_take]; rfl)) ?_
 with_reducible refine (cmp_Compare_uint64.calls a1_3 a0_3 t182 _ A9.out).mono ?_
 rintro e w' ⟨rfl, ⟨nd, rfl⟩⟩
 refine ⟨_, rfl, ?_⟩
 refine hK.out _ _ ⟨(blk_cell BK174.out 0).trans rfl, (blk_cell BK174.out 1).trans rfl, (blk_cell BK174.out 2).trans rfl, (blk_cell BK174.out 3).trans rfl, (blk_cell BK174.out 4).trans rfl, (blk_cell BK174.out 5).trans rfl, (blk_cell BK175.out 0).trans rfl, (blk_cell BK175.out 1).trans rfl, (blk_cell BK175.out 2).trans rfl, (blk_cell BK175.out 3).trans rfl, (blk_cell BK175.out 4).trans rfl, (blk_cell BK175.out 5).trans rfl⟩ (fun hHeld => ?_)
 clear hK K
 refine norm_ (a' := ?_) ?_ ?_
 rotate_left
 ·show Act.put _ (some 29) _ = _
  simp only [Act.put, List.setIfInBounds_toArray, List.set_cons_zero, List.set_cons_succ, i64_w, i32_w]
  rfl
 refine one_ (i := 25) (N := some 30) #[true, true, true, true, true, true, true, true, true, true, true, true, true, true, true, true, true, true, true, true, true, true, true, true, true, true, false, false] rfl rfl (one_of HT_.out (by kernel_rfl)) (by decide) (fun K hK => ?_)
 refine Kd.R_lit_step (Kd.int .i64) _ 3 ?hg (N := 30) ?hd (xs := ([t176, t177, t178, t181, t182] : List Int)) (inner := [.int .i64 t176, .int .i64 t177, .int .i64 t178, .int .i64 t181, .int .i64 t182]) (ok := fun _ => True) (okp := fun _ => True) ?hr ?hp (fun _ hk => hk) trivial (Below.refl _ _) (Nat.le_refl _) (by simp) ?_; (case hd => rfl); (case hg => rfl); (case hr => first | (go_simp; done) | (go_simp; rfl)); (case hp => exact (Reps.one (show Kd.M (Kd.int .i64) _ _ _ t176 [.int .i64 t176] from rfl) (Reps.one (show Kd.M (Kd.int .i64) _ _ _ t177 [.int .i64 t177] from rfl) (Reps.one (show Kd.M (Kd.int .i64) _ _ _ t178 [.int .i64 t178] from rfl) (Reps.one (show Kd.M (Kd.int .i64) _ _ _ t181 [.int .i64 t181] from rfl) (Reps.one (show Kd.M (Kd.int .i64) _ _ _ t182 [.int .i64 t182] from rfl) (Reps.none _ _)))))))
 intro v184 w16 ho17 hb hg_ hnew_
 clear hg_ hnew_
 (first | rw [← Ny183.out] at ho17 | (simp only [Int.reduceToNat] at ho17; rw [← Ny183.out] at ho17))
 have n0_ := Aside0.mk (Kd.R_lower ho17 (below_size bw))
 have n1_ := Aside0.mk (blk_below (g := gb174) (o := .cells #[.string a0_0, .string a0_1, .string a0_2, .int .u64 a0_3, .int .i64 a0_4, .string a0_5] 35 (0, 0)) (lb BK174) hb)
 have n2_ := Aside0.mk (blk_below (g := gb175) (o := .cells #[.string a1_0, .string a1_1, .string a1_2, .int .u64 a1_3, .int .i64 a1_4, .string a1_5] 35 (0, 0)) (lb BK175) hb)
 have n3_ := Aside0.mk (below_step bw hb)
 clear BK174
 clear BK175
 clear HB
 have HO185 := n0_
 have BK174 := n1_
 have BK175 := n2_
 have HB := n3_
 clear n0_ n1_ n2_ n3_
 clear hb ho17
 obtain ⟨Ao18, co18, eo18⟩ := Kd.R_slice HO185.out
 (first | subst eo18 | (injection eo18 with f1_ f2_ f3_; have f4_ := f1_.symm; have f5_ := f3_.symm; clear f1_ f2_ f3_; subst f4_; subst f5_))
 refine hK.out _ _ ⟨(blk_cell BK174.out 0).trans rfl, (blk_cell BK174.out 1).trans rfl, (blk_cell BK174.out 2).trans rfl, (blk_cell BK174.out 3).trans rfl, (blk_cell BK174.out 4).trans rfl, (blk_cell BK174.out 5).trans rfl, (blk_cell BK175.out 0).trans rfl, (blk_cell BK175.out 1).trans rfl, (blk_cell BK175.out 2).trans rfl, (blk_cell BK175.out 3).trans rfl, (blk_cell BK175.out 4).trans rfl, (blk_cell BK175.out 5).trans rfl⟩ (fun hHeld => ?_)
 clear hK K
 refine norm_ (a' := ?_) ?_ ?_
 rotate_left
 ·show Act.put _ (some 30) _ = _
  simp only [Act.put, List.setIfInBounds_toArray, List.set_cons_zero, List.set_cons_succ, i64_w, i32_w]
  rfl
 refine one_ (i := 26) (N := some 31) #[true, true, true, true, true, true, true, true, true, true, true, true, true, true, true, true, true, true, true, true, true, true, true, true, true, true, true, false] rfl rfl (one_of HT_.out (by kernel_rfl)) (by decide) (fun K hK => ?_)
 refine goes_ Try.func94 (by kernel_rfl) rfl #[.slice Ao18 y183.length co18] (by rfl) rfl rfl (by (try simp only [List.map_toArray, List.map_cons, List.map_nil]); first | done | rfl | (simp only [List.length_drop, List.length_take]; rfl)) ?_
 with_reducible refine (cmp_Or_int.calls k _ _ y183 t186 _ ?side1 ?side2 A10.out).mono ?_
 (case side1 => repeat (first | exact (Kd.R_reads' HO185.out).2.2 | (with_reducible refine Kd.C_alloc ?_ _) | (with_reducible refine Kd.C_drewN ?_ _) | (with_reducible refine Kd.C_drew ?_)))
 (case side2 => exact (Kd.R_reads' HO185.out).2.1)
 rintro e w' ⟨rfl, ⟨nd, rfl⟩⟩
 refine ⟨_, rfl, ?_⟩
 refine hK.out _ _ ⟨(blk_cell BK174.out 0).trans rfl, (blk_cell BK174.out 1).trans rfl, (blk_cell BK174.out 2).trans rfl, (blk_cell BK174.out 3).trans rfl, (blk_cell BK174.out 4).trans rfl, (blk_cell BK174.out 5).trans rfl, (blk_cell BK175.out 0).trans rfl, (blk_cell BK175.out 1).trans rfl, (blk_cell BK175.out 2).trans rfl, (blk_cell BK175.out 3).trans rfl, (blk_cell BK175.out 4).trans rfl, (blk_cell BK175.out 5).trans rfl⟩ (fun hHeld => ?_)
 clear hK K
 refine norm_ (a' := ?_) ?_ ?_
 rotate_left
 ·show Act.put _ (some 31) _ = _
  simp only [Act.put, List.setIfInBounds_toArray, List.set_cons_zero, List.set_cons_succ, i64_w, i32_w]
  rfl
 refine pure_ (i := 27) (N := some 4) (v := ?_) (a' := ?_) #[true, true, true, true, true, true, true, true, true, true, true, true, true, true, true, true, true, true, true, true, true, true, true, true, true, true, true, true] rfl rfl (any_of HT_.out (by kernel_rfl)) (fun _ _ _ h => h) (Or.inl ⟨by rfl, ?_⟩) ?_ ?_
 rotate_left
 ·intro w'
  go_simp
  with_reducible rfl
 rotate_left
 ·simp only [Act.put, List.setIfInBounds_toArray, List.set_cons_zero, List.set_cons_succ, i64_w, i32_w]
  rfl
 refine done_ (done_of HT_.out (by kernel_rfl)) ?_
 try go_wp2
 go_ret
 exact ⟨by first | rfl | (simp [errW_none, errW_some] <;> rfl) | (simp [*, errW_none, errW_some] <;> rfl), bw⟩

end Go.Proofs.Ytdknjbadnbangaa.Q

namespace Go.Proofs.Ytdknjbadnbangaa.Q
open Go.RowKit Go.Proofs.YtdknjbadnbangaaW.PrintWords Go.Proofs.YtdknjbadnbangaaW.PrintLast Go.Proofs.YtdknjbadnbangaaW.PrintMore
set_option linter.unusedVariables false
set_option linter.unusedSimpArgs false

/-! ### impl_Entry_column: function 74 -/
def impl_Entry_column.f (a0_0 : ByteArray) (a0_1 : ByteArray) (a0_2 : ByteArray) (a0_3 : Int) (a0_4 : Int) (a0_5 : ByteArray) : Option (ByteArray × ByteArray × ByteArray) := some (a0_0, a0_1, a0_2)
set_option maxHeartbeats 8000000 in
set_option maxRecDepth 100000 in
theorem impl_Entry_column.calls (a0_0 : ByteArray) (a0_1 : ByteArray) (a0_2 : ByteArray) (a0_3 : Int) (a0_4 : Int) (a0_5 : ByteArray) (r1 : ByteArray) (r2 : ByteArray) (r3 : ByteArray) (w : World) (h : impl_Entry_column.f a0_0 a0_1 a0_2 a0_3 a0_4 a0_5 = some (r1, r2, r3)) :
  Calls Try.prog 74 #[.agg #[.string a0_0, .string a0_1, .string a0_2, .int .u64 a0_3, .int .i64 a0_4, .string a0_5]] w fun e w' => e = .returned (.agg #[.string r1, .string r2, .string r3]) ∧ Below w.heap.size w w' := by
 have hu35 := Try.underlying35
 have hu113 := Try.underlying113
 have HB := Aside0.mk (Below.refl w.heap.size w)
 have H : (some (a0_0, a0_1, a0_2)) = some (r1, r2, r3) := h
 clear h
 simp only [Option.some.injEq, Prod.mk.injEq] at H
 obtain ⟨rfl, rfl, rfl⟩ := H
 go_enter Try.func74, Try.ntmps74
 go_wp2_with (first | ((with_reducible refine gate_dst (N := 1) rfl ?_); refine box_event ?hg (N := 1) ?hd (cs := #[.string a0_0, .string a0_1, .string a0_2, .int .u64 a0_3, .int .i64 a0_4, .string a0_5]) (t := 35) ?hr ?_; (case hd => rfl); (case hg => rfl); (case hr => first | (go_simp; done) | (go_simp; rfl)); intro gb332 hg w2 hbox hb; have n0_ := Aside0.mk (below_step bw hb); have n1_ := Aside0.mk (hbox); have n2_ := Aside0.mk ((by rw [hg]; exact (below_size bw) : w.heap.size ≤ gb332)); have n3_ := Aside0.mk ((by rw [hg]; exact (below_size bw) : w.heap.size ≤ gb332)); clear HB; have HB := n0_; have BK332 := n1_; have GW332 := n2_; have GE332 := n3_; clear n0_ n1_ n2_ n3_; clear hb hbox hg) | ((with_reducible refine gate_dst (N := 2) rfl ?_); refine box_event ?hg (N := 2) ?hd (cs := #[.string (⟨#[]⟩ : ByteArray), .string (⟨#[]⟩ : ByteArray), .string (⟨#[]⟩ : ByteArray)]) (t := 113) ?hr ?_; (case hd => rfl); (case hg => rfl); (case hr => first | (go_simp; done) | (go_simp; rfl)); intro gb333 hg w3 hbox hb; have n0_ := Aside0.mk (blk_below (g := gb332) (o := .cells #[.string a0_0, .string a0_1, .string a0_2, .int .u64 a0_3, .int .i64 a0_4, .string a0_5] 35 (0, 0)) (lb BK332) hb); have n1_ := Aside0.mk (below_step bw hb); have n2_ := Aside0.mk (hbox); have n3_ := Aside0.mk ((by rw [hg]; exact (below_size bw) : w.heap.size ≤ gb333)); have n4_ := Aside0.mk ((by rw [hg]; exact (below_size bw) : w.heap.size ≤ gb333)); have n5_ := Aside0.mk ((by rw [hg]; exact Nat.ne_of_lt (blk_lt (g := gb332) (o := .cells #[.string a0_0, .string a0_1, .string a0_2, .int .u64 a0_3, .int .i64 a0_4, .string a0_5] 35 (0, 0)) (lb BK332)) : gb332 ≠ gb333)); have n6_ := Aside0.mk ((by rw [hg]; exact Nat.ne_of_gt (blk_lt (g := gb332) (o := .cells #[.string a0_0, .string a0_1, .string a0_2, .int .u64 a0_3, .int .i64 a0_4, .string a0_5] 35 (0, 0)) (lb BK332)) : gb333 ≠ gb332)); clear BK332; clear HB; have BK332 := n0_; have HB := n1_; have BK333 := n2_; have GW333 := n3_; have GE333 := n4_; have NB332_333 := n5_; have NB333_332 := n6_; clear n0_ n1_ n2_ n3_ n4_ n5_ n6_; clear hb hbox hg; have hnb4 := NB332_333.out; have hnc4 := NB333_332.out; have hcz5_0 : w3.cell? ⟨gb332, 0, none⟩ = some (.string a0_0) := (blk_cell BK332.out 0).trans rfl; have hcz5_1 : w3.cell? ⟨gb332, 1, none⟩ = some (.string a0_1) := (blk_cell BK332.out 1).trans rfl; have hcz5_2 : w3.cell? ⟨gb332, 2, none⟩ = some (.string a0_2) := (blk_cell BK332.out 2).trans rfl; have hcz5_3 : w3.cell? ⟨gb332, 3, none⟩ = some (.int .u64 a0_3) := (blk_cell BK332.out 3).trans rfl; have hcz5_4 : w3.cell? ⟨gb332, 4, none⟩ = some (.int .i64 a0_4) := (blk_cell BK332.out 4).trans rfl; have hcz5_5 : w3.cell? ⟨gb332, 5, none⟩ = some (.string a0_5) := (blk_cell BK332.out 5).trans rfl; have hfz5_0 := blk_frozen BK332.out 0; have hfz5_1 := blk_frozen BK332.out 1; have hfz5_2 := blk_frozen BK332.out 2; have hfz5_3 := blk_frozen BK332.out 3; have hfz5_4 := blk_frozen BK332.out 4; have hfz5_5 := blk_frozen BK332.out 5; have hcz6_0 : w3.cell? ⟨gb333, 0, none⟩ = some (.string (⟨#[]⟩ : ByteArray)) := (blk_cell BK333.out 0).trans rfl; have hcz6_1 : w3.cell? ⟨gb333, 1, none⟩ = some (.string (⟨#[]⟩ : ByteArray)) := (blk_cell BK333.out 1).trans rfl; have hcz6_2 : w3.cell? ⟨gb333, 2, none⟩ = some (.string (⟨#[]⟩ : ByteArray)) := (blk_cell BK333.out 2).trans rfl; have hfz6_0 := blk_frozen BK333.out 0; have hfz6_1 := blk_frozen BK333.out 1; have hfz6_2 := blk_frozen BK333.out 2))
 refine bodyPost_ret (results_cell_row rfl _ _ gb333 113 #[.string a0_0, .string a0_1, .string a0_2] (0, 0) _ rfl (by (with_reducible repeat (first | refine blk_drewN ?_ _ | refine blk_drew ?_ | refine blk_alloc ?_ _)); refine blk_put (cs := #[.string a0_0, .string a0_1, .string (⟨#[]⟩ : ByteArray)]) ?_ 2 _ rfl; (with_reducible repeat (first | refine blk_drewN ?_ _ | refine blk_drew ?_ | refine blk_alloc ?_ _)); refine blk_put (cs := #[.string a0_0, .string (⟨#[]⟩ : ByteArray), .string (⟨#[]⟩ : ByteArray)]) ?_ 1 _ rfl; (with_reducible repeat (first | refine blk_drewN ?_ _ | refine blk_drew ?_ | refine blk_alloc ?_ _)); refine blk_put (cs := #[.string (⟨#[]⟩ : ByteArray), .string (⟨#[]⟩ : ByteArray), .string (⟨#[]⟩ : ByteArray)]) ?_ 0 _ rfl; (with_reducible repeat (first | refine blk_drewN ?_ _ | refine blk_drew ?_ | refine blk_alloc ?_ _)); exact BK333.out) Try.underlying113 rfl (by kernel_rfl)) rfl ?_
 exact ⟨by first | rfl | (simp [errW_none, errW_some] <;> rfl) | (simp [*, errW_none, errW_some] <;> rfl), bw⟩

end Go.Proofs.Ytdknjbadnbangaa.Q

namespace Go.Proofs.Ytdknjbadnbangaa.Q
open Go.RowKit Go.Proofs.YtdknjbadnbangaaW.PrintWords Go.Proofs.YtdknjbadnbangaaW.PrintLast Go.Proofs.YtdknjbadnbangaaW.PrintMore
set_option linter.unusedVariables false
set_option linter.unusedSimpArgs false

attribute [local go_sem high] eqA113
/-! ### impl_ValidRun: function 42 -/
mutual
def impl_ValidRun.l0 : Nat → List (S35) → Int → Int → List (S35) → Option (Bool)
 | 0, _, _, _, _ => none
 | k + 1, x11, x12, x13, x335000 => if x13 < x12 then (if 0 ≤ x13 then (if x13 < (x11.length : Int) then ((impl_ValidEntry.f ((rd_T35 x11 x13).f0) ((rd_T35 x11 x13).f1) ((rd_T35 x11 x13).f2) ((rd_T35 x11 x13).f3) ((rd_T35 x11 x13).f4) ((rd_T35 x11 x13).f5)).bind fun t337 => (if t337 = true then (if x13 = 0 then (impl_ValidRun.l0 k x11 x12 (wrap64 (x13 + 1)) x335000) else (if 0 ≤ (wrap64 (x13 - 1)) then (if (wrap64 (x13 - 1)) < (x335000.length : Int) then ((impl_Entry_compare.f k ((rd_T35 x335000 (wrap64 (x13 - 1))).f0) ((rd_T35 x335000 (wrap64 (x13 - 1))).f1) ((rd_T35 x335000 (wrap64 (x13 - 1))).f2) ((rd_T35 x335000 (wrap64 (x13 - 1))).f3) ((rd_T35 x335000 (wrap64 (x13 - 1))).f4) ((rd_T35 x335000 (wrap64 (x13 - 1))).f5) ((rd_T35 x11 x13).f0) ((rd_T35 x11 x13).f1) ((rd_T35 x11 x13).f2) ((rd_T35 x11 x13).f3) ((rd_T35 x11 x13).f4) ((rd_T35 x11 x13).f5)).bind fun t340 => (if t340 ≥ 0 then (impl_ValidRun.j1 k x11 x12 x13 true x335000) else (if ((rd_T35 x335000 (wrap64 (x13 - 1))).f4) = 2 then (if ((rd_T35 x11 x13).f4) = 2 then ((impl_Entry_column.f ((rd_T35 x335000 (wrap64 (x13 - 1))).f0) ((rd_T35 x335000 (wrap64 (x13 - 1))).f1) ((rd_T35 x335000 (wrap64 (x13 - 1))).f2) ((rd_T35 x335000 (wrap64 (x13 - 1))).f3) ((rd_T35 x335000 (wrap64 (x13 - 1))).f4) ((rd_T35 x335000 (wrap64 (x13 - 1))).f5)).bind fun bt341 => ((impl_Entry_column.f ((rd_T35 x11 x13).f0) ((rd_T35 x11 x13).f1) ((rd_T35 x11 x13).f2) ((rd_T35 x11 x13).f3) ((rd_T35 x11 x13).f4) ((rd_T35 x11 x13).f5)).bind fun bt344 => (impl_ValidRun.j1 k x11 x12 x13 (bt341.1.toList == bt344.1.toList && (bt341.2.1.toList == bt344.2.1.toList && (bt341.2.2.toList == bt344.2.2.toList))) x335000))) else (impl_ValidRun.j1 k x11 x12 x13 false x335000)) else (impl_ValidRun.j1 k x11 x12 x13 false x335000)))) else (none)) else (none))) else (some false))) else (none)) else (none)) else (some true)
def impl_ValidRun.j1 : Nat → List (S35) → Int → Int → Bool → List (S35) → Option (Bool)
 | 0, _, _, _, _, _ => none
 | k + 1, x11, x12, x13, x49, x335000 => if x49 = true then (some false) else (impl_ValidRun.l0 k x11 x12 (wrap64 (x13 + 1)) x335000)
end
def impl_ValidRun.f (k : Nat) (l0_0 : List (S35)) : Option (Bool) := if (l0_0.length : Int) > 10000 then (some false) else (impl_ValidRun.l0 k l0_0 (l0_0.length : Int) 0 l0_0)
def impl_ValidRun.T10 : Bool × List (List Nat × List Nat) := (true, [([], []), ([], []), ([0, 1], [0, 1]), ([2], [2]), ([3, 2], [3]), ([4], [4]), ([5, 4], [4, 5]), ([6, 4], [4, 6]), ([7, 4, 4], [4, 7]), ([8], [8]), ([9, 8], [8, 9]), ([10, 8], [8, 10]), ([8, 11, 4], [4, 8, 11]), ([12, 8, 4], [4, 12]), ([13], [13]), ([14, 13, 13], [13, 14]), ([13], [13]), ([16, 15, 13], [13, 16]), ([15, 17, 13], [13, 15, 17]), ([13, 18, 4], [4, 13, 18]), ([4, 19], [4, 19])])
def impl_ValidRun.B10 : List Nat := [0, 0, 3, 7, 15, 31, 63, 127, 255, 511, 1023, 2047, 4095, 8191, 16383, 32767, 16383, 131071, 262143, 524287, 1048575]
theorem impl_ValidRun.tab10 : rtab .any (opsOf Try.f42 10) = impl_ValidRun.T10 := by kernel_rfl
theorem impl_ValidRun.bits10 : waitsOk impl_ValidRun.T10.2 impl_ValidRun.B10 = true := by kernel_rfl
set_option maxHeartbeats 8000000 in
set_option maxRecDepth 100000 in
theorem impl_ValidRun.calls (k : Nat) (A0_0 : Option Addr) (c0_0 : Nat) (l0_0 : List (S35)) (r : Bool) (w : World) (hr0_0 : Kd.C k35 w A0_0 l0_0.length l0_0) (hc0_0 : l0_0.length ≤ c0_0) (h : impl_ValidRun.f k l0_0 = some r) :
  Calls Try.prog 42 #[.agg #[.slice A0_0 l0_0.length c0_0]] w fun e w' => e = .returned (.bool r) ∧ Below w.heap.size w w' := by
 have hu66 := Try.underlying66
 have hu35 := Try.underlying35
 have HR0_0 := Aside0.mk hr0_0
 have HC0_0 := Aside0.mk hc0_0
 clear hr0_0 hc0_0
 have HB := Aside0.mk (Below.refl w.heap.size w)
 have H : (if (l0_0.length : Int) > 10000 then (some false) else (impl_ValidRun.l0 k l0_0 (l0_0.length : Int) 0 l0_0)) = some r := h
 clear h
 by_cases c2 : (l0_0.length : Int) > 10000
 ·rw [if_pos c2] at H
  have c2b0 : decide (10000 < (l0_0.length : Int)) = true := decide_eq_true c2
  have c2b1 : decide (10000 < l0_0.length) = true := decide_eq_true (by omega)
  clear c2
  obtain rfl := Option.some.inj H
  go_enter Try.func42, Try.ntmps42
  go_wp2_with (first | ((with_reducible refine gate_dst (N := 1) rfl ?_); refine box_event ?hg (N := 1) ?hd (cs := #[.slice A0_0 l0_0.length c0_0]) (t := 66) ?hr ?_; (case hd => rfl); (case hg => rfl); (case hr => first | (go_simp; done) | (go_simp; rfl)); intro gb334 hg w3 hbox hb; have n0_ := Aside0.mk (below_step bw hb); have n1_ := Aside0.mk (hbox); have n2_ := Aside0.mk ((by rw [hg]; exact (below_size bw) : w.heap.size ≤ gb334)); have n3_ := Aside0.mk ((by rw [hg]; exact (below_size bw) : w.heap.size ≤ gb334)); clear HB; have HB := n0_; have BK334 := n1_; have GW334 := n2_; have GE334 := n3_; clear n0_ n1_ n2_ n3_; clear hb hbox hg; have hcz4_0 : w3.cell? ⟨gb334, 0, none⟩ = some (.slice A0_0 l0_0.length c0_0) := (blk_cell BK334.out 0).trans rfl; have hfz4_0 := blk_frozen BK334.out 0))
  go_ret
  exact ⟨by first | rfl | (simp [errW_none, errW_some] <;> rfl) | (simp [*, errW_none, errW_some] <;> rfl), bw⟩
 ·rw [if_neg c2] at H
  have c2b0 : decide (10000 < (l0_0.length : Int)) = false := decide_eq_false c2
  have c2b1 : decide (10000 < l0_0.length) = false := decide_eq_false (by omega)
  clear c2
  have H' := Aside0.mk H
  clear H
  go_enter Try.func42, Try.ntmps42
  go_wp2_with (first | ((with_reducible refine gate_dst (N := 1) rfl ?_); refine box_event ?hg (N := 1) ?hd (cs := #[.slice A0_0 l0_0.length c0_0]) (t := 66) ?hr ?_; (case hd => rfl); (case hg => rfl); (case hr => first | (go_simp; done) | (go_simp; rfl)); intro gb334 hg w5 hbox hb; have n0_ := Aside0.mk (below_step bw hb); have n1_ := Aside0.mk (hbox); have n2_ := Aside0.mk ((by rw [hg]; exact (below_size bw) : w.heap.size ≤ gb334)); have n3_ := Aside0.mk ((by rw [hg]; exact (below_size bw) : w.heap.size ≤ gb334)); clear HB; have HB := n0_; have BK334 := n1_; have GW334 := n2_; have GE334 := n3_; clear n0_ n1_ n2_ n3_; clear hb hbox hg; have hcz6_0 : w5.cell? ⟨gb334, 0, none⟩ = some (.slice A0_0 l0_0.length c0_0) := (blk_cell BK334.out 0).trans rfl; have hfz6_0 := blk_frozen BK334.out 0))
  go_loopg [13] k (fun kq v13 w' => ∃ (x13_1 : Int), v13 = .int .i64 x13_1 ∧ Aside0 (impl_ValidRun.l0 kq l0_0 (l0_0.length : Int) x13_1 l0_0 = some r) ∧ Aside0 (kq ≤ k) ∧ Aside0 (w'.heap[gb334]? = some (.cells #[(.slice A0_0 l0_0.length c0_0)] 66 (0, 0))) ∧ Aside0 (Below w.heap.size w w'))
  case atStart => exact ⟨(0), (by first | rfl | (simp; done) | (simp [*]; done)), H', ⟨Nat.le_refl _⟩, ⟨lb BK334⟩, ⟨bw⟩⟩
  case round =>
   clear H'
   try clear c2
   try clear c2b0
   try clear c2b1
   try clear p2
   try clear c4
   try clear hcz4_0
   try clear hcz6_0
   try clear hfz4_0
   try clear hfz6_0
   obtain ⟨x13_1, rfl, HA, HK1, BK334, HB⟩ := hrel
   cases gk with
   | zero => exact absurd HA.out (by simp [impl_ValidRun.l0])
   | succ k1 =>
    have H := HA.out
    clear HA
    simp only [impl_ValidRun.l0] at H
    by_cases c7 : x13_1 < (l0_0.length : Int)
    ·rw [if_pos c7] at H
     have c7b0 : decide (x13_1 < (l0_0.length : Int)) = true := decide_eq_true c7
     clear c7
     by_cases c8 : 0 ≤ x13_1
     ·rw [if_pos c8] at H
      have c8b0 : decide (0 ≤ x13_1) = true := decide_eq_true c8
      clear c8
      by_cases c9 : x13_1 < (l0_0.length : Int)
      ·rw [if_pos c9] at H
       have c9b0 : decide (x13_1 < (l0_0.length : Int)) = true := decide_eq_true c9
       clear c9
       replace H := Option.bind_eq_some_iff.mp H
       obtain ⟨t337, A100, H⟩ := H
       replace H : (if t337 = true then (if x13_1 = 0 then (impl_ValidRun.l0 k1 l0_0 (l0_0.length : Int) (wrap64 (x13_1 + 1)) l0_0) else (if 0 ≤ (wrap64 (x13_1 - 1)) then (if (wrap64 (x13_1 - 1)) < (l0_0.length : Int) then ((impl_Entry_compare.f k1 ((rd_T35 l0_0 (wrap64 (x13_1 - 1))).f0) ((rd_T35 l0_0 (wrap64 (x13_1 - 1))).f1) ((rd_T35 l0_0 (wrap64 (x13_1 - 1))).f2) ((rd_T35 l0_0 (wrap64 (x13_1 - 1))).f3) ((rd_T35 l0_0 (wrap64 (x13_1 - 1))).f4) ((rd_T35 l0_0 (wrap64 (x13_1 - 1))).f5) ((rd_T35 l0_0 x13_1).f0) ((rd_T35 l0_0 x13_1).f1) ((rd_T35 l0_0 x13_1).f2) ((rd_T35 l0_0 x13_1).f3) ((rd_T35 l0_0 x13_1).f4) ((rd_T35 l0_0 x13_1).f5)).bind fun t340 => (if t340 ≥ 0 then (impl_ValidRun.j1 k1 l0_0 (l0_0.length : Int) x13_1 true l0_0) else (if ((rd_T35 l0_0 (wrap64 (x13_1 - 1))).f4) = 2 then (if ((rd_T35 l0_0 x13_1).f4) = 2 then ((impl_Entry_column.f ((rd_T35 l0_0 (wrap64 (x13_1 - 1))).f0) ((rd_T35 l0_0 (wrap64 (x13_1 - 1))).f1) ((rd_T35 l0_0 (wrap64 (x13_1 - 1))).f2) ((rd_T35 l0_0 (wrap64 (x13_1 - 1))).f3) ((rd_T35 l0_0 (wrap64 (x13_1 - 1))).f4) ((rd_T35 l0_0 (wrap64 (x13_1 - 1))).f5)).bind fun bt341 => ((impl_Entry_column.f ((rd_T35 l0_0 x13_1).f0) ((rd_T35 l0_0 x13_1).f1) ((rd_T35 l0_0 x13_1).f2) ((rd_T35 l0_0 x13_1).f3) ((rd_T35 l0_0 x13_1).f4) ((rd_T35 l0_0 x13_1).f5)).bind fun bt344 => (impl_ValidRun.j1 k1 l0_0 (l0_0.length : Int) x13_1 (bt341.1.toList == bt344.1.toList && (bt341.2.1.toList == bt344.2.1.toList && (bt341.2.2.toList == bt344.2.2.toList))) l0_0))) else (impl_ValidRun.j1 k1 l0_0 (l0_0.length : Int) x13_1 false l0_0)) else (impl_ValidRun.j1 k1 l0_0 (l0_0.length : Int) x13_1 false l0_0)))) else (none)) else (none))) else (some false)) = some r := H
       have A10 := Aside0.mk A100
       clear A100
       by_cases c11 : t337 = true
       ·subst c11
        have H1 : (if x13_1 = 0 then (impl_ValidRun.l0 k1 l0_0 (l0_0.length : Int) (wrap64 (x13_1 + 1)) l0_0) else (if 0 ≤ (wrap64 (x13_1 - 1)) then (if (wrap64 (x13_1 - 1)) < (l0_0.length : Int) then ((impl_Entry_compare.f k1 ((rd_T35 l0_0 (wrap64 (x13_1 - 1))).f0) ((rd_T35 l0_0 (wrap64 (x13_1 - 1))).f1) ((rd_T35 l0_0 (wrap64 (x13_1 - 1))).f2) ((rd_T35 l0_0 (wrap64 (x13_1 - 1))).f3) ((rd_T35 l0_0 (wrap64 (x13_1 - 1))).f4) ((rd_T35 l0_0 (wrap64 (x13_1 - 1))).f5) ((rd_T35 l0_0 x13_1).f0) ((rd_T35 l0_0 x13_1).f1) ((rd_T35 l0_0 x13_1).f2) ((rd_T35 l0_0 x13_1).f3) ((rd_T35 l0_0 x13_1).f4) ((rd_T35 l0_0 x13_1).f5)).bind fun t340 => (if t340 ≥ 0 then (impl_ValidRun.j1 k1 l0_0 (l0_0.length : Int) x13_1 true l0_0) else (if ((rd_T35 l0_0 (wrap64 (x13_1 - 1))).f4) = 2 then (if ((rd_T35 l0_0 x13_1).f4) = 2 then ((impl_Entry_column.f ((rd_T35 l0_0 (wrap64 (x13_1 - 1))).f0) ((rd_T35 l0_0 (wrap64 (x13_1 - 1))).f1) ((rd_T35 l0_0 (wrap64 (x13_1 - 1))).f2) ((rd_T35 l0_0 (wrap64 (x13_1 - 1))).f3) ((rd_T35 l0_0 (wrap64 (x13_1 - 1))).f4) ((rd_T35 l0_0 (wrap64 (x13_1 - 1))).f5)).bind fun bt341 => ((impl_Entry_column.f ((rd_T35 l0_0 x13_1).f0) ((rd_T35 l0_0 x13_1).f1) ((rd_T35 l0_0 x13_1).f2) ((rd_T35 l0_0 x13_1).f3) ((rd_T35 l0_0 x13_1).f4) ((rd_T35 l0_0 x13_1).f5)).bind fun bt344 => (impl_ValidRun.j1 k1 l0_0 (l0_0.length : Int) x13_1 (bt341.1.toList == bt344.1.toList && (bt341.2.1.toList == bt344.2.1.toList && (bt341.2.2.toList == bt344.2.2.toList))) l0_0))) else (impl_ValidRun.j1 k1 l0_0 (l0_0.length : Int) x13_1 false l0_0)) else (impl_ValidRun.j1 k1 l0_0 (l0_0.length : Int) x13_1 false l0_0)))) else (none)) else (none))) = some r := by rw [if_pos rfl] at H; exact H
        clear H
        have H := H1
        clear H1
        by_cases c12 : x13_1 = 0
        ·rw [if_pos c12] at H
         have c12b0 : (x13_1 == 0) = true := beq_iff_eq.mpr c12
         have c12b1 : (x13_1 != 0) = false := bne_eq_false_iff_eq.mpr c12
         clear c12
         have H' := Aside0.mk H
         clear H
         have p335 : 0 ≤ (x13_1 : Int) := of_decide_eq_true (by first | (with_reducible assumption) | assumption)
         have q335 : x13_1 < (l0_0.length : Int) := of_decide_eq_true (by first | (with_reducible assumption) | assumption)
         obtain ⟨ad335, e335, hx335_0, hx335_1, hx335_2, hx335_3, hx335_4, hx335_5⟩ := at_T35 HR0_0.out x13_1 p335 q335
         cases e335
         replace hx335_0 := (HB.out.cell (World.block_lt_of_cell? w _ hx335_0)).trans hx335_0
         replace hx335_1 := (HB.out.cell (World.block_lt_of_cell? w _ hx335_1)).trans hx335_1
         replace hx335_2 := (HB.out.cell (World.block_lt_of_cell? w _ hx335_2)).trans hx335_2
         replace hx335_3 := (HB.out.cell (World.block_lt_of_cell? w _ hx335_3)).trans hx335_3
         replace hx335_4 := (HB.out.cell (World.block_lt_of_cell? w _ hx335_4)).trans hx335_4
         replace hx335_5 := (HB.out.cell (World.block_lt_of_cell? w _ hx335_5)).trans hx335_5
         replace p335 := eq_true p335
         replace q335 := eq_true q335
         go_wp2_with (first | ((with_reducible refine gate_dst (N := 4) rfl ?_); refine box_event ?hg (N := 4) ?hd (cs := #[.string (⟨#[]⟩ : ByteArray), .string (⟨#[]⟩ : ByteArray), .string (⟨#[]⟩ : ByteArray), .int .u64 0, .int .i64 0, .string (⟨#[]⟩ : ByteArray)]) (t := 35) ?hr ?_; (case hd => rfl); (case hg => rfl); (case hr => first | (go_simp; done) | (go_simp; rfl)); intro gb336 hg w13 hbox hb; have n0_ := Aside0.mk (blk_below (g := gb334) (o := .cells #[.slice (some ad335) l0_0.length c0_0] 66 (0, 0)) (lb BK334) hb); have n1_ := Aside0.mk (below_step bw hb); have n2_ := Aside0.mk (hbox); have n3_ := Aside0.mk ((by rw [hg]; exact (below_size bw) : w.heap.size ≤ gb336)); have n4_ := Aside0.mk ((by rw [hg]; exact (below_size bw) : w.heap.size ≤ gb336)); have n5_ := Aside0.mk ((by rw [hg]; exact Nat.ne_of_lt (blk_lt (g := gb334) (o := .cells #[.slice (some ad335) l0_0.length c0_0] 66 (0, 0)) (lb BK334)) : gb334 ≠ gb336)); have n6_ := Aside0.mk ((by rw [hg]; exact Nat.ne_of_gt (blk_lt (g := gb334) (o := .cells #[.slice (some ad335) l0_0.length c0_0] 66 (0, 0)) (lb BK334)) : gb336 ≠ gb334)); clear BK334; clear HB; have BK334 := n0_; have HB := n1_; have BK336 := n2_; have GW336 := n3_; have GE336 := n4_; have NB334_336 := n5_; have NB336_334 := n6_; clear n0_ n1_ n2_ n3_ n4_ n5_ n6_; clear hb hbox hg; have hnb14 := NB336_334.out; have hnc14 := NB334_336.out; have hcz15_0 : w13.cell? ⟨gb336, 0, none⟩ = some (.string (⟨#[]⟩ : ByteArray)) := (blk_cell BK336.out 0).trans rfl; have hcz15_1 : w13.cell? ⟨gb336, 1, none⟩ = some (.string (⟨#[]⟩ : ByteArray)) := (blk_cell BK336.out 1).trans rfl; have hcz15_2 : w13.cell? ⟨gb336, 2, none⟩ = some (.string (⟨#[]⟩ : ByteArray)) := (blk_cell BK336.out 2).trans rfl; have hcz15_3 : w13.cell? ⟨gb336, 3, none⟩ = some (.int .u64 0) := (blk_cell BK336.out 3).trans rfl; have hcz15_4 : w13.cell? ⟨gb336, 4, none⟩ = some (.int .i64 0) := (blk_cell BK336.out 4).trans rfl; have hcz15_5 : w13.cell? ⟨gb336, 5, none⟩ = some (.string (⟨#[]⟩ : ByteArray)) := (blk_cell BK336.out 5).trans rfl; have hfz15_0 := blk_frozen BK336.out 0; have hfz15_1 := blk_frozen BK336.out 1; have hfz15_2 := blk_frozen BK336.out 2; have hfz15_3 := blk_frozen BK336.out 3; have hfz15_4 := blk_frozen BK336.out 4; have hfz15_5 := blk_frozen BK336.out 5) | ((with_reducible refine at_fn (f := 22) rfl ?_); refine goesL_ (some 19) rfl rfl Try.func22 (by kernel_rfl) rfl #[.agg #[.string ((rd_T35 l0_0 x13_1).f0), .string ((rd_T35 l0_0 x13_1).f1), .string ((rd_T35 l0_0 x13_1).f2), .int .u64 ((rd_T35 l0_0 x13_1).f3), .int .i64 ((rd_T35 l0_0 x13_1).f4), .string ((rd_T35 l0_0 x13_1).f5)]] rfl (by (try simp only [List.map_toArray, List.map_cons, List.map_nil]); first | done | rfl | (simp only [List.length_drop, List.length_take]; rfl)) ?_; (with_reducible refine (impl_ValidEntry.calls ((rd_T35 l0_0 x13_1).f0) ((rd_T35 l0_0 x13_1).f1) ((rd_T35 l0_0 x13_1).f2) ((rd_T35 l0_0 x13_1).f3) ((rd_T35 l0_0 x13_1).f4) ((rd_T35 l0_0 x13_1).f5) true _ A10.out).mono ?_); rintro e w16 ⟨rfl, hb⟩; refine ⟨_, rfl, ?_⟩; have n0_ := Aside0.mk (blk_below (g := gb334) (o := .cells #[.slice (some ad335) l0_0.length c0_0] 66 (0, 0)) (by (with_reducible repeat (first | refine blk_drewN ?_ _ | refine blk_drew ?_ | refine blk_alloc ?_ _)); refine blk_far ?_ NB334_336.out _; (with_reducible repeat (first | refine blk_drewN ?_ _ | refine blk_drew ?_ | refine blk_alloc ?_ _)); refine blk_far ?_ NB334_336.out _; (with_reducible repeat (first | refine blk_drewN ?_ _ | refine blk_drew ?_ | refine blk_alloc ?_ _)); refine blk_far ?_ NB334_336.out _; (with_reducible repeat (first | refine blk_drewN ?_ _ | refine blk_drew ?_ | refine blk_alloc ?_ _)); refine blk_far ?_ NB334_336.out _; (with_reducible repeat (first | refine blk_drewN ?_ _ | refine blk_drew ?_ | refine blk_alloc ?_ _)); refine blk_far ?_ NB334_336.out _; (with_reducible repeat (first | refine blk_drewN ?_ _ | refine blk_drew ?_ | refine blk_alloc ?_ _)); refine blk_far ?_ NB334_336.out _; (with_reducible repeat (first | refine blk_drewN ?_ _ | refine blk_drew ?_ | refine blk_alloc ?_ _)); exact BK334.out) hb); have n1_ := Aside0.mk (blk_below (g := gb336) (o := .cells #[.string ((rd_T35 l0_0 x13_1).f0), .string ((rd_T35 l0_0 x13_1).f1), .string ((rd_T35 l0_0 x13_1).f2), .int .u64 ((rd_T35 l0_0 x13_1).f3), .int .i64 ((rd_T35 l0_0 x13_1).f4), .string ((rd_T35 l0_0 x13_1).f5)] 35 (0, 0)) (by (with_reducible repeat (first | refine blk_drewN ?_ _ | refine blk_drew ?_ | refine blk_alloc ?_ _)); refine blk_put (cs := #[.string ((rd_T35 l0_0 x13_1).f0), .string ((rd_T35 l0_0 x13_1).f1), .string ((rd_T35 l0_0 x13_1).f2), .int .u64 ((rd_T35 l0_0 x13_1).f3), .int .i64 ((rd_T35 l0_0 x13_1).f4), .string (⟨#[]⟩ : ByteArray)]) ?_ 5 _ rfl; (with_reducible repeat (first | refine blk_drewN ?_ _ | refine blk_drew ?_ | refine blk_alloc ?_ _)); refine blk_put (cs := #[.string ((rd_T35 l0_0 x13_1).f0), .string ((rd_T35 l0_0 x13_1).f1), .string ((rd_T35 l0_0 x13_1).f2), .int .u64 ((rd_T35 l0_0 x13_1).f3), .int .i64 0, .string (⟨#[]⟩ : ByteArray)]) ?_ 4 _ rfl; (with_reducible repeat (first | refine blk_drewN ?_ _ | refine blk_drew ?_ | refine blk_alloc ?_ _)); refine blk_put (cs := #[.string ((rd_T35 l0_0 x13_1).f0), .string ((rd_T35 l0_0 x13_1).f1), .string ((rd_T35 l0_0 x13_1).f2), .int .u64 0, .int .i64 0, .string (⟨#[]⟩ : ByteArray)]) ?_ 3 _ rfl; (with_reducible repeat (first | refine blk_drewN ?_ _ | refine blk_drew ?_ | refine blk_alloc ?_ _)); refine blk_put (cs := #[.string ((rd_T35 l0_0 x13_1).f0), .string ((rd_T35 l0_0 x13_1).f1), .string (⟨#[]⟩ : ByteArray), .int .u64 0, .int .i64 0, .string (⟨#[]⟩ : ByteArray)]) ?_ 2 _ rfl; (with_reducible repeat (first | refine blk_drewN ?_ _ | refine blk_drew ?_ | refine blk_alloc ?_ _)); refine blk_put (cs := #[.string ((rd_T35 l0_0 x13_1).f0), .string (⟨#[]⟩ : ByteArray), .string (⟨#[]⟩ : ByteArray), .int .u64 0, .int .i64 0, .string (⟨#[]⟩ : ByteArray)]) ?_ 1 _ rfl; (with_reducible repeat (first | refine blk_drewN ?_ _ | refine blk_drew ?_ | refine blk_alloc ?_ _)); refine blk_put (cs := #[.string (⟨#[]⟩ : ByteArray), .string (⟨#[]⟩ : ByteArray), .string (⟨#[]⟩ : ByteArray), .int .u64 0, .int .i64 0, .string (⟨#[]⟩ : ByteArray)]) ?_ 0 _ rfl; (with_reducible repeat (first | refine blk_drewN ?_ _ | refine blk_drew ?_ | refine blk_alloc ?_ _)); exact BK336.out) hb); have n2_ := Aside0.mk (below_step bw hb); clear BK334; clear BK336; clear HB; have BK334 := n0_; have BK336 := n1_; have HB := n2_; clear n0_ n1_ n2_; (try clear hb); (try clear hb2); (try clear hk); (try clear hi)))
         go_roundg k1
         case measure => have := HK1.out; omega
         case rel => exact ⟨(wrap64 (x13_1 + 1)), (by first | rfl | (simp; done) | (simp [*]; done)), H', ⟨by have := HK1.out; omega⟩, ⟨lb BK334⟩, ⟨bw⟩⟩
        ·rw [if_neg c12] at H
         have c12b0 : (x13_1 == 0) = false := beq_eq_false_iff_ne.mpr c12
         have c12b1 : (x13_1 != 0) = true := bne_iff_ne.mpr c12
         obtain ⟨ji17, hji17⟩ : ∃ j_ : Int, (wrap64 (x13_1 - 1)) = j_ := ⟨_, rfl⟩
         replace H : (if 0 ≤ (ji17) then (if (ji17) < (l0_0.length : Int) then ((impl_Entry_compare.f k1 ((rd_T35 l0_0 (ji17)).f0) ((rd_T35 l0_0 (ji17)).f1) ((rd_T35 l0_0 (ji17)).f2) ((rd_T35 l0_0 (ji17)).f3) ((rd_T35 l0_0 (ji17)).f4) ((rd_T35 l0_0 (ji17)).f5) ((rd_T35 l0_0 x13_1).f0) ((rd_T35 l0_0 x13_1).f1) ((rd_T35 l0_0 x13_1).f2) ((rd_T35 l0_0 x13_1).f3) ((rd_T35 l0_0 x13_1).f4) ((rd_T35 l0_0 x13_1).f5)).bind fun t340 => (if t340 ≥ 0 then (impl_ValidRun.j1 k1 l0_0 (l0_0.length : Int) x13_1 true l0_0) else (if ((rd_T35 l0_0 (ji17)).f4) = 2 then (if ((rd_T35 l0_0 x13_1).f4) = 2 then ((impl_Entry_column.f ((rd_T35 l0_0 (ji17)).f0) ((rd_T35 l0_0 (ji17)).f1) ((rd_T35 l0_0 (ji17)).f2) ((rd_T35 l0_0 (ji17)).f3) ((rd_T35 l0_0 (ji17)).f4) ((rd_T35 l0_0 (ji17)).f5)).bind fun bt341 => ((impl_Entry_column.f ((rd_T35 l0_0 x13_1).f0) ((rd_T35 l0_0 x13_1).f1) ((rd_T35 l0_0 x13_1).f2) ((rd_T35 l0_0 x13_1).f3) ((rd_T35 l0_0 x13_1).f4) ((rd_T35 l0_0 x13_1).f5)).bind fun bt344 => (impl_ValidRun.j1 k1 l0_0 (l0_0.length : Int) x13_1 (bt341.1.toList == bt344.1.toList && (bt341.2.1.toList == bt344.2.1.toList && (bt341.2.2.toList == bt344.2.2.toList))) l0_0))) else (impl_ValidRun.j1 k1 l0_0 (l0_0.length : Int) x13_1 false l0_0)) else (impl_ValidRun.j1 k1 l0_0 (l0_0.length : Int) x13_1 false l0_0)))) else (none)) else (none)) = some r := by first | (rw [hji17] at H; exact H) | (simp only [hji17] at H ⊢; exact H)
         (try rw [hji17] at A10)
         have hji17w : (IntKind.i64.wrap (x13_1 - 1)) = ji17 := (i64_w _).trans hji17
         by_cases c18 : 0 ≤ (ji17)
         ·rw [if_pos c18] at H
          have c18b0 : decide (0 ≤ (ji17)) = true := decide_eq_true c18
          clear c18
          by_cases c19 : (ji17) < (l0_0.length : Int)
          ·rw [if_pos c19] at H
           have c19b0 : decide ((ji17) < (l0_0.length : Int)) = true := decide_eq_true c19
           clear c19
           have HC20 := Aside0.mk H
           clear H
           have p335 : 0 ≤ (x13_1 : Int) := of_decide_eq_true (by first | (with_reducible assumption) | assumption)
           have q335 : x13_1 < (l0_0.length : Int) := of_decide_eq_true (by first | (with_reducible assumption) | assumption)
           obtain ⟨ad335, e335, hx335_0, hx335_1, hx335_2, hx335_3, hx335_4, hx335_5⟩ := at_T35 HR0_0.out x13_1 p335 q335
           cases e335
           replace hx335_0 := (HB.out.cell (World.block_lt_of_cell? w _ hx335_0)).trans hx335_0
           replace hx335_1 := (HB.out.cell (World.block_lt_of_cell? w _ hx335_1)).trans hx335_1
           replace hx335_2 := (HB.out.cell (World.block_lt_of_cell? w _ hx335_2)).trans hx335_2
           replace hx335_3 := (HB.out.cell (World.block_lt_of_cell? w _ hx335_3)).trans hx335_3
           replace hx335_4 := (HB.out.cell (World.block_lt_of_cell? w _ hx335_4)).trans hx335_4
           replace hx335_5 := (HB.out.cell (World.block_lt_of_cell? w _ hx335_5)).trans hx335_5
           replace p335 := eq_true p335
           replace q335 := eq_true q335
           go_upto_region 10 with (first | ((with_reducible refine gate_dst (N := 4) rfl ?_); refine box_event ?hg (N := 4) ?hd (cs := #[.string (⟨#[]⟩ : ByteArray), .string (⟨#[]⟩ : ByteArray), .string (⟨#[]⟩ : ByteArray), .int .u64 0, .int .i64 0, .string (⟨#[]⟩ : ByteArray)]) (t := 35) ?hr ?_; (case hd => rfl); (case hg => rfl); (case hr => first | (go_simp; done) | (go_simp; rfl)); intro gb336 hg w21 hbox hb; have n0_ := Aside0.mk (blk_below (g := gb334) (o := .cells #[.slice (some ad335) l0_0.length c0_0] 66 (0, 0)) (lb BK334) hb); have n1_ := Aside0.mk (below_step bw hb); have n2_ := Aside0.mk (hbox); have n3_ := Aside0.mk ((by rw [hg]; exact (below_size bw) : w.heap.size ≤ gb336)); have n4_ := Aside0.mk ((by rw [hg]; exact (below_size bw) : w.heap.size ≤ gb336)); have n5_ := Aside0.mk ((by rw [hg]; exact Nat.ne_of_lt (blk_lt (g := gb334) (o := .cells #[.slice (some ad335) l0_0.length c0_0] 66 (0, 0)) (lb BK334)) : gb334 ≠ gb336)); have n6_ := Aside0.mk ((by rw [hg]; exact Nat.ne_of_gt (blk_lt (g := gb334) (o := .cells #[.slice (some ad335) l0_0.length c0_0] 66 (0, 0)) (lb BK334)) : gb336 ≠ gb334)); clear BK334; clear HB; have BK334 := n0_; have HB := n1_; have BK336 := n2_; have GW336 := n3_; have GE336 := n4_; have NB334_336 := n5_; have NB336_334 := n6_; clear n0_ n1_ n2_ n3_ n4_ n5_ n6_; clear hb hbox hg; have hnb22 := NB336_334.out; have hnc22 := NB334_336.out; have hcz23_0 : w21.cell? ⟨gb336, 0, none⟩ = some (.string (⟨#[]⟩ : ByteArray)) := (blk_cell BK336.out 0).trans rfl; have hcz23_1 : w21.cell? ⟨gb336, 1, none⟩ = some (.string (⟨#[]⟩ : ByteArray)) := (blk_cell BK336.out 1).trans rfl; have hcz23_2 : w21.cell? ⟨gb336, 2, none⟩ = some (.string (⟨#[]⟩ : ByteArray)) := (blk_cell BK336.out 2).trans rfl; have hcz23_3 : w21.cell? ⟨gb336, 3, none⟩ = some (.int .u64 0) := (blk_cell BK336.out 3).trans rfl; have hcz23_4 : w21.cell? ⟨gb336, 4, none⟩ = some (.int .i64 0) := (blk_cell BK336.out 4).trans rfl; have hcz23_5 : w21.cell? ⟨gb336, 5, none⟩ = some (.string (⟨#[]⟩ : ByteArray)) := (blk_cell BK336.out 5).trans rfl; have hfz23_0 := blk_frozen BK336.out 0; have hfz23_1 := blk_frozen BK336.out 1; have hfz23_2 := blk_frozen BK336.out 2; have hfz23_3 := blk_frozen BK336.out 3; have hfz23_4 := blk_frozen BK336.out 4; have hfz23_5 := blk_frozen BK336.out 5) | ((with_reducible refine at_fn (f := 22) rfl ?_); refine goesL_ (some 19) rfl rfl Try.func22 (by kernel_rfl) rfl #[.agg #[.string ((rd_T35 l0_0 x13_1).f0), .string ((rd_T35 l0_0 x13_1).f1), .string ((rd_T35 l0_0 x13_1).f2), .int .u64 ((rd_T35 l0_0 x13_1).f3), .int .i64 ((rd_T35 l0_0 x13_1).f4), .string ((rd_T35 l0_0 x13_1).f5)]] rfl (by (try simp only [List.map_toArray, List.map_cons, List.map_nil]); first | done | rfl | (simp only [List.length_drop, List.length_take]; rfl)) ?_; (with_reducible refine (impl_ValidEntry.calls ((rd_T35 l0_0 x13_1).f0) ((rd_T35 l0_0 x13_1).f1) ((rd_T35 l0_0 x13_1).f2) ((rd_T35 l0_0 x13_1).f3) ((rd_T35 l0_0 x13_1).f4) ((rd_T35 l0_0 x13_1).f5) true _ A10.out).mono ?_); rintro e w24 ⟨rfl, hb⟩; refine ⟨_, rfl, ?_⟩; have n0_ := Aside0.mk (blk_below (g := gb334) (o := .cells #[.slice (some ad335) l0_0.length c0_0] 66 (0, 0)) (by (with_reducible repeat (first | refine blk_drewN ?_ _ | refine blk_drew ?_ | refine blk_alloc ?_ _)); refine blk_far ?_ NB334_336.out _; (with_reducible repeat (first | refine blk_drewN ?_ _ | refine blk_drew ?_ | refine blk_alloc ?_ _)); refine blk_far ?_ NB334_336.out _; (with_reducible repeat (first | refine blk_drewN ?_ _ | refine blk_drew ?_ | refine blk_alloc ?_ _)); refine blk_far ?_ NB334_336.out _; (with_reducible repeat (first | refine blk_drewN ?_ _ | refine blk_drew ?_ | refine blk_alloc ?_ _)); refine blk_far ?_ NB334_336.out _; (with_reducible repeat (first | refine blk_drewN ?_ _ | refine blk_drew ?_ | refine blk_alloc ?_ _)); refine blk_far ?_ NB334_336.out _; (with_reducible repeat (first | refine blk_drewN ?_ _ | refine blk_drew ?_ | refine blk_alloc ?_ _)); refine blk_far ?_ NB334_336.out _; (with_reducible repeat (first | refine blk_drewN ?_ _ | refine blk_drew ?_ | refine blk_alloc ?_ _)); exact BK334.out) hb); have n1_ := Aside0.mk (blk_below (g := gb336) (o := .cells #[.string ((rd_T35 l0_0 x13_1).f0), .string ((rd_T35 l0_0 x13_1).f1), .string ((rd_T35 l0_0 x13_1).f2), .int .u64 ((rd_T35 l0_0 x13_1).f3), .int .i64 ((rd_T35 l0_0 x13_1).f4), .string ((rd_T35 l0_0 x13_1).f5)] 35 (0, 0)) (by (with_reducible repeat (first | refine blk_drewN ?_ _ | refine blk_drew ?_ | refine blk_alloc ?_ _)); refine blk_put (cs := #[.string ((rd_T35 l0_0 x13_1).f0), .string ((rd_T35 l0_0 x13_1).f1), .string ((rd_T35 l0_0 x13_1).f2), .int .u64 ((rd_T35 l0_0 x13_1).f3), .int .i64 ((rd_T35 l0_0 x13_1).f4), .string (⟨#[]⟩ : ByteArray)]) ?_ 5 _ rfl; (with_reducible repeat (first | refine blk_drewN ?_ _ | refine blk_drew ?_ | refine blk_alloc ?_ _)); refine blk_put (cs := #[.string ((rd_T35 l0_0 x13_1).f0), .string ((rd_T35 l0_0 x13_1).f1), .string ((rd_T35 l0_0 x13_1).f2), .int .u64 ((rd_T35 l0_0 x13_1).f3), .int .i64 0, .string (⟨#[]⟩ : ByteArray)]) ?_ 4 _ rfl; (with_reducible repeat (first | refine blk_drewN ?_ _ | refine blk_drew ?_ | refine blk_alloc ?_ _)); refine blk_put (cs := #[.string ((rd_T35 l0_0 x13_1).f0), .string ((rd_T35 l0_0 x13_1).f1), .string ((rd_T35 l0_0 x13_1).f2), .int .u64 0, .int .i64 0, .string (⟨#[]⟩ : ByteArray)]) ?_ 3 _ rfl; (with_reducible repeat (first | refine blk_drewN ?_ _ | refine blk_drew ?_ | refine blk_alloc ?_ _)); refine blk_put (cs := #[.string ((rd_T35 l0_0 x13_1).f0), .string ((rd_T35 l0_0 x13_1).f1), .string (⟨#[]⟩ : ByteArray), .int .u64 0, .int .i64 0, .string (⟨#[]⟩ : ByteArray)]) ?_ 2 _ rfl; (with_reducible repeat (first | refine blk_drewN ?_ _ | refine blk_drew ?_ | refine blk_alloc ?_ _)); refine blk_put (cs := #[.string ((rd_T35 l0_0 x13_1).f0), .string (⟨#[]⟩ : ByteArray), .string (⟨#[]⟩ : ByteArray), .int .u64 0, .int .i64 0, .string (⟨#[]⟩ : ByteArray)]) ?_ 1 _ rfl; (with_reducible repeat (first | refine blk_drewN ?_ _ | refine blk_drew ?_ | refine blk_alloc ?_ _)); refine blk_put (cs := #[.string (⟨#[]⟩ : ByteArray), .string (⟨#[]⟩ : ByteArray), .string (⟨#[]⟩ : ByteArray), .int .u64 0, .int .i64 0, .string (⟨#[]⟩ : ByteArray)]) ?_ 0 _ rfl; (with_reducible repeat (first | refine blk_drewN ?_ _ | refine blk_drew ?_ | refine blk_alloc ?_ _)); exact BK336.out) hb); have n2_ := Aside0.mk (below_step bw hb); clear BK334; clear BK336; clear HB; have BK334 := n0_; have BK336 := n1_; have HB := n2_; clear n0_ n1_ n2_; (try clear hb); (try clear hb2); (try clear hk); (try clear hi); have hcz25_0 : w24.cell? ⟨gb334, 0, none⟩ = some (.slice (some ad335) l0_0.length c0_0) := (blk_cell BK334.out 0).trans rfl; have hfz25_0 := blk_frozen BK334.out 0; have p338 : 0 ≤ ((ji17) : Int) := of_decide_eq_true (by first | (with_reducible assumption) | assumption); have q338 : (ji17) < (l0_0.length : Int) := of_decide_eq_true (by first | (with_reducible assumption) | assumption); obtain ⟨ad338, e338, hx338_0, hx338_1, hx338_2, hx338_3, hx338_4, hx338_5⟩ := at_T35 HR0_0.out (ji17) p338 q338; obtain rfl : ad335 = ad338 := (by injection e338); replace hx338_0 := (HB.out.cell (World.block_lt_of_cell? w _ hx338_0)).trans hx338_0; replace hx338_1 := (HB.out.cell (World.block_lt_of_cell? w _ hx338_1)).trans hx338_1; replace hx338_2 := (HB.out.cell (World.block_lt_of_cell? w _ hx338_2)).trans hx338_2; replace hx338_3 := (HB.out.cell (World.block_lt_of_cell? w _ hx338_3)).trans hx338_3; replace hx338_4 := (HB.out.cell (World.block_lt_of_cell? w _ hx338_4)).trans hx338_4; replace hx338_5 := (HB.out.cell (World.block_lt_of_cell? w _ hx338_5)).trans hx338_5; replace p338 := eq_true p338; replace q338 := eq_true q338) | ((with_reducible refine gate_dst (N := 5) rfl ?_); refine box_event ?hg (N := 5) ?hd (cs := #[.string (⟨#[]⟩ : ByteArray), .string (⟨#[]⟩ : ByteArray), .string (⟨#[]⟩ : ByteArray), .int .u64 0, .int .i64 0, .string (⟨#[]⟩ : ByteArray)]) (t := 35) ?hr ?_; (case hd => rfl); (case hg => rfl); (case hr => first | (go_simp; done) | (go_simp; rfl)); intro gb339 hg w26 hbox hb; have n0_ := Aside0.mk (blk_below (g := gb334) (o := .cells #[.slice (some ad335) l0_0.length c0_0] 66 (0, 0)) (lb BK334) hb); have n1_ := Aside0.mk (blk_below (g := gb336) (o := .cells #[.string ((rd_T35 l0_0 x13_1).f0), .string ((rd_T35 l0_0 x13_1).f1), .string ((rd_T35 l0_0 x13_1).f2), .int .u64 ((rd_T35 l0_0 x13_1).f3), .int .i64 ((rd_T35 l0_0 x13_1).f4), .string ((rd_T35 l0_0 x13_1).f5)] 35 (0, 0)) (lb BK336) hb); have n2_ := Aside0.mk (below_step bw hb); have n3_ := Aside0.mk (hbox); have n4_ := Aside0.mk ((by rw [hg]; exact (below_size bw) : w.heap.size ≤ gb339)); have n5_ := Aside0.mk ((by rw [hg]; exact (below_size bw) : w.heap.size ≤ gb339)); have n6_ := Aside0.mk ((by rw [hg]; exact Nat.ne_of_lt (blk_lt (g := gb334) (o := .cells #[.slice (some ad335) l0_0.length c0_0] 66 (0, 0)) (lb BK334)) : gb334 ≠ gb339)); have n7_ := Aside0.mk ((by rw [hg]; exact Nat.ne_of_gt (blk_lt (g := gb334) (o := .cells #[.slice (some ad335) l0_0.length c0_0] 66 (0, 0)) (lb BK334)) : gb339 ≠ gb334)); have n8_ := Aside0.mk ((by rw [hg]; exact Nat.ne_of_lt (blk_lt (g := gb336) (o := .cells #[.string ((rd_T35 l0_0 x13_1).f0), .string ((rd_T35 l0_0 x13_1).f1), .string ((rd_T35 l0_0 x13_1).f2), .int .u64 ((rd_T35 l0_0 x13_1).f3), .int .i64 ((rd_T35 l0_0 x13_1).f4), .string ((rd_T35 l0_0 x13_1).f5)] 35 (0, 0)) (lb BK336)) : gb336 ≠ gb339)); have n9_ := Aside0.mk ((by rw [hg]; exact Nat.ne_of_gt (blk_lt (g := gb336) (o := .cells #[.string ((rd_T35 l0_0 x13_1).f0), .string ((rd_T35 l0_0 x13_1).f1), .string ((rd_T35 l0_0 x13_1).f2), .int .u64 ((rd_T35 l0_0 x13_1).f3), .int .i64 ((rd_T35 l0_0 x13_1).f4), .string ((rd_T35 l0_0 x13_1).f5)] 35 (0, 0)) (lb BK336)) : gb339 ≠ gb336)); clear BK334; clear BK336; clear HB; have BK334 := n0_; have BK336 := n1_; have HB := n2_; have BK339 := n3_; have GW339 := n4_; have GE339 := n5_; have NB334_339 := n6_; have NB339_334 := n7_; have NB336_339 := n8_; have NB339_336 := n9_; clear n0_ n1_ n2_ n3_ n4_ n5_ n6_ n7_ n8_ n9_; clear hb hbox hg; have hnb27 := NB339_334.out; have hnc27 := NB334_339.out; have hnb28 := NB339_336.out; have hnc28 := NB336_339.out; have hcz29_0 : w26.cell? ⟨gb339, 0, none⟩ = some (.string (⟨#[]⟩ : ByteArray)) := (blk_cell BK339.out 0).trans rfl; have hcz29_1 : w26.cell? ⟨gb339, 1, none⟩ = some (.string (⟨#[]⟩ : ByteArray)) := (blk_cell BK339.out 1).trans rfl; have hcz29_2 : w26.cell? ⟨gb339, 2, none⟩ = some (.string (⟨#[]⟩ : ByteArray)) := (blk_cell BK339.out 2).trans rfl; have hcz29_3 : w26.cell? ⟨gb339, 3, none⟩ = some (.int .u64 0) := (blk_cell BK339.out 3).trans rfl; have hcz29_4 : w26.cell? ⟨gb339, 4, none⟩ = some (.int .i64 0) := (blk_cell BK339.out 4).trans rfl; have hcz29_5 : w26.cell? ⟨gb339, 5, none⟩ = some (.string (⟨#[]⟩ : ByteArray)) := (blk_cell BK339.out 5).trans rfl; have hfz29_0 := blk_frozen BK339.out 0; have hfz29_1 := blk_frozen BK339.out 1; have hfz29_2 := blk_frozen BK339.out 2; have hfz29_3 := blk_frozen BK339.out 3; have hfz29_4 := blk_frozen BK339.out 4; have hfz29_5 := blk_frozen BK339.out 5))
           (try simp only [Act.put, List.setIfInBounds_toArray, List.set_cons_zero, List.set_cons_succ])
           go_cut [49] (fun v49 wc => ∃ (kq : Nat) (x49_19 : Bool), v49 = .bool x49_19 ∧ Aside0 (impl_ValidRun.j1 kq l0_0 (l0_0.length : Int) x13_1 x49_19 l0_0 = some r) ∧ Aside0 (kq ≤ k1) ∧ Aside0 (wc.heap[gb334]? = some (.cells #[(.slice (some ad335) l0_0.length c0_0)] 66 (0, 0))) ∧ Aside0 (wc.heap[gb336]? = some (.cells #[.string ((rd_T35 l0_0 x13_1).f0), .string ((rd_T35 l0_0 x13_1).f1), .string ((rd_T35 l0_0 x13_1).f2), .int .u64 ((rd_T35 l0_0 x13_1).f3), .int .i64 ((rd_T35 l0_0 x13_1).f4), .string ((rd_T35 l0_0 x13_1).f5)] 35 (0, 0))) ∧ Aside0 (wc.heap[gb339]? = some (.cells #[.string ((rd_T35 l0_0 (ji17)).f0), .string ((rd_T35 l0_0 (ji17)).f1), .string ((rd_T35 l0_0 (ji17)).f2), .int .u64 ((rd_T35 l0_0 (ji17)).f3), .int .i64 ((rd_T35 l0_0 (ji17)).f4), .string ((rd_T35 l0_0 (ji17)).f5)] 35 (0, 0))) ∧ Aside0 (Below w.heap.size w wc))
           case first =>
            have H := HC20.out
            clear HC20
            replace H := Option.bind_eq_some_iff.mp H
            obtain ⟨t340, A300, H⟩ := H
            replace H : (if t340 ≥ 0 then (impl_ValidRun.j1 k1 l0_0 (l0_0.length : Int) x13_1 true l0_0) else (if ((rd_T35 l0_0 (ji17)).f4) = 2 then (if ((rd_T35 l0_0 x13_1).f4) = 2 then ((impl_Entry_column.f ((rd_T35 l0_0 (ji17)).f0) ((rd_T35 l0_0 (ji17)).f1) ((rd_T35 l0_0 (ji17)).f2) ((rd_T35 l0_0 (ji17)).f3) ((rd_T35 l0_0 (ji17)).f4) ((rd_T35 l0_0 (ji17)).f5)).bind fun bt341 => ((impl_Entry_column.f ((rd_T35 l0_0 x13_1).f0) ((rd_T35 l0_0 x13_1).f1) ((rd_T35 l0_0 x13_1).f2) ((rd_T35 l0_0 x13_1).f3) ((rd_T35 l0_0 x13_1).f4) ((rd_T35 l0_0 x13_1).f5)).bind fun bt344 => (impl_ValidRun.j1 k1 l0_0 (l0_0.length : Int) x13_1 (bt341.1.toList == bt344.1.toList && (bt341.2.1.toList == bt344.2.1.toList && (bt341.2.2.toList == bt344.2.2.toList))) l0_0))) else (impl_ValidRun.j1 k1 l0_0 (l0_0.length : Int) x13_1 false l0_0)) else (impl_ValidRun.j1 k1 l0_0 (l0_0.length : Int) x13_1 false l0_0))) = some r := H
            have A30 := Aside0.mk A300
            clear A300
            by_cases c31 : t340 ≥ 0
            ·rw [if_pos c31] at H
             have c31b0 : decide (0 ≤ t340) = true := decide_eq_true c31
             clear c31
             (first | rw [c31b0] | (simp only [i64_w, i32_w]; rw [c31b0]) | skip)
             have H' := Aside0.mk H
             clear H
             try go_wp2
             have n0_ : Aside0 (((((((w26.setCell ⟨gb339, 0, none⟩ (.string ((rd_T35 l0_0 (ji17)).f0))).setCell ⟨gb339, 1, none⟩ (.string ((rd_T35 l0_0 (ji17)).f1))).setCell ⟨gb339, 2, none⟩ (.string ((rd_T35 l0_0 (ji17)).f2))).setCell ⟨gb339, 3, none⟩ (.int .u64 ((rd_T35 l0_0 (ji17)).f3))).setCell ⟨gb339, 4, none⟩ (.int .i64 ((rd_T35 l0_0 (ji17)).f4))).setCell ⟨gb339, 5, none⟩ (.string ((rd_T35 l0_0 (ji17)).f5))).heap[gb334]? = some (.cells #[.slice (some ad335) l0_0.length c0_0] 66 (0, 0))) := ⟨by (with_reducible repeat (first | refine blk_drewN ?_ _ | refine blk_drew ?_ | refine blk_alloc ?_ _)); refine blk_far ?_ NB334_339.out _; (with_reducible repeat (first | refine blk_drewN ?_ _ | refine blk_drew ?_ | refine blk_alloc ?_ _)); refine blk_far ?_ NB334_339.out _; (with_reducible repeat (first | refine blk_drewN ?_ _ | refine blk_drew ?_ | refine blk_alloc ?_ _)); refine blk_far ?_ NB334_339.out _; (with_reducible repeat (first | refine blk_drewN ?_ _ | refine blk_drew ?_ | refine blk_alloc ?_ _)); refine blk_far ?_ NB334_339.out _; (with_reducible repeat (first | refine blk_drewN ?_ _ | refine blk_drew ?_ | refine blk_alloc ?_ _)); refine blk_far ?_ NB334_339.out _; (with_reducible repeat (first | refine blk_drewN ?_ _ | refine blk_drew ?_ | refine blk_alloc ?_ _)); refine blk_far ?_ NB334_339.out _; (with_reducible repeat (first | refine blk_drewN ?_ _ | refine blk_drew ?_ | refine blk_alloc ?_ _)); exact BK334.out⟩
             have n1_ : Aside0 (((((((w26.setCell ⟨gb339, 0, none⟩ (.string ((rd_T35 l0_0 (ji17)).f0))).setCell ⟨gb339, 1, none⟩ (.string ((rd_T35 l0_0 (ji17)).f1))).setCell ⟨gb339, 2, none⟩ (.string ((rd_T35 l0_0 (ji17)).f2))).setCell ⟨gb339, 3, none⟩ (.int .u64 ((rd_T35 l0_0 (ji17)).f3))).setCell ⟨gb339, 4, none⟩ (.int .i64 ((rd_T35 l0_0 (ji17)).f4))).setCell ⟨gb339, 5, none⟩ (.string ((rd_T35 l0_0 (ji17)).f5))).heap[gb336]? = some (.cells #[.string ((rd_T35 l0_0 x13_1).f0), .string ((rd_T35 l0_0 x13_1).f1), .string ((rd_T35 l0_0 x13_1).f2), .int .u64 ((rd_T35 l0_0 x13_1).f3), .int .i64 ((rd_T35 l0_0 x13_1).f4), .string ((rd_T35 l0_0 x13_1).f5)] 35 (0, 0))) := ⟨by (with_reducible repeat (first | refine blk_drewN ?_ _ | refine blk_drew ?_ | refine blk_alloc ?_ _)); refine blk_far ?_ NB336_339.out _; (with_reducible repeat (first | refine blk_drewN ?_ _ | refine blk_drew ?_ | refine blk_alloc ?_ _)); refine blk_far ?_ NB336_339.out _; (with_reducible repeat (first | refine blk_drewN ?_ _ | refine blk_drew ?_ | refine blk_alloc ?_ _)); refine blk_far ?_ NB336_339.out _; (with_reducible repeat (first | refine blk_drewN ?_ _ | refine blk_drew ?_ | refine blk_alloc ?_ _)); refine blk_far ?_ NB336_339.out _; (with_reducible repeat (first | refine blk_drewN ?_ _ | refine blk_drew ?_ | refine blk_alloc ?_ _)); refine blk_far ?_ NB336_339.out _; (with_reducible repeat (first | refine blk_drewN ?_ _ | refine blk_drew ?_ | refine blk_alloc ?_ _)); refine blk_far ?_ NB336_339.out _; (with_reducible repeat (first | refine blk_drewN ?_ _ | refine blk_drew ?_ | refine blk_alloc ?_ _)); exact BK336.out⟩
             have n2_ : Aside0 (((((((w26.setCell ⟨gb339, 0, none⟩ (.string ((rd_T35 l0_0 (ji17)).f0))).setCell ⟨gb339, 1, none⟩ (.string ((rd_T35 l0_0 (ji17)).f1))).setCell ⟨gb339, 2, none⟩ (.string ((rd_T35 l0_0 (ji17)).f2))).setCell ⟨gb339, 3, none⟩ (.int .u64 ((rd_T35 l0_0 (ji17)).f3))).setCell ⟨gb339, 4, none⟩ (.int .i64 ((rd_T35 l0_0 (ji17)).f4))).setCell ⟨gb339, 5, none⟩ (.string ((rd_T35 l0_0 (ji17)).f5))).heap[gb339]? = some (.cells #[.string ((rd_T35 l0_0 (ji17)).f0), .string ((rd_T35 l0_0 (ji17)).f1), .string ((rd_T35 l0_0 (ji17)).f2), .int .u64 ((rd_T35 l0_0 (ji17)).f3), .int .i64 ((rd_T35 l0_0 (ji17)).f4), .string ((rd_T35 l0_0 (ji17)).f5)] 35 (0, 0))) := ⟨by (with_reducible repeat (first | refine blk_drewN ?_ _ | refine blk_drew ?_ | refine blk_alloc ?_ _)); refine blk_put (cs := #[.string ((rd_T35 l0_0 (ji17)).f0), .string ((rd_T35 l0_0 (ji17)).f1), .string ((rd_T35 l0_0 (ji17)).f2), .int .u64 ((rd_T35 l0_0 (ji17)).f3), .int .i64 ((rd_T35 l0_0 (ji17)).f4), .string (⟨#[]⟩ : ByteArray)]) ?_ 5 _ rfl; (with_reducible repeat (first | refine blk_drewN ?_ _ | refine blk_drew ?_ | refine blk_alloc ?_ _)); refine blk_put (cs := #[.string ((rd_T35 l0_0 (ji17)).f0), .string ((rd_T35 l0_0 (ji17)).f1), .string ((rd_T35 l0_0 (ji17)).f2), .int .u64 ((rd_T35 l0_0 (ji17)).f3), .int .i64 0, .string (⟨#[]⟩ : ByteArray)]) ?_ 4 _ rfl; (with_reducible repeat (first | refine blk_drewN ?_ _ | refine blk_drew ?_ | refine blk_alloc ?_ _)); refine blk_put (cs := #[.string ((rd_T35 l0_0 (ji17)).f0), .string ((rd_T35 l0_0 (ji17)).f1), .string ((rd_T35 l0_0 (ji17)).f2), .int .u64 0, .int .i64 0, .string (⟨#[]⟩ : ByteArray)]) ?_ 3 _ rfl; (with_reducible repeat (first | refine blk_drewN ?_ _ | refine blk_drew ?_ | refine blk_alloc ?_ _)); refine blk_put (cs := #[.string ((rd_T35 l0_0 (ji17)).f0), .string ((rd_T35 l0_0 (ji17)).f1), .string (⟨#[]⟩ : ByteArray), .int .u64 0, .int .i64 0, .string (⟨#[]⟩ : ByteArray)]) ?_ 2 _ rfl; (with_reducible repeat (first | refine blk_drewN ?_ _ | refine blk_drew ?_ | refine blk_alloc ?_ _)); refine blk_put (cs := #[.string ((rd_T35 l0_0 (ji17)).f0), .string (⟨#[]⟩ : ByteArray), .string (⟨#[]⟩ : ByteArray), .int .u64 0, .int .i64 0, .string (⟨#[]⟩ : ByteArray)]) ?_ 1 _ rfl; (with_reducible repeat (first | refine blk_drewN ?_ _ | refine blk_drew ?_ | refine blk_alloc ?_ _)); refine blk_put (cs := #[.string (⟨#[]⟩ : ByteArray), .string (⟨#[]⟩ : ByteArray), .string (⟨#[]⟩ : ByteArray), .int .u64 0, .int .i64 0, .string (⟨#[]⟩ : ByteArray)]) ?_ 0 _ rfl; (with_reducible repeat (first | refine blk_drewN ?_ _ | refine blk_drew ?_ | refine blk_alloc ?_ _)); exact BK339.out⟩
             have n3_ : Aside0 (Below w.heap.size w ((((((w26.setCell ⟨gb339, 0, none⟩ (.string ((rd_T35 l0_0 (ji17)).f0))).setCell ⟨gb339, 1, none⟩ (.string ((rd_T35 l0_0 (ji17)).f1))).setCell ⟨gb339, 2, none⟩ (.string ((rd_T35 l0_0 (ji17)).f2))).setCell ⟨gb339, 3, none⟩ (.int .u64 ((rd_T35 l0_0 (ji17)).f3))).setCell ⟨gb339, 4, none⟩ (.int .i64 ((rd_T35 l0_0 (ji17)).f4))).setCell ⟨gb339, 5, none⟩ (.string ((rd_T35 l0_0 (ji17)).f5)))) := ⟨bw⟩
             (try clear BK334)
             (try clear BK336)
             (try clear BK339)
             (try clear HB)
             generalize ((((((w26.setCell ⟨gb339, 0, none⟩ (.string ((rd_T35 l0_0 (ji17)).f0))).setCell ⟨gb339, 1, none⟩ (.string ((rd_T35 l0_0 (ji17)).f1))).setCell ⟨gb339, 2, none⟩ (.string ((rd_T35 l0_0 (ji17)).f2))).setCell ⟨gb339, 3, none⟩ (.int .u64 ((rd_T35 l0_0 (ji17)).f3))).setCell ⟨gb339, 4, none⟩ (.int .i64 ((rd_T35 l0_0 (ji17)).f4))).setCell ⟨gb339, 5, none⟩ (.string ((rd_T35 l0_0 (ji17)).f5))) = w32 at n0_ n1_ n2_ n3_ ⊢
             have BK334 := n0_
             have BK336 := n1_
             have BK339 := n2_
             have HB := n3_
             clear n0_ n1_ n2_ n3_
             have n0_ := Aside0.mk (blk_drew BK334.out)
             have n1_ := Aside0.mk (blk_drew BK336.out)
             have n2_ := Aside0.mk (blk_drew BK339.out)
             have n3_ := Aside0.mk (below_drew1 HB.out)
             clear BK334
             clear BK336
             clear BK339
             clear HB
             have BK334 := n0_
             have BK336 := n1_
             have BK339 := n2_
             have HB := n3_
             clear n0_ n1_ n2_ n3_
             refine start_ (n := 21) (S := fun w' => w'.cell? ⟨gb339, 0, none⟩ = some (.string ((rd_T35 l0_0 (ji17)).f0)) ∧ w'.cell? ⟨gb339, 1, none⟩ = some (.string ((rd_T35 l0_0 (ji17)).f1)) ∧ w'.cell? ⟨gb339, 2, none⟩ = some (.string ((rd_T35 l0_0 (ji17)).f2)) ∧ w'.cell? ⟨gb339, 3, none⟩ = some (.int .u64 ((rd_T35 l0_0 (ji17)).f3)) ∧ w'.cell? ⟨gb339, 4, none⟩ = some (.int .i64 ((rd_T35 l0_0 (ji17)).f4)) ∧ w'.cell? ⟨gb339, 5, none⟩ = some (.string ((rd_T35 l0_0 (ji17)).f5)) ∧ w'.cell? ⟨gb336, 0, none⟩ = some (.string ((rd_T35 l0_0 x13_1).f0)) ∧ w'.cell? ⟨gb336, 1, none⟩ = some (.string ((rd_T35 l0_0 x13_1).f1)) ∧ w'.cell? ⟨gb336, 2, none⟩ = some (.string ((rd_T35 l0_0 x13_1).f2)) ∧ w'.cell? ⟨gb336, 3, none⟩ = some (.int .u64 ((rd_T35 l0_0 x13_1).f3)) ∧ w'.cell? ⟨gb336, 4, none⟩ = some (.int .i64 ((rd_T35 l0_0 x13_1).f4)) ∧ w'.cell? ⟨gb336, 5, none⟩ = some (.string ((rd_T35 l0_0 x13_1).f5))) (ds := []) #[false, false, false, false, false, false, false, false, false, false, false, false, false, false, false, false, false, false, false, false, false] (by kernel_rfl) rfl rfl ⟨(blk_cell BK339.out 0).trans rfl, (blk_cell BK339.out 1).trans rfl, (blk_cell BK339.out 2).trans rfl, (blk_cell BK339.out 3).trans rfl, (blk_cell BK339.out 4).trans rfl, (blk_cell BK339.out 5).trans rfl, (blk_cell BK336.out 0).trans rfl, (blk_cell BK336.out 1).trans rfl, (blk_cell BK336.out 2).trans rfl, (blk_cell BK336.out 3).trans rfl, (blk_cell BK336.out 4).trans rfl, (blk_cell BK336.out 5).trans rfl⟩ (fun hHeld => ?_); refine with_tabW impl_ValidRun.tab10 impl_ValidRun.bits10 (fun HT_ HW_ => ?_)
             generalize w32.drew = w33 at BK334 BK336 BK339 HB hHeld ⊢
             refine take_ (i := 0) (N := some 29) (v := ?_) (a' := ?_) #[true, false, false, false, false, false, false, false, false, false, false, false, false, false, false, false, false, false, false, false, false] rfl rfl (take_ofW HT_.out HW_.out (by kernel_rfl)) (fun _ _ _ h => h) (Or.inl ⟨by rfl, ?_⟩) hHeld ?_ ?_
             rotate_left
             ·rintro w' ⟨s0, s1, s2, s3, s4, s5, s6, s7, s8, s9, s10, s11⟩
              go_simp
              with_reducible rfl
             rotate_left
             ·simp only [Act.put, List.setIfInBounds_toArray, List.set_cons_zero, List.set_cons_succ, i64_w, i32_w]
              rfl
             refine take_ (i := 1) (N := some 30) (v := ?_) (a' := ?_) #[true, true, false, false, false, false, false, false, false, false, false, false, false, false, false, false, false, false, false, false, false] rfl rfl (take_ofW HT_.out HW_.out (by kernel_rfl)) (fun _ _ _ h => h) (Or.inl ⟨by rfl, ?_⟩) hHeld ?_ ?_
             rotate_left
             ·rintro w' ⟨s0, s1, s2, s3, s4, s5, s6, s7, s8, s9, s10, s11⟩
              go_simp
              with_reducible rfl
             rotate_left
             ·simp only [Act.put, List.setIfInBounds_toArray, List.set_cons_zero, List.set_cons_succ, i64_w, i32_w]
              rfl
             refine one_ (i := 2) (N := some 31) #[true, true, true, false, false, false, false, false, false, false, false, false, false, false, false, false, false, false, false, false, false] rfl rfl (one_of HT_.out (by kernel_rfl)) (by decide) (fun K hK => ?_)
             refine goes_ Try.func62 (by kernel_rfl) rfl #[.agg #[.string ((rd_T35 l0_0 (ji17)).f0), .string ((rd_T35 l0_0 (ji17)).f1), .string ((rd_T35 l0_0 (ji17)).f2), .int .u64 ((rd_T35 l0_0 (ji17)).f3), .int .i64 ((rd_T35 l0_0 (ji17)).f4), .string ((rd_T35 l0_0 (ji17)).f5)], .agg #[.string ((rd_T35 l0_0 x13_1).f0), .string ((rd_T35 l0_0 x13_1).f1), .string ((rd_T35 l0_0 x13_1).f2), .int .u64 ((rd_T35 l0_0 x13_1).f3), .int .i64 ((rd_T35 l0_0 x13_1).f4), .string ((rd_T35 l0_0 x13_1).f5)]] (by rfl) rfl rfl (by (try simp only [List.map_toArray, List.map_cons, List.map_nil]); first | done | (simp only [hji17]; rfl) | rfl | (simp only [List.length_drop, List.length_take]; rfl)) ?_
             with_reducible refine (impl_Entry_compare.calls k1 ((rd_T35 l0_0 (ji17)).f0) ((rd_T35 l0_0 (ji17)).f1) ((rd_T35 l0_0 (ji17)).f2) ((rd_T35 l0_0 (ji17)).f3) ((rd_T35 l0_0 (ji17)).f4) ((rd_T35 l0_0 (ji17)).f5) ((rd_T35 l0_0 x13_1).f0) ((rd_T35 l0_0 x13_1).f1) ((rd_T35 l0_0 x13_1).f2) ((rd_T35 l0_0 x13_1).f3) ((rd_T35 l0_0 x13_1).f4) ((rd_T35 l0_0 x13_1).f5) t340 _ A30.out).mono ?_
             rintro e w34 ⟨rfl, hb⟩
             refine ⟨_, rfl, ?_⟩
             have n0_ := Aside0.mk (blk_below (g := gb334) (o := .cells #[.slice (some ad335) l0_0.length c0_0] 66 (0, 0)) (lb BK334) hb)
             have n1_ := Aside0.mk (blk_below (g := gb336) (o := .cells #[.string ((rd_T35 l0_0 x13_1).f0), .string ((rd_T35 l0_0 x13_1).f1), .string ((rd_T35 l0_0 x13_1).f2), .int .u64 ((rd_T35 l0_0 x13_1).f3), .int .i64 ((rd_T35 l0_0 x13_1).f4), .string ((rd_T35 l0_0 x13_1).f5)] 35 (0, 0)) (lb BK336) hb)
             have n2_ := Aside0.mk (blk_below (g := gb339) (o := .cells #[.string ((rd_T35 l0_0 (ji17)).f0), .string ((rd_T35 l0_0 (ji17)).f1), .string ((rd_T35 l0_0 (ji17)).f2), .int .u64 ((rd_T35 l0_0 (ji17)).f3), .int .i64 ((rd_T35 l0_0 (ji17)).f4), .string ((rd_T35 l0_0 (ji17)).f5)] 35 (0, 0)) (lb BK339) hb)
             have n3_ := Aside0.mk (below_step bw hb)
             clear BK334
             clear BK336
             clear BK339
             clear HB
             have BK334 := n0_
             have BK336 := n1_
             have BK339 := n2_
             have HB := n3_
             clear n0_ n1_ n2_ n3_
             (try clear hb)
             (try clear hb2)
             (try clear hk)
             (try clear hi)
             refine hK.out _ _ ⟨(blk_cell BK339.out 0).trans rfl, (blk_cell BK339.out 1).trans rfl, (blk_cell BK339.out 2).trans rfl, (blk_cell BK339.out 3).trans rfl, (blk_cell BK339.out 4).trans rfl, (blk_cell BK339.out 5).trans rfl, (blk_cell BK336.out 0).trans rfl, (blk_cell BK336.out 1).trans rfl, (blk_cell BK336.out 2).trans rfl, (blk_cell BK336.out 3).trans rfl, (blk_cell BK336.out 4).trans rfl, (blk_cell BK336.out 5).trans rfl⟩ (fun hHeld => ?_)
             clear hK K
             refine norm_ (a' := ?_) ?_ ?_
             rotate_left
             ·show Act.put _ (some 31) _ = _
              simp only [Act.put, List.setIfInBounds_toArray, List.set_cons_zero, List.set_cons_succ, i64_w, i32_w]
              rfl
             refine pure_ (i := 3) (N := some 32) (v := ?_) (a' := ?_) #[true, true, true, true, false, false, false, false, false, false, false, false, false, false, false, false, false, false, false, false, false] rfl rfl (any_of HT_.out (by kernel_rfl)) (fun _ _ _ h => h) (Or.inl ⟨by rfl, ?_⟩) ?_ ?_
             rotate_left
             ·intro w'
              go_simp
              with_reducible rfl
             rotate_left
             ·simp only [Act.put, List.setIfInBounds_toArray, List.set_cons_zero, List.set_cons_succ, i64_w, i32_w]
              rfl
             refine pure_ (i := 4) (N := some 33) (v := ?_) (a' := ?_) #[true, true, true, true, true, false, false, false, false, false, false, false, false, false, false, false, false, false, false, false, false] rfl rfl (any_of HT_.out (by kernel_rfl)) (fun _ _ _ h => h) (Or.inl ⟨by rfl, ?_⟩) ?_ ?_
             rotate_left
             ·intro w'
              go_simp
              with_reducible rfl
             rotate_left
             ·simp only [Act.put, List.setIfInBounds_toArray, List.set_cons_zero, List.set_cons_succ, i64_w, i32_w]
              rfl
             refine pure_ (i := 5) (N := some 34) (v := undef) (a' := ?_) #[true, true, true, true, true, true, false, false, false, false, false, false, false, false, false, false, false, false, false, false, false] rfl rfl (any_of HT_.out (by kernel_rfl)) (fun _ _ _ h => h) (Or.inr ⟨by rfl, rfl⟩) ?_ ?_
             rotate_left
             ·simp only [Act.put, List.setIfInBounds_toArray, List.set_cons_zero, List.set_cons_succ, i64_w, i32_w]
              rfl
             refine pure_ (i := 6) (N := some 35) (v := undef) (a' := ?_) #[true, true, true, true, true, true, true, false, false, false, false, false, false, false, false, false, false, false, false, false, false] rfl rfl (any_of HT_.out (by kernel_rfl)) (fun _ _ _ h => h) (Or.inr ⟨by rfl, rfl⟩) ?_ ?_
             rotate_left
             ·simp only [Act.put, List.setIfInBounds_toArray, List.set_cons_zero, List.set_cons_succ, i64_w, i32_w]
              rfl
             refine pure_ (i := 7) (N := some 36) (v := undef) (a' := ?_) #[true, true, true, true, true, true, true, true, false, false, false, false, false, false, false, false, false, false, false, false, false] rfl rfl (any_of HT_.out (by kernel_rfl)) (fun _ _ _ h => h) (Or.inr ⟨by rfl, rfl⟩) ?_ ?_
             rotate_left
             ·simp only [Act.put, List.setIfInBounds_toArray, List.set_cons_zero, List.set_cons_succ, i64_w, i32_w]
              rfl
             refine pure_ (i := 8) (N := some 37) (v := undef) (a' := ?_) #[true, true, true, true, true, true, true, true, true, false, false, false, false, false, false, false, false, false, false, false, false] rfl rfl (any_of HT_.out (by kernel_rfl)) (fun _ _ _ h => h) (Or.inr ⟨by rfl, rfl⟩) ?_ ?_
             rotate_left
             ·simp only [Act.put, List.setIfInBounds_toArray, List.set_cons_zero, List.set_cons_succ, i64_w, i32_w]
              rfl
             refine pure_ (i := 9) (N := some 38) (v := undef) (a' := ?_) #[true, true, true, true, true, true, true, true, true, true, false, false, false, false, false, false, false, false, false, false, false] rfl rfl (any_of HT_.out (by kernel_rfl)) (fun _ _ _ h => h) (Or.inr ⟨by rfl, rfl⟩) ?_ ?_
             rotate_left
             ·simp only [Act.put, List.setIfInBounds_toArray, List.set_cons_zero, List.set_cons_succ, i64_w, i32_w]
              rfl
             refine pure_ (i := 10) (N := some 39) (v := undef) (a' := ?_) #[true, true, true, true, true, true, true, true, true, true, true, false, false, false, false, false, false, false, false, false, false] rfl rfl (any_of HT_.out (by kernel_rfl)) (fun _ _ _ h => h) (Or.inr ⟨by rfl, rfl⟩) ?_ ?_
             rotate_left
             ·simp only [Act.put, List.setIfInBounds_toArray, List.set_cons_zero, List.set_cons_succ, i64_w, i32_w]
              rfl
             refine pure_ (i := 11) (N := some 40) (v := undef) (a' := ?_) #[true, true, true, true, true, true, true, true, true, true, true, true, false, false, false, false, false, false, false, false, false] rfl rfl (any_of HT_.out (by kernel_rfl)) (fun _ _ _ h => h) (Or.inr ⟨by rfl, rfl⟩) ?_ ?_
             rotate_left
             ·simp only [Act.put, List.setIfInBounds_toArray, List.set_cons_zero, List.set_cons_succ, i64_w, i32_w]
              rfl
             refine pure_ (i := 12) (N := some 41) (v := undef) (a' := ?_) #[true, true, true, true, true, true, true, true, true, true, true, true, true, false, false, false, false, false, false, false, false] rfl rfl (any_of HT_.out (by kernel_rfl)) (fun _ _ _ h => h) (Or.inr ⟨by rfl, rfl⟩) ?_ ?_
             rotate_left
             ·simp only [Act.put, List.setIfInBounds_toArray, List.set_cons_zero, List.set_cons_succ, i64_w, i32_w]
              rfl
             refine pure_ (i := 13) (N := some 42) (v := undef) (a' := ?_) #[true, true, true, true, true, true, true, true, true, true, true, true, true, true, false, false, false, false, false, false, false] rfl rfl (any_of HT_.out (by kernel_rfl)) (fun _ _ _ h => h) (Or.inr ⟨by rfl, rfl⟩) ?_ ?_
             rotate_left
             ·simp only [Act.put, List.setIfInBounds_toArray, List.set_cons_zero, List.set_cons_succ, i64_w, i32_w]
              rfl
             refine pure_ (i := 14) (N := some 43) (v := undef) (a' := ?_) #[true, true, true, true, true, true, true, true, true, true, true, true, true, true, true, false, false, false, false, false, false] rfl rfl (any_of HT_.out (by kernel_rfl)) (fun _ _ _ h => h) (Or.inr ⟨by rfl, rfl⟩) ?_ ?_
             rotate_left
             ·simp only [Act.put, List.setIfInBounds_toArray, List.set_cons_zero, List.set_cons_succ, i64_w, i32_w]
              rfl
             refine pure_ (i := 15) (N := some 44) (v := undef) (a' := ?_) #[true, true, true, true, true, true, true, true, true, true, true, true, true, true, true, true, false, false, false, false, false] rfl rfl (any_of HT_.out (by kernel_rfl)) (fun _ _ _ h => h) (Or.inr ⟨by rfl, rfl⟩) ?_ ?_
             rotate_left
             ·simp only [Act.put, List.setIfInBounds_toArray, List.set_cons_zero, List.set_cons_succ, i64_w, i32_w]
              rfl
             refine pure_ (i := 16) (N := some 45) (v := undef) (a' := ?_) #[true, true, true, true, true, true, true, true, true, true, true, true, true, true, true, true, true, false, false, false, false] rfl rfl (any_of HT_.out (by kernel_rfl)) (fun _ _ _ h => h) (Or.inr ⟨by rfl, rfl⟩) ?_ ?_
             rotate_left
             ·simp only [Act.put, List.setIfInBounds_toArray, List.set_cons_zero, List.set_cons_succ, i64_w, i32_w]
              rfl
             refine pure_ (i := 17) (N := some 46) (v := undef) (a' := ?_) #[true, true, true, true, true, true, true, true, true, true, true, true, true, true, true, true, true, true, false, false, false] rfl rfl (any_of HT_.out (by kernel_rfl)) (fun _ _ _ h => h) (Or.inr ⟨by rfl, rfl⟩) ?_ ?_
             rotate_left
             ·simp only [Act.put, List.setIfInBounds_toArray, List.set_cons_zero, List.set_cons_succ, i64_w, i32_w]
              rfl
             refine pure_ (i := 18) (N := some 47) (v := undef) (a' := ?_) #[true, true, true, true, true, true, true, true, true, true, true, true, true, true, true, true, true, true, true, false, false] rfl rfl (any_of HT_.out (by kernel_rfl)) (fun _ _ _ h => h) (Or.inr ⟨by rfl, rfl⟩) ?_ ?_
             rotate_left
             ·simp only [Act.put, List.setIfInBounds_toArray, List.set_cons_zero, List.set_cons_succ, i64_w, i32_w]
              rfl
             refine pure_ (i := 19) (N := some 48) (v := undef) (a' := ?_) #[true, true, true, true, true, true, true, true, true, true, true, true, true, true, true, true, true, true, true, true, false] rfl rfl (any_of HT_.out (by kernel_rfl)) (fun _ _ _ h => h) (Or.inr ⟨by rfl, rfl⟩) ?_ ?_
             rotate_left
             ·simp only [Act.put, List.setIfInBounds_toArray, List.set_cons_zero, List.set_cons_succ, i64_w, i32_w]
              rfl
             refine pure_ (i := 20) (N := some 49) (v := ?_) (a' := ?_) #[true, true, true, true, true, true, true, true, true, true, true, true, true, true, true, true, true, true, true, true, true] rfl rfl (any_of HT_.out (by kernel_rfl)) (fun _ _ _ h => h) (Or.inl ⟨by rfl, ?_⟩) ?_ ?_
             rotate_left
             ·intro w'
              go_simp
              with_reducible rfl
             rotate_left
             ·simp only [Act.put, List.setIfInBounds_toArray, List.set_cons_zero, List.set_cons_succ, i64_w, i32_w]
              rfl
             refine done_ (done_of HT_.out (by kernel_rfl)) ?_
             try go_wp2
             go_meet
             case rel => exact ⟨_, (true), (by first | rfl | (simp; done) | (simp [*]; done)), H', ⟨by have := HK1.out; first | omega | exact Nat.le_refl _⟩, ⟨lb BK334⟩, ⟨lb BK336⟩, ⟨lb BK339⟩, ⟨bw⟩⟩
            ·rw [if_neg c31] at H
             have c31b0 : decide (0 ≤ t340) = false := decide_eq_false c31
             clear c31
             (first | rw [c31b0] | (simp only [i64_w, i32_w]; rw [c31b0]) | skip)
             by_cases c35 : ((rd_T35 l0_0 (ji17)).f4) = 2
             ·rw [if_pos c35] at H
              have c35b0 : (((rd_T35 l0_0 (ji17)).f4) == 2) = true := beq_iff_eq.mpr c35
              have c35b1 : (((rd_T35 l0_0 (ji17)).f4) != 2) = false := bne_eq_false_iff_eq.mpr c35
              clear c35
              by_cases c36 : ((rd_T35 l0_0 x13_1).f4) = 2
              ·rw [if_pos c36] at H
               have c36b0 : (((rd_T35 l0_0 x13_1).f4) == 2) = true := beq_iff_eq.mpr c36
               have c36b1 : (((rd_T35 l0_0 x13_1).f4) != 2) = false := bne_eq_false_iff_eq.mpr c36
               clear c36
               replace H := Option.bind_eq_some_iff.mp H
               obtain ⟨⟨t341, t342, t343⟩, A370, H⟩ := H
               replace H : ((impl_Entry_column.f ((rd_T35 l0_0 x13_1).f0) ((rd_T35 l0_0 x13_1).f1) ((rd_T35 l0_0 x13_1).f2) ((rd_T35 l0_0 x13_1).f3) ((rd_T35 l0_0 x13_1).f4) ((rd_T35 l0_0 x13_1).f5)).bind fun bt344 => (impl_ValidRun.j1 k1 l0_0 (l0_0.length : Int) x13_1 (t341.toList == bt344.1.toList && (t342.toList == bt344.2.1.toList && (t343.toList == bt344.2.2.toList))) l0_0)) = some r := H
               have A37 := Aside0.mk A370
               clear A370
               replace H := Option.bind_eq_some_iff.mp H
               obtain ⟨⟨t344, t345, t346⟩, A380, H⟩ := H
               replace H : (impl_ValidRun.j1 k1 l0_0 (l0_0.length : Int) x13_1 (t341.toList == t344.toList && (t342.toList == t345.toList && (t343.toList == t346.toList))) l0_0) = some r := H
               have A38 := Aside0.mk A380
               clear A380
               have H' := Aside0.mk H
               clear H
               try go_wp2
               have n0_ : Aside0 (((((((w26.setCell ⟨gb339, 0, none⟩ (.string ((rd_T35 l0_0 (ji17)).f0))).setCell ⟨gb339, 1, none⟩ (.string ((rd_T35 l0_0 (ji17)).f1))).setCell ⟨gb339, 2, none⟩ (.string ((rd_T35 l0_0 (ji17)).f2))).setCell ⟨gb339, 3, none⟩ (.int .u64 ((rd_T35 l0_0 (ji17)).f3))).setCell ⟨gb339, 4, none⟩ (.int .i64 ((rd_T35 l0_0 (ji17)).f4))).setCell ⟨gb339, 5, none⟩ (.string ((rd_T35 l0_0 (ji17)).f5))).heap[gb334]? = some (.cells #[.slice (some ad335) l0_0.length c0_0] 66 (0, 0))) := ⟨by (with_reducible repeat (first | refine blk_drewN ?_ _ | refine blk_drew ?_ | refine blk_alloc ?_ _)); refine blk_far ?_ NB334_339.out _; (with_reducible repeat (first | refine blk_drewN ?_ _ | refine blk_drew ?_ | refine blk_alloc ?_ _)); refine blk_far ?_ NB334_339.out _; (with_reducible repeat (first | refine blk_drewN ?_ _ | refine blk_drew ?_ | refine blk_alloc ?_ _)); refine blk_far ?_ NB334_339.out _; (with_reducible repeat (first | refine blk_drewN ?_ _ | refine blk_drew ?_ | refine blk_alloc ?_ _)); refine blk_far ?_ NB334_339.out _; (with_reducible repeat (first | refine blk_drewN ?_ _ | refine blk_drew ?_ | refine blk_alloc ?_ _)); refine blk_far ?_ NB334_339.out _; (with_reducible repeat (first | refine blk_drewN ?_ _ | refine blk_drew ?_ | refine blk_alloc ?_ _)); refine blk_far ?_ NB334_339.out _; (with_reducible repeat (first | refine blk_drewN ?_ _ | refine blk_drew ?_ | refine blk_alloc ?_ _)); exact BK334.out⟩
               have n1_ : Aside0 (((((((w26.setCell ⟨gb339, 0, none⟩ (.string ((rd_T35 l0_0 (ji17)).f0))).setCell ⟨gb339, 1, none⟩ (.string ((rd_T35 l0_0 (ji17)).f1))).setCell ⟨gb339, 2, none⟩ (.string ((rd_T35 l0_0 (ji17)).f2))).setCell ⟨gb339, 3, none⟩ (.int .u64 ((rd_T35 l0_0 (ji17)).f3))).setCell ⟨gb339, 4, none⟩ (.int .i64 ((rd_T35 l0_0 (ji17)).f4))).setCell ⟨gb339, 5, none⟩ (.string ((rd_T35 l0_0 (ji17)).f5))).heap[gb336]? = some (.cells #[.string ((rd_T35 l0_0 x13_1).f0), .string ((rd_T35 l0_0 x13_1).f1), .string ((rd_T35 l0_0 x13_1).f2), .int .u64 ((rd_T35 l0_0 x13_1).f3), .int .i64 ((rd_T35 l0_0 x13_1).f4), .string ((rd_T35 l0_0 x13_1).f5)] 35 (0, 0))) := ⟨by (with_reducible repeat (first | refine blk_drewN ?_ _ | refine blk_drew ?_ | refine blk_alloc ?_ _)); refine blk_far ?_ NB336_339.out _; (with_reducible repeat (first | refine blk_drewN ?_ _ | refine blk_drew ?_ | refine blk_alloc ?_ _)); refine blk_far ?_ NB336_339.out _; (with_reducible repeat (first | refine blk_drewN ?_ _ | refine blk_drew ?_ | refine blk_alloc ?_ _)); refine blk_far ?_ NB336_339.out _; (with_reducible repeat (first | refine blk_drewN ?_ _ | refine blk_drew ?_ | refine blk_alloc ?_ _)); refine blk_far ?_ NB336_339.out _; (with_reducible repeat (first | refine blk_drewN ?_ _ | refine blk_drew ?_ | refine blk_alloc ?_ _)); refine blk_far ?_ NB336_339.out _; (with_reducible repeat (first | refine blk_drewN ?_ _ | refine blk_drew ?_ | refine blk_alloc ?_ _)); refine blk_far ?_ NB336_339.out _; (with_reducible repeat (first | refine blk_drewN ?_ _ | refine blk_drew ?_ | refine blk_alloc ?_ _)); exact BK336.out⟩
               have n2_ : Aside0 (((((((w26.setCell ⟨gb339, 0, none⟩ (.string ((rd_T35 l0_0 (ji17)).f0))).setCell ⟨gb339, 1, none⟩ (.string ((rd_T35 l0_0 (ji17)).f1))).setCell ⟨gb339, 2, none⟩ (.string ((rd_T35 l0_0 (ji17)).f2))).setCell ⟨gb339, 3, none⟩ (.int .u64 ((rd_T35 l0_0 (ji17)).f3))).setCell ⟨gb339, 4, none⟩ (.int .i64 ((rd_T35 l0_0 (ji17)).f4))).setCell ⟨gb339, 5, none⟩ (.string ((rd_T35 l0_0 (ji17)).f5))).heap[gb339]? = some (.cells #[.string ((rd_T35 l0_0 (ji17)).f0), .string ((rd_T35 l0_0 (ji17)).f1), .string ((rd_T35 l0_0 (ji17)).f2), .int .u64 ((rd_T35 l0_0 (ji17)).f3), .int .i64 ((rd_T35 l0_0 (ji17)).f4), .string ((rd_T35 l0_0 (ji17)).f5)] 35 (0, 0))) := ⟨by (with_reducible repeat (first | refine blk_drewN ?_ _ | refine blk_drew ?_ | refine blk_alloc ?_ _)); refine blk_put (cs := #[.string ((rd_T35 l0_0 (ji17)).f0), .string ((rd_T35 l0_0 (ji17)).f1), .string ((rd_T35 l0_0 (ji17)).f2), .int .u64 ((rd_T35 l0_0 (ji17)).f3), .int .i64 ((rd_T35 l0_0 (ji17)).f4), .string (⟨#[]⟩ : ByteArray)]) ?_ 5 _ rfl; (with_reducible repeat (first | refine blk_drewN ?_ _ | refine blk_drew ?_ | refine blk_alloc ?_ _)); refine blk_put (cs := #[.string ((rd_T35 l0_0 (ji17)).f0), .string ((rd_T35 l0_0 (ji17)).f1), .string ((rd_T35 l0_0 (ji17)).f2), .int .u64 ((rd_T35 l0_0 (ji17)).f3), .int .i64 0, .string (⟨#[]⟩ : ByteArray)]) ?_ 4 _ rfl; (with_reducible repeat (first | refine blk_drewN ?_ _ | refine blk_drew ?_ | refine blk_alloc ?_ _)); refine blk_put (cs := #[.string ((rd_T35 l0_0 (ji17)).f0), .string ((rd_T35 l0_0 (ji17)).f1), .string ((rd_T35 l0_0 (ji17)).f2), .int .u64 0, .int .i64 0, .string (⟨#[]⟩ : ByteArray)]) ?_ 3 _ rfl; (with_reducible repeat (first | refine blk_drewN ?_ _ | refine blk_drew ?_ | refine blk_alloc ?_ _)); refine blk_put (cs := #[.string ((rd_T35 l0_0 (ji17)).f0), .string ((rd_T35 l0_0 (ji17)).f1), .string (⟨#[]⟩ : ByteArray), .int .u64 0, .int .i64 0, .string (⟨#[]⟩ : ByteArray)]) ?_ 2 _ rfl; (with_reducible repeat (first | refine blk_drewN ?_ _ | refine blk_drew ?_ | refine blk_alloc ?_ _)); refine blk_put (cs := #[.string ((rd_T35 l0_0 (ji17)).f0), .string (⟨#[]⟩ : ByteArray), .string (⟨#[]⟩ : ByteArray), .int .u64 0, .int .i64 0, .string (⟨#[]⟩ : ByteArray)]) ?_ 1 _ rfl; (with_reducible repeat (first | refine blk_drewN ?_ _ | refine blk_drew ?_ | refine blk_alloc ?_ _)); refine blk_put (cs := #[.string (⟨#[]⟩ : ByteArray), .string (⟨#[]⟩ : ByteArray), .string (⟨#[]⟩ : ByteArray), .int .u64 0, .int .i64 0, .string (⟨#[]⟩ : ByteArray)]) ?_ 0 _ rfl; (with_reducible repeat (first | refine blk_drewN ?_ _ | refine blk_drew ?_ | refine blk_alloc ?_ _)); exact BK339.out⟩
               have n3_ : Aside0 (Below w.heap.size w ((((((w26.setCell ⟨gb339, 0, none⟩ (.string ((rd_T35 l0_0 (ji17)).f0))).setCell ⟨gb339, 1, none⟩ (.string ((rd_T35 l0_0 (ji17)).f1))).setCell ⟨gb339, 2, none⟩ (.string ((rd_T35 l0_0 (ji17)).f2))).setCell ⟨gb339, 3, none⟩ (.int .u64 ((rd_T35 l0_0 (ji17)).f3))).setCell ⟨gb339, 4, none⟩ (.int .i64 ((rd_T35 l0_0 (ji17)).f4))).setCell ⟨gb339, 5, none⟩ (.string ((rd_T35 l0_0 (ji17)).f5)))) := ⟨bw⟩
               (try clear BK334)
               (try clear BK336)
               (try clear BK339)
               (try clear HB)
               generalize ((((((w26.setCell ⟨gb339, 0, none⟩ (.string ((rd_T35 l0_0 (ji17)).f0))).setCell ⟨gb339, 1, none⟩ (.string ((rd_T35 l0_0 (ji17)).f1))).setCell ⟨gb339, 2, none⟩ (.string ((rd_T35 l0_0 (ji17)).f2))).setCell ⟨gb339, 3, none⟩ (.int .u64 ((rd_T35 l0_0 (ji17)).f3))).setCell ⟨gb339, 4, none⟩ (.int .i64 ((rd_T35 l0_0 (ji17)).f4))).setCell ⟨gb339, 5, none⟩ (.string ((rd_T35 l0_0 (ji17)).f5))) = w39 at n0_ n1_ n2_ n3_ ⊢
               have BK334 := n0_
               have BK336 := n1_
               have BK339 := n2_
               have HB := n3_
               clear n0_ n1_ n2_ n3_
               have n0_ := Aside0.mk (blk_drew BK334.out)
               have n1_ := Aside0.mk (blk_drew BK336.out)
               have n2_ := Aside0.mk (blk_drew BK339.out)
               have n3_ := Aside0.mk (below_drew1 HB.out)
               clear BK334
               clear BK336
               clear BK339
               clear HB
               have BK334 := n0_
               have BK336 := n1_
               have BK339 := n2_
               have HB := n3_
               clear n0_ n1_ n2_ n3_
               refine start_ (n := 21) (S := fun w' => w'.cell? ⟨gb339, 0, none⟩ = some (.string ((rd_T35 l0_0 (ji17)).f0)) ∧ w'.cell? ⟨gb339, 1, none⟩ = some (.string ((rd_T35 l0_0 (ji17)).f1)) ∧ w'.cell? ⟨gb339, 2, none⟩ = some (.string ((rd_T35 l0_0 (ji17)).f2)) ∧ w'.cell? ⟨gb339, 3, none⟩ = some (.int .u64 ((rd_T35 l0_0 (ji17)).f3)) ∧ w'.cell? ⟨gb339, 4, none⟩ = some (.int .i64 ((rd_T35 l0_0 (ji17)).f4)) ∧ w'.cell? ⟨gb339, 5, none⟩ = some (.string ((rd_T35 l0_0 (ji17)).f5)) ∧ w'.cell? ⟨gb336, 0, none⟩ = some (.string ((rd_T35 l0_0 x13_1).f0)) ∧ w'.cell? ⟨gb336, 1, none⟩ = some (.string ((rd_T35 l0_0 x13_1).f1)) ∧ w'.cell? ⟨gb336, 2, none⟩ = some (.string ((rd_T35 l0_0 x13_1).f2)) ∧ w'.cell? ⟨gb336, 3, none⟩ = some (.int .u64 ((rd_T35 l0_0 x13_1).f3)) ∧ w'.cell? ⟨gb336, 4, none⟩ = some (.int .i64 ((rd_T35 l0_0 x13_1).f4)) ∧ w'.cell? ⟨gb336, 5, none⟩ = some (.string ((rd_T35 l0_0 x13_1).f5))) (ds := []) #[false, false, false, false, false, false, false, false, false, false, false, false, false, false, false, false, false, false, false, false, false] (by kernel_rfl) rfl rfl ⟨(blk_cell BK339.out 0).trans rfl, (blk_cell BK339.out 1).trans rfl, (blk_cell BK339.out 2).trans rfl, (blk_cell BK339.out 3).trans rfl, (blk_cell BK339.out 4).trans rfl, (blk_cell BK339.out 5).trans rfl, (blk_cell BK336.out 0).trans rfl, (blk_cell BK336.out 1).trans rfl, (blk_cell BK336.out 2).trans rfl, (blk_cell BK336.out 3).trans rfl, (blk_cell BK336.out 4).trans rfl, (blk_cell BK336.out 5).trans rfl⟩ (fun hHeld => ?_); refine with_tabW impl_ValidRun.tab10 impl_ValidRun.bits10 (fun HT_ HW_ => ?_)
               generalize w39.drew = w40 at BK334 BK336 BK339 HB hHeld ⊢
               refine take_ (i := 0) (N := some 29) (v := ?_) (a' := ?_) #[true, false, false, false, false, false, false, false, false, false, false, false, false, false, false, false, false, false, false, false, false] rfl rfl (take_ofW HT_.out HW_.out (by kernel_rfl)) (fun _ _ _ h => h) (Or.inl ⟨by rfl, ?_⟩) hHeld ?_ ?_
               rotate_left
               ·rintro w' ⟨s0, s1, s2, s3, s4, s5, s6, s7, s8, s9, s10, s11⟩
                go_simp
                with_reducible rfl
               rotate_left
               ·simp only [Act.put, List.setIfInBounds_toArray, List.set_cons_zero, List.set_cons_succ, i64_w, i32_w]
                rfl
               refine take_ (i := 1) (N := some 30) (v := ?_) (a' := ?_) #[true, true, false, false, false, false, false, false, false, false, false, false, false, false, false, false, false, false, false, false, false] rfl rfl (take_ofW HT_.out HW_.out (by kernel_rfl)) (fun _ _ _ h => h) (Or.inl ⟨by rfl, ?_⟩) hHeld ?_ ?_
               rotate_left
               ·rintro w' ⟨s0, s1, s2, s3, s4, s5, s6, s7, s8, s9, s10, s11⟩
                go_simp
                with_reducible rfl
               rotate_left
               ·simp only [Act.put, List.setIfInBounds_toArray, List.set_cons_zero, List.set_cons_succ, i64_w, i32_w]
                rfl
               refine one_ (i := 2) (N := some 31) #[true, true, true, false, false, false, false, false, false, false, false, false, false, false, false, false, false, false, false, false, false] rfl rfl (one_of HT_.out (by kernel_rfl)) (by decide) (fun K hK => ?_)
               refine goes_ Try.func62 (by kernel_rfl) rfl #[.agg #[.string ((rd_T35 l0_0 (ji17)).f0), .string ((rd_T35 l0_0 (ji17)).f1), .string ((rd_T35 l0_0 (ji17)).f2), .int .u64 ((rd_T35 l0_0 (ji17)).f3), .int .i64 ((rd_T35 l0_0 (ji17)).f4), .string ((rd_T35 l0_0 (ji17)).f5)], .agg #[.string ((rd_T35 l0_0 x13_1).f0), .string ((rd_T35 l0_0 x13_1).f1), .string ((rd_T35 l0_0 x13_1).f2), .int .u64 ((rd_T35 l0_0 x13_1).f3), .int .i64 ((rd_T35 l0_0 x13_1).f4), .string ((rd_T35 l0_0 x13_1).f5)]] (by rfl) rfl rfl (by (try simp only [List.map_toArray, List.map_cons, List.map_nil]); first | done | (simp only [hji17]; rfl) | rfl | (simp only [List.length_drop, List.length_take]; rfl)) ?_
               with_reducible refine (impl_Entry_compare.calls k1 ((rd_T35 l0_0 (ji17)).f0) ((rd_T35 l0_0 (ji17)).f1) ((rd_T35 l0_0 (ji17)).f2) ((rd_T35 l0_0 (ji17)).f3) ((rd_T35 l0_0 (ji17)).f4) ((rd_T35 l0_0 (ji17)).f5) ((rd_T35 l0_0 x13_1).f0) ((rd_T35 l0_0 x13_1).f1) ((rd_T35 l0_0 x13_1).f2) ((rd_T35 l0_0 x13_1).f3) ((rd_T35 l0_0 x13_1).f4) ((rd_T35 l0_0 x13_1).f5) t340 _ A30.out).mono ?_
               rintro e w41 ⟨rfl, hb⟩
               refine ⟨_, rfl, ?_⟩
               have n0_ := Aside0.mk (blk_below (g := gb334) (o := .cells #[.slice (some ad335) l0_0.length c0_0] 66 (0, 0)) (lb BK334) hb)
               have n1_ := Aside0.mk (blk_below (g := gb336) (o := .cells #[.string ((rd_T35 l0_0 x13_1).f0), .string ((rd_T35 l0_0 x13_1).f1), .string ((rd_T35 l0_0 x13_1).f2), .int .u64 ((rd_T35 l0_0 x13_1).f3), .int .i64 ((rd_T35 l0_0 x13_1).f4), .string ((rd_T35 l0_0 x13_1).f5)] 35 (0, 0)) (lb BK336) hb)
               have n2_ := Aside0.mk (blk_below (g := gb339) (o := .cells #[.string ((rd_T35 l0_0 (ji17)).f0), .string ((rd_T35 l0_0 (ji17)).f1), .string ((rd_T35 l0_0 (ji17)).f2), .int .u64 ((rd_T35 l0_0 (ji17)).f3), .int .i64 ((rd_T35 l0_0 (ji17)).f4), .string ((rd_T35 l0_0 (ji17)).f5)] 35 (0, 0)) (lb BK339) hb)
               have n3_ := Aside0.mk (below_step bw hb)
               clear BK334
               clear BK336
               clear BK339
               clear HB
               have BK334 := n0_
               have BK336 := n1_
               have BK339 := n2_
               have HB := n3_
               clear n0_ n1_ n2_ n3_
               (try clear hb)
               (try clear hb2)
               (try clear hk)
               (try clear hi)
               refine hK.out _ _ ⟨(blk_cell BK339.out 0).trans rfl, (blk_cell BK339.out 1).trans rfl, (blk_cell BK339.out 2).trans rfl, (blk_cell BK339.out 3).trans rfl, (blk_cell BK339.out 4).trans rfl, (blk_cell BK339.out 5).trans rfl, (blk_cell BK336.out 0).trans rfl, (blk_cell BK336.out 1).trans rfl, (blk_cell BK336.out 2).trans rfl, (blk_cell BK336.out 3).trans rfl, (blk_cell BK336.out 4).trans rfl, (blk_cell BK336.out 5).trans rfl⟩ (fun hHeld => ?_)
               clear hK K
               refine norm_ (a' := ?_) ?_ ?_
               rotate_left
               ·show Act.put _ (some 31) _ = _
                simp only [Act.put, List.setIfInBounds_toArray, List.set_cons_zero, List.set_cons_succ, i64_w, i32_w]
                rfl
               refine pure_ (i := 3) (N := some 32) (v := ?_) (a' := ?_) #[true, true, true, true, false, false, false, false, false, false, false, false, false, false, false, false, false, false, false, false, false] rfl rfl (any_of HT_.out (by kernel_rfl)) (fun _ _ _ h => h) (Or.inl ⟨by rfl, ?_⟩) ?_ ?_
               rotate_left
               ·intro w'
                go_simp
                with_reducible rfl
               rotate_left
               ·simp only [Act.put, List.setIfInBounds_toArray, List.set_cons_zero, List.set_cons_succ, i64_w, i32_w]
                rfl
               refine pure_ (i := 4) (N := some 33) (v := ?_) (a' := ?_) #[true, true, true, true, true, false, false, false, false, false, false, false, false, false, false, false, false, false, false, false, false] rfl rfl (any_of HT_.out (by kernel_rfl)) (fun _ _ _ h => h) (Or.inl ⟨by rfl, ?_⟩) ?_ ?_
               rotate_left
               ·intro w'
                go_simp
                with_reducible rfl
               rotate_left
               ·simp only [Act.put, List.setIfInBounds_toArray, List.set_cons_zero, List.set_cons_succ, i64_w, i32_w]
                rfl
               refine pure_ (i := 5) (N := some 34) (v := ?_) (a' := ?_) #[true, true, true, true, true, true, false, false, false, false, false, false, false, false, false, false, false, false, false, false, false] rfl rfl (any_of HT_.out (by kernel_rfl)) (fun _ _ _ h => h) (Or.inl ⟨by rfl, ?_⟩) ?_ ?_
               rotate_left
               ·intro w'
                go_simp
                with_reducible rfl
               rotate_left
               ·simp only [Act.put, List.setIfInBounds_toArray, List.set_cons_zero, List.set_cons_succ, i64_w, i32_w]
                rfl
               refine take_ (i := 6) (N := some 35) (v := ?_) (a' := ?_) #[true, true, true, true, true, true, true, false, false, false, false, false, false, false, false, false, false, false, false, false, false] rfl rfl (take_ofW HT_.out HW_.out (by kernel_rfl)) (fun _ _ _ h => h) (Or.inl ⟨by rfl, ?_⟩) hHeld ?_ ?_
               rotate_left
               ·rintro w' ⟨s0, s1, s2, s3, s4, s5, s6, s7, s8, s9, s10, s11⟩
                go_simp
                with_reducible rfl
               rotate_left
               ·simp only [Act.put, List.setIfInBounds_toArray, List.set_cons_zero, List.set_cons_succ, i64_w, i32_w]
                rfl
               refine pure_ (i := 7) (N := some 36) (v := ?_) (a' := ?_) #[true, true, true, true, true, true, true, true, false, false, false, false, false, false, false, false, false, false, false, false, false] rfl rfl (any_of HT_.out (by kernel_rfl)) (fun _ _ _ h => h) (Or.inl ⟨by rfl, ?_⟩) ?_ ?_
               rotate_left
               ·intro w'
                go_simp
                with_reducible rfl
               rotate_left
               ·simp only [Act.put, List.setIfInBounds_toArray, List.set_cons_zero, List.set_cons_succ, i64_w, i32_w]
                rfl
               refine pure_ (i := 8) (N := some 37) (v := ?_) (a' := ?_) #[true, true, true, true, true, true, true, true, true, false, false, false, false, false, false, false, false, false, false, false, false] rfl rfl (any_of HT_.out (by kernel_rfl)) (fun _ _ _ h => h) (Or.inl ⟨by rfl, ?_⟩) ?_ ?_
               rotate_left
               ·intro w'
                go_simp
                with_reducible rfl
               rotate_left
               ·simp only [Act.put, List.setIfInBounds_toArray, List.set_cons_zero, List.set_cons_succ, i64_w, i32_w]
                rfl
               refine pure_ (i := 9) (N := some 38) (v := ?_) (a' := ?_) #[true, true, true, true, true, true, true, true, true, true, false, false, false, false, false, false, false, false, false, false, false] rfl rfl (any_of HT_.out (by kernel_rfl)) (fun _ _ _ h => h) (Or.inl ⟨by rfl, ?_⟩) ?_ ?_
               rotate_left
               ·intro w'
                go_simp
                with_reducible rfl
               rotate_left
               ·simp only [Act.put, List.setIfInBounds_toArray, List.set_cons_zero, List.set_cons_succ, i64_w, i32_w]
                rfl
               refine take_ (i := 10) (N := some 39) (v := ?_) (a' := ?_) #[true, true, true, true, true, true, true, true, true, true, true, false, false, false, false, false, false, false, false, false, false] rfl rfl (take_ofW HT_.out HW_.out (by kernel_rfl)) (fun _ _ _ h => h) (Or.inl ⟨by rfl, ?_⟩) hHeld ?_ ?_
               rotate_left
               ·rintro w' ⟨s0, s1, s2, s3, s4, s5, s6, s7, s8, s9, s10, s11⟩
                go_simp
                with_reducible rfl
               rotate_left
               ·simp only [Act.put, List.setIfInBounds_toArray, List.set_cons_zero, List.set_cons_succ, i64_w, i32_w]
                rfl
               refine pure_ (i := 11) (N := some 40) (v := ?_) (a' := ?_) #[true, true, true, true, true, true, true, true, true, true, true, true, false, false, false, false, false, false, false, false, false] rfl rfl (any_of HT_.out (by kernel_rfl)) (fun _ _ _ h => h) (Or.inl ⟨by rfl, ?_⟩) ?_ ?_
               rotate_left
               ·intro w'
                go_simp
                with_reducible rfl
               rotate_left
               ·simp only [Act.put, List.setIfInBounds_toArray, List.set_cons_zero, List.set_cons_succ, i64_w, i32_w]
                rfl
               refine pure_ (i := 12) (N := some 41) (v := ?_) (a' := ?_) #[true, true, true, true, true, true, true, true, true, true, true, true, true, false, false, false, false, false, false, false, false] rfl rfl (any_of HT_.out (by kernel_rfl)) (fun _ _ _ h => h) (Or.inl ⟨by rfl, ?_⟩) ?_ ?_
               rotate_left
               ·intro w'
                go_simp
                with_reducible rfl
               rotate_left
               ·simp only [Act.put, List.setIfInBounds_toArray, List.set_cons_zero, List.set_cons_succ, i64_w, i32_w]
                rfl
               refine pure_ (i := 13) (N := some 42) (v := ?_) (a' := ?_) #[true, true, true, true, true, true, true, true, true, true, true, true, true, true, false, false, false, false, false, false, false] rfl rfl (any_of HT_.out (by kernel_rfl)) (fun _ _ _ h => h) (Or.inl ⟨by rfl, ?_⟩) ?_ ?_
               rotate_left
               ·intro w'
                go_simp
                with_reducible rfl
               rotate_left
               ·simp only [Act.put, List.setIfInBounds_toArray, List.set_cons_zero, List.set_cons_succ, i64_w, i32_w]
                rfl
               refine take_ (i := 14) (N := some 43) (v := ?_) (a' := ?_) #[true, true, true, true, true, true, true, true, true, true, true, true, true, true, true, false, false, false, false, false, false] rfl rfl (take_ofW HT_.out HW_.out (by kernel_rfl)) (fun _ _ _ h => h) (Or.inl ⟨by rfl, ?_⟩) hHeld ?_ ?_
               rotate_left
               ·rintro w' ⟨s0, s1, s2, s3, s4, s5, s6, s7, s8, s9, s10, s11⟩
                go_simp
                with_reducible rfl
               rotate_left
               ·simp only [Act.put, List.setIfInBounds_toArray, List.set_cons_zero, List.set_cons_succ, i64_w, i32_w]
                rfl
               refine take_ (i := 16) (N := some 45) (v := ?_) (a' := ?_) #[true, true, true, true, true, true, true, true, true, true, true, true, true, true, true, false, true, false, false, false, false] rfl rfl (take_ofW HT_.out HW_.out (by kernel_rfl)) (fun _ _ _ h => h) (Or.inl ⟨by rfl, ?_⟩) hHeld ?_ ?_
               rotate_left
               ·rintro w' ⟨s0, s1, s2, s3, s4, s5, s6, s7, s8, s9, s10, s11⟩
                go_simp
                with_reducible rfl
               rotate_left
               ·simp only [Act.put, List.setIfInBounds_toArray, List.set_cons_zero, List.set_cons_succ, i64_w, i32_w]
                rfl
               refine one_ (i := 15) (N := some 44) #[true, true, true, true, true, true, true, true, true, true, true, true, true, true, true, true, true, false, false, false, false] rfl rfl (one_of HT_.out (by kernel_rfl)) (by decide) (fun K hK => ?_)
               refine goes_ Try.func74 (by kernel_rfl) rfl #[.agg #[.string ((rd_T35 l0_0 (ji17)).f0), .string ((rd_T35 l0_0 (ji17)).f1), .string ((rd_T35 l0_0 (ji17)).f2), .int .u64 ((rd_T35 l0_0 (ji17)).f3), .int .i64 ((rd_T35 l0_0 (ji17)).f4), .string ((rd_T35 l0_0 (ji17)).f5)]] (by rfl) rfl rfl (by (try simp only [List.map_toArray, List.map_cons, List.map_nil]); first | done | (simp only [hji17]; rfl) | rfl | (simp only [List.length_drop, List.length_take]; rfl)) ?_
               with_reducible refine (impl_Entry_column.calls ((rd_T35 l0_0 (ji17)).f0) ((rd_T35 l0_0 (ji17)).f1) ((rd_T35 l0_0 (ji17)).f2) ((rd_T35 l0_0 (ji17)).f3) ((rd_T35 l0_0 (ji17)).f4) ((rd_T35 l0_0 (ji17)).f5) t341 t342 t343 _ A37.out).mono ?_
               rintro e w42 ⟨rfl, hb⟩
               refine ⟨_, rfl, ?_⟩
               have n0_ := Aside0.mk (blk_below (g := gb334) (o := .cells #[.slice (some ad335) l0_0.length c0_0] 66 (0, 0)) (lb BK334) hb)
               have n1_ := Aside0.mk (blk_below (g := gb336) (o := .cells #[.string ((rd_T35 l0_0 x13_1).f0), .string ((rd_T35 l0_0 x13_1).f1), .string ((rd_T35 l0_0 x13_1).f2), .int .u64 ((rd_T35 l0_0 x13_1).f3), .int .i64 ((rd_T35 l0_0 x13_1).f4), .string ((rd_T35 l0_0 x13_1).f5)] 35 (0, 0)) (lb BK336) hb)
               have n2_ := Aside0.mk (blk_below (g := gb339) (o := .cells #[.string ((rd_T35 l0_0 (ji17)).f0), .string ((rd_T35 l0_0 (ji17)).f1), .string ((rd_T35 l0_0 (ji17)).f2), .int .u64 ((rd_T35 l0_0 (ji17)).f3), .int .i64 ((rd_T35 l0_0 (ji17)).f4), .string ((rd_T35 l0_0 (ji17)).f5)] 35 (0, 0)) (lb BK339) hb)
               have n3_ := Aside0.mk (below_step bw hb)
               clear BK334
               clear BK336
               clear BK339
               clear HB
               have BK334 := n0_
               have BK336 := n1_
               have BK339 := n2_
               have HB := n3_
               clear n0_ n1_ n2_ n3_
               (try clear hb)
               (try clear hb2)
               (try clear hk)
               (try clear hi)
               refine hK.out _ _ ⟨(blk_cell BK339.out 0).trans rfl, (blk_cell BK339.out 1).trans rfl, (blk_cell BK339.out 2).trans rfl, (blk_cell BK339.out 3).trans rfl, (blk_cell BK339.out 4).trans rfl, (blk_cell BK339.out 5).trans rfl, (blk_cell BK336.out 0).trans rfl, (blk_cell BK336.out 1).trans rfl, (blk_cell BK336.out 2).trans rfl, (blk_cell BK336.out 3).trans rfl, (blk_cell BK336.out 4).trans rfl, (blk_cell BK336.out 5).trans rfl⟩ (fun hHeld => ?_)
               clear hK K
               refine norm_ (a' := ?_) ?_ ?_
               rotate_left
               ·show Act.put _ (some 44) _ = _
                simp only [Act.put, List.setIfInBounds_toArray, List.set_cons_zero, List.set_cons_succ, i64_w, i32_w]
                rfl
               refine one_ (i := 17) (N := some 46) #[true, true, true, true, true, true, true, true, true, true, true, true, true, true, true, true, true, true, false, false, false] rfl rfl (one_of HT_.out (by kernel_rfl)) (by decide) (fun K hK => ?_)
               refine goes_ Try.func74 (by kernel_rfl) rfl #[.agg #[.string ((rd_T35 l0_0 x13_1).f0), .string ((rd_T35 l0_0 x13_1).f1), .string ((rd_T35 l0_0 x13_1).f2), .int .u64 ((rd_T35 l0_0 x13_1).f3), .int .i64 ((rd_T35 l0_0 x13_1).f4), .string ((rd_T35 l0_0 x13_1).f5)]] (by rfl) rfl rfl (by (try simp only [List.map_toArray, List.map_cons, List.map_nil]); first | done | rfl | (simp only [List.length_drop, List.length_take]; rfl)) ?_
               with_reducible refine (impl_Entry_column.calls ((rd_T35 l0_0 x13_1).f0) ((rd_T35 l0_0 x13_1).f1) ((rd_T35 l0_0 x13_1).f2) ((rd_T35 l0_0 x13_1).f3) ((rd_T35 l0_0 x13_1).f4) ((rd_T35 l0_0 x13_1).f5) t344 t345 t346 _ A38.out).mono ?_
               rintro e w43 ⟨rfl, hb⟩
               refine ⟨_, rfl, ?_⟩
               have n0_ := Aside0.mk (blk_below (g := gb334) (o := .cells #[.slice (some ad335) l0_0.length c0_0] 66 (0, 0)) (lb BK334) hb)
               have n1_ := Aside0.mk (blk_below (g := gb336) (o := .cells #[.string ((rd_T35 l0_0 x13_1).f0), .string ((rd_T35 l0_0 x13_1).f1), .string ((rd_T35 l0_0 x13_1).f2), .int .u64 ((rd_T35 l0_0 x13_1).f3), .int .i64 ((rd_T35 l0_0 x13_1).f4), .string ((rd_T35 l0_0 x13_1).f5)] 35 (0, 0)) (lb BK336) hb)
               have n2_ := Aside0.mk (blk_below (g := gb339) (o := .cells #[.string ((rd_T35 l0_0 (ji17)).f0), .string ((rd_T35 l0_0 (ji17)).f1), .string ((rd_T35 l0_0 (ji17)).f2), .int .u64 ((rd_T35 l0_0 (ji17)).f3), .int .i64 ((rd_T35 l0_0 (ji17)).f4), .string ((rd_T35 l0_0 (ji17)).f5)] 35 (0, 0)) (lb BK339) hb)
               have n3_ := Aside0.mk (below_step bw hb)
               clear BK334
               clear BK336
               clear BK339
               clear HB
               have BK334 := n0_
               have BK336 := n1_
               have BK339 := n2_
               have HB := n3_
               clear n0_ n1_ n2_ n3_
               (try clear hb)
               (try clear hb2)
               (try clear hk)
               (try clear hi)
               refine hK.out _ _ ⟨(blk_cell BK339.out 0).trans rfl, (blk_cell BK339.out 1).trans rfl, (blk_cell BK339.out 2).trans rfl, (blk_cell BK339.out 3).trans rfl, (blk_cell BK339.out 4).trans rfl, (blk_cell BK339.out 5).trans rfl, (blk_cell BK336.out 0).trans rfl, (blk_cell BK336.out 1).trans rfl, (blk_cell BK336.out 2).trans rfl, (blk_cell BK336.out 3).trans rfl, (blk_cell BK336.out 4).trans rfl, (blk_cell BK336.out 5).trans rfl⟩ (fun hHeld => ?_)
               clear hK K
               refine norm_ (a' := ?_) ?_ ?_
               rotate_left
               ·show Act.put _ (some 46) _ = _
                simp only [Act.put, List.setIfInBounds_toArray, List.set_cons_zero, List.set_cons_succ, i64_w, i32_w]
                rfl
               refine pure_ (i := 18) (N := some 47) (v := ?_) (a' := ?_) #[true, true, true, true, true, true, true, true, true, true, true, true, true, true, true, true, true, true, true, false, false] rfl rfl (any_of HT_.out (by kernel_rfl)) (fun _ _ _ h => h) (Or.inl ⟨by rfl, ?_⟩) ?_ ?_
               rotate_left
               ·intro w'
                go_simp
                with_reducible rfl
               rotate_left
               ·simp only [Act.put, List.setIfInBounds_toArray, List.set_cons_zero, List.set_cons_succ, i64_w, i32_w]
                rfl
               refine pure_ (i := 19) (N := some 48) (v := ?_) (a' := ?_) #[true, true, true, true, true, true, true, true, true, true, true, true, true, true, true, true, true, true, true, true, false] rfl rfl (any_of HT_.out (by kernel_rfl)) (fun _ _ _ h => h) (Or.inl ⟨by rfl, ?_⟩) ?_ ?_
               rotate_left
               ·intro w'
                go_simp
                with_reducible rfl
               rotate_left
               ·simp only [Act.put, List.setIfInBounds_toArray, List.set_cons_zero, List.set_cons_succ, i64_w, i32_w]
                rfl
               refine pure_ (i := 20) (N := some 49) (v := ?_) (a' := ?_) #[true, true, true, true, true, true, true, true, true, true, true, true, true, true, true, true, true, true, true, true, true] rfl rfl (any_of HT_.out (by kernel_rfl)) (fun _ _ _ h => h) (Or.inl ⟨by rfl, ?_⟩) ?_ ?_
               rotate_left
               ·intro w'
                go_simp
                with_reducible rfl
               rotate_left
               ·simp only [Act.put, List.setIfInBounds_toArray, List.set_cons_zero, List.set_cons_succ, i64_w, i32_w]
                rfl
               refine done_ (done_of HT_.out (by kernel_rfl)) ?_
               try go_wp2
               go_meet
               case rel => exact ⟨_, ((t341.toList == t344.toList && (t342.toList == t345.toList && (t343.toList == t346.toList)))), (by first | rfl | (simp; done) | (simp [*]; done)), H', ⟨by have := HK1.out; first | omega | exact Nat.le_refl _⟩, ⟨lb BK334⟩, ⟨lb BK336⟩, ⟨lb BK339⟩, ⟨bw⟩⟩
              ·rw [if_neg c36] at H
               have c36b0 : (((rd_T35 l0_0 x13_1).f4) == 2) = false := beq_eq_false_iff_ne.mpr c36
               have c36b1 : (((rd_T35 l0_0 x13_1).f4) != 2) = true := bne_iff_ne.mpr c36
               have H' := Aside0.mk H
               clear H
               try go_wp2
               have n0_ : Aside0 (((((((w26.setCell ⟨gb339, 0, none⟩ (.string ((rd_T35 l0_0 (ji17)).f0))).setCell ⟨gb339, 1, none⟩ (.string ((rd_T35 l0_0 (ji17)).f1))).setCell ⟨gb339, 2, none⟩ (.string ((rd_T35 l0_0 (ji17)).f2))).setCell ⟨gb339, 3, none⟩ (.int .u64 ((rd_T35 l0_0 (ji17)).f3))).setCell ⟨gb339, 4, none⟩ (.int .i64 ((rd_T35 l0_0 (ji17)).f4))).setCell ⟨gb339, 5, none⟩ (.string ((rd_T35 l0_0 (ji17)).f5))).heap[gb334]? = some (.cells #[.slice (some ad335) l0_0.length c0_0] 66 (0, 0))) := ⟨by (with_reducible repeat (first | refine blk_drewN ?_ _ | refine blk_drew ?_ | refine blk_alloc ?_ _)); refine blk_far ?_ NB334_339.out _; (with_reducible repeat (first | refine blk_drewN ?_ _ | refine blk_drew ?_ | refine blk_alloc ?_ _)); refine blk_far ?_ NB334_339.out _; (with_reducible repeat (first | refine blk_drewN ?_ _ | refine blk_drew ?_ | refine blk_alloc ?_ _)); refine blk_far ?_ NB334_339.out _; (with_reducible repeat (first | refine blk_drewN ?_ _ | refine blk_drew ?_ | refine blk_alloc ?_ _)); refine blk_far ?_ NB334_339.out _; (with_reducible repeat (first | refine blk_drewN ?_ _ | refine blk_drew ?_ | refine blk_alloc ?_ _)); refine blk_far ?_ NB334_339.out _; (with_reducible repeat (first | refine blk_drewN ?_ _ | refine blk_drew ?_ | refine blk_alloc ?_ _)); refine blk_far ?_ NB334_339.out _; (with_reducible repeat (first | refine blk_drewN ?_ _ | refine blk_drew ?_ | refine blk_alloc ?_ _)); exact BK334.out⟩
               have n1_ : Aside0 (((((((w26.setCell ⟨gb339, 0, none⟩ (.string ((rd_T35 l0_0 (ji17)).f0))).setCell ⟨gb339, 1, none⟩ (.string ((rd_T35 l0_0 (ji17)).f1))).setCell ⟨gb339, 2, none⟩ (.string ((rd_T35 l0_0 (ji17)).f2))).setCell ⟨gb339, 3, none⟩ (.int .u64 ((rd_T35 l0_0 (ji17)).f3))).setCell ⟨gb339, 4, none⟩ (.int .i64 ((rd_T35 l0_0 (ji17)).f4))).setCell ⟨gb339, 5, none⟩ (.string ((rd_T35 l0_0 (ji17)).f5))).heap[gb336]? = some (.cells #[.string ((rd_T35 l0_0 x13_1).f0), .string ((rd_T35 l0_0 x13_1).f1), .string ((rd_T35 l0_0 x13_1).f2), .int .u64 ((rd_T35 l0_0 x13_1).f3), .int .i64 ((rd_T35 l0_0 x13_1).f4), .string ((rd_T35 l0_0 x13_1).f5)] 35 (0, 0))) := ⟨by (with_reducible repeat (first | refine blk_drewN ?_ _ | refine blk_drew ?_ | refine blk_alloc ?_ _)); refine blk_far ?_ NB336_339.out _; (with_reducible repeat (first | refine blk_drewN ?_ _ | refine blk_drew ?_ | refine blk_alloc ?_ _)); refine blk_far ?_ NB336_339.out _; (with_reducible repeat (first | refine blk_drewN ?_ _ | refine blk_drew ?_ | refine blk_alloc ?_ _)); refine blk_far ?_ NB336_339.out _; (with_reducible repeat (first | refine blk_drewN ?_ _ | refine blk_drew ?_ | refine blk_alloc ?_ _)); refine blk_far ?_ NB336_339.out _; (with_reducible repeat (first | refine blk_drewN ?_ _ | refine blk_drew ?_ | refine blk_alloc ?_ _)); refine blk_far ?_ NB336_339.out _; (with_reducible repeat (first | refine blk_drewN ?_ _ | refine blk_drew ?_ | refine blk_alloc ?_ _)); refine blk_far ?_ NB336_339.out _; (with_reducible repeat (first | refine blk_drewN ?_ _ | refine blk_drew ?_ | refine blk_alloc ?_ _)); exact BK336.out⟩
               have n2_ : Aside0 (((((((w26.setCell ⟨gb339, 0, none⟩ (.string ((rd_T35 l0_0 (ji17)).f0))).setCell ⟨gb339, 1, none⟩ (.string ((rd_T35 l0_0 (ji17)).f1))).setCell ⟨gb339, 2, none⟩ (.string ((rd_T35 l0_0 (ji17)).f2))).setCell ⟨gb339, 3, none⟩ (.int .u64 ((rd_T35 l0_0 (ji17)).f3))).setCell ⟨gb339, 4, none⟩ (.int .i64 ((rd_T35 l0_0 (ji17)).f4))).setCell ⟨gb339, 5, none⟩ (.string ((rd_T35 l0_0 (ji17)).f5))).heap[gb339]? = some (.cells #[.string ((rd_T35 l0_0 (ji17)).f0), .string ((rd_T35 l0_0 (ji17)).f1), .string ((rd_T35 l0_0 (ji17)).f2), .int .u64 ((rd_T35 l0_0 (ji17)).f3), .int .i64 ((rd_T35 l0_0 (ji17)).f4), .string ((rd_T35 l0_0 (ji17)).f5)] 35 (0, 0))) := ⟨by (with_reducible repeat (first | refine blk_drewN ?_ _ | refine blk_drew ?_ | refine blk_alloc ?_ _)); refine blk_put (cs := #[.string ((rd_T35 l0_0 (ji17)).f0), .string ((rd_T35 l0_0 (ji17)).f1), .string ((rd_T35 l0_0 (ji17)).f2), .int .u64 ((rd_T35 l0_0 (ji17)).f3), .int .i64 ((rd_T35 l0_0 (ji17)).f4), .string (⟨#[]⟩ : ByteArray)]) ?_ 5 _ rfl; (with_reducible repeat (first | refine blk_drewN ?_ _ | refine blk_drew ?_ | refine blk_alloc ?_ _)); refine blk_put (cs := #[.string ((rd_T35 l0_0 (ji17)).f0), .string ((rd_T35 l0_0 (ji17)).f1), .string ((rd_T35 l0_0 (ji17)).f2), .int .u64 ((rd_T35 l0_0 (ji17)).f3), .int .i64 0, .string (⟨#[]⟩ : ByteArray)]) ?_ 4 _ rfl; (with_reducible repeat (first | refine blk_drewN ?_ _ | refine blk_drew ?_ | refine blk_alloc ?_ _)); refine blk_put (cs := #[.string ((rd_T35 l0_0 (ji17)).f0), .string ((rd_T35 l0_0 (ji17)).f1), .string ((rd_T35 l0_0 (ji17)).f2), .int .u64 0, .int .i64 0, .string (⟨#[]⟩ : ByteArray)]) ?_ 3 _ rfl; (with_reducible repeat (first | refine blk_drewN ?_ _ | refine blk_drew ?_ | refine blk_alloc ?_ _)); refine blk_put (cs := #[.string ((rd_T35 l0_0 (ji17)).f0), .string ((rd_T35 l0_0 (ji17)).f1), .string (⟨#[]⟩ : ByteArray), .int .u64 0, .int .i64 0, .string (⟨#[]⟩ : ByteArray)]) ?_ 2 _ rfl; (with_reducible repeat (first | refine blk_drewN ?_ _ | refine blk_drew ?_ | refine blk_alloc ?_ _)); refine blk_put (cs := #[.string ((rd_T35 l0_0 (ji17)).f0), .string (⟨#[]⟩ : ByteArray), .string (⟨#[]⟩ : ByteArray), .int .u64 0, .int .i64 0, .string (⟨#[]⟩ : ByteArray)]) ?_ 1 _ rfl; (with_reducible repeat (first | refine blk_drewN ?_ _ | refine blk_drew ?_ | refine blk_alloc ?_ _)); refine blk_put (cs := #[.string (⟨#[]⟩ : ByteArray), .string (⟨#[]⟩ : ByteArray), .string (⟨#[]⟩ : ByteArray), .int .u64 0, .int .i64 0, .string (⟨#[]⟩ : ByteArray)]) ?_ 0 _ rfl; (with_reducible repeat (first | refine blk_drewN ?_ _ | refine blk_drew ?_ | refine blk_alloc ?_ _)); exact BK339.out⟩
               have n3_ : Aside0 (Below w.heap.size w ((((((w26.setCell ⟨gb339, 0, none⟩ (.string ((rd_T35 l0_0 (ji17)).f0))).setCell ⟨gb339, 1, none⟩ (.string ((rd_T35 l0_0 (ji17)).f1))).setCell ⟨gb339, 2, none⟩ (.string ((rd_T35 l0_0 (ji17)).f2))).setCell ⟨gb339, 3, none⟩ (.int .u64 ((rd_T35 l0_0 (ji17)).f3))).setCell ⟨gb339, 4, none⟩ (.int .i64 ((rd_T35 l0_0 (ji17)).f4))).setCell ⟨gb339, 5, none⟩ (.string ((rd_T35 l0_0 (ji17)).f5)))) := ⟨bw⟩
               (try clear BK334)
               (try clear BK336)
               (try clear BK339)
               (try clear HB)
               generalize ((((((w26.setCell ⟨gb339, 0, none⟩ (.string ((rd_T35 l0_0 (ji17)).f0))).setCell ⟨gb339, 1, none⟩ (.string ((rd_T35 l0_0 (ji17)).f1))).setCell ⟨gb339, 2, none⟩ (.string ((rd_T35 l0_0 (ji17)).f2))).setCell ⟨gb339, 3, none⟩ (.int .u64 ((rd_T35 l0_0 (ji17)).f3))).setCell ⟨gb339, 4, none⟩ (.int .i64 ((rd_T35 l0_0 (ji17)).f4))).setCell ⟨gb339, 5, none⟩ (.string ((rd_T35 l0_0 (ji17)).f5))) = w44 at n0_ n1_ n2_ n3_ ⊢
               have BK334 := n0_
               have BK336 := n1_
               have BK339 := n2_
               have HB := n3_
               clear n0_ n1_ n2_ n3_
               have n0_ := Aside0.mk (blk_drew BK334.out)
               have n1_ := Aside0.mk (blk_drew BK336.out)
               have n2_ := Aside0.mk (blk_drew BK339.out)
               have n3_ := Aside0.mk (below_drew1 HB.out)
               clear BK334
               clear BK336
               clear BK339
               clear HB
               have BK334 := n0_
               have BK336 := n1_
               have BK339 := n2_
               have HB := n3_
               clear n0_ n1_ n2_ n3_
               refine start_ (n := 21) (S := fun w' => w'.cell? ⟨gb339, 0, none⟩ = some (.string ((rd_T35 l0_0 (ji17)).f0)) ∧ w'.cell? ⟨gb339, 1, none⟩ = some (.string ((rd_T35 l0_0 (ji17)).f1)) ∧ w'.cell? ⟨gb339, 2, none⟩ = some (.string ((rd_T35 l0_0 (ji17)).f2)) ∧ w'.cell? ⟨gb339, 3, none⟩ = some (.int .u64 ((rd_T35 l0_0 (ji17)).f3)) ∧ w'.cell? ⟨gb339, 4, none⟩ = some (.int .i64 ((rd_T35 l0_0 (ji17)).f4)) ∧ w'.cell? ⟨gb339, 5, none⟩ = some (.string ((rd_T35 l0_0 (ji17)).f5)) ∧ w'.cell? ⟨gb336, 0, none⟩ = some (.string ((rd_T35 l0_0 x13_1).f0)) ∧ w'.cell? ⟨gb336, 1, none⟩ = some (.string ((rd_T35 l0_0 x13_1).f1)) ∧ w'.cell? ⟨gb336, 2, none⟩ = some (.string ((rd_T35 l0_0 x13_1).f2)) ∧ w'.cell? ⟨gb336, 3, none⟩ = some (.int .u64 ((rd_T35 l0_0 x13_1).f3)) ∧ w'.cell? ⟨gb336, 4, none⟩ = some (.int .i64 ((rd_T35 l0_0 x13_1).f4)) ∧ w'.cell? ⟨gb336, 5, none⟩ = some (.string ((rd_T35 l0_0 x13_1).f5))) (ds := []) #[false, false, false, false, false, false, false, false, false, false, false, false, false, false, false, false, false, false, false, false, false] (by kernel_rfl) rfl rfl ⟨(blk_cell BK339.out 0).trans rfl, (blk_cell BK339.out 1).trans rfl, (blk_cell BK339.out 2).trans rfl, (blk_cell BK339.out 3).trans rfl, (blk_cell BK339.out 4).trans rfl, (blk_cell BK339.out 5).trans rfl, (blk_cell BK336.out 0).trans rfl, (blk_cell BK336.out 1).trans rfl, (blk_cell BK336.out 2).trans rfl, (blk_cell BK336.out 3).trans rfl, (blk_cell BK336.out 4).trans rfl, (blk_cell BK336.out 5).trans rfl⟩ (fun hHeld => ?_); refine with_tabW impl_ValidRun.tab10 impl_ValidRun.bits10 (fun HT_ HW_ => ?_)
               generalize w44.drew = w45 at BK334 BK336 BK339 HB hHeld ⊢
               refine take_ (i := 0) (N := some 29) (v := ?_) (a' := ?_) #[true, false, false, false, false, false, false, false, false, false, false, false, false, false, false, false, false, false, false, false, false] rfl rfl (take_ofW HT_.out HW_.out (by kernel_rfl)) (fun _ _ _ h => h) (Or.inl ⟨by rfl, ?_⟩) hHeld ?_ ?_
               rotate_left
               ·rintro w' ⟨s0, s1, s2, s3, s4, s5, s6, s7, s8, s9, s10, s11⟩
                go_simp
                with_reducible rfl
               rotate_left
               ·simp only [Act.put, List.setIfInBounds_toArray, List.set_cons_zero, List.set_cons_succ, i64_w, i32_w]
                rfl
               refine take_ (i := 1) (N := some 30) (v := ?_) (a' := ?_) #[true, true, false, false, false, false, false, false, false, false, false, false, false, false, false, false, false, false, false, false, false] rfl rfl (take_ofW HT_.out HW_.out (by kernel_rfl)) (fun _ _ _ h => h) (Or.inl ⟨by rfl, ?_⟩) hHeld ?_ ?_
               rotate_left
               ·rintro w' ⟨s0, s1, s2, s3, s4, s5, s6, s7, s8, s9, s10, s11⟩
                go_simp
                with_reducible rfl
               rotate_left
               ·simp only [Act.put, List.setIfInBounds_toArray, List.set_cons_zero, List.set_cons_succ, i64_w, i32_w]
                rfl
               refine one_ (i := 2) (N := some 31) #[true, true, true, false, false, false, false, false, false, false, false, false, false, false, false, false, false, false, false, false, false] rfl rfl (one_of HT_.out (by kernel_rfl)) (by decide) (fun K hK => ?_)
               refine goes_ Try.func62 (by kernel_rfl) rfl #[.agg #[.string ((rd_T35 l0_0 (ji17)).f0), .string ((rd_T35 l0_0 (ji17)).f1), .string ((rd_T35 l0_0 (ji17)).f2), .int .u64 ((rd_T35 l0_0 (ji17)).f3), .int .i64 ((rd_T35 l0_0 (ji17)).f4), .string ((rd_T35 l0_0 (ji17)).f5)], .agg #[.string ((rd_T35 l0_0 x13_1).f0), .string ((rd_T35 l0_0 x13_1).f1), .string ((rd_T35 l0_0 x13_1).f2), .int .u64 ((rd_T35 l0_0 x13_1).f3), .int .i64 ((rd_T35 l0_0 x13_1).f4), .string ((rd_T35 l0_0 x13_1).f5)]] (by rfl) rfl rfl (by (try simp only [List.map_toArray, List.map_cons, List.map_nil]); first | done | (simp only [hji17]; rfl) | rfl | (simp only [List.length_drop, List.length_take]; rfl)) ?_
               with_reducible refine (impl_Entry_compare.calls k1 ((rd_T35 l0_0 (ji17)).f0) ((rd_T35 l0_0 (ji17)).f1) ((rd_T35 l0_0 (ji17)).f2) ((rd_T35 l0_0 (ji17)).f3) ((rd_T35 l0_0 (ji17)).f4) ((rd_T35 l0_0 (ji17)).f5) ((rd_T35 l0_0 x13_1).f0) ((rd_T35 l0_0 x13_1).f1) ((rd_T35 l0_0 x13_1).f2) ((rd_T35 l0_0 x13_1).f3) ((rd_T35 l0_0 x13_1).f4) ((rd_T35 l0_0 x13_1).f5) t340 _ A30.out).mono ?_
               rintro e w46 ⟨rfl, hb⟩
               refine ⟨_, rfl, ?_⟩
               have n0_ := Aside0.mk (blk_below (g := gb334) (o := .cells #[.slice (some ad335) l0_0.length c0_0] 66 (0, 0)) (lb BK334) hb)
               have n1_ := Aside0.mk (blk_below (g := gb336) (o := .cells #[.string ((rd_T35 l0_0 x13_1).f0), .string ((rd_T35 l0_0 x13_1).f1), .string ((rd_T35 l0_0 x13_1).f2), .int .u64 ((rd_T35 l0_0 x13_1).f3), .int .i64 ((rd_T35 l0_0 x13_1).f4), .string ((rd_T35 l0_0 x13_1).f5)] 35 (0, 0)) (lb BK336) hb)
               have n2_ := Aside0.mk (blk_below (g := gb339) (o := .cells #[.string ((rd_T35 l0_0 (ji17)).f0), .string ((rd_T35 l0_0 (ji17)).f1), .string ((rd_T35 l0_0 (ji17)).f2), .int .u64 ((rd_T35 l0_0 (ji17)).f3), .int .i64 ((rd_T35 l0_0 (ji17)).f4), .string ((rd_T35 l0_0 (ji17)).f5)] 35 (0, 0)) (lb BK339) hb)
               have n3_ := Aside0.mk (below_step bw hb)
               clear BK334
               clear BK336
               clear BK339
               clear HB
               have BK334 := n0_
               have BK336 := n1_
               have BK339 := n2_
               have HB := n3_
               clear n0_ n1_ n2_ n3_
               (try clear hb)
               (try clear hb2)
               (try clear hk)
               (try clear hi)
               refine hK.out _ _ ⟨(blk_cell BK339.out 0).trans rfl, (blk_cell BK339.out 1).trans rfl, (blk_cell BK339.out 2).trans rfl, (blk_cell BK339.out 3).trans rfl, (blk_cell BK339.out 4).trans rfl, (blk_cell BK339.out 5).trans rfl, (blk_cell BK336.out 0).trans rfl, (blk_cell BK336.out 1).trans rfl, (blk_cell BK336.out 2).trans rfl, (blk_cell BK336.out 3).trans rfl, (blk_cell BK336.out 4).trans rfl, (blk_cell BK336.out 5).trans rfl⟩ (fun hHeld => ?_)
               clear hK K
               refine norm_ (a' := ?_) ?_ ?_
               rotate_left
               ·show Act.put _ (some 31) _ = _
                simp only [Act.put, List.setIfInBounds_toArray, List.set_cons_zero, List.set_cons_succ, i64_w, i32_w]
                rfl
               refine pure_ (i := 3) (N := some 32) (v := ?_) (a' := ?_) #[true, true, true, true, false, false, false, false, false, false, false, false, false, false, false, false, false, false, false, false, false] rfl rfl (any_of HT_.out (by kernel_rfl)) (fun _ _ _ h => h) (Or.inl ⟨by rfl, ?_⟩) ?_ ?_
               rotate_left
               ·intro w'
                go_simp
                with_reducible rfl
               rotate_left
               ·simp only [Act.put, List.setIfInBounds_toArray, List.set_cons_zero, List.set_cons_succ, i64_w, i32_w]
                rfl
               refine pure_ (i := 4) (N := some 33) (v := ?_) (a' := ?_) #[true, true, true, true, true, false, false, false, false, false, false, false, false, false, false, false, false, false, false, false, false] rfl rfl (any_of HT_.out (by kernel_rfl)) (fun _ _ _ h => h) (Or.inl ⟨by rfl, ?_⟩) ?_ ?_
               rotate_left
               ·intro w'
                go_simp
                with_reducible rfl
               rotate_left
               ·simp only [Act.put, List.setIfInBounds_toArray, List.set_cons_zero, List.set_cons_succ, i64_w, i32_w]
                rfl
               refine pure_ (i := 5) (N := some 34) (v := ?_) (a' := ?_) #[true, true, true, true, true, true, false, false, false, false, false, false, false, false, false, false, false, false, false, false, false] rfl rfl (any_of HT_.out (by kernel_rfl)) (fun _ _ _ h => h) (Or.inl ⟨by rfl, ?_⟩) ?_ ?_
               rotate_left
               ·intro w'
                go_simp
                with_reducible rfl
               rotate_left
               ·simp only [Act.put, List.setIfInBounds_toArray, List.set_cons_zero, List.set_cons_succ, i64_w, i32_w]
                rfl
               refine take_ (i := 6) (N := some 35) (v := ?_) (a' := ?_) #[true, true, true, true, true, true, true, false, false, false, false, false, false, false, false, false, false, false, false, false, false] rfl rfl (take_ofW HT_.out HW_.out (by kernel_rfl)) (fun _ _ _ h => h) (Or.inl ⟨by rfl, ?_⟩) hHeld ?_ ?_
               rotate_left
               ·rintro w' ⟨s0, s1, s2, s3, s4, s5, s6, s7, s8, s9, s10, s11⟩
                go_simp
                with_reducible rfl
               rotate_left
               ·simp only [Act.put, List.setIfInBounds_toArray, List.set_cons_zero, List.set_cons_succ, i64_w, i32_w]
                rfl
               refine pure_ (i := 7) (N := some 36) (v := ?_) (a' := ?_) #[true, true, true, true, true, true, true, true, false, false, false, false, false, false, false, false, false, false, false, false, false] rfl rfl (any_of HT_.out (by kernel_rfl)) (fun _ _ _ h => h) (Or.inl ⟨by rfl, ?_⟩) ?_ ?_
               rotate_left
               ·intro w'
                go_simp
                with_reducible rfl
               rotate_left
               ·simp only [Act.put, List.setIfInBounds_toArray, List.set_cons_zero, List.set_cons_succ, i64_w, i32_w]
                rfl
               refine pure_ (i := 8) (N := some 37) (v := ?_) (a' := ?_) #[true, true, true, true, true, true, true, true, true, false, false, false, false, false, false, false, false, false, false, false, false] rfl rfl (any_of HT_.out (by kernel_rfl)) (fun _ _ _ h => h) (Or.inl ⟨by rfl, ?_⟩) ?_ ?_
               rotate_left
               ·intro w'
                go_simp
                with_reducible rfl
               rotate_left
               ·simp only [Act.put, List.setIfInBounds_toArray, List.set_cons_zero, List.set_cons_succ, i64_w, i32_w]
                rfl
               refine pure_ (i := 9) (N := some 38) (v := ?_) (a' := ?_) #[true, true, true, true, true, true, true, true, true, true, false, false, false, false, false, false, false, false, false, false, false] rfl rfl (any_of HT_.out (by kernel_rfl)) (fun _ _ _ h => h) (Or.inl ⟨by rfl, ?_⟩) ?_ ?_
               rotate_left
               ·intro w'
                go_simp
                with_reducible rfl
               rotate_left
               ·simp only [Act.put, List.setIfInBounds_toArray, List.set_cons_zero, List.set_cons_succ, i64_w, i32_w]
                rfl
               refine take_ (i := 10) (N := some 39) (v := ?_) (a' := ?_) #[true, true, true, true, true, true, true, true, true, true, true, false, false, false, false, false, false, false, false, false, false] rfl rfl (take_ofW HT_.out HW_.out (by kernel_rfl)) (fun _ _ _ h => h) (Or.inl ⟨by rfl, ?_⟩) hHeld ?_ ?_
               rotate_left
               ·rintro w' ⟨s0, s1, s2, s3, s4, s5, s6, s7, s8, s9, s10, s11⟩
                go_simp
                with_reducible rfl
               rotate_left
               ·simp only [Act.put, List.setIfInBounds_toArray, List.set_cons_zero, List.set_cons_succ, i64_w, i32_w]
                rfl
               refine pure_ (i := 11) (N := some 40) (v := ?_) (a' := ?_) #[true, true, true, true, true, true, true, true, true, true, true, true, false, false, false, false, false, false, false, false, false] rfl rfl (any_of HT_.out (by kernel_rfl)) (fun _ _ _ h => h) (Or.inl ⟨by rfl, ?_⟩) ?_ ?_
               rotate_left
               ·intro w'
                go_simp
                with_reducible rfl
               rotate_left
               ·simp only [Act.put, List.setIfInBounds_toArray, List.set_cons_zero, List.set_cons_succ, i64_w, i32_w]
                rfl
               refine pure_ (i := 12) (N := some 41) (v := ?_) (a' := ?_) #[true, true, true, true, true, true, true, true, true, true, true, true, true, false, false, false, false, false, false, false, false] rfl rfl (any_of HT_.out (by kernel_rfl)) (fun _ _ _ h => h) (Or.inl ⟨by rfl, ?_⟩) ?_ ?_
               rotate_left
               ·intro w'
                go_simp
                with_reducible rfl
               rotate_left
               ·simp only [Act.put, List.setIfInBounds_toArray, List.set_cons_zero, List.set_cons_succ, i64_w, i32_w]
                rfl
               refine pure_ (i := 13) (N := some 42) (v := ?_) (a' := ?_) #[true, true, true, true, true, true, true, true, true, true, true, true, true, true, false, false, false, false, false, false, false] rfl rfl (any_of HT_.out (by kernel_rfl)) (fun _ _ _ h => h) (Or.inl ⟨by rfl, ?_⟩) ?_ ?_
               rotate_left
               ·intro w'
                go_simp
                with_reducible rfl
               rotate_left
               ·simp only [Act.put, List.setIfInBounds_toArray, List.set_cons_zero, List.set_cons_succ, i64_w, i32_w]
                rfl
               refine pure_ (i := 14) (N := some 43) (v := undef) (a' := ?_) #[true, true, true, true, true, true, true, true, true, true, true, true, true, true, true, false, false, false, false, false, false] rfl rfl (any_of HT_.out (by kernel_rfl)) (fun _ _ _ h => h) (Or.inr ⟨by rfl, rfl⟩) ?_ ?_
               rotate_left
               ·simp only [Act.put, List.setIfInBounds_toArray, List.set_cons_zero, List.set_cons_succ, i64_w, i32_w]
                rfl
               refine pure_ (i := 15) (N := some 44) (v := undef) (a' := ?_) #[true, true, true, true, true, true, true, true, true, true, true, true, true, true, true, true, false, false, false, false, false] rfl rfl (any_of HT_.out (by kernel_rfl)) (fun _ _ _ h => h) (Or.inr ⟨by rfl, rfl⟩) ?_ ?_
               rotate_left
               ·simp only [Act.put, List.setIfInBounds_toArray, List.set_cons_zero, List.set_cons_succ, i64_w, i32_w]
                rfl
               refine pure_ (i := 16) (N := some 45) (v := undef) (a' := ?_) #[true, true, true, true, true, true, true, true, true, true, true, true, true, true, true, true, true, false, false, false, false] rfl rfl (any_of HT_.out (by kernel_rfl)) (fun _ _ _ h => h) (Or.inr ⟨by rfl, rfl⟩) ?_ ?_
               rotate_left
               ·simp only [Act.put, List.setIfInBounds_toArray, List.set_cons_zero, List.set_cons_succ, i64_w, i32_w]
                rfl
               refine pure_ (i := 17) (N := some 46) (v := undef) (a' := ?_) #[true, true, true, true, true, true, true, true, true, true, true, true, true, true, true, true, true, true, false, false, false] rfl rfl (any_of HT_.out (by kernel_rfl)) (fun _ _ _ h => h) (Or.inr ⟨by rfl, rfl⟩) ?_ ?_
               rotate_left
               ·simp only [Act.put, List.setIfInBounds_toArray, List.set_cons_zero, List.set_cons_succ, i64_w, i32_w]
                rfl
               refine pure_ (i := 18) (N := some 47) (v := undef) (a' := ?_) #[true, true, true, true, true, true, true, true, true, true, true, true, true, true, true, true, true, true, true, false, false] rfl rfl (any_of HT_.out (by kernel_rfl)) (fun _ _ _ h => h) (Or.inr ⟨by rfl, rfl⟩) ?_ ?_
               rotate_left
               ·simp only [Act.put, List.setIfInBounds_toArray, List.set_cons_zero, List.set_cons_succ, i64_w, i32_w]
                rfl
               refine pure_ (i := 19) (N := some 48) (v := ?_) (a' := ?_) #[true, true, true, true, true, true, true, true, true, true, true, true, true, true, true, true, true, true, true, true, false] rfl rfl (any_of HT_.out (by kernel_rfl)) (fun _ _ _ h => h) (Or.inl ⟨by rfl, ?_⟩) ?_ ?_
               rotate_left
               ·intro w'
                go_simp
                with_reducible rfl
               rotate_left
               ·simp only [Act.put, List.setIfInBounds_toArray, List.set_cons_zero, List.set_cons_succ, i64_w, i32_w]
                rfl
               refine pure_ (i := 20) (N := some 49) (v := ?_) (a' := ?_) #[true, true, true, true, true, true, true, true, true, true, true, true, true, true, true, true, true, true, true, true, true] rfl rfl (any_of HT_.out (by kernel_rfl)) (fun _ _ _ h => h) (Or.inl ⟨by rfl, ?_⟩) ?_ ?_
               rotate_left
               ·intro w'
                go_simp
                with_reducible rfl
               rotate_left
               ·simp only [Act.put, List.setIfInBounds_toArray, List.set_cons_zero, List.set_cons_succ, i64_w, i32_w]
                rfl
               refine done_ (done_of HT_.out (by kernel_rfl)) ?_
               try go_wp2
               go_meet
               case rel => exact ⟨_, (false), (by first | rfl | (simp; done) | (simp [*]; done)), H', ⟨by have := HK1.out; first | omega | exact Nat.le_refl _⟩, ⟨lb BK334⟩, ⟨lb BK336⟩, ⟨lb BK339⟩, ⟨bw⟩⟩
             ·rw [if_neg c35] at H
              have c35b0 : (((rd_T35 l0_0 (ji17)).f4) == 2) = false := beq_eq_false_iff_ne.mpr c35
              have c35b1 : (((rd_T35 l0_0 (ji17)).f4) != 2) = true := bne_iff_ne.mpr c35
              have H' := Aside0.mk H
              clear H
              try go_wp2
              have n0_ : Aside0 (((((((w26.setCell ⟨gb339, 0, none⟩ (.string ((rd_T35 l0_0 (ji17)).f0))).setCell ⟨gb339, 1, none⟩ (.string ((rd_T35 l0_0 (ji17)).f1))).setCell ⟨gb339, 2, none⟩ (.string ((rd_T35 l0_0 (ji17)).f2))).setCell ⟨gb339, 3, none⟩ (.int .u64 ((rd_T35 l0_0 (ji17)).f3))).setCell ⟨gb339, 4, none⟩ (.int .i64 ((rd_T35 l0_0 (ji17)).f4))).setCell ⟨gb339, 5, none⟩ (.string ((rd_T35 l0_0 (ji17)).f5))).heap[gb334]? = some (.cells #[.slice (some ad335) l0_0.length c0_0] 66 (0, 0))) := ⟨by (with_reducible repeat (first | refine blk_drewN ?_ _ | refine blk_drew ?_ | refine blk_alloc ?_ _)); refine blk_far ?_ NB334_339.out _; (with_reducible repeat (first | refine blk_drewN ?_ _ | refine blk_drew ?_ | refine blk_alloc ?_ _)); refine blk_far ?_ NB334_339.out _; (with_reducible repeat (first | refine blk_drewN ?_ _ | refine blk_drew ?_ | refine blk_alloc ?_ _)); refine blk_far ?_ NB334_339.out _; (with_reducible repeat (first | refine blk_drewN ?_ _ | refine blk_drew ?_ | refine blk_alloc ?_ _)); refine blk_far ?_ NB334_339.out _; (with_reducible repeat (first | refine blk_drewN ?_ _ | refine blk_drew ?_ | refine blk_alloc ?_ _)); refine blk_far ?_ NB334_339.out _; (with_reducible repeat (first | refine blk_drewN ?_ _ | refine blk_drew ?_ | refine blk_alloc ?_ _)); refine blk_far ?_ NB334_339.out _; (with_reducible repeat (first | refine blk_drewN ?_ _ | refine blk_drew ?_ | refine blk_alloc ?_ _)); exact BK334.out⟩
              have n1_ : Aside0 (((((((w26.setCell ⟨gb339, 0, none⟩ (.string ((rd_T35 l0_0 (ji17)).f0))).setCell ⟨gb339, 1, none⟩ (.string ((rd_T35 l0_0 (ji17)).f1))).setCell ⟨gb339, 2, none⟩ (.string ((rd_T35 l0_0 (ji17)).f2))).setCell ⟨gb339, 3, none⟩ (.int .u64 ((rd_T35 l0_0 (ji17)).f3))).setCell ⟨gb339, 4, none⟩ (.int .i64 ((rd_T35 l0_0 (ji17)).f4))).setCell ⟨gb339, 5, none⟩ (.string ((rd_T35 l0_0 (ji17)).f5))).heap[gb336]? = some (.cells #[.string ((rd_T35 l0_0 x13_1).f0), .string ((rd_T35 l0_0 x13_1).f1), .string ((rd_T35 l0_0 x13_1).f2), .int .u64 ((rd_T35 l0_0 x13_1).f3), .int .i64 ((rd_T35 l0_0 x13_1).f4), .string ((rd_T35 l0_0 x13_1).f5)] 35 (0, 0))) := ⟨by (with_reducible repeat (first | refine blk_drewN ?_ _ | refine blk_drew ?_ | refine blk_alloc ?_ _)); refine blk_far ?_ NB336_339.out _; (with_reducible repeat (first | refine blk_drewN ?_ _ | refine blk_drew ?_ | refine blk_alloc ?_ _)); refine blk_far ?_ NB336_339.out _; (with_reducible repeat (first | refine blk_drewN ?_ _ | refine blk_drew ?_ | refine blk_alloc ?_ _)); refine blk_far ?_ NB336_339.out _; (with_reducible repeat (first | refine blk_drewN ?_ _ | refine blk_drew ?_ | refine blk_alloc ?_ _)); refine blk_far ?_ NB336_339.out _; (with_reducible repeat (first | refine blk_drewN ?_ _ | refine blk_drew ?_ | refine blk_alloc ?_ _)); refine blk_far ?_ NB336_339.out _; (with_reducible repeat (first | refine blk_drewN ?_ _ | refine blk_drew ?_ | refine blk_alloc ?_ _)); refine blk_far ?_ NB336_339.out _; (with_reducible repeat (first | refine blk_drewN ?_ _ | refine blk_drew ?_ | refine blk_alloc ?_ _)); exact BK336.out⟩
              have n2_ : Aside0 (((((((w26.setCell ⟨gb339, 0, none⟩ (.string ((rd_T35 l0_0 (ji17)).f0))).setCell ⟨gb339, 1, none⟩ (.string ((rd_T35 l0_0 (ji17)).f1))).setCell ⟨gb339, 2, none⟩ (.string ((rd_T35 l0_0 (ji17)).f2))).setCell ⟨gb339, 3, none⟩ (.int .u64 ((rd_T35 l0_0 (ji17)).f3))).setCell ⟨gb339, 4, none⟩ (.int .i64 ((rd_T35 l0_0 (ji17)).f4))).setCell ⟨gb339, 5, none⟩ (.string ((rd_T35 l0_0 (ji17)).f5))).heap[gb339]? = some (.cells #[.string ((rd_T35 l0_0 (ji17)).f0), .string ((rd_T35 l0_0 (ji17)).f1), .string ((rd_T35 l0_0 (ji17)).f2), .int .u64 ((rd_T35 l0_0 (ji17)).f3), .int .i64 ((rd_T35 l0_0 (ji17)).f4), .string ((rd_T35 l0_0 (ji17)).f5)] 35 (0, 0))) := ⟨by (with_reducible repeat (first | refine blk_drewN ?_ _ | refine blk_drew ?_ | refine blk_alloc ?_ _)); refine blk_put (cs := #[.string ((rd_T35 l0_0 (ji17)).f0), .string ((rd_T35 l0_0 (ji17)).f1), .string ((rd_T35 l0_0 (ji17)).f2), .int .u64 ((rd_T35 l0_0 (ji17)).f3), .int .i64 ((rd_T35 l0_0 (ji17)).f4), .string (⟨#[]⟩ : ByteArray)]) ?_ 5 _ rfl; (with_reducible repeat (first | refine blk_drewN ?_ _ | refine blk_drew ?_ | refine blk_alloc ?_ _)); refine blk_put (cs := #[.string ((rd_T35 l0_0 (ji17)).f0), .string ((rd_T35 l0_0 (ji17)).f1), .string ((rd_T35 l0_0 (ji17)).f2), .int .u64 ((rd_T35 l0_0 (ji17)).f3), .int .i64 0, .string (⟨#[]⟩ : ByteArray)]) ?_ 4 _ rfl; (with_reducible repeat (first | refine blk_drewN ?_ _ | refine blk_drew ?_ | refine blk_alloc ?_ _)); refine blk_put (cs := #[.string ((rd_T35 l0_0 (ji17)).f0), .string ((rd_T35 l0_0 (ji17)).f1), .string ((rd_T35 l0_0 (ji17)).f2), .int .u64 0, .int .i64 0, .string (⟨#[]⟩ : ByteArray)]) ?_ 3 _ rfl; (with_reducible repeat (first | refine blk_drewN ?_ _ | refine blk_drew ?_ | refine blk_alloc ?_ _)); refine blk_put (cs := #[.string ((rd_T35 l0_0 (ji17)).f0), .string ((rd_T35 l0_0 (ji17)).f1), .string (⟨#[]⟩ : ByteArray), .int .u64 0, .int .i64 0, .string (⟨#[]⟩ : ByteArray)]) ?_ 2 _ rfl; (with_reducible repeat (first | refine blk_drewN ?_ _ | refine blk_drew ?_ | refine blk_alloc ?_ _)); refine blk_put (cs := #[.string ((rd_T35 l0_0 (ji17)).f0), .string (⟨#[]⟩ : ByteArray), .string (⟨#[]⟩ : ByteArray), .int .u64 0, .int .i64 0, .string (⟨#[]⟩ : ByteArray)]) ?_ 1 _ rfl; (with_reducible repeat (first | refine blk_drewN ?_ _ | refine blk_drew ?_ | refine blk_alloc ?_ _)); refine blk_put (cs := #[.string (⟨#[]⟩ : ByteArray), .string (⟨#[]⟩ : ByteArray), .string (⟨#[]⟩ : ByteArray), .int .u64 0, .int .i64 0, .string (⟨#[]⟩ : ByteArray)]) ?_ 0 _ rfl; (with_reducible repeat (first | refine blk_drewN ?_ _ | refine blk_drew ?_ | refine blk_alloc ?_ _)); exact BK339.out⟩
              have n3_ : Aside0 (Below w.heap.size w ((((((w26.setCell ⟨gb339, 0, none⟩ (.string ((rd_T35 l0_0 (ji17)).f0))).setCell ⟨gb339, 1, none⟩ (.string ((rd_T35 l0_0 (ji17)).f1))).setCell ⟨gb339, 2, none⟩ (.string ((rd_T35 l0_0 (ji17)).f2))).setCell ⟨gb339, 3, none⟩ (.int .u64 ((rd_T35 l0_0 (ji17)).f3))).setCell ⟨gb339, 4, none⟩ (.int .i64 ((rd_T35 l0_0 (ji17)).f4))).setCell ⟨gb339, 5, none⟩ (.string ((rd_T35 l0_0 (ji17)).f5)))) := ⟨bw⟩
              (try clear BK334)
              (try clear BK336)
              (try clear BK339)
              (try clear HB)
              generalize ((((((w26.setCell ⟨gb339, 0, none⟩ (.string ((rd_T35 l0_0 (ji17)).f0))).setCell ⟨gb339, 1, none⟩ (.string ((rd_T35 l0_0 (ji17)).f1))).setCell ⟨gb339, 2, none⟩ (.string ((rd_T35 l0_0 (ji17)).f2))).setCell ⟨gb339, 3, none⟩ (.int .u64 ((rd_T35 l0_0 (ji17)).f3))).setCell ⟨gb339, 4, none⟩ (.int .i64 ((rd_T35 l0_0 (ji17)).f4))).setCell ⟨gb339, 5, none⟩ (.string ((rd_T35 l0_0 (ji17)).f5))) = w47 at n0_ n1_ n2_ n3_ ⊢
              have BK334 := n0_
              have BK336 := n1_
              have BK339 := n2_
              have HB := n3_
              clear n0_ n1_ n2_ n3_
              have n0_ := Aside0.mk (blk_drew BK334.out)
              have n1_ := Aside0.mk (blk_drew BK336.out)
              have n2_ := Aside0.mk (blk_drew BK339.out)
              have n3_ := Aside0.mk (below_drew1 HB.out)
              clear BK334
              clear BK336
              clear BK339
              clear HB
              have BK334 := n0_
              have BK336 := n1_
              have BK339 := n2_
              have HB := n3_
              clear n0_ n1_ n2_ n3_
              refine start_ (n := 21) (S := fun w' => w'.cell? ⟨gb339, 0, none⟩ = some (.string ((rd_T35 l0_0 (ji17)).f0)) ∧ w'.cell? ⟨gb339, 1, none⟩ = some (.string ((rd_T35 l0_0 (ji17)).f1)) ∧ w'.cell? ⟨gb339, 2, none⟩ = some (.string ((rd_T35 l0_0 (ji17)).f2)) ∧ w'.cell? ⟨gb339, 3, none⟩ = some (.int .u64 ((rd_T35 l0_0 (ji17)).f3)) ∧ w'.cell? ⟨gb339, 4, none⟩ = some (.int .i64 ((rd_T35 l0_0 (ji17)).f4)) ∧ w'.cell? ⟨gb339, 5, none⟩ = some (.string ((rd_T35 l0_0 (ji17)).f5)) ∧ w'.cell? ⟨gb336, 0, none⟩ = some (.string ((rd_T35 l0_0 x13_1).f0)) ∧ w'.cell? ⟨gb336, 1, none⟩ = some (.string ((rd_T35 l0_0 x13_1).f1)) ∧ w'.cell? ⟨gb336, 2, none⟩ = some (.string ((rd_T35 l0_0 x13_1).f2)) ∧ w'.cell? ⟨gb336, 3, none⟩ = some (.int .u64 ((rd_T35 l0_0 x13_1).f3)) ∧ w'.cell? ⟨gb336, 4, none⟩ = some (.int .i64 ((rd_T35 l0_0 x13_1).f4)) ∧ w'.cell? ⟨gb336, 5, none⟩ = some (.string ((rd_T35 l0_0 x13_1).f5))) (ds := []) #[false, false, false, false, false, false, false, false, false, false, false, false, false, false, false, false, false, false, false, false, false] (by kernel_rfl) rfl rfl ⟨(blk_cell BK339.out 0).trans rfl, (blk_cell BK339.out 1).trans rfl, (blk_cell BK339.out 2).trans rfl, (blk_cell BK339.out 3).trans rfl, (blk_cell BK339.out 4).trans rfl, (blk_cell BK339.out 5).trans rfl, (blk_cell BK336.out 0).trans rfl, (blk_cell BK336.out 1).trans rfl, (blk_cell BK336.out 2).trans rfl, (blk_cell BK336.out 3).trans rfl, (blk_cell BK336.out 4).trans rfl, (blk_cell BK336.out 5).trans rfl⟩ (fun hHeld => ?_); refine with_tabW impl_ValidRun.tab10 impl_ValidRun.bits10 (fun HT_ HW_ => ?_)
              generalize w47.drew = w48 at BK334 BK336 BK339 HB hHeld ⊢
              refine take_ (i := 0) (N := some 29) (v := ?_) (a' := ?_) #[true, false, false, false, false, false, false, false, false, false, false, false, false, false, false, false, false, false, false, false, false] rfl rfl (take_ofW HT_.out HW_.out (by kernel_rfl)) (fun _ _ _ h => h) (Or.inl ⟨by rfl, ?_⟩) hHeld ?_ ?_
              rotate_left
              ·rintro w' ⟨s0, s1, s2, s3, s4, s5, s6, s7, s8, s9, s10, s11⟩
               go_simp
               with_reducible rfl
              rotate_left
              ·simp only [Act.put, List.setIfInBounds_toArray, List.set_cons_zero, List.set_cons_succ, i64_w, i32_w]
               rfl
              refine take_ (i := 1) (N := some 30) (v := ?_) (a' := ?_) #[true, true, false, false, false, false, false, false, false, false, false, false, false, false, false, false, false, false, false, false, false] rfl rfl (take_ofW HT_.out HW_.out (by kernel_rfl)) (fun _ _ _ h => h) (Or.inl ⟨by rfl, ?_⟩) hHeld ?_ ?_
              rotate_left
              ·rintro w' ⟨s0, s1, s2, s3, s4, s5, s6, s7, s8, s9, s10, s11⟩
               go_simp
               with_reducible rfl
              rotate_left
              ·simp only [Act.put, List.setIfInBounds_toArray, List.set_cons_zero, List.set_cons_succ, i64_w, i32_w]
               rfl
              refine one_ (i := 2) (N := some 31) #[true, true, true, false, false, false, false, false, false, false, false, false, false, false, false, false, false, false, false, false, false] rfl rfl (one_of HT_.out (by kernel_rfl)) (by decide) (fun K hK => ?_)
              refine goes_ Try.func62 (by kernel_rfl) rfl #[.agg #[.string ((rd_T35 l0_0 (ji17)).f0), .string ((rd_T35 l0_0 (ji17)).f1), .string ((rd_T35 l0_0 (ji17)).f2), .int .u64 ((rd_T35 l0_0 (ji17)).f3), .int .i64 ((rd_T35 l0_0 (ji17)).f4), .string ((rd_T35 l0_0 (ji17)).f5)], .agg #[.string ((rd_T35 l0_0 x13_1).f0), .string ((rd_T35 l0_0 x13_1).f1), .string ((rd_T35 l0_0 x13_1).f2), .int .u64 ((rd_T35 l0_0 x13_1).f3), .int .i64 ((rd_T35 l0_0 x13_1).f4), .string ((rd_T35 l0_0 x13_1).f5)]] (by rfl) rfl rfl (by (try simp only [List.map_toArray, List.map_cons, List.map_nil]); first | done | (simp only [hji17]; rfl) | rfl | (simp only [List.length_drop, List.length_take]; rfl)) ?_
              with_reducible refine (impl_Entry_compare.calls k1 ((rd_T35 l0_0 (ji17)).f0) ((rd_T35 l0_0 (ji17)).f1) ((rd_T35 l0_0 (ji17)).f2) ((rd_T35 l0_0 (ji17)).f3) ((rd_T35 l0_0 (ji17)).f4) ((rd_T35 l0_0 (ji17)).f5) ((rd_T35 l0_0 x13_1).f0) ((rd_T35 l0_0 x13_1).f1) ((rd_T35 l0_0 x13_1).f2) ((rd_T35 l0_0 x13_1).f3) ((rd_T35 l0_0 x13_1).f4) ((rd_T35 l0_0 x13_1).f5) t340 _ A30.out).mono ?_
              rintro e w49 ⟨rfl, hb⟩
              refine ⟨_, rfl, ?_⟩
              have n0_ := Aside0.mk (blk_below (g := gb334) (o := .cells #[.slice (some ad335) l0_0.length c0_0] 66 (0, 0)) (lb BK334) hb)
              have n1_ := Aside0.mk (blk_below (g := gb336) (o := .cells #[.string ((rd_T35 l0_0 x13_1).f0), .string ((rd_T35 l0_0 x13_1).f1), .string ((rd_T35 l0_0 x13_1).f2), .int .u64 ((rd_T35 l0_0 x13_1).f3), .int .i64 ((rd_T35 l0_0 x13_1).f4), .string ((rd_T35 l0_0 x13_1).f5)] 35 (0, 0)) (lb BK336) hb)
              have n2_ := Aside0.mk (blk_below (g := gb339) (o := .cells #[.string ((rd_T35 l0_0 (ji17)).f0), .string ((rd_T35 l0_0 (ji17)).f1), .string ((rd_T35 l0_0 (ji17)).f2), .int .u64 ((rd_T35 l0_0 (ji17)).f3), .int .i64 ((rd_T35 l0_0 (ji17)).f4), .string ((rd_T35 l0_0 (ji17)).f5)] 35 (0, 0)) (lb BK339) hb)
              have n3_ := Aside0.mk (below_step bw hb)
              clear BK334
              clear BK336
              clear BK339
              clear HB
              have BK334 := n0_
              have BK336 := n1_
              have BK339 := n2_
              have HB := n3_
              clear n0_ n1_ n2_ n3_
              (try clear hb)
              (try clear hb2)
              (try clear hk)
              (try clear hi)
              refine hK.out _ _ ⟨(blk_cell BK339.out 0).trans rfl, (blk_cell BK339.out 1).trans rfl, (blk_cell BK339.out 2).trans rfl, (blk_cell BK339.out 3).trans rfl, (blk_cell BK339.out 4).trans rfl, (blk_cell BK339.out 5).trans rfl, (blk_cell BK336.out 0).trans rfl, (blk_cell BK336.out 1).trans rfl, (blk_cell BK336.out 2).trans rfl, (blk_cell BK336.out 3).trans rfl, (blk_cell BK336.out 4).trans rfl, (blk_cell BK336.out 5).trans rfl⟩ (fun hHeld => ?_)
              clear hK K
              refine norm_ (a' := ?_) ?_ ?_
              rotate_left
              ·show Act.put _ (some 31) _ = _
               simp only [Act.put, List.setIfInBounds_toArray, List.set_cons_zero, List.set_cons_succ, i64_w, i32_w]
               rfl
              refine pure_ (i := 3) (N := some 32) (v := ?_) (a' := ?_) #[true, true, true, true, false, false, false, false, false, false, false, false, false, false, false, false, false, false, false, false, false] rfl rfl (any_of HT_.out (by kernel_rfl)) (fun _ _ _ h => h) (Or.inl ⟨by rfl, ?_⟩) ?_ ?_
              rotate_left
              ·intro w'
               go_simp
               with_reducible rfl
              rotate_left
              ·simp only [Act.put, List.setIfInBounds_toArray, List.set_cons_zero, List.set_cons_succ, i64_w, i32_w]
               rfl
              refine pure_ (i := 4) (N := some 33) (v := ?_) (a' := ?_) #[true, true, true, true, true, false, false, false, false, false, false, false, false, false, false, false, false, false, false, false, false] rfl rfl (any_of HT_.out (by kernel_rfl)) (fun _ _ _ h => h) (Or.inl ⟨by rfl, ?_⟩) ?_ ?_
              rotate_left
              ·intro w'
               go_simp
               with_reducible rfl
              rotate_left
              ·simp only [Act.put, List.setIfInBounds_toArray, List.set_cons_zero, List.set_cons_succ, i64_w, i32_w]
               rfl
              refine pure_ (i := 5) (N := some 34) (v := ?_) (a' := ?_) #[true, true, true, true, true, true, false, false, false, false, false, false, false, false, false, false, false, false, false, false, false] rfl rfl (any_of HT_.out (by kernel_rfl)) (fun _ _ _ h => h) (Or.inl ⟨by rfl, ?_⟩) ?_ ?_
              rotate_left
              ·intro w'
               go_simp
               with_reducible rfl
              rotate_left
              ·simp only [Act.put, List.setIfInBounds_toArray, List.set_cons_zero, List.set_cons_succ, i64_w, i32_w]
               rfl
              refine take_ (i := 6) (N := some 35) (v := ?_) (a' := ?_) #[true, true, true, true, true, true, true, false, false, false, false, false, false, false, false, false, false, false, false, false, false] rfl rfl (take_ofW HT_.out HW_.out (by kernel_rfl)) (fun _ _ _ h => h) (Or.inl ⟨by rfl, ?_⟩) hHeld ?_ ?_
              rotate_left
              ·rintro w' ⟨s0, s1, s2, s3, s4, s5, s6, s7, s8, s9, s10, s11⟩
               go_simp
               with_reducible rfl
              rotate_left
              ·simp only [Act.put, List.setIfInBounds_toArray, List.set_cons_zero, List.set_cons_succ, i64_w, i32_w]
               rfl
              refine pure_ (i := 7) (N := some 36) (v := ?_) (a' := ?_) #[true, true, true, true, true, true, true, true, false, false, false, false, false, false, false, false, false, false, false, false, false] rfl rfl (any_of HT_.out (by kernel_rfl)) (fun _ _ _ h => h) (Or.inl ⟨by rfl, ?_⟩) ?_ ?_
              rotate_left
              ·intro w'
               go_simp
               with_reducible rfl
              rotate_left
              ·simp only [Act.put, List.setIfInBounds_toArray, List.set_cons_zero, List.set_cons_succ, i64_w, i32_w]
               rfl
              refine pure_ (i := 8) (N := some 37) (v := ?_) (a' := ?_) #[true, true, true, true, true, true, true, true, true, false, false, false, false, false, false, false, false, false, false, false, false] rfl rfl (any_of HT_.out (by kernel_rfl)) (fun _ _ _ h => h) (Or.inl ⟨by rfl, ?_⟩) ?_ ?_
              rotate_left
              ·intro w'
               go_simp
               with_reducible rfl
              rotate_left
              ·simp only [Act.put, List.setIfInBounds_toArray, List.set_cons_zero, List.set_cons_succ, i64_w, i32_w]
               rfl
              refine pure_ (i := 9) (N := some 38) (v := undef) (a' := ?_) #[true, true, true, true, true, true, true, true, true, true, false, false, false, false, false, false, false, false, false, false, false] rfl rfl (any_of HT_.out (by kernel_rfl)) (fun _ _ _ h => h) (Or.inr ⟨by rfl, rfl⟩) ?_ ?_
              rotate_left
              ·simp only [Act.put, List.setIfInBounds_toArray, List.set_cons_zero, List.set_cons_succ, i64_w, i32_w]
               rfl
              refine pure_ (i := 10) (N := some 39) (v := undef) (a' := ?_) #[true, true, true, true, true, true, true, true, true, true, true, false, false, false, false, false, false, false, false, false, false] rfl rfl (any_of HT_.out (by kernel_rfl)) (fun _ _ _ h => h) (Or.inr ⟨by rfl, rfl⟩) ?_ ?_
              rotate_left
              ·simp only [Act.put, List.setIfInBounds_toArray, List.set_cons_zero, List.set_cons_succ, i64_w, i32_w]
               rfl
              refine pure_ (i := 11) (N := some 40) (v := undef) (a' := ?_) #[true, true, true, true, true, true, true, true, true, true, true, true, false, false, false, false, false, false, false, false, false] rfl rfl (any_of HT_.out (by kernel_rfl)) (fun _ _ _ h => h) (Or.inr ⟨by rfl, rfl⟩) ?_ ?_
              rotate_left
              ·simp only [Act.put, List.setIfInBounds_toArray, List.set_cons_zero, List.set_cons_succ, i64_w, i32_w]
               rfl
              refine pure_ (i := 12) (N := some 41) (v := ?_) (a' := ?_) #[true, true, true, true, true, true, true, true, true, true, true, true, true, false, false, false, false, false, false, false, false] rfl rfl (any_of HT_.out (by kernel_rfl)) (fun _ _ _ h => h) (Or.inl ⟨by rfl, ?_⟩) ?_ ?_
              rotate_left
              ·intro w'
               go_simp
               with_reducible rfl
              rotate_left
              ·simp only [Act.put, List.setIfInBounds_toArray, List.set_cons_zero, List.set_cons_succ, i64_w, i32_w]
               rfl
              refine pure_ (i := 13) (N := some 42) (v := ?_) (a' := ?_) #[true, true, true, true, true, true, true, true, true, true, true, true, true, true, false, false, false, false, false, false, false] rfl rfl (any_of HT_.out (by kernel_rfl)) (fun _ _ _ h => h) (Or.inl ⟨by rfl, ?_⟩) ?_ ?_
              rotate_left
              ·intro w'
               go_simp
               with_reducible rfl
              rotate_left
              ·simp only [Act.put, List.setIfInBounds_toArray, List.set_cons_zero, List.set_cons_succ, i64_w, i32_w]
               rfl
              refine pure_ (i := 14) (N := some 43) (v := undef) (a' := ?_) #[true, true, true, true, true, true, true, true, true, true, true, true, true, true, true, false, false, false, false, false, false] rfl rfl (any_of HT_.out (by kernel_rfl)) (fun _ _ _ h => h) (Or.inr ⟨by rfl, rfl⟩) ?_ ?_
              rotate_left
              ·simp only [Act.put, List.setIfInBounds_toArray, List.set_cons_zero, List.set_cons_succ, i64_w, i32_w]
               rfl
              refine pure_ (i := 15) (N := some 44) (v := undef) (a' := ?_) #[true, true, true, true, true, true, true, true, true, true, true, true, true, true, true, true, false, false, false, false, false] rfl rfl (any_of HT_.out (by kernel_rfl)) (fun _ _ _ h => h) (Or.inr ⟨by rfl, rfl⟩) ?_ ?_
              rotate_left
              ·simp only [Act.put, List.setIfInBounds_toArray, List.set_cons_zero, List.set_cons_succ, i64_w, i32_w]
               rfl
              refine pure_ (i := 16) (N := some 45) (v := undef) (a' := ?_) #[true, true, true, true, true, true, true, true, true, true, true, true, true, true, true, true, true, false, false, false, false] rfl rfl (any_of HT_.out (by kernel_rfl)) (fun _ _ _ h => h) (Or.inr ⟨by rfl, rfl⟩) ?_ ?_
              rotate_left
              ·simp only [Act.put, List.setIfInBounds_toArray, List.set_cons_zero, List.set_cons_succ, i64_w, i32_w]
               rfl
              refine pure_ (i := 17) (N := some 46) (v := undef) (a' := ?_) #[true, true, true, true, true, true, true, true, true, true, true, true, true, true, true, true, true, true, false, false, false] rfl rfl (any_of HT_.out (by kernel_rfl)) (fun _ _ _ h => h) (Or.inr ⟨by rfl, rfl⟩) ?_ ?_
              rotate_left
              ·simp only [Act.put, List.setIfInBounds_toArray, List.set_cons_zero, List.set_cons_succ, i64_w, i32_w]
               rfl
              refine pure_ (i := 18) (N := some 47) (v := undef) (a' := ?_) #[true, true, true, true, true, true, true, true, true, true, true, true, true, true, true, true, true, true, true, false, false] rfl rfl (any_of HT_.out (by kernel_rfl)) (fun _ _ _ h => h) (Or.inr ⟨by rfl, rfl⟩) ?_ ?_
              rotate_left
              ·simp only [Act.put, List.setIfInBounds_toArray, List.set_cons_zero, List.set_cons_succ, i64_w, i32_w]
               rfl
              refine pure_ (i := 19) (N := some 48) (v := ?_) (a' := ?_) #[true, true, true, true, true, true, true, true, true, true, true, true, true, true, true, true, true, true, true, true, false] rfl rfl (any_of HT_.out (by kernel_rfl)) (fun _ _ _ h => h) (Or.inl ⟨by rfl, ?_⟩) ?_ ?_
              rotate_left
              ·intro w'
               go_simp
               with_reducible rfl
              rotate_left
              ·simp only [Act.put, List.setIfInBounds_toArray, List.set_cons_zero, List.set_cons_succ, i64_w, i32_w]
               rfl
              refine pure_ (i := 20) (N := some 49) (v := ?_) (a' := ?_) #[true, true, true, true, true, true, true, true, true, true, true, true, true, true, true, true, true, true, true, true, true] rfl rfl (any_of HT_.out (by kernel_rfl)) (fun _ _ _ h => h) (Or.inl ⟨by rfl, ?_⟩) ?_ ?_
              rotate_left
              ·intro w'
               go_simp
               with_reducible rfl
              rotate_left
              ·simp only [Act.put, List.setIfInBounds_toArray, List.set_cons_zero, List.set_cons_succ, i64_w, i32_w]
               rfl
              refine done_ (done_of HT_.out (by kernel_rfl)) ?_
              try go_wp2
              go_meet
              case rel => exact ⟨_, (false), (by first | rfl | (simp; done) | (simp [*]; done)), H', ⟨by have := HK1.out; first | omega | exact Nat.le_refl _⟩, ⟨lb BK334⟩, ⟨lb BK336⟩, ⟨lb BK339⟩, ⟨bw⟩⟩
           case rest =>
            clear HC20
            try clear p2
            try clear c3
            try clear c6
            try clear c7
            try clear c35
            try clear c35b0
            try clear c35b1
            try clear c36
            try clear c36b0
            try clear c36b1
            obtain ⟨kq, x49_19, rfl, HA, HJ19, BK334, BK336, BK339, HB⟩ := hcut
            cases kq with
            | zero => exact absurd HA.out (by simp [impl_ValidRun.j1])
            | succ kj19 =>
             have H := HA.out
             clear HA
             simp only [impl_ValidRun.j1] at H
             by_cases c50 : x49_19 = true
             ·subst c50
              have H1 : (some false) = some r := by rw [if_pos rfl] at H; exact H
              clear H
              have H := H1
              clear H1
              obtain rfl := Option.some.inj H
              go_wp2
              go_ret
              exact ⟨by first | rfl | (simp [errW_none, errW_some] <;> rfl) | (simp only [← hji17]; first | rfl | (simp [errW_none, errW_some] <;> rfl)) | (simp [*, errW_none, errW_some] <;> rfl), bw⟩
             ·replace c50 := Bool.eq_false_iff.mpr c50
              subst c50
              have H1 : (impl_ValidRun.l0 kj19 l0_0 (l0_0.length : Int) (wrap64 (x13_1 + 1)) l0_0) = some r := by rw [if_neg (show ¬ (false = true) by decide)] at H; exact H
              clear H
              have H := H1
              clear H1
              have H' := Aside0.mk H
              clear H
              go_wp2
              go_roundg kj19
              case measure => have := HK1.out; have := HJ19.out; omega
              case rel => exact ⟨(wrap64 (x13_1 + 1)), (by first | rfl | (simp; done) | (simp [*]; done)), H', ⟨by have := HK1.out; have := HJ19.out; omega⟩, ⟨lb BK334⟩, ⟨bw⟩⟩
          ·rw [if_neg c19] at H
           exact absurd H (by simp)
         ·rw [if_neg c18] at H
          exact absurd H (by simp)
       ·replace c11 := Bool.eq_false_iff.mpr c11
        subst c11
        have H1 : (some false) = some r := by rw [if_neg (show ¬ (false = true) by decide)] at H; exact H
        clear H
        have H := H1
        clear H1
        obtain rfl := Option.some.inj H
        have p335 : 0 ≤ (x13_1 : Int) := of_decide_eq_true (by first | (with_reducible assumption) | assumption)
        have q335 : x13_1 < (l0_0.length : Int) := of_decide_eq_true (by first | (with_reducible assumption) | assumption)
        obtain ⟨ad335, e335, hx335_0, hx335_1, hx335_2, hx335_3, hx335_4, hx335_5⟩ := at_T35 HR0_0.out x13_1 p335 q335
        cases e335
        replace hx335_0 := (HB.out.cell (World.block_lt_of_cell? w _ hx335_0)).trans hx335_0
        replace hx335_1 := (HB.out.cell (World.block_lt_of_cell? w _ hx335_1)).trans hx335_1
        replace hx335_2 := (HB.out.cell (World.block_lt_of_cell? w _ hx335_2)).trans hx335_2
        replace hx335_3 := (HB.out.cell (World.block_lt_of_cell? w _ hx335_3)).trans hx335_3
        replace hx335_4 := (HB.out.cell (World.block_lt_of_cell? w _ hx335_4)).trans hx335_4
        replace hx335_5 := (HB.out.cell (World.block_lt_of_cell? w _ hx335_5)).trans hx335_5
        replace p335 := eq_true p335
        replace q335 := eq_true q335
        go_wp2_with (first | ((with_reducible refine gate_dst (N := 4) rfl ?_); refine box_event ?hg (N := 4) ?hd (cs := #[.string (⟨#[]⟩ : ByteArray), .string (⟨#[]⟩ : ByteArray), .string (⟨#[]⟩ : ByteArray), .int .u64 0, .int .i64 0, .string (⟨#[]⟩ : ByteArray)]) (t := 35) ?hr ?_; (case hd => rfl); (case hg => rfl); (case hr => first | (go_simp; done) | (go_simp; rfl)); intro gb336 hg w51 hbox hb; have n0_ := Aside0.mk (blk_below (g := gb334) (o := .cells #[.slice (some ad335) l0_0.length c0_0] 66 (0, 0)) (lb BK334) hb); have n1_ := Aside0.mk (below_step bw hb); have n2_ := Aside0.mk (hbox); have n3_ := Aside0.mk ((by rw [hg]; exact (below_size bw) : w.heap.size ≤ gb336)); have n4_ := Aside0.mk ((by rw [hg]; exact (below_size bw) : w.heap.size ≤ gb336)); have n5_ := Aside0.mk ((by rw [hg]; exact Nat.ne_of_lt (blk_lt (g := gb334) (o := .cells #[.slice (some ad335) l0_0.length c0_0] 66 (0, 0)) (lb BK334)) : gb334 ≠ gb336)); have n6_ := Aside0.mk ((by rw [hg]; exact Nat.ne_of_gt (blk_lt (g := gb334) (o := .cells #[.slice (some ad335) l0_0.length c0_0] 66 (0, 0)) (lb BK334)) : gb336 ≠ gb334)); clear BK334; clear HB; have BK334 := n0_; have HB := n1_; have BK336 := n2_; have GW336 := n3_; have GE336 := n4_; have NB334_336 := n5_; have NB336_334 := n6_; clear n0_ n1_ n2_ n3_ n4_ n5_ n6_; clear hb hbox hg; have hnb52 := NB336_334.out; have hnc52 := NB334_336.out; have hcz53_0 : w51.cell? ⟨gb336, 0, none⟩ = some (.string (⟨#[]⟩ : ByteArray)) := (blk_cell BK336.out 0).trans rfl; have hcz53_1 : w51.cell? ⟨gb336, 1, none⟩ = some (.string (⟨#[]⟩ : ByteArray)) := (blk_cell BK336.out 1).trans rfl; have hcz53_2 : w51.cell? ⟨gb336, 2, none⟩ = some (.string (⟨#[]⟩ : ByteArray)) := (blk_cell BK336.out 2).trans rfl; have hcz53_3 : w51.cell? ⟨gb336, 3, none⟩ = some (.int .u64 0) := (blk_cell BK336.out 3).trans rfl; have hcz53_4 : w51.cell? ⟨gb336, 4, none⟩ = some (.int .i64 0) := (blk_cell BK336.out 4).trans rfl; have hcz53_5 : w51.cell? ⟨gb336, 5, none⟩ = some (.string (⟨#[]⟩ : ByteArray)) := (blk_cell BK336.out 5).trans rfl; have hfz53_0 := blk_frozen BK336.out 0; have hfz53_1 := blk_frozen BK336.out 1; have hfz53_2 := blk_frozen BK336.out 2; have hfz53_3 := blk_frozen BK336.out 3; have hfz53_4 := blk_frozen BK336.out 4; have hfz53_5 := blk_frozen BK336.out 5) | ((with_reducible refine at_fn (f := 22) rfl ?_); refine goesL_ (some 19) rfl rfl Try.func22 (by kernel_rfl) rfl #[.agg #[.string ((rd_T35 l0_0 x13_1).f0), .string ((rd_T35 l0_0 x13_1).f1), .string ((rd_T35 l0_0 x13_1).f2), .int .u64 ((rd_T35 l0_0 x13_1).f3), .int .i64 ((rd_T35 l0_0 x13_1).f4), .string ((rd_T35 l0_0 x13_1).f5)]] rfl (by (try simp only [List.map_toArray, List.map_cons, List.map_nil]); first | done | rfl | (simp only [List.length_drop, List.length_take]; rfl)) ?_; (with_reducible refine (impl_ValidEntry.calls ((rd_T35 l0_0 x13_1).f0) ((rd_T35 l0_0 x13_1).f1) ((rd_T35 l0_0 x13_1).f2) ((rd_T35 l0_0 x13_1).f3) ((rd_T35 l0_0 x13_1).f4) ((rd_T35 l0_0 x13_1).f5) false _ A10.out).mono ?_); rintro e w54 ⟨rfl, hb⟩; refine ⟨_, rfl, ?_⟩; have n0_ := Aside0.mk (blk_below (g := gb334) (o := .cells #[.slice (some ad335) l0_0.length c0_0] 66 (0, 0)) (by (with_reducible repeat (first | refine blk_drewN ?_ _ | refine blk_drew ?_ | refine blk_alloc ?_ _)); refine blk_far ?_ NB334_336.out _; (with_reducible repeat (first | refine blk_drewN ?_ _ | refine blk_drew ?_ | refine blk_alloc ?_ _)); refine blk_far ?_ NB334_336.out _; (with_reducible repeat (first | refine blk_drewN ?_ _ | refine blk_drew ?_ | refine blk_alloc ?_ _)); refine blk_far ?_ NB334_336.out _; (with_reducible repeat (first | refine blk_drewN ?_ _ | refine blk_drew ?_ | refine blk_alloc ?_ _)); refine blk_far ?_ NB334_336.out _; (with_reducible repeat (first | refine blk_drewN ?_ _ | refine blk_drew ?_ | refine blk_alloc ?_ _)); refine blk_far ?_ NB334_336.out _; (with_reducible repeat (first | refine blk_drewN ?_ _ | refine blk_drew ?_ | refine blk_alloc ?_ _)); refine blk_far ?_ NB334_336.out _; (with_reducible repeat (first | refine blk_drewN ?_ _ | refine blk_drew ?_ | refine blk_alloc ?_ _)); exact BK334.out) hb); have n1_ := Aside0.mk (blk_below (g := gb336) (o := .cells #[.string ((rd_T35 l0_0 x13_1).f0), .string ((rd_T35 l0_0 x13_1).f1), .string ((rd_T35 l0_0 x13_1).f2), .int .u64 ((rd_T35 l0_0 x13_1).f3), .int .i64 ((rd_T35 l0_0 x13_1).f4), .string ((rd_T35 l0_0 x13_1).f5)] 35 (0, 0)) (by (with_reducible repeat (first | refine blk_drewN ?_ _ | refine blk_drew ?_ | refine blk_alloc ?_ _)); refine blk_put (cs := #[.string ((rd_T35 l0_0 x13_1).f0), .string ((rd_T35 l0_0 x13_1).f1), .string ((rd_T35 l0_0 x13_1).f2), .int .u64 ((rd_T35 l0_0 x13_1).f3), .int .i64 ((rd_T35 l0_0 x13_1).f4), .string (⟨#[]⟩ : ByteArray)]) ?_ 5 _ rfl; (with_reducible repeat (first | refine blk_drewN ?_ _ | refine blk_drew ?_ | refine blk_alloc ?_ _)); refine blk_put (cs := #[.string ((rd_T35 l0_0 x13_1).f0), .string ((rd_T35 l0_0 x13_1).f1), .string ((rd_T35 l0_0 x13_1).f2), .int .u64 ((rd_T35 l0_0 x13_1).f3), .int .i64 0, .string (⟨#[]⟩ : ByteArray)]) ?_ 4 _ rfl; (with_reducible repeat (first | refine blk_drewN ?_ _ | refine blk_drew ?_ | refine blk_alloc ?_ _)); refine blk_put (cs := #[.string ((rd_T35 l0_0 x13_1).f0), .string ((rd_T35 l0_0 x13_1).f1), .string ((rd_T35 l0_0 x13_1).f2), .int .u64 0, .int .i64 0, .string (⟨#[]⟩ : ByteArray)]) ?_ 3 _ rfl; (with_reducible repeat (first | refine blk_drewN ?_ _ | refine blk_drew ?_ | refine blk_alloc ?_ _)); refine blk_put (cs := #[.string ((rd_T35 l0_0 x13_1).f0), .string ((rd_T35 l0_0 x13_1).f1), .string (⟨#[]⟩ : ByteArray), .int .u64 0, .int .i64 0, .string (⟨#[]⟩ : ByteArray)]) ?_ 2 _ rfl; (with_reducible repeat (first | refine blk_drewN ?_ _ | refine blk_drew ?_ | refine blk_alloc ?_ _)); refine blk_put (cs := #[.string ((rd_T35 l0_0 x13_1).f0), .string (⟨#[]⟩ : ByteArray), .string (⟨#[]⟩ : ByteArray), .int .u64 0, .int .i64 0, .string (⟨#[]⟩ : ByteArray)]) ?_ 1 _ rfl; (with_reducible repeat (first | refine blk_drewN ?_ _ | refine blk_drew ?_ | refine blk_alloc ?_ _)); refine blk_put (cs := #[.string (⟨#[]⟩ : ByteArray), .string (⟨#[]⟩ : ByteArray), .string (⟨#[]⟩ : ByteArray), .int .u64 0, .int .i64 0, .string (⟨#[]⟩ : ByteArray)]) ?_ 0 _ rfl; (with_reducible repeat (first | refine blk_drewN ?_ _ | refine blk_drew ?_ | refine blk_alloc ?_ _)); exact BK336.out) hb); have n2_ := Aside0.mk (below_step bw hb); clear BK334; clear BK336; clear HB; have BK334 := n0_; have BK336 := n1_; have HB := n2_; clear n0_ n1_ n2_; (try clear hb); (try clear hb2); (try clear hk); (try clear hi)))
        go_ret
        exact ⟨by first | rfl | (simp [errW_none, errW_some] <;> rfl) | (simp [*, errW_none, errW_some] <;> rfl), bw⟩
      ·rw [if_neg c9] at H
       exact absurd H (by simp)
     ·rw [if_neg c8] at H
      exact absurd H (by simp)
    ·rw [if_neg c7] at H
     have c7b0 : decide (x13_1 < (l0_0.length : Int)) = false := decide_eq_false c7
     clear c7
     obtain rfl := Option.some.inj H
     go_wp2
     go_ret
     exact ⟨by first | rfl | (simp [errW_none, errW_some] <;> rfl) | (simp [*, errW_none, errW_some] <;> rfl), bw⟩

end Go.Proofs.Ytdknjbadnbangaa.Q

namespace Go.Proofs.Ytdknjbadnbangaa.Q
open Go.RowKit Go.Proofs.YtdknjbadnbangaaW.PrintWords Go.Proofs.YtdknjbadnbangaaW.PrintLast Go.Proofs.YtdknjbadnbangaaW.PrintMore
set_option linter.unusedVariables false
set_option linter.unusedSimpArgs false

/-! ### impl_appendNum: function 89 -/
def impl_appendNum.l0 : Nat → List Int → Int → Option (List Int)
 | 0, _, _ => none
 | k + 1, x0, x1 => if x1 ≥ 128 then (if x0.length < 140737488355328 then (impl_appendNum.l0 k (x0 ++ [Go.bits .or .u8 ((x1) % 256) 128]) (x1 / 128)) else (none)) else (if x0.length < 140737488355328 then (some (x0 ++ [(x1) % 256])) else (none))
def impl_appendNum.f (k : Nat) (l0 : List Int) (a1 : Int) : Option (List Int) := impl_appendNum.l0 k l0 a1
set_option maxHeartbeats 8000000 in
set_option maxRecDepth 100000 in
theorem impl_appendNum.calls (k : Nat) (P0_ : Nat → Prop) (u9000_ : Value) (l0 : List Int) (a1 : Int) (r : List Int) (w0 w : World) (hB : Below w0.heap.size w0 w) (ho0 : Kd.R (Kd.int .u8) 5 w w0.heap.size P0_ u9000_ l0) (h : impl_appendNum.f k l0 a1 = some r) :
  Calls Try.prog 89 #[u9000_, .int .u64 a1] w fun e w' => ∃ v0_ : Value, e = .returned (v0_) ∧ Kd.R (Kd.int .u8) 5 w' w0.heap.size (fun k_ => (P0_ k_ ∨ w.heap.size ≤ k_)) v0_ r ∧ Below w0.heap.size w0 w' ∧ Kept w w' (fun k_ => P0_ k_) := by
 have HO0 := Aside0.mk (show Kd.R (Kd.int .u8) 5 w w0.heap.size (fun k_ => (P0_ k_ ∨ w.heap.size ≤ k_)) u9000_ l0 from Kd.R_mono ho0 (fun k_ hk => (.inl hk)))
 have HK := Aside0.mk (Kept.refl w (fun k_ => P0_ k_))
 have HW0 := Aside0.mk hB.size
 have HB := Aside0.mk hB
 clear hB
 have H : (impl_appendNum.l0 k l0 a1) = some r := h
 clear h
 have H' := Aside0.mk H
 clear H
 go_enter Try.func89, Try.ntmps89
 go_wp2
 go_loopg [0, 1] k (fun kq v0 v1 w' => ∃ (x0_1 : List Int) (x1_1 : Int), v1 = .int .u64 x1_1 ∧ Aside0 (impl_appendNum.l0 kq x0_1 x1_1 = some r) ∧ Aside0 (kq ≤ k) ∧ Aside0 (Kd.R (Kd.int .u8) 5 w' w0.heap.size (fun k_ => (P0_ k_ ∨ w.heap.size ≤ k_)) v0 x0_1) ∧ Aside0 (Kept w w' (fun k_ => P0_ k_)) ∧ Aside0 (Below w0.heap.size w0 w'))
 case atStart => exact ⟨(l0), (a1), (by first | rfl | (simp; done) | (simp [*]; done)), H', ⟨Nat.le_refl _⟩, ⟨lf HO0⟩, ⟨by repeat (first | (with_reducible first | exact HK.out | apply Kept.alloc | apply Kept.drewN | apply Kept.drew) | exact HK.out)⟩, ⟨bw⟩⟩
 case round =>
  clear H'
  try clear p2
  obtain ⟨x0_1, x1_1, rfl, HA, HK1, HO_0, HK, HB⟩ := hrel
  cases gk with
  | zero => exact absurd HA.out (by simp [impl_appendNum.l0])
  | succ k1 =>
   have H := HA.out
   clear HA
   simp only [impl_appendNum.l0] at H
   by_cases c3 : x1_1 ≥ 128
   ·rw [if_pos c3] at H
    have c3b0 : decide (128 ≤ x1_1) = true := decide_eq_true c3
    clear c3
    by_cases c4 : x0_1.length < 140737488355328
    ·rw [if_pos c4] at H
     have LMc4 := Aside0.mk c4
     clear c4
     obtain ⟨y710, hy710⟩ : ∃ y_ : List Int, y_ = (x0_1 ++ [Go.bits .or .u8 ((x1_1) % 256) 128]) := ⟨_, rfl⟩
     replace H : (impl_appendNum.l0 k1 y710 (x1_1 / 128)) = some r := by first | (rw [hy710]; with_reducible exact H) | (have H2_ := (Option.bind_some _ _).symm.trans H; rw [hy710]; with_reducible exact H2_) | (have H2_ := (Option.bind_some _ _).symm.trans H; with_reducible exact H2_) | with_reducible exact H | (rw [hy710]; exact H) | exact H
     have Ny710 := Aside0.mk hy710
     clear hy710
     have H' := Aside0.mk H
     clear H
     go_wp2_with (first | ((with_reducible refine gate_builtin (b := .append) (xs := #[.tmp 9, .tmp 13]) rfl ?_); at_builtin; refine Kd.R_append (Kd.int .u8) (w0 := w0) w0.heap.size rfl (.tmp 9) (.tmp 13) 38 5 (.int .u8 0) 1 rfl Try.underlying38 info5 rfl (by decide) (by omega) u0 x0_1 (Go.bits .or .u8 ((x1_1) % 256) 128) [.int .u8 (Go.bits .or .u8 ((x1_1) % 256) 128)] (fun k_ => (P0_ k_ ∨ w.heap.size ≤ k_)) (fun _ => False) rfl rfl ?aP (fun _ hk => hk.elim) ?aF ?aO ?aB ?aS ?aL ?_; (case aP => exact rfl); (case aB => exact bw); (case aF => exact (fun k_ hk => (.inr (Nat.le_trans (by first | exact HK.out.1 | exact (show Kept w _ (fun k_ => P0_ k_) from by repeat (first | (with_reducible first | exact HK.out | apply Kept.alloc | apply Kept.drewN | apply Kept.drew) | exact HK.out)).1) hk)))); (case aO => exact (lf HO_0)); (case aS => exact (below_size bw)); (case aL => have := LMc4.out; omega); intro v711 w5 ho hb hg hat; rw [← Ny710.out] at ho; have n0_ := Aside0.mk (hb); have n1_ := Aside0.mk (Kept.of_grown (S := (fun k_ => P0_ k_)) hg (by repeat (first | (with_reducible first | exact HK.out | apply Kept.alloc | apply Kept.drewN | apply Kept.drew) | exact HK.out)) (fun k_ e_ => (HO_0.out.1 k_ e_))); have n2_ := Aside0.mk (ho); clear HB; clear HK; clear HO_0; have HB := n0_; have HK := n1_; have HO712 := n2_; clear n0_ n1_ n2_; clear ho hb hg hat))
     go_roundg k1
     case measure => have := HK1.out; omega
     case rel => exact ⟨(y710), (x1_1 / 128), (by first | rfl | (simp; done) | (simp [*]; done)), H', ⟨by have := HK1.out; omega⟩, ⟨lf HO712⟩, ⟨by repeat (first | (with_reducible first | exact HK.out | apply Kept.alloc | apply Kept.drewN | apply Kept.drew) | exact HK.out)⟩, ⟨bw⟩⟩
    ·rw [if_neg c4] at H
     exact absurd H (by simp)
   ·rw [if_neg c3] at H
    have c3b0 : decide (128 ≤ x1_1) = false := decide_eq_false c3
    clear c3
    by_cases c6 : x0_1.length < 140737488355328
    ·rw [if_pos c6] at H
     have LMc6 := Aside0.mk c6
     clear c6
     obtain ⟨y713, hy713⟩ : ∃ y_ : List Int, y_ = (x0_1 ++ [(x1_1) % 256]) := ⟨_, rfl⟩
     replace H : (some y713) = some r := by first | (rw [hy713]; with_reducible exact H) | (have H2_ := (Option.bind_some _ _).symm.trans H; rw [hy713]; with_reducible exact H2_) | (have H2_ := (Option.bind_some _ _).symm.trans H; with_reducible exact H2_) | with_reducible exact H | (rw [hy713]; exact H) | exact H
     have Ny713 := Aside0.mk hy713
     clear hy713
     obtain rfl := Option.some.inj H
     go_wp2_with (first | ((with_reducible refine gate_builtin (b := .append) (xs := #[.tmp 15, .tmp 18]) rfl ?_); at_builtin; refine Kd.R_append (Kd.int .u8) (w0 := w0) w0.heap.size rfl (.tmp 15) (.tmp 18) 38 5 (.int .u8 0) 1 rfl Try.underlying38 info5 rfl (by decide) (by omega) u0 x0_1 ((x1_1) % 256) [.int .u8 ((x1_1) % 256)] (fun k_ => (P0_ k_ ∨ w.heap.size ≤ k_)) (fun _ => False) rfl rfl ?aP (fun _ hk => hk.elim) ?aF ?aO ?aB ?aS ?aL ?_; (case aP => exact rfl); (case aB => exact bw); (case aF => exact (fun k_ hk => (.inr (Nat.le_trans (by first | exact HK.out.1 | exact (show Kept w _ (fun k_ => P0_ k_) from by repeat (first | (with_reducible first | exact HK.out | apply Kept.alloc | apply Kept.drewN | apply Kept.drew) | exact HK.out)).1) hk)))); (case aO => exact (lf HO_0)); (case aS => exact (below_size bw)); (case aL => have := LMc6.out; omega); intro v714 w7 ho hb hg hat; rw [← Ny713.out] at ho; have n0_ := Aside0.mk (hb); have n1_ := Aside0.mk (Kept.of_grown (S := (fun k_ => P0_ k_)) hg (by repeat (first | (with_reducible first | exact HK.out | apply Kept.alloc | apply Kept.drewN | apply Kept.drew) | exact HK.out)) (fun k_ e_ => (HO_0.out.1 k_ e_))); have n2_ := Aside0.mk (ho); clear HB; clear HK; clear HO_0; have HB := n0_; have HK := n1_; have HO715 := n2_; clear n0_ n1_ n2_; clear ho hb hg hat))
     go_ret
     exact ⟨_, by first | rfl | (simp [errW_none, errW_some] <;> rfl) | (simp [*, errW_none, errW_some] <;> rfl), lf HO715, bw, by repeat (first | (with_reducible first | exact HK.out | apply Kept.alloc | apply Kept.drewN | apply Kept.drew) | exact HK.out)⟩
    ·rw [if_neg c6] at H
     exact absurd H (by simp)

end Go.Proofs.Ytdknjbadnbangaa.Q

namespace Go.Proofs.Ytdknjbadnbangaa.Q
open Go.RowKit Go.Proofs.YtdknjbadnbangaaW.PrintWords Go.Proofs.YtdknjbadnbangaaW.PrintLast
set_option linter.unusedVariables false
section
variable {P : Program} {ops : Array Oper} {rest : List Oper} {o : Oper} {a : Act} {Q : Exit → Act → World → Prop}
/-- It lies where the old one lay, or is new. -/
theorem append_str_at (w : World) (base : Nat) (t u ty e : TypeId) (i : TypeInfo) (ht : P.underlying t = some (.slice e)) (hu : P.underlying u = some .string) (hi : P.info? e = some i) (hz : i.zero = some (.int .u8 0))
    (hsize : i.size = 1) (hby : i.bytes = 1) (v : Value) (n : Nat) (xs : List Value) (hown : w.ownsRow base e 1 v n xs) (s : ByteArray) (h63 : n + s.size ≤ maxLen) (hbytes : n + s.size ≤ 140737488355328)
    {v' : Value} {w' : World} (hr : (Builtin.append_ #[t, u] ty #[v, .string s]).run P w = .ok v' w') : ∀ k, v'.ownBlock = some k → v.ownBlock = some k ∨ w.heap.size ≤ k := by
  have hsmall : n + s.size ≤ 9223372036854775807 := by simp only [maxLen] at h63; omega
  have hxl : xs.length = n := by simpa using hown.1
  rcases hown.2 with ⟨rfl, rfl⟩ | ⟨g, cap, cur, rfl, hbg, hg, hnc, hcm, hcs, htake⟩
  · by_cases hm : s.size = 0
    · have hf := Lib.run_firstCells_string (P := P) w 1 s
      rw [hm] at hf
      simp [Builtin.append_, run_underlying ht, run_underlying hu, sizeOf, typeInfo, hi, hsize, Builtin.lenOf, hm, hf] at hr
      obtain ⟨rfl, rfl⟩ := hr
      intro k hk; simp [Value.ownBlock] at hk
    · have hr2 := run_append_nil_string (P := P) w t u ty e i (.int .u8 0) ht hu hi hz s (by omega) (by omega) (by rw [hby]; omega)
      rw [hr2] at hr
      cases hr
      intro k hk
      simp [Value.ownBlock] at hk
      exact .inr (by omega)
  · by_cases hroom : n + s.size ≤ cap
    · have hcs' : cur.size = cap := by simpa using hcs
      have hr2 := Lib.run_append_room_string (P := P) w t u ty e i ht hu hi hsize g n cap cur hg s hroom (by omega)
      rw [hr2] at hr
      cases hr
      intro k hk
      simp [Value.ownBlock] at hk ⊢
      exact .inl hk
    · have holds : ∀ j u, xs[j]? = some u → w.cell? ((⟨g, 0, none⟩ : Addr).add j) = some u := hown.cells (g := g) rfl
      have hr2 := Lib.run_append_grow_string (P := P) w t u ty e i (.int .u8 0) ht hu hi hz ⟨g, 0, none⟩ n cap xs (by rw [hsize]; simpa using hxl) holds s (by omega) (by omega) (by rw [hby]; exact growslice_fits (by omega) (by omega))
      rw [hr2] at hr
      cases hr
      intro k hk
      simp [Value.ownBlock] at hk
      exact .inr (by omega)
theorem append_str {w0 W : World} (base : Nat) (hgd : o.guard = none) (s x : Operand) (t u e : TypeId)
    (ho : o.op = .call { callee := .builtin .append, args := #[s, x], argTypes := #[t, u] })
    (ht : P.underlying t = some (.slice e)) (hu : P.underlying u = some .string) (hinfo : (P.info? e).map (fun i => (i.zero, i.size, i.bytes)) = some (some (.int .u8 0), 1, 1))
    (v : Value) (xs : List Int) (y : ByteArray) (hs : a.eval s = v) (hx : a.eval x = .string y)
    (HO : W.ownsRow base e 1 v xs.length (nums .u8 xs)) (HB : Below base w0 W) (hbase : base ≤ W.heap.size) (hl : xs.length + y.size ≤ 140737488355328)
    (h : ∀ v1 w1, w1.ownsRow base e 1 v1 (xs ++ bytesOf y).length (nums .u8 (xs ++ bytesOf y)) → Below base w0 w1 → W.grownBy w1 v.ownBlock → (∀ k, v1.ownBlock = some k → v.ownBlock = some k ∨ W.heap.size ≤ k) → wpList P ops Q rest (a.put o.dst v1) w1) :
    wpList P ops Q (o :: rest) a W := by
  obtain ⟨i0, hi, hzz⟩ := Option.map_eq_some_iff.1 hinfo
  simp only [Prod.mk.injEq] at hzz
  obtain ⟨hz0, hz1, hz2⟩ := hzz
  refine wpList_plain hgd fun K hK => ?_
  obtain ⟨v', w', hr, h2, h3, h4⟩ := Lib.run_append_own_string (P := P) W base t u o.type e i0 ht hu hi hz0 hz1 hz2 v xs.length (nums .u8 xs) HO y (by simp only [maxLen]; omega) hl hbase
  have hat := append_str_at W base t u o.type e i0 ht hu hi hz0 hz1 hz2 v xs.length (nums .u8 xs) HO y (by simp only [maxLen]; omega) hl hr
  have hl2 : (xs ++ bytesOf y).length = xs.length + y.size := by rw [List.length_append, bytesOf_length]
  have hc : nums .u8 (xs ++ bytesOf y) = nums .u8 xs ++ Lib.strCells y := by
    rw [nums_append]
    congr 1
    simp [nums, bytesOf, Lib.strCells]
  unfold Oper.wp execOp
  simp only [ho, resolve, invoke, builtin, Sem.run_bind, Sem.run_pure, Result.andThen_ok, List.map_toArray, List.map_cons, List.map_nil, hs, hx, hr]
  exact hK _ _ (h v' w' (by rw [hl2, hc]; exact h2) (HB.grown h3 hbase (own_base HO)) h3 hat)
end
end Go.Proofs.Ytdknjbadnbangaa.Q

namespace Go.Proofs.Ytdknjbadnbangaa.Q
open Go.RowKit Go.Proofs.YtdknjbadnbangaaW.PrintWords Go.Proofs.YtdknjbadnbangaaW.PrintLast Go.Proofs.YtdknjbadnbangaaW.PrintMore
set_option linter.unusedVariables false
set_option linter.unusedSimpArgs false

/-! ### impl_appendStr: function 91 -/
def impl_appendStr.f (k : Nat) (l0 : List Int) (a1 : ByteArray) : Option (List Int) := (impl_appendNum.f k l0 (IntKind.u64.wrap ((a1.size : Int)))).bind fun t716 => (if t716.length + a1.size < 140737488355328 then (some (t716 ++ bytesOf a1)) else (none))
set_option maxHeartbeats 8000000 in
set_option maxRecDepth 100000 in
theorem impl_appendStr.calls (k : Nat) (P0_ : Nat → Prop) (u9000_ : Value) (l0 : List Int) (a1 : ByteArray) (r : List Int) (w0 w : World) (hB : Below w0.heap.size w0 w) (ho0 : Kd.R (Kd.int .u8) 5 w w0.heap.size P0_ u9000_ l0) (h : impl_appendStr.f k l0 a1 = some r) :
  Calls Try.prog 91 #[u9000_, .string a1] w fun e w' => ∃ v0_ : Value, e = .returned (v0_) ∧ Kd.R (Kd.int .u8) 5 w' w0.heap.size (fun k_ => (P0_ k_ ∨ w.heap.size ≤ k_)) v0_ r ∧ Below w0.heap.size w0 w' ∧ Kept w w' (fun k_ => P0_ k_) := by
 have HO0 := Aside0.mk (show Kd.R (Kd.int .u8) 5 w w0.heap.size (fun k_ => (P0_ k_ ∨ w.heap.size ≤ k_)) u9000_ l0 from Kd.R_mono ho0 (fun k_ hk => (.inl hk)))
 have HK := Aside0.mk (Kept.refl w (fun k_ => P0_ k_))
 have HW0 := Aside0.mk hB.size
 have HB := Aside0.mk hB
 clear hB
 have H : ((impl_appendNum.f k l0 (IntKind.u64.wrap ((a1.size : Int)))).bind fun t716 => (if t716.length + a1.size < 140737488355328 then (some (t716 ++ bytesOf a1)) else (none))) = some r := h
 clear h
 replace H := Option.bind_eq_some_iff.mp H
 obtain ⟨t716, A30, H⟩ := H
 replace H : (if t716.length + a1.size < 140737488355328 then (some (t716 ++ bytesOf a1)) else (none)) = some r := H
 have A3 := Aside0.mk A30
 clear A30
 by_cases c4 : t716.length + a1.size < 140737488355328
 ·rw [if_pos c4] at H
  have LMc4 := Aside0.mk c4
  clear c4
  obtain ⟨y719, hy719⟩ : ∃ y_ : List Int, y_ = (t716 ++ bytesOf a1) := ⟨_, rfl⟩
  replace H : (some y719) = some r := by first | (rw [hy719]; with_reducible exact H) | (have H2_ := (Option.bind_some _ _).symm.trans H; rw [hy719]; with_reducible exact H2_) | (have H2_ := (Option.bind_some _ _).symm.trans H; with_reducible exact H2_) | with_reducible exact H | (rw [hy719]; exact H) | exact H
  have Ny719 := Aside0.mk hy719
  clear hy719
  obtain rfl := Option.some.inj H
  obtain ⟨Ao5, co5, eo5⟩ := Kd.R_slice HO0.out
  subst eo5
  go_enter Try.func91, Try.ntmps91
  go_wp2_with (first | ((with_reducible refine at_fn (f := 89) rfl ?_); refine goesL_ (some 9) rfl rfl Try.func89 (by kernel_rfl) rfl #[.slice Ao5 l0.length co5, .int .u64 (IntKind.u64.wrap ((a1.size : Int)))] rfl (by (try simp only [List.map_toArray, List.map_cons, List.map_nil]); first | done | rfl | (simp only [List.length_drop, List.length_take]; rfl)) ?_; (with_reducible refine (impl_appendNum.calls k (fun k_ => some k_ = (.slice Ao5 l0.length co5 : Value).ownBlock) (.slice Ao5 l0.length co5) l0 (IntKind.u64.wrap ((a1.size : Int))) t716 w0 _ ?side1 ?side2 A3.out).mono ?_); (case side1 => repeat (first | (with_reducible first | exact HB.out | apply below_alloc | apply pw_below_drewN | apply below_drew1) | exact HB.out)); (case side2 => exact Kd.R_tight rfl HO0.out); rintro e w6 ⟨v717, rfl, ho0, hb, hkp⟩; refine ⟨_, rfl, ?_⟩; have n0_ := Aside0.mk (Kd.R_mono (ok' := fun k_ => (P0_ k_ ∨ w.heap.size ≤ k_)) ho0 (fun k_ hk_ => Or.elim hk_ (fun hs_ => (HO0.out.1 k_ (hs_).symm)) (fun hn_ => (.inr (Nat.le_trans (by first | exact HK.out.1 | exact (show Kept w _ (fun k_ => P0_ k_) from by repeat (first | (with_reducible first | exact HK.out | apply Kept.alloc | apply Kept.drewN | apply Kept.drew) | exact HK.out)).1) hn_))))); have n1_ := Aside0.mk (Kept.then_ (S := (fun k_ => P0_ k_)) (by repeat (first | (with_reducible first | exact HK.out | apply Kept.alloc | apply Kept.drewN | apply Kept.drew) | exact HK.out)) hkp (fun k_ hs_ => (fun e_ => (HO0.out.1 k_ e_.symm)) hs_)); have n2_ := Aside0.mk (hb); clear HK; clear HB; clear HO0; have HO718 := n0_; have HK := n1_; have HB := n2_; clear n0_ n1_ n2_; (try clear hb); (try clear hkp); (try clear ho0)) | (at_builtin; refine append_str (w0 := w0) w0.heap.size rfl (.tmp 9) _ 38 9 5 rfl Try.underlying38 Try.underlying9 info5 v717 t716 a1 rfl rfl ?aO ?aB ?aS ?aL ?_; (case aB => exact bw); (case aO => exact (Kd.own_of_R (lf HO718))); (case aS => exact (below_size bw)); (case aL => have := LMc4.out; omega); intro v720 w7 ho0 hb hg hat; have ho := Kd.R_of_own (h1 := fun _ => rfl) (ok := (fun k_ => (P0_ k_ ∨ w.heap.size ≤ k_))) ho0 (fun k_ hk_ => (hat k_ hk_).elim (fun h_ => HO718.out.1 k_ h_) (fun h_ => .inr (Nat.le_trans (show Kept w _ (fun k_ => P0_ k_) from by repeat (first | (with_reducible first | exact HK.out | apply Kept.alloc | apply Kept.drewN | apply Kept.drew) | exact HK.out)).1 h_))); clear ho0; rw [← Ny719.out] at ho; change Kd.R (Kd.int .u8) 5 w7 w0.heap.size (fun k_ => (P0_ k_ ∨ w.heap.size ≤ k_)) v720 y719 at ho; have n0_ := Aside0.mk (hb); have n1_ := Aside0.mk (Kept.of_grown (S := (fun k_ => P0_ k_)) hg (by repeat (first | (with_reducible first | exact HK.out | apply Kept.alloc | apply Kept.drewN | apply Kept.drew) | exact HK.out)) (fun k_ e_ => (HO718.out.1 k_ e_))); have n2_ := Aside0.mk (ho); clear HB; clear HK; clear HO718; have HB := n0_; have HK := n1_; have HO721 := n2_; clear n0_ n1_ n2_; clear ho hb hg hat))
  go_ret
  exact ⟨_, by first | rfl | (simp [errW_none, errW_some] <;> rfl) | (simp [*, errW_none, errW_some] <;> rfl), lf HO721, bw, by repeat (first | (with_reducible first | exact HK.out | apply Kept.alloc | apply Kept.drewN | apply Kept.drew) | exact HK.out)⟩
 ·rw [if_neg c4] at H
  exact absurd H (by simp)

end Go.Proofs.Ytdknjbadnbangaa.Q

namespace Go.Proofs.Ytdknjbadnbangaa.Q
open Go.RowKit Go.Proofs.YtdknjbadnbangaaW.PrintWords Go.Proofs.YtdknjbadnbangaaW.PrintLast Go.Proofs.YtdknjbadnbangaaW.PrintMore
set_option linter.unusedVariables false
set_option linter.unusedSimpArgs false

/-! ### impl_shared: function 116 -/
mutual
def impl_shared.l0 : Nat → ByteArray → ByteArray → Int → Option (Int)
 | 0, _, _, _ => none
 | k + 1, x0, x1, x5 => if x5 < (x0.size : Int) then (if x5 < (x1.size : Int) then (if 0 ≤ x5 then (impl_shared.j1 k x0 x1 x5 ((bt x0 x5) == (bt x1 x5))) else (none)) else (impl_shared.j1 k x0 x1 x5 false)) else (impl_shared.j1 k x0 x1 x5 false)
def impl_shared.j1 : Nat → ByteArray → ByteArray → Int → Bool → Option (Int)
 | 0, _, _, _, _ => none
 | k + 1, x0, x1, x5, x24 => if x24 = true then (impl_shared.l0 k x0 x1 (wrap64 (x5 + 1))) else (some x5)
end
def impl_shared.f (k : Nat) (a0 : ByteArray) (a1 : ByteArray) : Option (Int) := impl_shared.l0 k a0 a1 0
set_option maxHeartbeats 8000000 in
set_option maxRecDepth 100000 in
theorem impl_shared.calls (k : Nat) (a0 : ByteArray) (a1 : ByteArray) (r : Int) (w : World) (h : impl_shared.f k a0 a1 = some r) :
  Calls Try.prog 116 #[.string a0, .string a1] w fun e w' => e = .returned (.int .i64 r) ∧ Drawn0 w w' := by
 have H : (impl_shared.l0 k a0 a1 0) = some r := h
 clear h
 have H' := Aside0.mk H
 clear H
 go_enter Try.func116, Try.ntmps116
 go_wp2
 repeat (go_quiet (fail); try go_wp2)
 go_loopg [5] k (fun kq v5 w' => ∃ (x5_1 : Int), v5 = .int .i64 x5_1 ∧ Aside0 (impl_shared.l0 kq a0 a1 x5_1 = some r) ∧ Aside0 (kq ≤ k) ∧ Drawn0 w w')
 case atStart => exact ⟨(0), (by first | rfl | (simp; done) | (simp [*]; done)), H', ⟨Nat.le_refl _⟩, by repeat (first | exact Drawn0.refl _ | apply Drawn0.step)⟩
 case round =>
  clear H'
  try clear c1
  try clear p2
  obtain ⟨x5_1, rfl, HA, HK1, ⟨m1, rfl⟩⟩ := hrel
  cases gk with
  | zero => exact absurd HA.out (by simp [impl_shared.l0])
  | succ k1 =>
   have H := HA.out
   clear HA
   simp only [impl_shared.l0] at H
   have HC3 := Aside0.mk H
   clear H
   go_upto_region 2 with (fail)
   repeat (go_quiet (fail); go_upto_region 2 with (fail))
   go_cut [24] (fun v24 wc => ∃ (kq : Nat) (x24_2 : Bool), v24 = .bool x24_2 ∧ Aside0 (impl_shared.j1 kq a0 a1 x5_1 x24_2 = some r) ∧ Aside0 (kq ≤ k1) ∧ Drawn0 w wc)
   case first =>
    have H := HC3.out
    clear HC3
    by_cases c4 : x5_1 < (a0.size : Int)
    ·rw [if_pos c4] at H
     have c4b0 : decide (x5_1 < (a0.size : Int)) = true := decide_eq_true c4
     clear c4
     (first | rw [c4b0] | (simp only [i64_w, i32_w]; rw [c4b0]) | skip)
     by_cases c5 : x5_1 < (a1.size : Int)
     ·rw [if_pos c5] at H
      have c5b0 : decide (x5_1 < (a1.size : Int)) = true := decide_eq_true c5
      clear c5
      by_cases c6 : 0 ≤ x5_1
      ·rw [if_pos c6] at H
       have c6b0 : decide (0 ≤ x5_1) = true := decide_eq_true c6
       clear c6
       have H' := Aside0.mk H
       clear H
       have p7 : 0 ≤ (x5_1 : Int) := of_decide_eq_true (by first | (with_reducible assumption) | assumption)
       have q7 : x5_1 < (a0.size : Int) := of_decide_eq_true (by first | (with_reducible assumption) | assumption)
       have hx7 := bt_at a0 x5_1
       replace p7 := eq_true p7
       replace q7 := eq_true q7
       have p8 : 0 ≤ (x5_1 : Int) := of_decide_eq_true (by first | (with_reducible assumption) | assumption)
       have q8 : x5_1 < (a1.size : Int) := of_decide_eq_true (by first | (with_reducible assumption) | assumption)
       have hx8 := bt_at a1 x5_1
       replace p8 := eq_true p8
       replace q8 := eq_true q8
       go_wp2
       repeat (go_quiet (fail); try go_wp2)
       go_meet
       case rel => exact ⟨_, (((bt a0 x5_1) == (bt a1 x5_1))), (by first | rfl | (simp; done) | (simp [*]; done)), H', ⟨by have := HK1.out; first | omega | exact Nat.le_refl _⟩, by repeat (first | exact Drawn0.refl _ | apply Drawn0.step)⟩
      ·rw [if_neg c6] at H
       exact absurd H (by simp)
     ·rw [if_neg c5] at H
      have c5b0 : decide (x5_1 < (a1.size : Int)) = false := decide_eq_false c5
      clear c5
      have H' := Aside0.mk H
      clear H
      go_wp2
      repeat (go_quiet (fail); try go_wp2)
      go_meet
      case rel => exact ⟨_, (false), (by first | rfl | (simp; done) | (simp [*]; done)), H', ⟨by have := HK1.out; first | omega | exact Nat.le_refl _⟩, by repeat (first | exact Drawn0.refl _ | apply Drawn0.step)⟩
    ·rw [if_neg c4] at H
     have c4b0 : decide (x5_1 < (a0.size : Int)) = false := decide_eq_false c4
     clear c4
     (first | rw [c4b0] | (simp only [i64_w, i32_w]; rw [c4b0]) | skip)
     have H' := Aside0.mk H
     clear H
     go_wp2
     repeat (go_quiet (fail); try go_wp2)
     go_meet
     case rel => exact ⟨_, (false), (by first | rfl | (simp; done) | (simp [*]; done)), H', ⟨by have := HK1.out; first | omega | exact Nat.le_refl _⟩, by repeat (first | exact Drawn0.refl _ | apply Drawn0.step)⟩
   case rest =>
    clear HC3
    try clear c1
    try clear p2
    try clear c4
    try clear c4b0
    try clear c5
    try clear c5b0
    try clear c6
    try clear c6b0
    try clear p7
    try clear q7
    try clear hx7
    try clear p8
    try clear q8
    try clear hx8
    try clear p2
    try clear p7
    try clear p8
    try clear q7
    try clear q8
    obtain ⟨kq, x24_2, rfl, HA, HJ2, ⟨mc2, rfl⟩⟩ := hcut
    cases kq with
    | zero => exact absurd HA.out (by simp [impl_shared.j1])
    | succ kj2 =>
     have H := HA.out
     clear HA
     simp only [impl_shared.j1] at H
     by_cases c9 : x24_2 = true
     ·subst c9
      have H1 : (impl_shared.l0 kj2 a0 a1 (wrap64 (x5_1 + 1))) = some r := by rw [if_pos rfl] at H; exact H
      clear H
      have H := H1
      clear H1
      have H' := Aside0.mk H
      clear H
      go_wp2
      repeat (go_quiet (fail); try go_wp2)
      go_roundg kj2
      case measure => have := HK1.out; have := HJ2.out; omega
      case rel => exact ⟨(wrap64 (x5_1 + 1)), (by first | rfl | (simp; done) | (simp [*]; done)), H', ⟨by have := HK1.out; have := HJ2.out; omega⟩, by repeat (first | exact Drawn0.refl _ | apply Drawn0.step)⟩
     ·replace c9 := Bool.eq_false_iff.mpr c9
      subst c9
      have H1 : (some x5_1) = some r := by rw [if_neg (show ¬ (false = true) by decide)] at H; exact H
      clear H
      have H := H1
      clear H1
      obtain rfl := Option.some.inj H
      go_wp2
      repeat (go_quiet (fail); try go_wp2)
      go_ret
      exact ⟨by first | rfl | (simp; done) | (simp [*]; done), by repeat (first | exact Drawn0.refl _ | apply Drawn0.step)⟩

end Go.Proofs.Ytdknjbadnbangaa.Q

namespace Go.Proofs.Ytdknjbadnbangaa.Q
open Go.RowKit Go.Proofs.YtdknjbadnbangaaW.PrintWords Go.Proofs.YtdknjbadnbangaaW.PrintLast Go.Proofs.YtdknjbadnbangaaW.PrintMore
set_option linter.unusedVariables false
set_option linter.unusedSimpArgs false

/-! ### impl_appendBlock: function 90 -/
def impl_appendBlock.l0 : Nat → List Int → ByteArray → List (S35) → Int → Int → Option (List Int)
 | 0, _, _, _, _, _ => none
 | k + 1, x0, x5, x9, x10, x11 => if x11 < x10 then (if 0 ≤ x11 then (if x11 < (x9.length : Int) then ((impl_shared.f k x5 ((rd_T35 x9 x11).f0)).bind fun t724 => ((impl_appendNum.f k x0 (IntKind.u64.wrap (t724))).bind fun t725 => (if 0 ≤ t724 then (if t724 ≤ (((rd_T35 x9 x11).f0).size : Int) then ((impl_appendStr.f k t725 (((rd_T35 x9 x11).f0).extract (t724 : Int).toNat ((rd_T35 x9 x11).f0).size)).bind fun t728 => ((impl_appendStr.f k t728 ((rd_T35 x9 x11).f1)).bind fun t731 => ((impl_appendStr.f k t731 ((rd_T35 x9 x11).f2)).bind fun t734 => ((impl_appendNum.f k t734 ((rd_T35 x9 x11).f3)).bind fun t737 => ((impl_appendNum.f k t737 (IntKind.u64.wrap ((rd_T35 x9 x11).f4))).bind fun t740 => ((impl_appendStr.f k t740 ((rd_T35 x9 x11).f5)).bind fun t743 => (impl_appendBlock.l0 k t743 ((rd_T35 x9 x11).f0) x9 x10 (wrap64 (x11 + 1))))))))) else (none)) else (none)))) else (none)) else (none)) else (some x0)
def impl_appendBlock.f (k : Nat) (l0 : List Int) (l1 : List (S35)) : Option (List Int) := impl_appendBlock.l0 k l0 (⟨#[]⟩ : ByteArray) l1 (l1.length : Int) 0
def impl_appendBlock.T6 : Bool × List (List Nat × List Nat) := (true, [([], []), ([], []), ([1], [1]), ([0, 2], [0, 2]), ([], []), ([4], [4]), ([], []), ([5, 6], [5, 6]), ([3, 7, 3], [3, 7]), ([8, 8, 0, 1, 2, 3, 4, 5, 6, 7, 8], [0, 8])])
def impl_appendBlock.B6 : List Nat := [0, 0, 2, 7, 0, 16, 0, 112, 255, 511]
theorem impl_appendBlock.tab6 : rtab .any (opsOf Try.f90 6) = impl_appendBlock.T6 := by kernel_rfl
theorem impl_appendBlock.bits6 : waitsOk impl_appendBlock.T6.2 impl_appendBlock.B6 = true := by kernel_rfl
def impl_appendBlock.T7 : Bool × List (List Nat × List Nat) := (true, [([], []), ([], []), ([1], [1]), ([0, 2], [0, 2]), ([], []), ([4], [4]), ([3, 5, 3], [3, 5]), ([6, 6, 0, 1, 2, 3, 4, 5, 6], [0, 6])])
def impl_appendBlock.B7 : List Nat := [0, 0, 2, 7, 0, 16, 63, 127]
theorem impl_appendBlock.tab7 : rtab .any (opsOf Try.f90 7) = impl_appendBlock.T7 := by kernel_rfl
theorem impl_appendBlock.bits7 : waitsOk impl_appendBlock.T7.2 impl_appendBlock.B7 = true := by kernel_rfl
def impl_appendBlock.T8 : Bool × List (List Nat × List Nat) := (true, [([], []), ([], []), ([1], [1]), ([0, 2], [0, 2]), ([], []), ([4], [4]), ([5], [5]), ([3, 6, 3], [3, 6]), ([7, 7, 0, 1, 2, 3, 4, 5, 6, 7], [0, 7])])
def impl_appendBlock.B8 : List Nat := [0, 0, 2, 7, 0, 16, 48, 127, 255]
theorem impl_appendBlock.tab8 : rtab .any (opsOf Try.f90 8) = impl_appendBlock.T8 := by kernel_rfl
theorem impl_appendBlock.bits8 : waitsOk impl_appendBlock.T8.2 impl_appendBlock.B8 = true := by kernel_rfl
end Go.Proofs.Ytdknjbadnbangaa.Q

namespace Go.Proofs.Ytdknjbadnbangaa.Q
open Go.RowKit Go.Proofs.YtdknjbadnbangaaW.PrintWords Go.Proofs.YtdknjbadnbangaaW.PrintLast Go.Proofs.YtdknjbadnbangaaW.PrintMore
set_option linter.unusedVariables false
set_option linter.unusedSimpArgs false

/-! ### impl_appendFixed: function 92 -/
def impl_appendFixed.f (l0 : List Int) (a1 : Int) : Option (List Int) := (some (([(a1) % 256, (a1 / 256) % 256, (a1 / 65536) % 256, (a1 / 16777216) % 256] : List Int) : List Int)).bind fun y746 => (if l0.length + y746.length < 140737488355328 then (some (l0 ++ y746)) else (none))
set_option maxHeartbeats 8000000 in
set_option maxRecDepth 100000 in
theorem impl_appendFixed.calls (P0_ : Nat → Prop) (u9000_ : Value) (l0 : List Int) (a1 : Int) (r : List Int) (w0 w : World) (hB : Below w0.heap.size w0 w) (ho0 : Kd.R (Kd.int .u8) 5 w w0.heap.size P0_ u9000_ l0) (h : impl_appendFixed.f l0 a1 = some r) :
  Calls Try.prog 92 #[u9000_, .int .u32 a1] w fun e w' => ∃ v0_ : Value, e = .returned (v0_) ∧ Kd.R (Kd.int .u8) 5 w' w0.heap.size (fun k_ => (P0_ k_ ∨ w.heap.size ≤ k_)) v0_ r ∧ Below w0.heap.size w0 w' ∧ Kept w w' (fun k_ => P0_ k_) := by
 have HO0 := Aside0.mk (show Kd.R (Kd.int .u8) 5 w w0.heap.size (fun k_ => (P0_ k_ ∨ w.heap.size ≤ k_)) u9000_ l0 from Kd.R_mono ho0 (fun k_ hk => (.inl hk)))
 have HK := Aside0.mk (Kept.refl w (fun k_ => P0_ k_))
 have HW0 := Aside0.mk hB.size
 have HB := Aside0.mk hB
 clear hB
 have H : ((some (([(a1) % 256, (a1 / 256) % 256, (a1 / 65536) % 256, (a1 / 16777216) % 256] : List Int) : List Int)).bind fun y746 => (if l0.length + y746.length < 140737488355328 then (some (l0 ++ y746)) else (none))) = some r := h
 clear h
 obtain ⟨y746, hy746⟩ : ∃ y_ : List Int, y_ = (([(a1) % 256, (a1 / 256) % 256, (a1 / 65536) % 256, (a1 / 16777216) % 256] : List Int)) := ⟨_, rfl⟩
 replace H : (if l0.length + y746.length < 140737488355328 then (some (l0 ++ y746)) else (none)) = some r := by first | (rw [hy746]; with_reducible exact H) | (have H2_ := (Option.bind_some _ _).symm.trans H; rw [hy746]; with_reducible exact H2_) | (have H2_ := (Option.bind_some _ _).symm.trans H; with_reducible exact H2_) | with_reducible exact H | (rw [hy746]; exact H) | exact H
 have Ny746 := Aside0.mk hy746
 clear hy746
 by_cases c3 : l0.length + y746.length < 140737488355328
 ·rw [if_pos c3] at H
  have LMc3 := Aside0.mk c3
  clear c3
  obtain ⟨y749, hy749⟩ : ∃ y_ : List Int, y_ = (l0 ++ y746) := ⟨_, rfl⟩
  replace H : (some y749) = some r := by first | (rw [hy749]; with_reducible exact H) | (have H2_ := (Option.bind_some _ _).symm.trans H; rw [hy749]; with_reducible exact H2_) | (have H2_ := (Option.bind_some _ _).symm.trans H; with_reducible exact H2_) | with_reducible exact H | (rw [hy749]; exact H) | exact H
  have Ny749 := Aside0.mk hy749
  clear hy749
  obtain rfl := Option.some.inj H
  go_enter Try.func92, Try.ntmps92
  go_wp2_with (first | ((with_reducible refine gate_dst (N := 17) rfl ?_); refine Kd.R_lit (Kd.int .u8) _ 5 ?hg (N := 17) ?hd (xs := ([(a1) % 256, (a1 / 256) % 256, (a1 / 65536) % 256, (a1 / 16777216) % 256] : List Int)) (inner := [.int .u8 ((a1) % 256), .int .u8 ((a1 / 256) % 256), .int .u8 ((a1 / 65536) % 256), .int .u8 ((a1 / 16777216) % 256)]) (ok := fun _ => True) (okp := fun _ => True) ?hr ?hp (fun _ hk => hk) trivial (Below.refl _ _) (Nat.le_refl _) (by simp) ?_; (case hd => rfl); (case hg => rfl); (case hr => first | (go_simp; done) | (go_simp; rfl)); (case hp => exact (Reps.one (show Kd.M (Kd.int .u8) _ _ _ ((a1) % 256) [.int .u8 ((a1) % 256)] from rfl) (Reps.one (show Kd.M (Kd.int .u8) _ _ _ ((a1 / 256) % 256) [.int .u8 ((a1 / 256) % 256)] from rfl) (Reps.one (show Kd.M (Kd.int .u8) _ _ _ ((a1 / 65536) % 256) [.int .u8 ((a1 / 65536) % 256)] from rfl) (Reps.one (show Kd.M (Kd.int .u8) _ _ _ ((a1 / 16777216) % 256) [.int .u8 ((a1 / 16777216) % 256)] from rfl) (Reps.none _ _)))))); intro v747 w4 ho5 hb hg_ hnew_; clear hg_ hnew_; (first | rw [← Ny746.out] at ho5 | (simp only [Int.reduceToNat] at ho5; rw [← Ny746.out] at ho5)); have n0_ := Aside0.mk (Kd.R_elder' (lf HO0) (Kd.R_base ho5) hb); have n1_ := Aside0.mk (Kd.R_lower (Kd.R_new' (Kd.R_newM (M := fun k_ => (P0_ k_ ∨ w.heap.size ≤ k_)) ho5 (by first | exact HK.out.1 | exact (show Kept w _ (fun k_ => P0_ k_) from by repeat (first | (with_reducible first | exact HK.out | apply Kept.alloc | apply Kept.drewN | apply Kept.drew) | exact HK.out)).1) (fun k_ h_ => .inr h_)) (Kd.R_lt (lf HO0))) (below_size bw)); have n2_ := Aside0.mk (Kept.below (S := (fun k_ => P0_ k_)) (by repeat (first | (with_reducible first | exact HK.out | apply Kept.alloc | apply Kept.drewN | apply Kept.drew) | exact HK.out)) hb); have n3_ := Aside0.mk (below_step bw hb); clear HO0; clear HK; clear HB; have HO0 := n0_; have HO748 := n1_; have HK := n2_; have HB := n3_; clear n0_ n1_ n2_ n3_; clear hb ho5; obtain ⟨Ao7, co7, eo7⟩ := Kd.R_slice HO748.out; subst eo7) | ((with_reducible refine gate_builtin (b := .append) (xs := #[.tmp 5, .tmp 17]) rfl ?_); at_builtin; refine Kd.R_append_rows (Kd.int .u8) (w0 := w0) w0.heap.size rfl (.tmp 5) (.tmp 17) 38 5 (.int .u8 0) 1 rfl Try.underlying38 info5 rfl (by decide) (by omega) u9000_ l0 y746 _ _ _ (fun k_ => (P0_ k_ ∨ w.heap.size ≤ k_) ∧ some k_ ≠ (.slice Ao7 y746.length co7 : Value).ownBlock) (fun _ => False) rfl rfl ?aO ?aR (fun _ _ h => h) (fun _ h => h.elim) ?aF ?aB ?aS ?aL ?_; (case aR => repeat (first | exact (Kd.R_reads' HO748.out).2.2 | (with_reducible refine Kd.C_alloc ?_ _) | (with_reducible refine Kd.C_drewN ?_ _) | (with_reducible refine Kd.C_drew ?_))); (case aB => exact bw); (case aF => exact (fun k_ hk => ⟨(.inr (Nat.le_trans (by first | exact HK.out.1 | exact (show Kept w _ (fun k_ => P0_ k_) from by repeat (first | (with_reducible first | exact HK.out | apply Kept.alloc | apply Kept.drewN | apply Kept.drew) | exact HK.out)).1) hk)), Kd.fresh' (Kd.R_lt (lf HO748)) k_ hk⟩)); (case aO => exact (lf HO0)); (case aS => exact (below_size bw)); (case aL => have := LMc3.out; omega); intro v750 w6 ho hb hg hat; rw [← Ny749.out] at ho; have n0_ := Aside0.mk (Kd.R_after (ok := (fun k_ => (P0_ k_ ∨ w.heap.size ≤ k_))) (by (with_reducible repeat (first | apply Kd.R_alloc | apply Kd.R_drewN | apply Kd.R_drew)); exact Kd.R_mono HO748.out (fun _ hk => ⟨hk.1.1, hk.2⟩)) hg hat); have n1_ := Aside0.mk (hb); have n2_ := Aside0.mk (Kept.of_grown (S := (fun k_ => P0_ k_)) hg (by repeat (first | (with_reducible first | exact HK.out | apply Kept.alloc | apply Kept.drewN | apply Kept.drew) | exact HK.out)) (fun k_ e_ => (HO0.out.1 k_ e_).1)); have n3_ := Aside0.mk (ho); clear HO748; clear HB; clear HK; clear HO0; have HO748 := n0_; have HB := n1_; have HK := n2_; have HO751 := n3_; clear n0_ n1_ n2_ n3_; clear ho hb hg hat))
  go_ret
  exact ⟨_, by first | rfl | (simp [errW_none, errW_some] <;> rfl) | (simp [*, errW_none, errW_some] <;> rfl), by (with_reducible repeat (first | apply Kd.R_alloc | apply Kd.R_drewN | apply Kd.R_drew)); exact Kd.R_mono HO751.out (fun _ hk => hk.1), bw, by repeat (first | (with_reducible first | exact HK.out | apply Kept.alloc | apply Kept.drewN | apply Kept.drew) | exact HK.out)⟩
 ·rw [if_neg c3] at H
  exact absurd H (by simp)

end Go.Proofs.Ytdknjbadnbangaa.Q

namespace Go.Proofs.Ytdknjbadnbangaa.Q
open Go.RowKit Go.Proofs.YtdknjbadnbangaaW.PrintWords Go.Proofs.YtdknjbadnbangaaW.PrintLast
set_option linter.unusedVariables false
theorem wrap_nat (i : Nat) (h : i < 4611686018427387904) : wrap64 ((i : Int) + 1) = ((i + 1 : Nat) : Int) := by unfold wrap64; omega
theorem wrap_id (x : Int) (h0 : -9223372036854775808 ≤ x) (h1 : x ≤ 9223372036854775807) : wrap64 x = x := by unfold wrap64; omega
theorem getD_cut {α : Type} (pre : List α) (e : α) (es : List α) (z : α) : (pre ++ e :: es).getD pre.length z = e := by simp [List.getD_eq_getElem?_getD]
theorem len_cut {α : Type} (pre : List α) (e : α) (es : List α) : pre.length < (pre ++ e :: es).length := by simp
theorem Ev.of_some {α : Type} {g : Option α} {r : α} (h : g = some r) : Ev (fun _ => g) r := ⟨0, fun _ _ => h⟩
theorem Ev.bind_some {α β : Type} {g : Option α} {f : Nat → α → Option β} {a : α} {r : β} (h : g = some a) (k : Ev (fun n => f n a) r) : Ev (fun n => g.bind (f n)) r := by subst h; exact k
/-- From here on, one round is told. -/
theorem Ev.round {α : Type} {g : Nat → Option α} {f : Nat → Option α} {r : α} (h : ∀ k, g (k + 1) = f k) (k : Ev f r) : Ev g r := Ev.step h k
theorem Ev.shift {α : Type} {g : Nat → Option α} {r : α} (m : Nat) (h : ∀ k, g (k + m) = some r) : Ev g r := ⟨m, fun k hk => by have := h (k - m); rwa [Nat.sub_add_cancel hk] at this⟩
theorem Ev.if_pos {α : Type} {c : Prop} [Decidable c] {g f : Nat → Option α} {r : α} (h : c) (k : Ev g r) : Ev (fun n => if c then g n else f n) r := by simp only [h, if_true]; exact k
theorem Ev.if_neg {α : Type} {c : Prop} [Decidable c] {g f : Nat → Option α} {r : α} (h : ¬ c) (k : Ev f r) : Ev (fun n => if c then g n else f n) r := by simp only [h, if_false]; exact k
/-- What was filled so far, and what is still nought. -/
theorem set_fill {α : Type} (done : List α) (z x : α) (m : Nat) : (done ++ List.replicate (m + 1) z).set done.length x = (done ++ [x]) ++ List.replicate m z := by
  rw [List.set_append_right _ _ (Nat.le_refl _)]; simp [List.replicate_succ]
end Go.Proofs.Ytdknjbadnbangaa.Q

namespace Go.Proofs.Ytdknjbadnbangaa.Q
open Go.RowKit Go.Proofs.YtdknjbadnbangaaW.PrintWords Go.Proofs.YtdknjbadnbangaaW.PrintLast Go.Proofs.YtdknjbadnbangaaW.PrintMore
set_option linter.unusedVariables false
set_option linter.unusedSimpArgs false
def crcStep (x : Int) : Int := Go.bits .xor .u32 (x / 2) (Go.bits .and .u32 3988292384 ((- (Go.bits .and .u32 x 1)) % 4294967296))
def crcIter (x : Int) : Nat → Int
  | 0 => x
  | m + 1 => crcStep (crcIter x m)
def crcT (i : Nat) : Int := crcIter i 8
def tabA : Nat → Array Value
  | 0 => Array.replicate 256 (.int .u32 0)
  | k + 1 => (tabA k).setIfInBounds k (.int .u32 (crcT k))
theorem tabA_size (k : Nat) : (tabA k).size = 256 := by
  induction k with
  | zero => simp [tabA]
  | succ k ih => simp [tabA, ih]
theorem tabA_at (k : Nat) (hk : k < 256) : ∀ j, j ≤ k → (tabA j)[k]? = some (.int .u32 0)
  | 0, _ => by simp [tabA, hk]
  | j + 1, h => by
    have := tabA_at k hk j (by omega)
    simp only [tabA, Array.getElem?_setIfInBounds]
    rw [if_neg (by omega)]; exact this
theorem zero90 : Try.zeroCells90 = tabA 0 := by unfold tabA; kernel_rfl
theorem tabA_one : ∀ k, (tabA k).all (·.oneCell') = true
  | 0 => by
    rw [Array.all_eq_true_iff_forall_mem]
    intro v hv
    simp only [tabA] at hv
    obtain ⟨_, rfl⟩ := Array.mem_replicate.mp hv
    rfl
  | k + 1 => by
    have ih := tabA_one k
    rw [Array.all_eq_true_iff_forall_mem] at ih ⊢
    intro v hv
    simp only [tabA] at hv
    rcases Array.mem_or_eq_of_mem_setIfInBounds hv with h | h
    · exact ih v h
    · subst h; rfl
theorem tabA_succ (k : Nat) : tabA (k + 1) = (tabA k).setIfInBounds k (.int .u32 (crcT k)) := rfl
attribute [irreducible] tabA
theorem below_setRow {B : Nat} {w W : World} {g : Nat} {cs : Array Value} (h : Below B w W) (hg : B ≤ g) : Below B w (W.setRow g cs) :=
  ⟨h.os, h.tape, h.output, by rw [size_setRow]; exact h.size, fun i hi => by
    rw [← h.block i hi]
    unfold World.setRow
    simp only [Array.getElem?_modify]
    rw [if_neg (by omega)]⟩
theorem info90 : (Try.prog.info? 90).map (·.size) = some 256 := by kernel_rfl
set_option maxHeartbeats 1000000 in
set_option maxRecDepth 100000 in
theorem tab_any (T : Array Value) (hT : T = tabA 256) (w : World) :
    Calls Try.prog 59 #[] w fun e w' => e = .returned (.agg T) ∧ Below w.heap.size w w' := by
  go_enter Try.func59, Try.ntmps59
  go_wp2
  rw [zero90]
  go_loopw [3] (fun i wr => ∃ k : Nat, k ≤ 256 ∧ i = .int .i64 k ∧ wr = w.alloc (.cells (tabA k) 90)) (fun i _ => 256 - (intOf i).toNat)
  case atStart => exact ⟨0, by omega, rfl, rfl⟩
  case round =>
    obtain ⟨k, hk, rfl, rfl⟩ := hrel
    by_cases hlt : k < 256
    · go_wp2
      go_loop [2, 8] (fun x j => ∃ m : Nat, m ≤ 8 ∧ j = .int .i64 m ∧ x = .int .u32 (crcIter k m)) (fun _ j => 8 - (intOf j).toNat)
      case atStart => exact ⟨0, by omega, rfl, by simp [crcIter]⟩
      case round =>
        obtain ⟨m, hm, rfl, rfl⟩ := hrel
        by_cases hm8 : m < 8
        · go_wp2
          go_round
          case rel => exact ⟨m + 1, by omega, by go_num, by rfl⟩
          case measure => simp [intOf]; omega
        · obtain rfl : m = 8 := by omega
          have hz := tabA_at k hlt k (Nat.le_refl _)
          go_wp2
          go_roundw
          case rel => refine ⟨k + 1, by omega, by go_num, ?_⟩; rw [tabA_succ]; rfl
          case measure => simp [intOf]; omega
    · obtain rfl : k = 256 := by omega
      have hi : (Try.prog.info? 90).map (·.size) = some T.size := by rw [hT, tabA_size]; exact info90
      have hone : T.all (·.oneCell') = true := by rw [hT]; exact tabA_one 256
      subst hT
      have hg0 := heap_alloc_new w (.cells (tabA 256) 90)
      go_wp2_with (first | (refine wpList_load_row rfl 90 (.tmp 0) rfl w.heap.size rfl 90 (tabA 256) (0, 0) _ hg0 Try.underlying90 rfl hi ?_) | (refine wpList_store_row rfl 90 (.tmp 0) (.tmp 22) rfl w.heap.size (tabA 256) rfl rfl 90 (tabA 256) hg0 hi rfl hone ?_))
      have hg1 := setRow_heap (w.alloc (.cells (tabA 256) 90)) w.heap.size (tabA 256) (tabA 256) 90 (0, 0) hg0
      refine bodyPost_ret (results_cell_row rfl _ _ w.heap.size 90 (tabA 256) (0, 0) _ rfl hg1 Try.underlying90 rfl hi) rfl ⟨rfl, ?_⟩
      exact below_setRow (below_alloc (Below.refl _ _) _) (Nat.le_refl _)

def crcGo : Int → List Int → Int
  | c, [] => c
  | c, x :: xs => crcGo (Go.bits .xor .u32 (crcT (Go.bits .xor .u8 (c % 256) x).toNat) (c / 256)) xs
def impl_Crc32.f (l0 : List Int) : Option (Int) := if l0.length < 4611686018427387904 then some (Go.bits .xor .u32 4294967295 (crcGo 4294967295 l0)) else none
theorem crcGo_app : ∀ (a : List Int) (c x : Int), crcGo c (a ++ [x]) = Go.bits .xor .u32 (crcT (Go.bits .xor .u8 (crcGo c a % 256) x).toNat) (crcGo c a / 256)
  | [], _, _ => rfl
  | y :: a, c, x => by simp only [List.cons_append, crcGo]; exact crcGo_app a _ x
theorem bits_u8 (x y : Int) : 0 ≤ Go.bits .xor .u8 x y ∧ Go.bits .xor .u8 x y < 256 := by
  unfold Go.bits; simp only []; rw [IntKind.wrap_u8]; omega
theorem crcGo_take (l : List Int) (j : Nat) (h : j < l.length) (c : Int) : crcGo c (l.take (j + 1)) = Go.bits .xor .u32 (crcT (Go.bits .xor .u8 (crcGo c (l.take j) % 256) (rd l (j : Int))).toNat) (crcGo c (l.take j) / 256) := by
  have : l.take (j + 1) = l.take j ++ [rd l (j : Int)] := by
    rw [List.take_add_one]; congr 1; unfold rd; simp [h]
  rw [this, crcGo_app]
theorem tab_full : ∀ k i, i < k → k ≤ 256 → (tabA k)[i]? = some (.int .u32 (crcT i))
  | 0, i, h, _ => by omega
  | k + 1, i, h, hk => by
    rw [tabA_succ, Array.getElem?_setIfInBounds]
    by_cases e : k = i
    · subst e; rw [if_pos rfl, if_pos (by rw [tabA_size]; omega)]
    · rw [if_neg e]; exact tab_full k i (by omega) (by omega)
set_option maxHeartbeats 1000000 in
set_option maxRecDepth 100000 in
theorem impl_Crc32.calls (A0 : Option Addr) (c0 : Nat) (l0 : List Int) (r : Int) (w : World) (hr0 : Kd.C (Kd.int .u8) w A0 l0.length l0) (hc0 : l0.length ≤ c0) (h : impl_Crc32.f l0 = some r) :
    Calls Try.prog 25 #[.slice A0 l0.length c0] w fun e w' => e = .returned (.int .u32 r) ∧ Below w.heap.size w w' := by
  obtain ⟨hlen, rfl⟩ : l0.length < 4611686018427387904 ∧ Go.bits .xor .u32 4294967295 (crcGo 4294967295 l0) = r := by
    unfold impl_Crc32.f at h
    by_cases hl : l0.length < 4611686018427387904
    · rw [if_pos hl] at h; exact ⟨hl, Option.some.inj h⟩
    · rw [if_neg hl] at h; cases h
  clear h
  go_enter Try.func25, Try.ntmps25
  go_wp2_with fail
  refine (tab_any (tabA 256) rfl _).mono ?_
  rintro e w1 ⟨rfl, hb⟩
  have hi : (Try.prog.info? 90).map (·.size) = some (tabA 256).size := by rw [tabA_size]; exact info90
  have hone := tabA_one 256
  have hsz : Try.zeroCells90.size = (tabA 256).size := by rw [tabA_size]; kernel_rfl
  have hg0 := heap_alloc_new w1 (.cells Try.zeroCells90 90)
  go_wp2_with (first | (refine wpList_store_row rfl 90 (.tmp 3) (.tmp 7) rfl w1.heap.size (tabA 256) rfl rfl 90 Try.zeroCells90 hg0 hi hsz hone ?_))
  have hbb : Below w.heap.size w ((w1.alloc (Obj.cells Try.zeroCells90 90)).setRow w1.heap.size (tabA 256)) := below_setRow (below_alloc hb _) hb.size
  have hr1 := Kd.C_below hr0 hbb
  have hg1 := setRow_heap (w1.alloc (.cells Try.zeroCells90 90)) w1.heap.size Try.zeroCells90 (tabA 256) 90 (0, 0) hg0
  generalize (w1.alloc (Obj.cells Try.zeroCells90 90)).setRow w1.heap.size (tabA 256) = W at hg1 hr1 hbb ⊢
  generalize w1.heap.size = g at hg1 ⊢
  clear hg0 hsz hone hi hb
  go_loop [4, 10] (fun c i => ∃ j : Nat, j ≤ l0.length ∧ i = .int .i64 j ∧ c = .int .u32 (crcGo 4294967295 (l0.take j))) (fun _ i => l0.length - (intOf i).toNat)
  case atStart => exact ⟨0, by omega, rfl, by simp [crcGo]⟩
  case round =>
    obtain ⟨j, hj, rfl, rfl⟩ := hrel
    by_cases hlt : j < l0.length
    · obtain ⟨ad, rfl, hcell⟩ := Kd.at_int hr1 (j : Int) (by omega) (by omega)
      rw [Int.toNat_natCast] at hcell
      have hb8 := bits_u8 (crcGo 4294967295 (l0.take j) % 256) (rd l0 (j : Int))
      have hT := (cell_of_row W g (Go.bits .xor .u8 (crcGo 4294967295 (l0.take j) % 256) (rd l0 (j : Int))).toNat (tabA 256) 90 (0, 0) hg1).trans (tab_full 256 _ (by omega) (by omega))
      go_wp2
      go_round
      case rel => exact ⟨j + 1, by omega, by go_num, by rw [crcGo_take l0 j hlt]⟩
      case measure => simp [intOf]; omega
    · obtain rfl : j = l0.length := by omega
      rw [List.take_length]
      go_wp2
      go_ret
      exact ⟨rfl, hbb⟩
end Go.Proofs.Ytdknjbadnbangaa.Q

namespace Go.Proofs.Ytdknjbadnbangaa.Q
open Go.RowKit Go.Proofs.YtdknjbadnbangaaW.PrintWords Go.Proofs.YtdknjbadnbangaaW.PrintLast Go.Proofs.YtdknjbadnbangaaW.PrintMore
set_option linter.unusedVariables false
set_option linter.unusedSimpArgs false

set_option maxHeartbeats 8000000 in
set_option maxRecDepth 100000 in
theorem impl_appendNum.callsF (k : Nat) (P0_ : Nat → Prop) (u9000_ : Value) (l0 : List Int) (a1 : Int) (r : List Int) (w0 w : World) (hB : Below w0.heap.size w0 w) (ho0 : RF w w0.heap.size P0_ u9000_ l0) (h : impl_appendNum.f k l0 a1 = some r) :
  Calls Try.prog 89 #[u9000_, .int .u64 a1] w fun e w' => ∃ v0_ : Value, e = .returned (v0_) ∧ Kd.R (Kd.int .u8) 5 w' w0.heap.size (fun k_ => (P0_ k_ ∨ w.heap.size ≤ k_)) v0_ r ∧ Below w0.heap.size w0 w' ∧ Kept w w' (fun k_ => P0_ k_) := by
 have HO0 := Aside0.mk (show RF w w0.heap.size (fun k_ => (P0_ k_ ∨ w.heap.size ≤ k_)) u9000_ l0 from RF_mono ho0 (fun k_ hk => (.inl hk)))
 have HK := Aside0.mk (Kept.refl w (fun k_ => P0_ k_))
 have HW0 := Aside0.mk hB.size
 have HB := Aside0.mk hB
 clear hB
 have H : (impl_appendNum.l0 k l0 a1) = some r := h
 clear h
 have H' := Aside0.mk H
 clear H
 go_enter Try.func89, Try.ntmps89
 go_wp2
 go_loopg [0, 1] k (fun kq v0 v1 w' => ∃ (x0_1 : List Int) (x1_1 : Int), v1 = .int .u64 x1_1 ∧ Aside0 (impl_appendNum.l0 kq x0_1 x1_1 = some r) ∧ Aside0 (kq ≤ k) ∧ Aside0 (RF w' w0.heap.size (fun k_ => (P0_ k_ ∨ w.heap.size ≤ k_)) v0 x0_1) ∧ Aside0 (Kept w w' (fun k_ => P0_ k_)) ∧ Aside0 (Below w0.heap.size w0 w'))
 case atStart => exact ⟨(l0), (a1), (by first | rfl | (simp; done) | (simp [*]; done)), H', ⟨Nat.le_refl _⟩, ⟨by (with_reducible repeat (first | apply RF_alloc | apply RF_drewN | apply RF_drew)); exact HO0.out⟩, ⟨by repeat (first | (with_reducible first | exact HK.out | apply Kept.alloc | apply Kept.drewN | apply Kept.drew) | exact HK.out)⟩, ⟨bw⟩⟩
 case round =>
  clear H'
  try clear p2
  obtain ⟨x0_1, x1_1, rfl, HA, HK1, HO_0, HK, HB⟩ := hrel
  cases gk with
  | zero => exact absurd HA.out (by simp [impl_appendNum.l0])
  | succ k1 =>
   have H := HA.out
   clear HA
   simp only [impl_appendNum.l0] at H
   by_cases c3 : x1_1 ≥ 128
   ·rw [if_pos c3] at H
    have c3b0 : decide (128 ≤ x1_1) = true := decide_eq_true c3
    clear c3
    by_cases c4 : x0_1.length < 140737488355328
    ·rw [if_pos c4] at H
     have LMc4 := Aside0.mk c4
     clear c4
     obtain ⟨y710, hy710⟩ : ∃ y_ : List Int, y_ = (x0_1 ++ [Go.bits .or .u8 ((x1_1) % 256) 128]) := ⟨_, rfl⟩
     replace H : (impl_appendNum.l0 k1 y710 (x1_1 / 128)) = some r := by first | (rw [hy710]; with_reducible exact H) | (have H2_ := (Option.bind_some _ _).symm.trans H; rw [hy710]; with_reducible exact H2_) | (have H2_ := (Option.bind_some _ _).symm.trans H; with_reducible exact H2_) | with_reducible exact H | (rw [hy710]; exact H) | exact H
     have Ny710 := Aside0.mk hy710
     clear hy710
     have H' := Aside0.mk H
     clear H
     go_wp2_with (first | ((with_reducible refine gate_builtin (b := .append) (xs := #[.tmp 9, .tmp 13]) rfl ?_); at_builtin; refine RF_append (w0 := w0) w0.heap.size rfl (.tmp 9) (.tmp 13) 38 5 (.int .u8 0) 1 rfl Try.underlying38 info5 rfl (by decide) (by omega) u0 x0_1 (Go.bits .or .u8 ((x1_1) % 256) 128) [.int .u8 (Go.bits .or .u8 ((x1_1) % 256) 128)] (fun k_ => (P0_ k_ ∨ w.heap.size ≤ k_)) (fun _ => False) rfl rfl ?aP (fun _ hk => hk.elim) ?aF ?aO ?aB ?aS ?aL rfl rfl rfl ?_; (case aP => exact rfl); (case aB => exact bw); (case aF => exact (fun k_ hk => (.inr (Nat.le_trans (by first | exact HK.out.1 | exact (show Kept w _ (fun k_ => P0_ k_) from by repeat (first | (with_reducible first | exact HK.out | apply Kept.alloc | apply Kept.drewN | apply Kept.drew) | exact HK.out)).1) hk)))); (case aO => exact (by (with_reducible repeat (first | apply RF_alloc | apply RF_drewN | apply RF_drew)); exact HO_0.out)); (case aS => exact (below_size bw)); (case aL => have := LMc4.out; omega); intro v711 w5 ho hb hg hat; rw [← Ny710.out] at ho; have n0_ := Aside0.mk (hb); have n1_ := Aside0.mk (Kept.of_grown (S := (fun k_ => P0_ k_)) hg (by repeat (first | (with_reducible first | exact HK.out | apply Kept.alloc | apply Kept.drewN | apply Kept.drew) | exact HK.out)) (fun k_ e_ => (HO_0.out.own k_ e_))); have n2_ := Aside0.mk (ho); clear HB; clear HK; clear HO_0; have HB := n0_; have HK := n1_; have HO712 := n2_; clear n0_ n1_ n2_; clear ho hb hg hat))
     go_roundg k1
     case measure => have := HK1.out; omega
     case rel => exact ⟨(y710), (x1_1 / 128), (by first | rfl | (simp; done) | (simp [*]; done)), H', ⟨by have := HK1.out; omega⟩, ⟨RF.of_R (lf HO712)⟩, ⟨by repeat (first | (with_reducible first | exact HK.out | apply Kept.alloc | apply Kept.drewN | apply Kept.drew) | exact HK.out)⟩, ⟨bw⟩⟩
    ·rw [if_neg c4] at H
     exact absurd H (by simp)
   ·rw [if_neg c3] at H
    have c3b0 : decide (128 ≤ x1_1) = false := decide_eq_false c3
    clear c3
    by_cases c6 : x0_1.length < 140737488355328
    ·rw [if_pos c6] at H
     have LMc6 := Aside0.mk c6
     clear c6
     obtain ⟨y713, hy713⟩ : ∃ y_ : List Int, y_ = (x0_1 ++ [(x1_1) % 256]) := ⟨_, rfl⟩
     replace H : (some y713) = some r := by first | (rw [hy713]; with_reducible exact H) | (have H2_ := (Option.bind_some _ _).symm.trans H; rw [hy713]; with_reducible exact H2_) | (have H2_ := (Option.bind_some _ _).symm.trans H; with_reducible exact H2_) | with_reducible exact H | (rw [hy713]; exact H) | exact H
     have Ny713 := Aside0.mk hy713
     clear hy713
     obtain rfl := Option.some.inj H
     go_wp2_with (first | ((with_reducible refine gate_builtin (b := .append) (xs := #[.tmp 15, .tmp 18]) rfl ?_); at_builtin; refine RF_append (w0 := w0) w0.heap.size rfl (.tmp 15) (.tmp 18) 38 5 (.int .u8 0) 1 rfl Try.underlying38 info5 rfl (by decide) (by omega) u0 x0_1 ((x1_1) % 256) [.int .u8 ((x1_1) % 256)] (fun k_ => (P0_ k_ ∨ w.heap.size ≤ k_)) (fun _ => False) rfl rfl ?aP (fun _ hk => hk.elim) ?aF ?aO ?aB ?aS ?aL rfl rfl rfl ?_; (case aP => exact rfl); (case aB => exact bw); (case aF => exact (fun k_ hk => (.inr (Nat.le_trans (by first | exact HK.out.1 | exact (show Kept w _ (fun k_ => P0_ k_) from by repeat (first | (with_reducible first | exact HK.out | apply Kept.alloc | apply Kept.drewN | apply Kept.drew) | exact HK.out)).1) hk)))); (case aO => exact (by (with_reducible repeat (first | apply RF_alloc | apply RF_drewN | apply RF_drew)); exact HO_0.out)); (case aS => exact (below_size bw)); (case aL => have := LMc6.out; omega); intro v714 w7 ho hb hg hat; rw [← Ny713.out] at ho; have n0_ := Aside0.mk (hb); have n1_ := Aside0.mk (Kept.of_grown (S := (fun k_ => P0_ k_)) hg (by repeat (first | (with_reducible first | exact HK.out | apply Kept.alloc | apply Kept.drewN | apply Kept.drew) | exact HK.out)) (fun k_ e_ => (HO_0.out.own k_ e_))); have n2_ := Aside0.mk (ho); clear HB; clear HK; clear HO_0; have HB := n0_; have HK := n1_; have HO715 := n2_; clear n0_ n1_ n2_; clear ho hb hg hat))
     go_ret
     exact ⟨_, by first | rfl | (simp [errW_none, errW_some] <;> rfl) | (simp [*, errW_none, errW_some] <;> rfl), lf HO715, bw, by repeat (first | (with_reducible first | exact HK.out | apply Kept.alloc | apply Kept.drewN | apply Kept.drew) | exact HK.out)⟩
    ·rw [if_neg c6] at H
     exact absurd H (by simp)

end Go.Proofs.Ytdknjbadnbangaa.Q
