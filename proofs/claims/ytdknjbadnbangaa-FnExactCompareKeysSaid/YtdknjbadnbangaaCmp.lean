/- The order of keys: what the program's comparison and the reference's come to. No condition. -/
import Derived.Test.YtdknjbadnbangaaF27
import Derived.Test.YtdknjbadnbangaaF62
namespace Go.Proofs.Ytdknjbadnbangaa.Q
open Go.RowKit Go.Proofs.YtdknjbadnbangaaW.PrintWords Go.Proofs.YtdknjbadnbangaaW.PrintLast
set_option linter.unusedVariables false
/-- Strings, as -1, 0, 1. -/
def scmp (a b : ByteArray) : Int := if Op.bytesLess a.toList b.toList = true then -1 else if Op.bytesLess b.toList a.toList = true then 1 else 0
def fst0 (a b : Int) : Int := if a = 0 then b else a
/-- A marker stands before what is none. -/
def kcmp (a b : Int) : Int := if a = 2 then (if b = 2 then 0 else -1) else if b = 2 then 1 else 0
def tcmp (a b : Int) : Int := if a > b then -1 else if a < b then 1 else 0
/-- The order of keys. -/
def cmpK (r f q : ByteArray) (t k : Int) (r' f' q' : ByteArray) (t' k' : Int) : Int :=
  fst0 (scmp r r') (fst0 (scmp f f') (fst0 (scmp q q') (fst0 (kcmp k k') (tcmp t t'))))
theorem l1Str_is (a b : ByteArray) : spec_l1Str.f a b = some (scmp a b) := by
  unfold spec_l1Str.f scmp; repeat' (first | rfl | split)
theorem l1First_is (a b : Int) : spec_l1First.f a b = some (fst0 a b) := by unfold spec_l1First.f fst0; split <;> rfl
theorem strcmp_is (a b : ByteArray) : strings_Compare.f a b = some (scmp a b) := rfl
theorem j5_is (n : Nat) (x y : Int) (r f q : ByteArray) (t k : Int) (v r' f' q' : ByteArray) (t' k' : Int) (v' : ByteArray) :
    spec_CompareKeys.j5 (n + 1) x y r f q t k v r' f' q' t' k' v' = some (fst0 (scmp r r') (fst0 (scmp f f') (fst0 (scmp q q') (fst0 x y)))) := by
  simp only [spec_CompareKeys.j5, l1Str_is, l1First_is, Option.bind_some]
theorem spec_cmp_is (n : Nat) (r f q : ByteArray) (t k : Int) (v r' f' q' : ByteArray) (t' k' : Int) (v' : ByteArray) :
    spec_CompareKeys.f (n + 6) r f q t k v r' f' q' t' k' v' = some (cmpK r f q t k r' f' q' t' k') := by
  unfold spec_CompareKeys.f cmpK
  have e3 : ∀ x : Int, spec_CompareKeys.j3 (n + 3) x r f q t k v r' f' q' t' k' v' = some (fst0 (scmp r r') (fst0 (scmp f f') (fst0 (scmp q q') (fst0 x (tcmp t t'))))) := by
    intro x
    simp only [spec_CompareKeys.j3, spec_CompareKeys.j4, j5_is, tcmp]
    by_cases h1 : t > t'
    · have h2 : ¬ t < t' := by omega
      simp [h1, h2]
    · by_cases h2 : t < t' <;> simp [h1, h2]
  simp only [spec_CompareKeys.j0, spec_CompareKeys.j1, spec_CompareKeys.j2, e3, kcmp]
  by_cases h1 : k = 2 <;> by_cases h2 : k' = 2 <;> simp [h1, h2]
theorem or_is (n : Nat) (a b c d e : Int) : cmp_Or_int.f (n + 6) [a, b, c, d, e] = some (fst0 a (fst0 b (fst0 c (fst0 d e)))) := by
  unfold cmp_Or_int.f
  have w : ∀ i : Int, 0 ≤ i → i < 10 → wrap64 (i + 1) = i + 1 := fun i h0 h1 => by unfold wrap64; omega
  have l : (([a, b, c, d, e] : List Int).length : Int) = 5 := rfl
  rw [l]
  simp only [cmp_Or_int.l0, rd, l]
  rw [w 0 (by omega) (by omega)]; simp only [Int.zero_add]; rw [w 1 (by omega) (by omega), w (1 + 1) (by omega) (by omega), w (1 + 1 + 1) (by omega) (by omega), w (1 + 1 + 1 + 1) (by omega) (by omega)]
  simp only [fst0]
  by_cases ha : a = 0 <;> by_cases hb : b = 0 <;> by_cases hc : c = 0 <;> by_cases hd : d = 0 <;> by_cases he : e = 0 <;> simp [ha, hb, hc, hd, he]
theorem cmpint_is (a b : Int) : cmp_Compare_int.f a b = some (if a < b then -1 else if a > b then 1 else 0) := by
  unfold cmp_Compare_int.f cmp_isNaN_int.f
  simp only [Option.bind_some, bne_self_eq_false, Bool.false_eq_true, if_false]
  repeat' (first | rfl | split)
theorem cmpu64_is (a b : Int) : cmp_Compare_uint64.f a b = some (if a < b then -1 else if a > b then 1 else 0) := by
  unfold cmp_Compare_uint64.f cmp_isNaN_uint64.f
  simp only [Option.bind_some, bne_self_eq_false, Bool.false_eq_true, if_false]
  repeat' (first | rfl | split)
theorem impl_cmp_is (n : Nat) (r f q : ByteArray) (t k : Int) (v r' f' q' : ByteArray) (t' k' : Int) (v' : ByteArray) :
    impl_Entry_compare.f (n + 6) r f q t k v r' f' q' t' k' v' = some (cmpK r f q t k r' f' q' t' k') := by
  unfold impl_Entry_compare.f impl_Entry_marks.f
  have hm : ∀ x : Int, (if x = 2 then some 0 else some 1 : Option Int) = some (if x = 2 then 0 else 1) := fun x => by split <;> rfl
  simp only [strcmp_is, hm, cmpint_is, cmpu64_is, Option.bind_some, or_is]
  congr 1
  unfold cmpK
  have e1 : (if (if k = 2 then (0 : Int) else 1) < (if k' = 2 then 0 else 1) then (-1 : Int) else if (if k = 2 then (0 : Int) else 1) > (if k' = 2 then 0 else 1) then 1 else 0) = kcmp k k' := by
    unfold kcmp
    by_cases h1 : k = 2 <;> by_cases h2 : k' = 2 <;> simp [h1, h2]
  rw [e1]
  have e2 : (if t' < t then (-1 : Int) else if t' > t then 1 else 0) = tcmp t t' := by
    unfold tcmp
    rfl
  rw [e2]
end Go.Proofs.Ytdknjbadnbangaa.Q
