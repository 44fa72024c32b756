/- FnExactPrefixOf: the row of the law: its arguments opened, its walk, its statement over lists (PrFnExactPrefixOf). No condition. -/
import Derived.Test.YtimbggkjpdaenaaCFnExactPrefixOf1
import Derived.Deep.LoopGhost
import Derived.Deep.CutRange
import Derived.ArgAppend
import Derived.Shelf.Small.Strs
import Derived.Shelf.Strings.Search1
import Derived.Test.YtimbggkjpdaenaaProg
import Derived.Defers
import Derived.Recover
import Derived.RegionTactic
import Derived.ChangeAlike
import Derived.Test.YtimbggkjpdaenaaRows
import Derived.WalkKit
import Derived.ProofKit
import Derived.OpenShut
import Derived.ShutString
import Derived.ChangeOld
import Derived.Below
import Derived.SizedLaws

namespace Go.Proofs.Ytimbggkjpdaenaa.Q
open Go.RowKit Go.Proofs.YtimbggkjpdaenaaW.PrintWords Go.Proofs.YtimbggkjpdaenaaW.PrintLast
set_option linter.unusedVariables false
set_option linter.unusedSimpArgs false
attribute [local go_sem high] zero87
def setN (s : List Bool) (lo : Int) : Nat → List Bool
  | 0 => s
  | n + 1 => (setN s lo n).set (lo + n).toNat true
def setR (s : List Bool) (lo hi : Int) : List Bool := setN s lo (hi + 1 - lo).toNat
def clsF : Nat → ByteArray → Int → Bool → List Bool → Option (Except (Int × Int) (List Bool × Int))
  | 0, _, _, _, _ => none
  | k + 1, p, i, first, s =>
    if first = true ∨ i = p.size ∨ bt p i ≠ 93 then
      match chF p i with
      | .error x => some (.error x)
      | .ok (lo, j) =>
        if j < p.size ∧ bt p j = 45 then
          match chF p (j + 1) with
          | .error x => some (.error x)
          | .ok (hi, m) => if lo > hi then some (.error (4, i)) else clsF k p m false (setR s lo hi)
        else clsF k p j false (setR s lo lo)
    else some (.ok (s, i))
def notQ (p : ByteArray) (i : Int) : Bool := decide (i < p.size) && (bt p i == 94)
def notI (p : ByteArray) (i : Int) : Int := if notQ p i then i + 1 else i
def claF (k : Nat) (p : ByteArray) (i : Int) : Option (Except (Int × Int) (List Bool × Int)) :=
  (clsF k p (notI p i) true noB).map fun r => r.map fun x => (if notQ p i then x.1.map (!·) else x.1, x.2 + 1)
theorem setN_len (s : List Bool) (lo : Int) : ∀ n, (setN s lo n).length = s.length
  | 0 => rfl
  | n + 1 => by simp [setN, setN_len s lo n]
theorem chF_ok {p : ByteArray} {i c j : Int} (h : chF p i = .ok (c, j)) (h0 : 0 ≤ i) (h1 : i ≤ p.size) : 0 ≤ c ∧ c ≤ 255 ∧ i < j ∧ j ≤ p.size := by
  unfold chF at h
  have r0 := bt_range p i
  have r1 := bt_range p (i + 1)
  split at h
  · split at h
    · cases h
    · cases h; omega
  · split at h
    · cases h
    · cases h; omega
theorem noB_len : noB.length = 256 := by unfold noB; exact List.length_replicate
theorem lt_of_some {w : World} {g : Nat} {b : Obj} (h : w.heap[g]? = some b) : g < w.heap.size := (Array.getElem?_eq_some_iff.mp h).1
theorem st_far {w : World} {g x j : Nat} {v : Value} {p : ByteArray} {i o : Int} (h : St w g p i o) (hx : g ≠ x) : St (w.setCell ⟨x, j, none⟩ v) g p i o := blk_far h hx v
/-- The row of a class under way. -/
def Row (w : World) (x : Nat) (s : List Bool) : Prop := w.heap[x]? = some (.cells (oneA s 0 false) 87 (0, 0))
def cndB (n : Int) (p : ByteArray) (i : Int) : Bool := decide (n = 0) || (decide (i = p.size) || decide (bt p i ≠ 93))
theorem cndB_iff (n : Int) (p : ByteArray) (i : Int) : (cndB n p i = true) ↔ (decide (n = 0) = true ∨ i = p.size ∨ bt p i ≠ 93) := by unfold cndB; simp
theorem Row.cell {w : World} {x : Nat} {s : List Bool} (h : Row w x s) (hl : s.length = 256) (j : Nat) (hj : j < 256) : w.cell? ⟨x, j, none⟩ = some (.bool (s.getD j false)) := by
  unfold World.cell?; rw [h]; simp [oneA_at s 0 false hl j hj]
theorem Row.fr {w : World} {x : Nat} {s : List Bool} (h : Row w x s) (j : Nat) : w.frozen? ⟨x, j, none⟩ = false := by
  unfold World.frozen?; rw [h]; simp
theorem Row.set {w : World} {x : Nat} {s : List Bool} (h : Row w x s) (hl : s.length = 256) (j : Nat) (hj : j < 256) (b : Bool) : Row (w.setCell ⟨x, j, none⟩ (.bool b)) x (s.set j b) := by
  have := bk_put (j := j) h (.bool b)
  rwa [oneA_set s 0 false hl j hj b] at this
theorem Row.far {w : World} {g x j : Nat} {v : Value} {s : List Bool} (h : Row w x s) (hx : x ≠ g) : Row (w.setCell ⟨g, j, none⟩ v) x s := blk_far h hx v
theorem Row.drewN {w : World} {x : Nat} {s : List Bool} (h : Row w x s) (n : Nat) : Row (w.drewN n) x s := blk_drewN h n
theorem Row.of {w w' : World} {g x : Nat} {s : List Bool} (h : Row w x s) (hb : Bx w.heap.size g w w') (hx : x ≠ g) : Row w' x s := by
  unfold Row at *; rw [hb.block x (lt_of_some h) hx]; exact h
def invTo (k : Nat) (s : List Bool) : List Bool := (s.take k).map (!·) ++ s.drop k
theorem invTo_succ (k : Nat) (s : List Bool) (h : k < s.length) : (invTo k s).set k (!(s.getD k false)) = invTo (k + 1) s := by
  apply List.ext_getElem?
  intro j
  unfold invTo
  rw [List.getElem?_set]
  by_cases e : k = j
  · subst e
    have hl : k < ((s.take k).map (!·) ++ s.drop k).length := by simp; omega
    rw [if_pos rfl, if_pos hl, List.getElem?_append_left (by simp; omega)]
    simp [List.getElem?_take, h]
  · rw [if_neg e]
    by_cases e2 : j < k
    · rw [List.getElem?_append_left (by simp; omega), List.getElem?_append_left (by simp; omega)]
      simp [List.getElem?_take, e2, show j < k + 1 by omega]
    · rw [List.getElem?_append_right (by simp; omega), List.getElem?_append_right (by simp; omega)]
      simp
      congr 1; omega
theorem invTo_get (k : Nat) (s : List Bool) (h : k < s.length) : (invTo k s).getD k false = s.getD k false := by
  unfold invTo
  simp only [List.getD_eq_getElem?_getD]
  rw [List.getElem?_append_right (by simp; omega)]
  simp [Nat.min_eq_left (Nat.le_of_lt h)]
theorem invTo_len (k : Nat) (s : List Bool) : (invTo k s).length = s.length := by unfold invTo; simp; omega
theorem invTo_all (s : List Bool) : invTo s.length s = s.map (!·) := by unfold invTo; simp
theorem bt_end (p : ByteArray) : bt p (p.size : Int) = 0 := by unfold bt; rw [dif_neg (by omega)]
def dshB (p : ByteArray) (i : Int) : Bool := decide (i < p.size) && (bt p i == 45)
theorem claF_err {k : Nat} {p : ByteArray} {i : Int} {r : Except (Int × Int) (List Bool × Int)} (h : claF k p i = some r) : ∃ q, clsF k p (notI p i) true noB = some q ∧ q.map (fun x => (if notQ p i then x.1.map (!·) else x.1, x.2 + 1)) = r := by
  unfold claF at h
  cases e : clsF k p (notI p i) true noB with
  | none => rw [e] at h; cases h
  | some q => rw [e] at h; exact ⟨q, rfl, Option.some.inj h⟩
set_option maxHeartbeats 4000000 in
set_option maxRecDepth 100000 in
theorem class_calls (k : Nat) (g : Nat) (p : ByteArray) (i o : Int) (w : World) (hs : St w g p i o) (h0 : 0 ≤ i) (h1 : i ≤ p.size) (hp : p.size ≤ 200) (r : Except (Int × Int) (List Bool × Int)) (h : claF k p i = some r) :
    Calls Try.prog 54 #[.pointer (some ⟨g, 0, none⟩)] w fun e w' => RP r (fun x => e = .returned (.iface 87 (.agg (oneA x.1 0 false))) ∧ St w' g p x.2 o ∧ Bx w.heap.size g w w') (fun c a => e = .panicked (flt c a) ∧ Bx w.heap.size g w w') := by
  have c0 := hs.c0
  have c1 := hs.c1
  have f1 := hs.fr 1
  have hgl : g < w.heap.size := lt_of_some hs
  have kr : K0 (Bx w.heap.size g w w) := ⟨Bx.refl _ _ _⟩
  have HS := Aside0.mk hs
  have H := Aside0.mk h
  clear hs h
  go_enter Try.func54, Try.ntmps54
  go_upto_region 2 with (fail)
  have hst : St (w.alloc (.cells (oneA noB 0 false) 87)) g p i o := stt HS
  have hrow : Row (w.alloc (.cells (oneA noB 0 false) 87)) w.heap.size noB := heap_alloc_new _ _
  have hbx : Bx w.heap.size g w (w.alloc (.cells (oneA noB 0 false) 87)) := kk
  have c0 := hst.c0
  have c1 := hst.c1
  have f1 := hst.fr 1
  generalize w.alloc (.cells (oneA noB 0 false) 87) = wa at *
  go_cut [4] (fun v4 wc => v4 = .bool (notQ p i) ∧ ∃ m, wc = wa.drewN m)
  case first =>
    by_cases hlt : i < p.size
    · have d1 : decide (i < (p.size : Int)) = true := decide_eq_true hlt
      have hx := bt_at p i
      cases hb : bt p i == 94
      · have hn : notQ p i = false := by unfold notQ; rw [hb]; simp
        go_quiet (fail)
        go_wp2
        go_meet
        case rel => exact ⟨by rw [hn], _, rfl⟩
      · have hn : notQ p i = true := by unfold notQ; rw [hb, d1]; rfl
        go_quiet (fail)
        go_wp2
        go_meet
        case rel => exact ⟨by rw [hn], _, rfl⟩
    · have d1 : decide (i < (p.size : Int)) = false := decide_eq_false hlt
      have hn : notQ p i = false := by unfold notQ; rw [d1]; rfl
      go_quiet (fail)
      go_wp2
      go_meet
      case rel => exact ⟨by rw [hn], _, rfl⟩
  case rest =>
    obtain ⟨rfl, m, rfl⟩ := hcut
    obtain ⟨q, hq, hqr⟩ := claF_err H.out
    have HQ := Aside0.mk hq
    have HR := Aside0.mk hqr
    clear hq hqr H
    generalize hnt : notQ p i = nt at HR ⊢
    have HNT := Aside0.mk hnt
    clear hnt
    clear c0 c1 f1
    have c0 := hst.c0
    have c1 := hst.c1
    have f1 := hst.fr 1
    have HST := Aside0.mk hst
    have HROW := Aside0.mk hrow
    have ka : K0 (Bx w.heap.size g w wa) := ⟨hbx⟩
    clear hst hrow hbx
    have hgx : w.heap.size ≠ g := by omega
    have HGX := Aside0.mk hgx
    clear hgx
    have hni : 0 ≤ notI p i ∧ notI p i ≤ p.size := by
      unfold notI; split
      · rename_i hh; unfold notQ at hh; simp at hh; omega
      · omega
    have HNI := Aside0.mk hni
    clear hni
    go_upto_if 33 with (fail)
    go_cut [] (fun wc => Aside0 (St wc g p (notI p i) o) ∧ Aside0 (Row wc w.heap.size noB) ∧ Aside0 (Bx w.heap.size g w wc))
    case first =>
      cases nt
      · have e : notI p i = i := by unfold notI; rw [HNT.out]; rfl
        have E := Aside0.mk e
        clear e
        go_wp2
        go_meet
        case rel => exact ⟨⟨by rw [E.out]; exact stt HST⟩, ⟨HROW.out.drewN _⟩, ⟨kk⟩⟩
      · have e : notI p i = i + 1 := by unfold notI; rw [HNT.out]; rfl
        have hlt : i < p.size := by have hb := HNT.out; unfold notQ at hb; simp at hb; omega
        have E := Aside0.mk e
        clear e
        go_wp2
        go_meet
        case rel => exact ⟨⟨by rw [E.out]; exact stt HST⟩, ⟨(HROW.out.drewN _).far HGX.out⟩, ⟨kk⟩⟩
    case rest =>
      obtain ⟨HST2, HROW2, HB2⟩ := hcut
      clear c0 c1 f1 ka HST HROW
      go_upto_region 6 with (fail)
      go_loopg [5] k (fun kq v5 W => ∃ (n j : Int) (s : List Bool), v5 = .int .i64 n ∧ Aside0 (clsF kq p j (decide (n = 0)) s = some q) ∧ Aside0 (kq ≤ k) ∧ Aside0 (0 ≤ n ∧ n ≤ j ∧ 0 ≤ j ∧ j ≤ p.size ∧ s.length = 256) ∧ Aside0 (St W g p j o) ∧ Aside0 (Row W w.heap.size s) ∧ Aside0 (Bx w.heap.size g w W))
      case atStart => exact ⟨0, notI p i, noB, rfl, HQ, ⟨Nat.le_refl _⟩, ⟨by omega, HNI.out.1, HNI.out.1, HNI.out.2, noB_len⟩, HST2, HROW2, HB2⟩
      case round =>
        clear HST2 HROW2 HB2 HQ
        obtain ⟨n, j, s, rfl, HA, HK, HN, HST, HROW, HB⟩ := hrel
        cases gk with
        | zero => exact absurd HA.out (by simp [clsF])
        | succ k1 =>
        have c0 := HST.out.c0
        have c1 := HST.out.c1
        have f1 := HST.out.fr 1
        have n0 := HN.out.1
        have n1 := HN.out.2.1
        have j0 := HN.out.2.2.1
        have j1 := HN.out.2.2.2.1
        have kw : K0 (Bx w.heap.size g w wr) := ⟨HB.out⟩
        go_upto_region 6 with (fail)
        go_cut [66] (fun v66 wc => v66 = .bool (cndB n p j) ∧ ∃ m, wc = wr.drewN m)
        case first =>
          by_cases e1 : n = 0
          · have hc : cndB n p j = true := by unfold cndB; rw [decide_eq_true e1]; rfl
            have d1 : (n == 0) = true := beq_iff_eq.mpr e1
            have HC := Aside0.mk hc
            clear hc e1
            go_quiet (fail)
            go_wp2
            go_meet
            case rel => exact ⟨by rw [HC.out], _, rfl⟩
          · have d1 : (n == 0) = false := beq_eq_false_iff_ne.mpr e1
            by_cases e2 : j = p.size
            · have hc : cndB n p j = true := by unfold cndB; rw [decide_eq_true e2]; simp
              have d2 : (j == (p.size : Int)) = true := beq_iff_eq.mpr e2
              have HC := Aside0.mk hc
              clear hc e1 e2
              go_quiet (fail)
              go_wp2
              go_meet
              case rel => exact ⟨by rw [HC.out], _, rfl⟩
            · have d2 : (j == (p.size : Int)) = false := beq_eq_false_iff_ne.mpr e2
              have j2 : j < p.size := by omega
              have hx := bt_at p j
              have hc : cndB n p j = (bt p j != 93) := by
                unfold cndB; rw [decide_eq_false e1, decide_eq_false e2]
                by_cases e3 : bt p j = 93 <;> simp [e3]
              have HC := Aside0.mk hc
              clear hc e1 e2
              go_quiet (fail)
              go_wp2
              go_meet
              case rel => exact ⟨by rw [HC.out], _, rfl⟩
        case rest =>
          obtain ⟨rfl, m, rfl⟩ := hcut
          have hA := HA.out
          simp only [clsF, ← cndB_iff] at hA
          generalize hcb : cndB n p j = cb at hA ⊢
          have HCB := Aside0.mk hcb
          clear hcb
          cases cb
          · obtain rfl := Option.some.inj hA
            have hj : j < p.size := by
              have := HCB.out
              unfold cndB at this
              simp at this; omega
            have hr := HR.out
            simp only [Except.map] at hr
            subst hr
            have hsl := HN.out.2.2.2.2
            have HSL := Aside0.mk hsl
            have HST1 := Aside0.mk (st_drewN (n := m) HST.out)
            have HROW1 := Aside0.mk (HROW.out.drewN m)
            have hb1 : Bx w.heap.size g w (wr.drewN m) := kk
            have HCB2 := HCB
            clear hsl HA HN HST HROW HB kw hA HCB HK n1
            generalize wr.drewN m = wx at *
            have kw : K0 (Bx w.heap.size g w wx) := ⟨hb1⟩
            have c0 := HST1.out.c0
            have c1 := HST1.out.c1
            have f1 := HST1.out.fr 1
            clear hb1
            go_upto_if 131 with (fail)
            go_cut [] (fun wc => Aside0 (St wc g p (j + 1) o) ∧ Aside0 (Row wc w.heap.size (if nt = true then s.map (!·) else s)) ∧ Aside0 (Bx w.heap.size g w wc))
            case first =>
              have hs2 : St (wx.setCell ⟨g, 1, none⟩ (.int .i64 (j + 1))) g p (j + 1) o := stt HST1
              have hr2 : Row (wx.setCell ⟨g, 1, none⟩ (.int .i64 (j + 1))) w.heap.size s := HROW1.out.far HGX.out
              have hx2 : Bx w.heap.size g w (wx.setCell ⟨g, 1, none⟩ (.int .i64 (j + 1))) := kk
              have HS2 := Aside0.mk hs2
              have HR2 := Aside0.mk hr2
              have HX2 := Aside0.mk hx2
              clear hs2 hr2 hx2 c0 c1 f1 kw HST1 HROW1
              cases nt
              · go_wp2
                go_meet
                case rel => exact ⟨HS2, HR2, HX2⟩
              · go_upto_region 23 with (fail)
                generalize wx.setCell ⟨g, 1, none⟩ (.int .i64 (j + 1)) = wy at *
                go_loopg [132] 256 (fun kq v W => ∃ b : Nat, v = .int .i64 b ∧ Aside0 (b + kq = 256) ∧ Aside0 (St W g p (j + 1) o) ∧ Aside0 (Row W w.heap.size (invTo b s)) ∧ Aside0 (Bx w.heap.size g w W))
                case atStart => exact ⟨0, rfl, ⟨rfl⟩, HS2, ⟨by unfold invTo; simpa using HR2.out⟩, HX2⟩
                case round =>
                  clear HS2 HR2 HX2
                  obtain ⟨b, rfl, HE, HST, HROW, HB⟩ := hrel
                  have kb : K0 (Bx w.heap.size g w wr) := ⟨HB.out⟩
                  have hl2 : (invTo b s).length = 256 := by rw [invTo_len]; exact HSL.out
                  have HL2 := Aside0.mk hl2
                  clear hl2
                  cases gk with
                  | zero =>
                    obtain rfl : b = 256 := by have := HE.out; omega
                    go_wp2
                    go_meet
                    case rel => exact ⟨HST, ⟨by have e := invTo_all s; rw [HSL.out] at e; have h := HROW.out; rw [e] at h; simpa using h⟩, HB⟩
                  | succ kq =>
                    have hb : b < 256 := by have := HE.out; omega
                    have hcl := HROW.out.cell HL2.out b hb
                    have e0 : (invTo b s).getD b false = s.getD b false := invTo_get b s (by rw [HSL.out]; exact hb)
                    rw [e0] at hcl
                    have hfr := HROW.out.fr b
                    have kx : K0 (w.heap.size ≤ w.heap.size) := ⟨Nat.le_refl _⟩
                    have hset := HROW.out.set HL2.out b hb (!(s.getD b false))
                    rw [invTo_succ b s (by rw [HSL.out]; exact hb)] at hset
                    have HSET := Aside0.mk hset
                    clear e0 hset
                    generalize s.getD b false = sb at *
                    go_wp2
                    go_roundg kq
                    case measure => omega
                    case rel => exact ⟨b + 1, by go_num, ⟨by have := HE.out; omega⟩, ⟨st_far HST.out (Ne.symm HGX.out)⟩, HSET, ⟨kk⟩⟩
            case rest =>
              obtain ⟨HST, HROW, HB⟩ := hcut
              have hsz : (Try.prog.info? 87).map (·.size) = some (oneA (if nt = true then s.map (!·) else s) 0 false).size := by
                rw [oneA_size _ _ _ (by split <;> simp [HSL.out])]; exact info87
              have HSZ := Aside0.mk hsz
              clear hsz
              go_wp2_with (refine wpList_load_row rfl 87 (.tmp 3) rfl w.heap.size rfl 87 (oneA (if nt = true then s.map (!·) else s) 0 false) (0, 0) _ HROW.out Try.underlying87 rfl HSZ.out ?_)
              all_goals (go_ret; exact ⟨rfl, HST.out, HB.out⟩)
          · rw [if_pos rfl] at hA
            have HA' := Aside0.mk hA
            clear hA
            go_wp2_with fail
            go_at_call 57
            refine (ch_calls g p j o _ (stt HST) j0 j1 hp).mono ?_
            rintro e w1 hch
            clear c0 c1 f1
            cases hc : chF p j with
            | error x =>
              obtain ⟨c, a⟩ := x
              rw [hc] at hch
              obtain ⟨rfl, hb1⟩ := hch
              have hA := HA'.out
              rw [hc] at hA
              obtain rfl := Option.some.inj hA
              have hr := HR.out
              simp only [Except.map] at hr
              subst hr
              exact ⟨rfl, rfl, (HB.out.trans (Bx.of (pw_below_drewN (Below.refl _ _) _))).trans (hb1.lower (HB.out.size))⟩
            | ok x =>
              obtain ⟨lo, m1⟩ := x
              rw [hc] at hch
              obtain ⟨rfl, hs1, hb1⟩ := hch
              have hA := HA'.out
              rw [hc] at hA
              simp only [] at hA
              have HA2 := Aside0.mk hA
              clear hA HA'
              obtain ⟨l0, l1, m0, m2⟩ := chF_ok hc j0 j1
              have HS1 := Aside0.mk hs1
              have hx1 : Bx w.heap.size g w w1 := (HB.out.trans (Bx.of (pw_below_drewN (Below.refl _ _) _))).trans (hb1.lower (HB.out.size))
              have HROW1 := Aside0.mk (Row.of (HROW.out.drewN _) hb1 HGX.out)
              have c0 := hs1.c0
              have c1 := hs1.c1
              have f1 := hs1.fr 1
              have k1w : K0 (Bx w.heap.size g w w1) := ⟨hx1⟩
              have HN0 := HN.out
              clear hb1 hx1 hc hs1 HST HROW HB kw
              go_upto_region 11 with (fail)
              go_cut [97] (fun v97 wc => v97 = .bool (dshB p m1) ∧ ∃ m, wc = w1.drewN m)
              case first =>
                by_cases e1 : m1 < p.size
                · have d1 : decide (m1 < (p.size : Int)) = true := decide_eq_true e1
                  have hx := bt_at p m1
                  have hc : dshB p m1 = (bt p m1 == 45) := by unfold dshB; rw [d1]; rfl
                  have HC := Aside0.mk hc
                  clear hc
                  have mm : 0 ≤ m1 := by omega
                  go_quiet (fail)
                  go_wp2
                  go_meet
                  case rel => exact ⟨by rw [HC.out], _, rfl⟩
                · have d1 : decide (m1 < (p.size : Int)) = false := decide_eq_false e1
                  have hc : dshB p m1 = false := by unfold dshB; rw [d1]; rfl
                  have HC := Aside0.mk hc
                  clear hc
                  go_quiet (fail)
                  go_wp2
                  go_meet
                  case rel => exact ⟨by rw [HC.out], _, rfl⟩
              case rest =>
                obtain ⟨rfl, m, rfl⟩ := hcut
                have hA := HA2.out
                have hd : (m1 < p.size ∧ bt p m1 = 45) ↔ dshB p m1 = true := by unfold dshB; simp
                simp only [hd] at hA
                generalize hdb : dshB p m1 = db at hA hd ⊢
                have HD := Aside0.mk hd
                have HA3 := Aside0.mk hA
                clear hdb hd hA HA2
                go_upto_if 97 with (fail)
                go_cut [8] (fun v8 wc => ∃ hi m3 : Int, v8 = .int .u8 hi ∧ Aside0 (0 ≤ hi ∧ hi ≤ 255 ∧ m1 ≤ m3 ∧ m3 ≤ p.size) ∧ Aside0 (St wc g p m3 o) ∧ Aside0 (Row wc w.heap.size s) ∧ Aside0 (Bx w.heap.size g w wc) ∧ Aside0 ((if lo > hi then some (.error (4, j)) else clsF k1 p m3 false (setR s lo hi)) = some q))
                case first =>
                  cases db
                  · go_wp2
                    go_meet
                    case rel =>
                      have hA := HA3.out
                      rw [if_neg (by simp)] at hA
                      exact ⟨lo, m1, rfl, ⟨by omega, by omega, by omega, m2⟩, ⟨stt HS1⟩, ⟨HROW1.out.drewN _⟩, ⟨kk⟩, ⟨by rw [if_neg (by omega)]; exact hA⟩⟩
                  · have hA := HA3.out
                    rw [if_pos rfl] at hA
                    have HA4 := Aside0.mk hA
                    have e1 : m1 < p.size := (HD.out.mpr rfl).1
                    have e2 : 0 ≤ m1 + 1 := by omega
                    have e3 : m1 + 1 ≤ p.size := by omega
                    clear hA HA3
                    go_wp2_with fail
                    go_at_call 57
                    refine (ch_calls g p (m1 + 1) o _ (stt HS1) e2 e3 hp).mono ?_
                    rintro e w2 hch
                    have hx2 : Bx w.heap.size g w (((w1.drewN m).setCell ⟨g, 1, none⟩ (.int .i64 (m1 + 1)))) := kk
                    have hr2 : Row ((w1.drewN m).setCell ⟨g, 1, none⟩ (.int .i64 (m1 + 1))) w.heap.size s := (HROW1.out.drewN _).far HGX.out
                    cases hc : chF p (m1 + 1) with
                    | error x =>
                      obtain ⟨c, a⟩ := x
                      rw [hc] at hch
                      obtain ⟨rfl, hb1⟩ := hch
                      have hA := HA4.out
                      rw [hc] at hA
                      obtain rfl := Option.some.inj hA
                      have hr := HR.out
                      simp only [Except.map] at hr
                      subst hr
                      exact ⟨rfl, rfl, hx2.trans (hb1.lower hx2.size)⟩
                    | ok x =>
                      obtain ⟨hi, m3⟩ := x
                      rw [hc] at hch
                      obtain ⟨rfl, hs2, hb1⟩ := hch
                      have hA := HA4.out
                      rw [hc] at hA
                      simp only [] at hA
                      obtain ⟨q0, q1, q2, q3⟩ := chF_ok hc e2 e3
                      have hx3 := hx2.trans (hb1.lower hx2.size)
                      have hr3 := Row.of hr2 hb1 HGX.out
                      have HF := Aside0.mk (And.intro hs2 (And.intro hr3 (And.intro hx3 hA)))
                      clear hs2 hr3 hx3 hr2 hx2 hb1 hA hc
                      go_wp2
                      go_meet
                      case rel => exact ⟨hi, m3, rfl, ⟨q0, q1, by omega, q3⟩, ⟨HF.out.1⟩, ⟨HF.out.2.1⟩, ⟨HF.out.2.2.1⟩, ⟨HF.out.2.2.2⟩⟩
                case rest =>
                  obtain ⟨hi, m3, rfl, HHI, HST, HROW, HB, HA⟩ := hcut
                  clear c0 c1 f1 HA3 HS1 HROW1 k1w
                  have q0 := HHI.out.1
                  have q1 := HHI.out.2.1
                  have hA := HA.out
                  by_cases hlh : lo > hi
                  · rw [if_pos hlh] at hA
                    obtain rfl := Option.some.inj hA
                    have hr := HR.out
                    simp only [Except.map] at hr
                    subst hr
                    have d1 : decide (hi < lo) = true := decide_eq_true hlh
                    go_wp2_with fail
                    go_at_call 38
                    refine (fail_calls _ _ _ _).mono ?_
                    rintro e w' ⟨rfl, rfl⟩
                    exact ⟨rfl, rfl, HB.out⟩
                  · rw [if_neg hlh] at hA
                    have HA5 := Aside0.mk hA
                    have d1 : decide (hi < lo) = false := decide_eq_false hlh
                    clear hA HA
                    go_upto_region 17 with (fail)
                    have hln := HN0.2.2.2.2
                    have HLN := Aside0.mk hln
                    have HLE := Aside0.mk HN0
                    clear hln HN0
                    go_loopg [9] ((hi + 1 - lo).toNat) (fun kq v9 W => ∃ b : Int, v9 = .int .i64 b ∧ Aside0 (lo ≤ b ∧ b + kq = hi + 1) ∧ Aside0 (St W g p m3 o) ∧ Aside0 (Row W w.heap.size (setN s lo (b - lo).toNat)) ∧ Aside0 (Bx w.heap.size g w W))
                    case atStart => exact ⟨lo, rfl, ⟨by omega, by omega⟩, HST, ⟨by rw [Int.sub_self]; exact HROW.out⟩, HB⟩
                    case round =>
                      clear HST HROW HB
                      obtain ⟨b, rfl, HE, HST, HROW, HB⟩ := hrel
                      have kb : K0 (Bx w.heap.size g w wr) := ⟨HB.out⟩
                      cases gk with
                      | zero =>
                        have d2 : decide (b ≤ hi) = false := decide_eq_false (by have := HE.out; omega)
                        have hb : (b - lo).toNat = (hi + 1 - lo).toNat := by have := HE.out; omega
                        have hrw := HROW.out
                        rw [hb] at hrw
                        have HROW2 := Aside0.mk hrw
                        have hb0 : 0 ≤ b := by have := HE.out; omega
                        have hb1 : b ≤ 256 := by have := HE.out; omega
                        have hn2 : n ≤ 200 := by omega
                        clear hb hrw
                        go_wp2
                        go_roundg k1
                        case measure => omega
                        case rel => exact ⟨n + 1, m3, setR s lo hi, rfl, ⟨by rw [decide_eq_false (by omega)]; exact HA5.out⟩, ⟨by have := HK.out; omega⟩, ⟨by have := HHI.out; have := HLE.out; exact ⟨by omega, by omega, by omega, by omega, by unfold setR; rw [setN_len]; exact HLN.out⟩⟩, HST, HROW2, HB⟩
                      | succ kq =>
                        have d2 : decide (b ≤ hi) = true := decide_eq_true (by have := HE.out; omega)
                        have hb0 : 0 ≤ b := by have := HE.out; omega
                        have hb1 : b < 256 := by have := HE.out; omega
                        have hl2 : (setN s lo (b - lo).toNat).length = 256 := by rw [setN_len]; exact HLN.out
                        have hb2 : b.toNat < 256 := by omega
                        have hcl := HROW.out.cell hl2 b.toNat hb2
                        have hfr := HROW.out.fr b.toNat
                        have kx : K0 (w.heap.size ≤ w.heap.size) := ⟨Nat.le_refl _⟩
                        have hset := HROW.out.set hl2 b.toNat hb2 true
                        have e : (setN s lo (b - lo).toNat).set b.toNat true = setN s lo (b + 1 - lo).toNat := by
                          have := HE.out
                          rw [show (b + 1 - lo).toNat = (b - lo).toNat + 1 by omega]
                          show _ = (setN s lo (b - lo).toNat).set (lo + ((b - lo).toNat : Int)).toNat true
                          rw [show (lo + ((b - lo).toNat : Int)).toNat = b.toNat by omega]
                        rw [e] at hset
                        have HSET := Aside0.mk hset
                        clear e hset hl2
                        go_wp2
                        go_roundg kq
                        case measure => omega
                        case rel => exact ⟨b + 1, rfl, ⟨by have := HE.out; omega, by have := HE.out; omega⟩, ⟨st_far HST.out (Ne.symm HGX.out)⟩, HSET, ⟨kk⟩⟩
end Go.Proofs.Ytimbggkjpdaenaa.Q

namespace Go.Proofs.Ytimbggkjpdaenaa.Q
open Go.RowKit Go.Proofs.YtimbggkjpdaenaaW.PrintWords Go.Proofs.YtimbggkjpdaenaaW.PrintLast
theorem own_lower {w : World} {b b' : Nat} {e : TypeId} {size n : Nat} {v : Value} {xs : List Value} (h : w.ownsRow b e size v n xs) (hb : b' ≤ b) : w.ownsRow b' e size v n xs := by
  refine ⟨h.1, ?_⟩
  rcases h.2 with hn | ⟨g, cap, cur, rfl, hg, r⟩
  · exact .inl hn
  · exact .inr ⟨g, cap, cur, rfl, by omega, r⟩
section
variable {P : Program} {w : World}
theorem append_at (base : Nat) (t ty e : TypeId) (i : TypeInfo) (z : Value) (size bytes : Nat) (ht : P.underlying t = some (.slice e)) (hi : P.info? e = some i) (hz : i.zero = some z)
    (hsize : i.size = size) (hby : i.bytes = bytes) (hzs : z.cells.size = size) (hsz : 0 < size)
    (v : Value) (n : Nat) (xs : List Value) (hown : w.ownsRow base e size v n xs)
    (a : Addr) (m c : Nat) (news : List Value) (hl : news.length = m * size) (hnews : ∀ j u, news[j]? = some u → w.cell? (a.add j) = some u) (h1 : ∀ u ∈ news, u.oneCell' = true)
    (h63 : n + m ≤ maxLen) (hbytes : (n + m) * bytes ≤ 140737488355328) (hbase : base ≤ w.heap.size) :
    ∃ v' w', (Builtin.append_ #[t, t] ty #[v, .slice (some a) m c]).run P w = .ok v' w' ∧ w'.ownsRow base e size v' (n + m) (xs ++ news) ∧ w.grownBy w' v.ownBlock ∧ (∀ k, v'.ownBlock = some k → v.ownBlock = some k ∨ w.heap.size ≤ k) := by
  obtain ⟨v', w', hr, h2, h3, -⟩ := run_append_own (P := P) w base t ty e i z size bytes ht hi hz hsize hby hzs hsz v n xs hown a m c news hl hnews h1 h63 hbytes hbase
  refine ⟨v', w', hr, h2, h3, ?_⟩
  rcases hown.2 with ⟨rfl, rfl⟩ | ⟨g, cap, cur, rfl, hbg, hg, hnc, hcm, hcs, htake⟩
  · obtain rfl : xs = [] := List.eq_nil_of_length_eq_zero (by simpa using hown.1)
    obtain ⟨v2, w2, hr2, h4, -, -⟩ := run_append_own (P := P) w w.heap.size t ty e i z size bytes ht hi hz hsize hby hzs hsz (.slice none 0 0) 0 [] (World.ownsRow_nil w _ e size) a m c news hl hnews h1 h63 hbytes (Nat.le_refl _)
    rw [hr] at hr2
    cases hr2
    exact fun k hk => .inr (h4.lt k hk).1
  · by_cases hroom : n + m ≤ cap
    · subst hsize
      have hr2 := run_append_room (P := P) w t ty e i ht hi g n cap cur hg a m c news hl hnews h1 hroom (by rw [hcs, hl, ← Nat.add_mul]; exact Nat.mul_le_mul_right _ hroom)
      rw [hr] at hr2
      cases hr2
      exact fun k hk => .inl hk
    · have holds : ∀ j u, xs[j]? = some u → w.cell? ((⟨g, 0, none⟩ : Addr).add j) = some u := hown.cells (g := g) rfl
      obtain ⟨v2, w2, hr2, h4, -⟩ := run_append_arg_grows (P := P) w t ty e i z size bytes ht hi hz hsize hby hzs hsz ⟨g, 0, none⟩ n cap xs hown.1 holds a m c news hl hnews (by omega) h63 hbytes
      rw [hr] at hr2
      cases hr2
      exact fun k hk => .inr (h4.lt k hk).1
variable {ops : Array Oper} {rest : List Oper} {o : Oper} {a : Act} {Q : Exit → Act → World → Prop}
theorem wp_append_at {K : Act → World → Prop} (s x : Operand) (t : TypeId)
    (ho : o.op = .call { callee := .builtin .append, args := #[s, x], argTypes := #[t, t] })
    (base : Nat) (e : TypeId) (i : TypeInfo) (z : Value) (size bytes : Nat) (ht : P.underlying t = some (.slice e)) (hi : P.info? e = some i) (hz : i.zero = some z)
    (hsize : i.size = size) (hby : i.bytes = bytes) (hzs : z.cells.size = size) (hsz : 0 < size)
    (v : Value) (n : Nat) (xs : List Value) (hs : a.eval s = v) (hown : w.ownsRow base e size v n xs)
    (ad : Addr) (m c : Nat) (news : List Value) (hx : a.eval x = .slice (some ad) m c) (hl : news.length = m * size) (hnews : ∀ j u, news[j]? = some u → w.cell? (ad.add j) = some u) (h1 : ∀ u ∈ news, u.oneCell' = true)
    (h63 : n + m ≤ maxLen) (hbytes : (n + m) * bytes ≤ 140737488355328) (hbase : base ≤ w.heap.size)
    (h : ∀ v' w', w'.ownsRow base e size v' (n + m) (xs ++ news) → w.grownBy w' v.ownBlock → (∀ k, v'.ownBlock = some k → v.ownBlock = some k ∨ w.heap.size ≤ k) → K (a.put o.dst v') w') : o.wp P a w K Q := by
  obtain ⟨v', w', hr, h2, h3, h4⟩ := append_at (P := P) (w := w) base t o.type e i z size bytes ht hi hz hsize hby hzs hsz v n xs hown ad m c news hl hnews h1 h63 hbytes hbase
  unfold Oper.wp
  simp [execOp, ho, resolve, invoke, builtin, hs, hx, hr, Result.andThen]
  exact h v' w' h2 h3 h4
theorem wpList_append_at (hgd : o.guard = none) (s x : Operand) (t : TypeId)
    (ho : o.op = .call { callee := .builtin .append, args := #[s, x], argTypes := #[t, t] })
    (base : Nat) (e : TypeId) (i : TypeInfo) (z : Value) (size bytes : Nat) (ht : P.underlying t = some (.slice e)) (hi : P.info? e = some i) (hz : i.zero = some z)
    (hsize : i.size = size) (hby : i.bytes = bytes) (hzs : z.cells.size = size) (hsz : 0 < size)
    (v : Value) (n : Nat) (xs : List Value) (hs : a.eval s = v) (hown : w.ownsRow base e size v n xs)
    (ad : Addr) (m c : Nat) (news : List Value) (hx : a.eval x = .slice (some ad) m c) (hl : news.length = m * size) (hnews : ∀ j u, news[j]? = some u → w.cell? (ad.add j) = some u) (h1 : ∀ u ∈ news, u.oneCell' = true)
    (h63 : n + m ≤ maxLen) (hbytes : (n + m) * bytes ≤ 140737488355328) (hbase : base ≤ w.heap.size)
    (h : ∀ v' w', w'.ownsRow base e size v' (n + m) (xs ++ news) → w.grownBy w' v.ownBlock → (∀ k, v'.ownBlock = some k → v.ownBlock = some k ∨ w.heap.size ≤ k) → wpList P ops Q rest (a.put o.dst v') w') : wpList P ops Q (o :: rest) a w :=
  wpList_plain hgd fun _ hK => wp_append_at s x t ho base e i z size bytes ht hi hz hsize hby hzs hsz v n xs hs hown ad m c news hx hl hnews h1 h63 hbytes hbase fun v' w' h2 h3 h4 => hK _ _ (h v' w' h2 h3 h4)
end
end Go.Proofs.Ytimbggkjpdaenaa.Q

namespace Go.Proofs.Ytimbggkjpdaenaa.Q
section
variable {P : Program} {ops : Array Oper} {Q : Exit → Act → World → Prop} {md : Region.Mode} {S : World → Prop} {z : Nat}
/-- Whatever order is picked from here on, and S holds behind every operation but the last one, z. -/
def wpAnyZ (P : Program) (md : Region.Mode) (ops : Array Oper) (Q : Exit → Act → World → Prop) (S : World → Prop) (z : Nat) : Nat → Array Bool → Act → World → Prop
  | 0, l, a, w => Region.ready md ops l = [] ∧ Q .normal a w
  | fuel + 1, l, a, w => (Region.ready md ops l = [] → Q .normal a w) ∧ ∀ i ∈ Region.ready md ops l, wpOp P ops Q i (fun a' w' => ((l.setIfInBounds i true).getD z false = false → S w') ∧ wpAnyZ P md ops Q S z fuel (l.setIfInBounds i true) a' w') a w
theorem wpAny_of_Z : ∀ (fuel : Nat) (l : Array Bool) (a : Act) (w : World), wpAnyZ P md ops Q S z fuel l a w → wpAny P md ops Q fuel l a w
  | 0, _, _, _, h => h
  | fuel + 1, _, _, _, h => ⟨h.1, fun i hi => wpOp_mono (fun a' w' h' => wpAny_of_Z fuel _ a' w' h'.2) (h.2 i hi)⟩
/-- Operation z waits for number i, or there is none. -/
def zOk (md : Region.Mode) (ops : Array Oper) (z i : Nat) : Bool := match ops[z]? with | none => true | some o => o.after.toList.any fun e => Region.binds md e && e.on == i
theorem zOk_ne {l : Array Bool} {i j : Nat} (hz : zOk md ops z i = true) (hi : i ∈ Region.ready md ops l) (hj : j ∈ Region.ready md ops l) : z ≠ j := by
  rintro rfl
  obtain ⟨-, oj, hoj, hall⟩ := mem_ready.1 hj
  unfold zOk at hz
  rw [hoj] at hz
  simp only [List.any_eq_true, Bool.and_eq_true, beq_iff_eq] at hz
  obtain ⟨e, he, hb, rfl⟩ := hz
  have h1 := hall e (by simpa using he) hb
  have h0 := (mem_ready.1 hi).1
  rcases Nat.lt_or_ge e.on l.size with h' | h'
  · simp [h'] at h0 h1; rw [h0] at h1; cases h1
  · simp [Array.getElem?_eq_none h'] at h1
theorem wpAnyZ_first {i : Nat} {oi : Oper} {v : Value} (hi : ops[i]? = some oi) (hsel : ∀ (j : Nat) (o : Oper) cs b, ops[j]? = some o → o.op ≠ .select cs b)
    (hQ : ∀ c a w, Q (.panic c) (a.put oi.dst v) w → Q (.panic c) a w) (hz : zOk md ops z i = true) (hzi : z ≠ i) :
    ∀ (fuel : Nat) (l : Array Bool) (a : Act) (w : World),
      (∀ j oj, ops[j]? = some oj → j ≠ i → l.getD j true = false → (∀ e ∈ oj.after, Region.binds md e = true → e.on ≠ i) → oi.apart ops oj = true) →
      i ∈ Region.ready md ops l → YieldsIf P ops S oi v a → S w → l.getD z false = false →
      wpAnyZ P md ops Q S z fuel (l.setIfInBounds i true) (a.put oi.dst v) w → wpAnyZ P md ops Q S z (fuel + 1) l a w := by
  intro fuel
  induction fuel with
  | zero =>
    intro l a w _ hr hy hS hlz H
    refine ⟨fun h => (by rw [h] at hr; cases hr), fun j hj => ?_⟩
    by_cases hji : j = i
    · subst hji; exact hy.wpOp hi hS ⟨fun _ => hS, H⟩
    · have := ready_mono hj hji
      rw [H.1] at this
      cases this
  | succ fuel ih =>
    intro l a w hfree hr hy hS hlz H
    refine ⟨fun h => (by rw [h] at hr; cases hr), fun j hj => ?_⟩
    by_cases hji : j = i
    · subst hji; exact hy.wpOp hi hS ⟨fun _ => hS, H⟩
    · have hzj : z ≠ j := zOk_ne hz hr hj
      have h1 := H.2 j (ready_mono hj hji)
      obtain ⟨hjun, oj, hoj, hall⟩ := mem_ready.1 hj
      have hnot : ∀ e ∈ oj.after, Region.binds md e = true → e.on ≠ i := fun e he hb heq => by
        have h1 := hall e he hb
        have h0 := (mem_ready.1 hr).1
        rw [heq] at h1
        rcases Nat.lt_or_ge i l.size with h' | h'
        · simp [h'] at h0 h1; rw [h0] at h1; cases h1
        · simp [Array.getElem?_eq_none h'] at h1
      have h2 := wpOp_putIf hoj (hfree j oj hoj hji hjun hnot) (fun cs b => hsel i oi cs b hi) (fun cs b => hsel j oj cs b hoj) hQ hy h1
      have hfree' : ∀ k ok, ops[k]? = some ok → k ≠ i → (l.setIfInBounds j true).getD k true = false →
          (∀ e ∈ ok.after, Region.binds md e = true → e.on ≠ i) → oi.apart ops ok = true := fun k ok hk hki hun hno => by
        refine hfree k ok hk hki ?_ hno
        by_cases hjk : j = k
        · subst hjk; exact hjun
        · rw [getD_set_ne true hjk] at hun; exact hun
      have hlz' : (l.setIfInBounds j true).getD z false = false := by rw [getD_set_ne false (Ne.symm hzj)]; exact hlz
      refine wpOp_mono (fun a' w' h3 => ?_) h2
      have hS' : S w' := h3.2.1 (by rw [getD_set_ne false (Ne.symm hzj), getD_set_ne false (Ne.symm hzi)]; exact hlz)
      refine ⟨fun _ => hS', ih (l.setIfInBounds j true) a' w' hfree' (ready_mono hr (Ne.symm hji)) h3.1 hS' hlz' ?_⟩
      rw [Array.setIfInBounds_comm _ _ hji]
      exact h3.2.2
/-- The plan: as 'planB', and what is taken first comes before z. -/
def planZ (md : Region.Mode) (ops : Array Oper) (z : Nat) : List (Nat × Bool) → Array Bool → Bool
  | [], l => Region.ready md ops l == []
  | (i, false) :: r, l => Region.free md ops l i && ((Region.ready md ops l).contains i && (zOk md ops z i && (z != i && (l.getD z false == false && planZ md ops z r (l.setIfInBounds i true)))))
  | (i, true) :: r, l => (Region.ready md ops l == [i]) && planZ md ops z r (l.setIfInBounds i true)
/-- A panic does not look at the temporaries. -/
def QOk (Q : Exit → Act → World → Prop) : Prop := ∀ d v c a w, Q (.panic c) (Act.put a d v) w → Q (.panic c) a w
def Sz (P : Program) (md : Region.Mode) (ops : Array Oper) (Q : Exit → Act → World → Prop) (S : World → Prop) (z : Nat) (r : List (Nat × Bool)) (a : Act) (w : World) : Prop :=
  QOk Q → Region.noSelect ops = true → ∀ l, planZ md ops z r l = true → (l.getD z false = false → S w) → wpAnyZ P md ops Q S z r.length l a w
theorem sz_region {id : Nat} {a : Act} {w : World} (z : Nat) (r : List (Nat × Bool)) (hQ : QOk Q) (hm : P.follows .mixedOrders = true) (hc : (Region.noSelect ops && (planZ .any ops z r (Array.replicate ops.size false) && (r.length == ops.size))) = true)
    (hS : S w.drew) (h : Sz P .any ops Q S z r a w.drew) : (Code.region id ops true).wp P Q a w := by
  simp only [Bool.and_eq_true, beq_iff_eq] at hc
  have h2 := h hQ hc.1 _ hc.2.1 (fun _ => hS)
  rw [hc.2.2] at h2
  exact wp_region_any hm (wpAny_of_Z _ _ _ _ h2)
theorem sz_done {a : Act} {w : World} (h : Q .normal a w) : Sz P md ops Q S z [] a w := fun _ _ l hl _ => ⟨by simpa [planZ] using hl, h⟩
theorem sz_off {i : Nat} {r : List (Nat × Bool)} {d : Tmp} {op : Op} {ty : TypeId} {pos : String} {af : Array Edge} {gu : Option (Nat × Bool)} {a : Act} {w : World}
    (ho : ops[i]? = some ⟨some d, op, ty, pos, af, gu⟩) (hw : Region.wanted ⟨some d, op, ty, pos, af, gu⟩ (yielded ops a.tmps) = false) (h : Sz P md ops Q S z r (a.put (some d) undef) w) : Sz P md ops Q S z ((i, false) :: r) a w := by
  intro hQ hs l hl hS
  simp only [planZ, Bool.and_eq_true, beq_iff_eq, bne_iff_ne] at hl
  have hlz : (l.setIfInBounds i true).getD z false = false := by rw [getD_set_ne false (Ne.symm hl.2.2.2.1)]; exact hl.2.2.2.2.1
  exact wpAnyZ_first ho (Region.noSelect_spec hs) (fun c a w => hQ _ _ c a w) hl.2.2.1 hl.2.2.2.1 r.length l a w (Region.free_spec ho hl.1) (by simpa using hl.2.1) (.inr ⟨hw, rfl⟩) (hS hl.2.2.2.2.1) hl.2.2.2.2.1 (h hQ hs _ hl.2.2.2.2.2 (fun _ => hS hl.2.2.2.2.1))
theorem sz_on {i : Nat} {r : List (Nat × Bool)} {d : Tmp} {op : Op} {ty : TypeId} {pos : String} {af : Array Edge} {gu : Option (Nat × Bool)} {a : Act} {w : World} (v : Value)
    (ho : ops[i]? = some ⟨some d, op, ty, pos, af, gu⟩) (hw : Region.wanted ⟨some d, op, ty, pos, af, gu⟩ (yielded ops a.tmps) = true) (hv : ∀ W, S W → (execOp a.eval ⟨some d, op, ty, pos, af, gu⟩).run P W = .ok (.value v) W) (h : Sz P md ops Q S z r (a.put (some d) v) w) : Sz P md ops Q S z ((i, false) :: r) a w := by
  intro hQ hs l hl hS
  simp only [planZ, Bool.and_eq_true, beq_iff_eq, bne_iff_ne] at hl
  exact wpAnyZ_first ho (Region.noSelect_spec hs) (fun c a w => hQ _ _ c a w) hl.2.2.1 hl.2.2.2.1 r.length l a w (Region.free_spec ho hl.1) (by simpa using hl.2.1) (.inl ⟨hw, hv⟩) (hS hl.2.2.2.2.1) hl.2.2.2.2.1 (h hQ hs _ hl.2.2.2.2.2 (fun _ => hS hl.2.2.2.2.1))
theorem sz_one {i : Nat} {r : List (Nat × Bool)} {d : Option Tmp} {op : Op} {ty : TypeId} {pos : String} {af : Array Edge} {gu : Option (Nat × Bool)} {a : Act} {w : World} (ho : ops[i]? = some ⟨d, op, ty, pos, af, gu⟩) (hw : Region.wanted ⟨d, op, ty, pos, af, gu⟩ (yielded ops a.tmps) = true)
    (h : ∀ K : Act → World → Prop, Shut (∀ a' w', (z = i ∨ S w') → Sz P md ops Q S z r a' w' → K a' w') → Oper.wp P ⟨d, op, ty, pos, af, gu⟩ a w K Q) : Sz P md ops Q S z ((i, true) :: r) a w := by
  intro hQ hs l hl hS
  simp only [planZ, Bool.and_eq_true, beq_iff_eq] at hl
  refine ⟨fun h0 => absurd (hl.1.symm.trans h0) (by simp), ?_⟩
  rw [hl.1]
  intro j hj
  obtain rfl := List.mem_singleton.mp hj
  have hj' : j ∈ Region.ready md ops l := by rw [hl.1]; exact hj
  refine wpOp_step ho (fun K' hK => ?_)
  rw [if_pos hw]
  refine h K' (fun a' w' h1 h2 => hK a' w' ?_)
  have hS2 : (l.setIfInBounds j true).getD z false = false → S w' := by
    intro hzf
    rcases h1 with rfl | h1
    · have := (mem_ready.1 hj').1
      exfalso
      rcases Nat.lt_or_ge z l.size with h' | h'
      · simp [h'] at hzf
      · simp [Array.getElem?_eq_none h'] at this
    · exact h1
  exact ⟨hS2, h2 hQ hs _ hl.2 hS2⟩
variable {i j dj : Nat} {r : List (Nat × Bool)} {d : Tmp} {od od' : Option Tmp} {op op' : Op} {ty ty' : TypeId} {pos pos' : String} {af af' : Array Edge} {gu' : Option (Nat × Bool)} {g b : Bool} {T : Array Value} {D : List Deferred} {w : World}
theorem sz_f (T' : Array Value) (ho : ops[i]? = some ⟨some d, op, ty, pos, af, some (j, g)⟩) (hj : ops[j]? = some ⟨some dj, op', ty', pos', af', gu'⟩) (hd : T[dj]? = some (.bool (!g))) (hT : T.setIfInBounds d undef = T') (h : Sz P md ops Q S z r ⟨T', D⟩ w) : Sz P md ops Q S z ((i, false) :: r) ⟨T, D⟩ w := by
  subst hT; exact sz_off ho (no_g hj hd) h
theorem sz_u (T' : Array Value) (ho : ops[i]? = some ⟨some d, op, ty, pos, af, some (j, g)⟩) (hj : ops[j]? = some ⟨some dj, op', ty', pos', af', gu'⟩) (hd : T[dj]? = some undef) (hT : T.setIfInBounds d undef = T') (h : Sz P md ops Q S z r ⟨T', D⟩ w) : Sz P md ops Q S z ((i, false) :: r) ⟨T, D⟩ w := by
  subst hT; exact sz_off ho (no_u hj hd) h
theorem sz_n (T' : Array Value) (v : Value) (ho : ops[i]? = some ⟨some d, op, ty, pos, af, none⟩) (hv : ∀ W, S W → (execOp (Act.eval ⟨T, D⟩) ⟨some d, op, ty, pos, af, none⟩).run P W = .ok (.value v) W) (hT : T.setIfInBounds d v = T') (h : Sz P md ops Q S z r ⟨T', D⟩ w) : Sz P md ops Q S z ((i, false) :: r) ⟨T, D⟩ w := by
  subst hT; exact sz_on v ho yes_n hv h
theorem sz_g (T' : Array Value) (v : Value) (ho : ops[i]? = some ⟨some d, op, ty, pos, af, some (j, g)⟩) (hj : ops[j]? = some ⟨some dj, op', ty', pos', af', gu'⟩) (hd : T[dj]? = some (.bool g)) (hv : ∀ W, S W → (execOp (Act.eval ⟨T, D⟩) ⟨some d, op, ty, pos, af, some (j, g)⟩).run P W = .ok (.value v) W) (hT : T.setIfInBounds d v = T') (h : Sz P md ops Q S z r ⟨T', D⟩ w) : Sz P md ops Q S z ((i, false) :: r) ⟨T, D⟩ w := by
  subst hT; exact sz_on v ho (yes_g hj hd) hv h
theorem sz_1n (ho : ops[i]? = some ⟨od, op, ty, pos, af, none⟩)
    (h : ∀ K : Act → World → Prop, Shut (∀ a' w', (z = i ∨ S w') → Sz P md ops Q S z r a' w' → K a' w') → Oper.wp P ⟨od, op, ty, pos, af, none⟩ ⟨T, D⟩ w K Q) : Sz P md ops Q S z ((i, true) :: r) ⟨T, D⟩ w := sz_one ho yes_n h
end
end Go.Proofs.Ytimbggkjpdaenaa.Q

namespace Go.Proofs.Ytimbggkjpdaenaa.Q
open Go.RowKit Go.Proofs.YtimbggkjpdaenaaW.PrintWords Go.Proofs.YtimbggkjpdaenaaW.PrintLast
set_option linter.unusedVariables false
set_option linter.unusedSimpArgs false
/-- A pattern as a tree. -/
inductive Rx where
  | one (s : List Bool) (b : Int) (plain : Bool)
  | seq (xs : List Rx)
  | alt (xs : List Rx)
  | rep (x : Rx) (op : Int)
mutual
def RepX (w : World) (ok : Nat → Prop) : Rx → Value → Prop
  | .one s b pl, v => s.length = 256 ∧ v = .iface 87 (.agg (oneA s b pl))
  | .rep x op, v => ∃ u, RepX w ok x u ∧ v = .iface 89 (.agg #[u, .int .u8 op])
  | .seq xs, v => ∃ u vs, v = .iface 51 (.agg #[u]) ∧ w.ownsRow 0 40 1 u vs.length vs ∧ (∀ k, u.ownBlock = some k → ok k) ∧ RepXs w ok xs vs
  | .alt xs, v => ∃ u vs, v = .iface 50 (.agg #[u]) ∧ w.ownsRow 0 40 1 u vs.length vs ∧ (∀ k, u.ownBlock = some k → ok k) ∧ RepXs w ok xs vs
def RepXs (w : World) (ok : Nat → Prop) : List Rx → List Value → Prop
  | [], vs => vs = []
  | x :: xs, vs => ∃ u us, vs = u :: us ∧ RepX w ok x u ∧ RepXs w ok xs us
end
mutual
theorem RepX_move {w w1 : World} {ok ok' : Nat → Prop} (hm : ∀ k, ok k → k < w.heap.size → ok' k ∧ w1.heap[k]? = w.heap[k]?) : ∀ (x : Rx) (v : Value), RepX w ok x v → RepX w1 ok' x v
  | .one s b pl, v, h => by unfold RepX at h ⊢; exact h
  | .rep x op, v, h => by
    unfold RepX at h ⊢
    obtain ⟨u, h1, h2⟩ := h
    exact ⟨u, RepX_move hm x u h1, h2⟩
  | .seq xs, v, h => by
    unfold RepX at h ⊢
    obtain ⟨u, vs, h1, h2, h3, h4⟩ := h
    exact ⟨u, vs, h1, own_move h2 (fun k hk => (hm k (h3 k hk) (h2.lt k hk).2).2), fun k hk => (hm k (h3 k hk) (h2.lt k hk).2).1, RepXs_move hm xs vs h4⟩
  | .alt xs, v, h => by
    unfold RepX at h ⊢
    obtain ⟨u, vs, h1, h2, h3, h4⟩ := h
    exact ⟨u, vs, h1, own_move h2 (fun k hk => (hm k (h3 k hk) (h2.lt k hk).2).2), fun k hk => (hm k (h3 k hk) (h2.lt k hk).2).1, RepXs_move hm xs vs h4⟩
theorem RepXs_move {w w1 : World} {ok ok' : Nat → Prop} (hm : ∀ k, ok k → k < w.heap.size → ok' k ∧ w1.heap[k]? = w.heap[k]?) : ∀ (xs : List Rx) (vs : List Value), RepXs w ok xs vs → RepXs w1 ok' xs vs
  | [], vs, h => by unfold RepXs at h ⊢; exact h
  | x :: xs, vs, h => by
    unfold RepXs at h ⊢
    obtain ⟨u, us, h1, h2, h3⟩ := h
    exact ⟨u, us, h1, RepX_move hm x u h2, RepXs_move hm xs us h3⟩
end
theorem RepXs_len {w : World} {ok : Nat → Prop} : ∀ (xs : List Rx) (vs : List Value), RepXs w ok xs vs → vs.length = xs.length
  | [], vs, h => by unfold RepXs at h; subst h; rfl
  | x :: xs, vs, h => by
    unfold RepXs at h
    obtain ⟨u, us, rfl, h2, h3⟩ := h
    simp [RepXs_len xs us h3]
theorem RepXs_app {w : World} {ok : Nat → Prop} : ∀ (xs : List Rx) (vs : List Value) (ys : List Rx) (us : List Value), RepXs w ok xs vs → RepXs w ok ys us → RepXs w ok (xs ++ ys) (vs ++ us)
  | [], vs, ys, us, h, h2 => by unfold RepXs at h; subst h; exact h2
  | x :: xs, vs, ys, us, h, h2 => by
    unfold RepXs at h
    obtain ⟨u, us', rfl, h3, h4⟩ := h
    show RepXs w ok (x :: (xs ++ ys)) (u :: (us' ++ us))
    unfold RepXs
    exact ⟨u, _, rfl, h3, RepXs_app xs us' ys us h4 h2⟩
/-- A list of parts under way: the variable at block x holds v, whose elements are vs. -/
def Acc (w : World) (x T : Nat) (acc : List Rx) (v : Value) (vs : List Value) : Prop :=
  w.heap[x]? = some (.cells #[v] T (0, 0)) ∧ w.ownsRow x 40 1 v vs.length vs ∧ v.ownBlock ≠ some x ∧ RepXs w (fun k => x < k ∧ some k ≠ v.ownBlock) acc vs
theorem acc_move {w w1 : World} {x T : Nat} {acc : List Rx} {v : Value} {vs : List Value} (h : Acc w x T acc v vs) (hm : ∀ k, x ≤ k → k < w.heap.size → w1.heap[k]? = w.heap[k]?) : Acc w1 x T acc v vs := by
  obtain ⟨h1, h2, h3, h4⟩ := h
  exact ⟨(hm x (Nat.le_refl _) (lt_of_some h1)).trans h1, own_move h2 (fun k hk => hm k (h2.lt k hk).1 (h2.lt k hk).2), h3, RepXs_move (fun k hk hl => ⟨hk, hm k (Nat.le_of_lt hk.1) hl⟩) _ _ h4⟩
theorem acc_push {w1 w2 : World} {x T B : Nat} {acc : List Rx} {v v2 : Value} {vs : List Value} {y : Rx} {u : Value} {ok : Nat → Prop}
    (h : Acc w1 x T acc v vs) (hy : RepX w1 ok y u) (hok : ∀ k, ok k → B ≤ k) (hxB : x < B) (hvB : ∀ k, v.ownBlock = some k → k < B)
    (hg : (w1.alloc (.cells #[u] 40)).grownBy w2 v.ownBlock) (ho : w2.ownsRow x 40 1 v2 (vs.length + 1) (vs ++ [u])) (hl : ∀ k, v2.ownBlock = some k → v.ownBlock = some k ∨ (w1.alloc (.cells #[u] 40)).heap.size ≤ k) :
    Acc (w2.setCell ⟨x, 0, none⟩ v2) x T (acc ++ [y]) v2 (vs ++ [u]) := by
  obtain ⟨h1, h2, h3, h4⟩ := h
  have hsz := sz_al w1 (.cells #[u] 40)
  have hb : ∀ k, k < w1.heap.size → some k ≠ v.ownBlock → w2.heap[k]? = w1.heap[k]? := fun k hk hn => (hg.block k (by omega) hn).trans (heap_alloc_old w1 _ hk)
  have hx2 : v2.ownBlock ≠ some x := by
    intro e
    rcases hl x e with h' | h'
    · exact h3 h'
    · have := lt_of_some h1; omega
  refine ⟨bk_put ((hb x (lt_of_some h1) (fun e => h3 e.symm)).trans h1) v2, ?_, hx2, ?_⟩
  · rw [List.length_append]
    exact own_move ho (fun k hk => Below.heap_setCell _ _ _ _ (fun e => hx2 (by rw [hk]; congr 1)))
  · have hk2 : ∀ k, k < w1.heap.size → some k ≠ v.ownBlock → x < k → (x < k ∧ some k ≠ v2.ownBlock) ∧ (w2.setCell ⟨x, 0, none⟩ v2).heap[k]? = w1.heap[k]? := by
      intro k hk hn hx
      refine ⟨⟨hx, fun e => ?_⟩, ?_⟩
      · rcases hl k e.symm with h' | h'
        · exact hn h'.symm
        · omega
      · rw [Below.heap_setCell _ _ _ _ (show k ≠ x by omega)]; exact hb k hk hn
    refine RepXs_app _ _ _ _ (RepXs_move (fun k hk hl' => hk2 k hl' hk.2 hk.1) _ _ h4) ?_
    unfold RepXs
    refine ⟨u, [], rfl, RepX_move (fun k hk hl' => hk2 k hl' (fun e => ?_) (by have := hok k hk; omega)) _ _ hy, by unfold RepXs; rfl⟩
    have := hvB k e.symm; have := hok k hk; omega
def obind {α β : Type} (x : Option (Except (Int × Int) α)) (f : α → Option (Except (Int × Int) β)) : Option (Except (Int × Int) β) :=
  match x with | none => none | some (.error e) => some (.error e) | some (.ok a) => f a
def isOp (c : Int) : Bool := c == 42 || (c == 43 || c == 63)
def opsF : Nat → ByteArray → Int → Rx → Option (Rx × Int)
  | 0, _, _, _ => none
  | k + 1, p, i, x => if i < p.size ∧ isOp (bt p i) = true then opsF k p (i + 1) (.rep x (bt p i)) else some (x, i)
def sgl (c : Int) : Rx := .one (noB.set c.toNat true) c true
mutual
def altL : Nat → ByteArray → Int → Int → List Rx → Option (Except (Int × Int) (Rx × Int))
  | 0, _, _, _, _ => none
  | k + 1, p, i, o, acc => obind (seqL k p i o []) fun x => if x.2 = p.size ∨ bt p x.2 ≠ 124 then some (.ok (.alt (acc ++ [x.1]), x.2)) else altL k p (x.2 + 1) o (acc ++ [x.1])
def seqL : Nat → ByteArray → Int → Int → List Rx → Option (Except (Int × Int) (Rx × Int))
  | 0, _, _, _, _ => none
  | k + 1, p, i, o, acc => if i < p.size ∧ (bt p i ≠ 124 ∧ bt p i ≠ 41) then obind (atomF k p i o) fun x => (opsF k p x.2 x.1).bind fun y => seqL k p y.2 o (acc ++ [y.1]) else some (.ok (.seq acc, i))
def atomF : Nat → ByteArray → Int → Int → Option (Except (Int × Int) (Rx × Int))
  | 0, _, _, _ => none
  | k + 1, p, i, o =>
    if bt p i = 40 then (if o = 20 then some (.error (3, i)) else obind (altL k p (i + 1) (o + 1) []) fun x => if x.2 = p.size then some (.error (2, x.2)) else some (.ok (x.1, x.2 + 1)))
    else if bt p i = 91 then obind (claF k p (i + 1)) fun x => some (.ok (.one x.1 0 false, x.2))
    else if bt p i = 46 then some (.ok (.one (List.replicate 256 true) 0 false, i + 1))
    else if isOp (bt p i) = true ∨ bt p i = 93 then some (.error (2, i))
    else if bt p i = 92 then (if i + 1 = p.size then some (.error (2, i + 1)) else some (.ok (sgl (bt p (i + 1)), i + 2)))
    else some (.ok (sgl (bt p i), i + 1))
end
theorem obind_ok {α β : Type} {x : Option (Except (Int × Int) α)} {f : α → Option (Except (Int × Int) β)} {r : β} (h : obind x f = some (.ok r)) : ∃ a, x = some (.ok a) ∧ f a = some (.ok r) := by
  rcases x with _ | (e | a)
  · cases h
  · cases h
  · exact ⟨a, rfl, h⟩
theorem clsF_ok : ∀ (k : Nat) (p : ByteArray) (i : Int) (f : Bool) (s : List Bool) (r : List Bool × Int), clsF k p i f s = some (.ok r) → 0 ≤ i → i ≤ p.size → s.length = 256 → i ≤ r.2 ∧ r.2 < p.size ∧ r.1.length = 256
  | 0, _, _, _, _, _, h, _, _, _ => by simp [clsF] at h
  | k + 1, p, i, f, s, r, h, h0, h1, hs => by
    have he := bt_end p
    simp only [clsF] at h
    split at h
    · rename_i hc
      cases hch : chF p i with
      | error x => rw [hch] at h; cases h
      | ok x =>
        obtain ⟨lo, j⟩ := x
        obtain ⟨l0, l1, l2, l3⟩ := chF_ok hch h0 h1
        rw [hch] at h
        simp only [] at h
        split at h
        · rename_i hd
          cases hch2 : chF p (j + 1) with
          | error x => rw [hch2] at h; cases h
          | ok x =>
            obtain ⟨hi, m⟩ := x
            obtain ⟨q0, q1, q2, q3⟩ := chF_ok hch2 (by omega) (by omega)
            rw [hch2] at h
            simp only [] at h
            split at h
            · cases h
            · obtain ⟨a, b, c⟩ := clsF_ok k p m false _ r h (by omega) q3 (by unfold setR; rw [setN_len]; exact hs)
              exact ⟨by omega, b, c⟩
        · obtain ⟨a, b, c⟩ := clsF_ok k p j false _ r h (by omega) l3 (by unfold setR; rw [setN_len]; exact hs)
          exact ⟨by omega, b, c⟩
    · rename_i hc
      have h2 : i ≠ (p.size : Int) := fun e => hc (.inr (.inl e))
      cases h
      exact ⟨Int.le_refl _, by show i < _; omega, hs⟩
theorem claF_ok {k : Nat} {p : ByteArray} {i : Int} {r : List Bool × Int} (h : claF k p i = some (.ok r)) (h0 : 0 ≤ i) (h1 : i ≤ p.size) : i < r.2 ∧ r.2 ≤ p.size ∧ r.1.length = 256 := by
  obtain ⟨q, hq, hr⟩ := claF_err h
  cases q with
  | error e => cases hr
  | ok x =>
    simp only [Except.map, Except.ok.injEq] at hr
    subst hr
    have hn : i ≤ notI p i ∧ notI p i ≤ p.size := by
      unfold notI; split
      · rename_i hh; unfold notQ at hh; simp at hh; omega
      · omega
    obtain ⟨a, b, c⟩ := clsF_ok k p _ true noB x hq (by omega) hn.2 noB_len
    exact ⟨by show i < x.2 + 1; omega, by show x.2 + 1 ≤ _; omega, by show (if _ then _ else _ : List Bool).length = 256; split <;> simp [c]⟩
theorem opsF_ok : ∀ (k : Nat) (p : ByteArray) (i : Int) (x : Rx) (r : Rx × Int), opsF k p i x = some r → i ≤ p.size → i ≤ r.2 ∧ r.2 ≤ p.size
  | 0, _, _, _, _, h, _ => by cases h
  | k + 1, p, i, x, r, h, h1 => by
    simp only [opsF] at h
    split at h
    · have := opsF_ok k p (i + 1) _ r h (by omega); omega
    · cases h; exact ⟨Int.le_refl _, h1⟩
theorem par_ok : ∀ k, (∀ p i o acc r, altL k p i o acc = some (.ok r) → 0 ≤ i → i ≤ (p.size : Int) → i ≤ r.2 ∧ r.2 ≤ p.size) ∧ (∀ p i o acc r, seqL k p i o acc = some (.ok r) → 0 ≤ i → i ≤ (p.size : Int) → i ≤ r.2 ∧ r.2 ≤ p.size) ∧ (∀ p i o r, atomF k p i o = some (.ok r) → 0 ≤ i → i < (p.size : Int) → i < r.2 ∧ r.2 ≤ p.size)
  | 0 => ⟨fun _ _ _ _ _ h => (by cases h), fun _ _ _ _ _ h => (by cases h), fun _ _ _ _ h => (by cases h)⟩
  | k + 1 => by
    obtain ⟨ia, is, im⟩ := par_ok k
    refine ⟨fun p i o acc r h h0 h1 => ?_, fun p i o acc r h h0 h1 => ?_, fun p i o r h h0 h1 => ?_⟩
    · simp only [altL] at h
      obtain ⟨x, hx, h⟩ := obind_ok h
      have hb := is _ _ _ _ _ hx h0 h1
      split at h
      · cases h; exact hb
      · have := ia _ _ _ _ _ h (by omega) (by omega)
        omega
    · simp only [seqL] at h
      split at h
      · obtain ⟨x, hx, h⟩ := obind_ok h
        have hb := im _ _ _ _ hx h0 (by omega)
        obtain ⟨y, hy, h⟩ := Option.bind_eq_some_iff.mp h
        have hc := opsF_ok _ _ _ _ _ hy hb.2
        have := is _ _ _ _ _ h (by omega) hc.2
        omega
      · cases h; exact ⟨Int.le_refl _, h1⟩
    · simp only [atomF] at h
      split at h
      · split at h
        · cases h
        · obtain ⟨x, hx, h⟩ := obind_ok h
          have hb := ia _ _ _ _ _ hx (by omega) (by omega)
          split at h
          · cases h
          · cases h; show i < x.2 + 1 ∧ x.2 + 1 ≤ _; omega
      · split at h
        · obtain ⟨x, hx, h⟩ := obind_ok h
          have := claF_ok hx (by omega) (by omega)
          cases h; show i < x.2 ∧ x.2 ≤ _; omega
        · split at h
          · cases h; show i < i + 1 ∧ i + 1 ≤ _; omega
          · split at h
            · cases h
            · split at h
              · split at h
                · cases h
                · cases h; show i < i + 2 ∧ i + 2 ≤ _; omega
              · cases h; show i < i + 1 ∧ i + 1 ≤ _; omega
end Go.Proofs.Ytimbggkjpdaenaa.Q

namespace Go.Proofs.Ytimbggkjpdaenaa.Q
open Go.RowKit Go.Proofs.YtimbggkjpdaenaaW.PrintWords Go.Proofs.YtimbggkjpdaenaaW.PrintLast
set_option linter.unusedVariables false
set_option linter.unusedSimpArgs false
attribute [local go_sem high] zero87
def PostX (g : Nat) (p : ByteArray) (o : Int) (w : World) (r : Except (Int × Int) (Rx × Int)) (e : Ending) (w' : World) : Prop :=
  RP r (fun x => ∃ v, e = .returned v ∧ RepX w' (fun k => w.heap.size ≤ k) x.1 v ∧ St w' g p x.2 o ∧ Bx w.heap.size g w w') (fun c a => e = .panicked (flt c a) ∧ Bx w.heap.size g w w')
def AltC (k : Nat) : Prop := ∀ (g : Nat) (p : ByteArray) (i o : Int) (r : Except (Int × Int) (Rx × Int)), altL k p i o [] = some r → 0 ≤ i → i ≤ p.size → p.size ≤ 200 → 0 ≤ o → o ≤ 20 → ∀ w, St w g p i o → Calls Try.prog 37 #[.pointer (some ⟨g, 0, none⟩)] w (PostX g p o w r)
def SeqC (k : Nat) : Prop := ∀ (g : Nat) (p : ByteArray) (i o : Int) (r : Except (Int × Int) (Rx × Int)), seqL k p i o [] = some r → 0 ≤ i → i ≤ p.size → p.size ≤ 200 → 0 ≤ o → o ≤ 20 → ∀ w, St w g p i o → Calls Try.prog 45 #[.pointer (some ⟨g, 0, none⟩)] w (PostX g p o w r)
def AtomC (k : Nat) : Prop := ∀ (g : Nat) (p : ByteArray) (i o : Int) (r : Except (Int × Int) (Rx × Int)), atomF k p i o = some r → 0 ≤ i → i < p.size → p.size ≤ 200 → 0 ≤ o → o ≤ 20 → ∀ w, St w g p i o → Calls Try.prog 51 #[.pointer (some ⟨g, 0, none⟩)] w (PostX g p o w r)
theorem RepX_bx {w w1 : World} {g : Nat} {x : Rx} {v : Value} {ok : Nat → Prop} (h : RepX w ok x v) (hb : Bx w.heap.size g w w1) (hg : ∀ k, ok k → k ≠ g) : RepX w1 ok x v := RepX_move (fun k hk hl => ⟨hk, hb.block k hl (hg k hk)⟩) _ _ h
set_option maxHeartbeats 4000000 in
set_option maxRecDepth 100000 in
theorem atom_paren (k : Nat) (IH : AltC k) (g : Nat) (p : ByteArray) (i o : Int) (r : Except (Int × Int) (Rx × Int)) (h : atomF (k + 1) p i o = some r) (h0 : 0 ≤ i) (h1 : i < p.size) (hp : p.size ≤ 200) (o0 : 0 ≤ o) (o1 : o ≤ 20) (w : World) (hs : St w g p i o) (e1 : bt p i = 40) :
    Calls Try.prog 51 #[.pointer (some ⟨g, 0, none⟩)] w (PostX g p o w r) := by
  have HS := Aside0.mk hs
  have hgl : g < w.heap.size := lt_of_some hs
  have c0 := hs.c0
  have c1 := hs.c1
  have c2 := hs.c2
  have f1 := hs.fr 1
  have f2 := hs.fr 2
  have kr : K0 (Bx w.heap.size g w w) := ⟨Bx.refl _ _ _⟩
  have hx := bt_at p i
  have HIH := Aside0.mk IH
  have hA := h
  simp only [atomF] at hA
  rw [if_pos e1] at hA
  have d1 : (bt p i == 40) = true := beq_iff_eq.mpr e1
  clear IH h hs e1
  by_cases e2 : o = 20
  · rw [if_pos e2] at hA
    obtain rfl := Option.some.inj hA
    have d2 : (o == 20) = true := beq_iff_eq.mpr e2
    clear e2
    go_enter Try.func51, Try.ntmps51
    go_wp2_with fail
    go_at_call 38
    refine (fail_calls _ _ _ _).mono ?_
    rintro e w' ⟨rfl, rfl⟩
    exact ⟨rfl, rfl, kk⟩
  · rw [if_neg e2] at hA
    have d2 : (o == 20) = false := beq_eq_false_iff_ne.mpr e2
    have o2 : 0 ≤ o + 1 := by omega
    have o3 : o + 1 ≤ 20 := by omega
    have i2 : 0 ≤ i + 1 := by omega
    have i3 : i + 1 ≤ p.size := by omega
    have HA := Aside0.mk hA
    clear e2 hA
    have hs2 : St ((w.setCell ⟨g, 1, none⟩ (.int .i64 (i + 1))).setCell ⟨g, 2, none⟩ (.int .i64 (o + 1))) g p (i + 1) (o + 1) := stt HS
    have hx2 : Bx w.heap.size g w ((w.setCell ⟨g, 1, none⟩ (.int .i64 (i + 1))).setCell ⟨g, 2, none⟩ (.int .i64 (o + 1))) := kk
    have HS2 := Aside0.mk hs2
    have HX2 := Aside0.mk hx2
    clear hs2 hx2
    go_enter Try.func51, Try.ntmps51
    go_wp2_with fail
    go_at_call 37
    cases hq : altL k p (i + 1) (o + 1) [] with
    | none => exfalso; have := HA.out; rw [hq] at this; cases this
    | some q =>
    refine (HIH.out g p (i + 1) (o + 1) q hq i2 i3 hp o2 o3 _ HS2.out).mono ?_
    rintro e w1 hch
    clear c0 c1 c2 f1 f2 kr
    rcases q with ⟨c, a⟩ | ⟨x, j⟩
    · obtain ⟨rfl, hb1⟩ := hch
      have hA := HA.out
      rw [hq] at hA
      obtain rfl := Option.some.inj hA
      exact ⟨rfl, rfl, HX2.out.trans (hb1.lower HX2.out.size)⟩
    · obtain ⟨v, rfl, hrep, hst, hb1⟩ := hch
      have hA := HA.out
      rw [hq] at hA
      simp only [obind] at hA
      have hjb := (par_ok k).1 _ _ _ _ _ hq i2 i3
      have j0 : 0 ≤ j := by have := hjb.1; omega
      have j1 : j ≤ p.size := hjb.2
      have hx3 : Bx w.heap.size g w w1 := HX2.out.trans (hb1.lower HX2.out.size)
      have hrep2 : RepX w1 (fun k => w.heap.size ≤ k) x v := RepX_move (fun k hk hl => ⟨Nat.le_trans HX2.out.size hk, rfl⟩) _ _ hrep
      have HREP := Aside0.mk hrep2
      have kr : K0 (Bx w.heap.size g w w1) := ⟨hx3⟩
      have HST := Aside0.mk hst
      have c0 := hst.c0
      have c1 := hst.c1
      have c2 := hst.c2
      have f1 := hst.fr 1
      have f2 := hst.fr 2
      clear hst hb1 hx3 hrep hrep2 hq HA HX2 HS2 HS hjb
      by_cases e3 : j = p.size
      · rw [if_pos e3] at hA
        obtain rfl := Option.some.inj hA
        have d3 : (j == (p.size : Int)) = true := beq_iff_eq.mpr e3
        clear e3 hA
        go_wp2
        go_quiet (fail)
        go_wp2_with fail
        go_at_call 38
        refine (fail_calls _ _ _ _).mono ?_
        rintro e w' ⟨rfl, rfl⟩
        exact ⟨rfl, rfl, kk⟩
      · rw [if_neg e3] at hA
        obtain rfl := Option.some.inj hA
        have d3 : (j == (p.size : Int)) = false := beq_eq_false_iff_ne.mpr e3
        have e : o + 1 - 1 = o := by omega
        have hEO := Aside0.mk e
        clear e3 hA e
        go_wp2
        go_quiet (fail)
        go_wp2
        go_ret
        have kr1 : K0 (Bx w1.heap.size g w1 w1) := ⟨Bx.refl _ _ _⟩
        refine ⟨v, rfl, RepX_bx (g := g) HREP.out ?_ ?_, ?_, kk⟩
        · exact kk
        · intro k hk e
          have : w.heap.size ≤ k := hk
          omega
        · exact stt HST
set_option maxHeartbeats 4000000 in
set_option maxRecDepth 100000 in
theorem atom_class (k : Nat) (g : Nat) (p : ByteArray) (i o : Int) (r : Except (Int × Int) (Rx × Int)) (h : atomF (k + 1) p i o = some r) (h0 : 0 ≤ i) (h1 : i < p.size) (hp : p.size ≤ 200) (o0 : 0 ≤ o) (o1 : o ≤ 20) (w : World) (hs : St w g p i o) (e1 : bt p i ≠ 40) (e2 : bt p i = 91) :
    Calls Try.prog 51 #[.pointer (some ⟨g, 0, none⟩)] w (PostX g p o w r) := by
  have HS := Aside0.mk hs
  have hgl : g < w.heap.size := lt_of_some hs
  have c0 := hs.c0
  have c1 := hs.c1
  have c2 := hs.c2
  have f1 := hs.fr 1
  have f2 := hs.fr 2
  have kr : K0 (Bx w.heap.size g w w) := ⟨Bx.refl _ _ _⟩
  have hx := bt_at p i
  have hA := h
  simp only [atomF] at hA
  rw [if_neg e1] at hA
  have d1 : (bt p i == 40) = false := beq_eq_false_iff_ne.mpr e1
  clear h hs e1 c2 f2
  rw [if_pos e2] at hA
  have d2 : (bt p i == 91) = true := beq_iff_eq.mpr e2
  have i2 : 0 ≤ i + 1 := by omega
  have i3 : i + 1 ≤ p.size := by omega
  have HA := Aside0.mk hA
  have hs2 : St (w.setCell ⟨g, 1, none⟩ (.int .i64 (i + 1))) g p (i + 1) o := stt HS
  have hx2 : Bx w.heap.size g w (w.setCell ⟨g, 1, none⟩ (.int .i64 (i + 1))) := kk
  have HS2 := Aside0.mk hs2
  have HX2 := Aside0.mk hx2
  clear hs2 hx2 e2 hA
  go_enter Try.func51, Try.ntmps51
  go_wp2_with fail
  go_at_call 54
  cases hq : claF k p (i + 1) with
  | none => exfalso; have := HA.out; rw [hq] at this; cases this
  | some q =>
  refine (class_calls k g p (i + 1) o _ HS2.out i2 i3 hp q hq).mono ?_
  rintro e w1 hch
  have hA := HA.out
  rw [hq] at hA
  rcases q with ⟨c, a⟩ | ⟨s, j⟩
  · obtain ⟨rfl, hb1⟩ := hch
    obtain rfl := Option.some.inj hA
    exact ⟨rfl, rfl, HX2.out.trans (hb1.lower HX2.out.size)⟩
  · obtain ⟨rfl, hst, hb1⟩ := hch
    obtain rfl := Option.some.inj hA
    have hl := (claF_ok hq i2 i3).2.2
    have HL := Aside0.mk hl
    have HB := Aside0.mk (HX2.out.trans (hb1.lower HX2.out.size))
    have HST := Aside0.mk hst
    clear hb1 hst hA hq HA hl
    go_wp2
    go_ret
    exact ⟨_, rfl, by unfold RepX; exact ⟨HL.out, rfl⟩, HST.out, HB.out⟩
/-- The set of all bytes, filled from the first. -/
def fillT (n : Nat) : List Bool := List.replicate n true ++ List.replicate (256 - n) false
theorem fillT_len (n : Nat) (h : n ≤ 256) : (fillT n).length = 256 := by unfold fillT; rw [List.length_append, List.length_replicate, List.length_replicate]; omega
theorem fillT_set (n : Nat) (h : n < 256) : (fillT n).set n true = fillT (n + 1) := by
  unfold fillT
  have e : 256 - n = (256 - (n + 1)) + 1 := by omega
  have := set_fill (List.replicate n true) false true (256 - (n + 1))
  rw [List.length_replicate] at this
  rw [e, this, List.replicate_succ']
theorem fillT_0 : fillT 0 = noB := rfl
theorem fillT_all : fillT 256 = List.replicate 256 true := by unfold fillT; rw [Nat.sub_self]; exact List.append_nil _
set_option maxHeartbeats 4000000 in
set_option maxRecDepth 100000 in
theorem atom_dot (k : Nat) (g : Nat) (p : ByteArray) (i o : Int) (r : Except (Int × Int) (Rx × Int)) (h : atomF (k + 1) p i o = some r) (h0 : 0 ≤ i) (h1 : i < p.size) (hp : p.size ≤ 200) (o0 : 0 ≤ o) (o1 : o ≤ 20) (w : World) (hs : St w g p i o) (e1 : bt p i ≠ 40) (e2 : bt p i ≠ 91) (e3 : bt p i = 46) :
    Calls Try.prog 51 #[.pointer (some ⟨g, 0, none⟩)] w (PostX g p o w r) := by
  have HS := Aside0.mk hs
  have hgl : g < w.heap.size := lt_of_some hs
  have c0 := hs.c0
  have c1 := hs.c1
  have c2 := hs.c2
  have f1 := hs.fr 1
  have f2 := hs.fr 2
  have kr : K0 (Bx w.heap.size g w w) := ⟨Bx.refl _ _ _⟩
  have hx := bt_at p i
  have hA := h
  simp only [atomF] at hA
  rw [if_neg e1, if_neg e2, if_pos e3] at hA
  obtain rfl := Option.some.inj hA
  have d1 : (bt p i == 40) = false := beq_eq_false_iff_ne.mpr e1
  have d2 : (bt p i == 91) = false := beq_eq_false_iff_ne.mpr e2
  have d3 : (bt p i == 46) = true := beq_iff_eq.mpr e3
  clear h hs e1 e2 e3 hA c2 f2
  have hgx : w.heap.size ≠ g := by omega
  have HGX := Aside0.mk hgx
  have i3 : i + 1 ≤ p.size := by omega
  clear hgx
  go_enter Try.func51, Try.ntmps51
  go_upto_region 21 with (fail)
  have hs2 : St ((w.setCell ⟨g, 1, none⟩ (.int .i64 (i + 1))).alloc (.cells (oneA noB 0 false) 87)) g p (i + 1) o := stt HS
  have hrow : Row ((w.setCell ⟨g, 1, none⟩ (.int .i64 (i + 1))).alloc (.cells (oneA noB 0 false) 87)) w.heap.size (fillT 0) := by
    have h := heap_alloc_new (w.setCell ⟨g, 1, none⟩ (.int .i64 (i + 1))) (.cells (oneA noB 0 false) 87)
    rw [show (w.setCell ⟨g, 1, none⟩ (.int .i64 (i + 1))).heap.size = w.heap.size by simp [World.setCell]] at h
    rw [fillT_0]
    exact h
  have hx2 : Bx w.heap.size g w ((w.setCell ⟨g, 1, none⟩ (.int .i64 (i + 1))).alloc (.cells (oneA noB 0 false) 87)) := kk
  have HS2 := Aside0.mk hs2
  have HR2 := Aside0.mk hrow
  have HX2 := Aside0.mk hx2
  clear hs2 hrow hx2 c0 c1 f1 kr HS
  go_loopg [85] 256 (fun kq v W => ∃ b : Nat, v = .int .i64 b ∧ Aside0 (b + kq = 256) ∧ Aside0 (St W g p (i + 1) o) ∧ Aside0 (Row W w.heap.size (fillT b)) ∧ Aside0 (Bx w.heap.size g w W))
  case atStart => exact ⟨0, rfl, ⟨rfl⟩, HS2, HR2, HX2⟩
  case round =>
    clear HS2 HR2 HX2
    obtain ⟨b, rfl, HE, HST, HROW, HB⟩ := hrel
    have kb : K0 (Bx w.heap.size g w wr) := ⟨HB.out⟩
    cases gk with
    | zero =>
      obtain rfl : b = 256 := by have := HE.out; omega
      have hrow := HROW.out
      rw [fillT_all] at hrow
      have hl : (List.replicate 256 true).length = 256 := List.length_replicate
      have hsz : (Try.prog.info? 87).map (·.size) = some (oneA (List.replicate 256 true) 0 false).size := by rw [oneA_size _ _ _ hl]; exact info87
      have HSZ := Aside0.mk hsz
      have HRW := Aside0.mk hrow
      have HL := Aside0.mk hl
      clear hsz hrow hl HROW
      generalize List.replicate 256 true = al at *
      go_wp2_with (refine wpList_load_row rfl 87 (.tmp 6) rfl w.heap.size rfl 87 (oneA al 0 false) (0, 0) _ HRW.out Try.underlying87 rfl HSZ.out ?_)
      go_ret
      exact ⟨_, rfl, by unfold RepX; exact ⟨HL.out, rfl⟩, HST.out, HB.out⟩
    | succ kq =>
      have hb : b < 256 := by have := HE.out; omega
      have hcl := HROW.out.cell (fillT_len b (Nat.le_of_lt hb)) b hb
      have hfr := HROW.out.fr b
      have kx : K0 (w.heap.size ≤ w.heap.size) := ⟨Nat.le_refl _⟩
      have hset := HROW.out.set (fillT_len b (Nat.le_of_lt hb)) b hb true
      rw [fillT_set b hb] at hset
      have HSET := Aside0.mk hset
      clear hset
      go_wp2
      go_roundg kq
      case measure => omega
      case rel => exact ⟨b + 1, by go_num, ⟨by have := HE.out; omega⟩, ⟨st_far HST.out (Ne.symm HGX.out)⟩, HSET, ⟨kk⟩⟩
set_option maxHeartbeats 4000000 in
set_option maxRecDepth 100000 in
theorem atom_bad42 (k : Nat) (g : Nat) (p : ByteArray) (i o : Int) (r : Except (Int × Int) (Rx × Int)) (h : atomF (k + 1) p i o = some r) (h0 : 0 ≤ i) (h1 : i < p.size) (hp : p.size ≤ 200) (o0 : 0 ≤ o) (o1 : o ≤ 20) (w : World) (hs : St w g p i o) (e1 : bt p i = 42) :
    Calls Try.prog 51 #[.pointer (some ⟨g, 0, none⟩)] w (PostX g p o w r) := by
  have HS := Aside0.mk hs
  have hgl : g < w.heap.size := lt_of_some hs
  have c0 := hs.c0
  have c1 := hs.c1
  have c2 := hs.c2
  have f1 := hs.fr 1
  have f2 := hs.fr 2
  have kr : K0 (Bx w.heap.size g w w) := ⟨Bx.refl _ _ _⟩
  have hx := bt_at p i
  have hA := h
  have hA2 : some (Except.error (2, i)) = some r := by
    simp only [atomF] at hA
    rw [e1] at hA
    exact hA
  obtain rfl := Option.some.inj hA2
  clear h hs hA hA2 c2 f2
  have b40 : (bt p i == 40) = false := by rw [e1]; rfl
  have b91 : (bt p i == 91) = false := by rw [e1]; rfl
  have b46 : (bt p i == 46) = false := by rw [e1]; rfl
  have b42 : (bt p i == 42) = true := by rw [e1]; rfl
  have b43 : (bt p i == 43) = false := by rw [e1]; rfl
  have b63 : (bt p i == 63) = false := by rw [e1]; rfl
  have b93 : (bt p i == 93) = false := by rw [e1]; rfl
  clear e1
  go_enter Try.func51, Try.ntmps51
  go_wp2_with fail
  go_at_call 38
  refine (fail_calls _ _ _ _).mono ?_
  rintro e w' ⟨rfl, rfl⟩
  exact ⟨rfl, rfl, kk⟩
set_option maxHeartbeats 4000000 in
set_option maxRecDepth 100000 in
theorem atom_bad43 (k : Nat) (g : Nat) (p : ByteArray) (i o : Int) (r : Except (Int × Int) (Rx × Int)) (h : atomF (k + 1) p i o = some r) (h0 : 0 ≤ i) (h1 : i < p.size) (hp : p.size ≤ 200) (o0 : 0 ≤ o) (o1 : o ≤ 20) (w : World) (hs : St w g p i o) (e1 : bt p i = 43) :
    Calls Try.prog 51 #[.pointer (some ⟨g, 0, none⟩)] w (PostX g p o w r) := by
  have HS := Aside0.mk hs
  have hgl : g < w.heap.size := lt_of_some hs
  have c0 := hs.c0
  have c1 := hs.c1
  have c2 := hs.c2
  have f1 := hs.fr 1
  have f2 := hs.fr 2
  have kr : K0 (Bx w.heap.size g w w) := ⟨Bx.refl _ _ _⟩
  have hx := bt_at p i
  have hA := h
  have hA2 : some (Except.error (2, i)) = some r := by
    simp only [atomF] at hA
    rw [e1] at hA
    exact hA
  obtain rfl := Option.some.inj hA2
  clear h hs hA hA2 c2 f2
  have b40 : (bt p i == 40) = false := by rw [e1]; rfl
  have b91 : (bt p i == 91) = false := by rw [e1]; rfl
  have b46 : (bt p i == 46) = false := by rw [e1]; rfl
  have b42 : (bt p i == 42) = false := by rw [e1]; rfl
  have b43 : (bt p i == 43) = true := by rw [e1]; rfl
  have b63 : (bt p i == 63) = false := by rw [e1]; rfl
  have b93 : (bt p i == 93) = false := by rw [e1]; rfl
  clear e1
  go_enter Try.func51, Try.ntmps51
  go_wp2_with fail
  go_at_call 38
  refine (fail_calls _ _ _ _).mono ?_
  rintro e w' ⟨rfl, rfl⟩
  exact ⟨rfl, rfl, kk⟩
set_option maxHeartbeats 4000000 in
set_option maxRecDepth 100000 in
theorem atom_bad63 (k : Nat) (g : Nat) (p : ByteArray) (i o : Int) (r : Except (Int × Int) (Rx × Int)) (h : atomF (k + 1) p i o = some r) (h0 : 0 ≤ i) (h1 : i < p.size) (hp : p.size ≤ 200) (o0 : 0 ≤ o) (o1 : o ≤ 20) (w : World) (hs : St w g p i o) (e1 : bt p i = 63) :
    Calls Try.prog 51 #[.pointer (some ⟨g, 0, none⟩)] w (PostX g p o w r) := by
  have HS := Aside0.mk hs
  have hgl : g < w.heap.size := lt_of_some hs
  have c0 := hs.c0
  have c1 := hs.c1
  have c2 := hs.c2
  have f1 := hs.fr 1
  have f2 := hs.fr 2
  have kr : K0 (Bx w.heap.size g w w) := ⟨Bx.refl _ _ _⟩
  have hx := bt_at p i
  have hA := h
  have hA2 : some (Except.error (2, i)) = some r := by
    simp only [atomF] at hA
    rw [e1] at hA
    exact hA
  obtain rfl := Option.some.inj hA2
  clear h hs hA hA2 c2 f2
  have b40 : (bt p i == 40) = false := by rw [e1]; rfl
  have b91 : (bt p i == 91) = false := by rw [e1]; rfl
  have b46 : (bt p i == 46) = false := by rw [e1]; rfl
  have b42 : (bt p i == 42) = false := by rw [e1]; rfl
  have b43 : (bt p i == 43) = false := by rw [e1]; rfl
  have b63 : (bt p i == 63) = true := by rw [e1]; rfl
  have b93 : (bt p i == 93) = false := by rw [e1]; rfl
  clear e1
  go_enter Try.func51, Try.ntmps51
  go_wp2_with fail
  go_at_call 38
  refine (fail_calls _ _ _ _).mono ?_
  rintro e w' ⟨rfl, rfl⟩
  exact ⟨rfl, rfl, kk⟩
set_option maxHeartbeats 4000000 in
set_option maxRecDepth 100000 in
theorem atom_bad93 (k : Nat) (g : Nat) (p : ByteArray) (i o : Int) (r : Except (Int × Int) (Rx × Int)) (h : atomF (k + 1) p i o = some r) (h0 : 0 ≤ i) (h1 : i < p.size) (hp : p.size ≤ 200) (o0 : 0 ≤ o) (o1 : o ≤ 20) (w : World) (hs : St w g p i o) (e1 : bt p i = 93) :
    Calls Try.prog 51 #[.pointer (some ⟨g, 0, none⟩)] w (PostX g p o w r) := by
  have HS := Aside0.mk hs
  have hgl : g < w.heap.size := lt_of_some hs
  have c0 := hs.c0
  have c1 := hs.c1
  have c2 := hs.c2
  have f1 := hs.fr 1
  have f2 := hs.fr 2
  have kr : K0 (Bx w.heap.size g w w) := ⟨Bx.refl _ _ _⟩
  have hx := bt_at p i
  have hA := h
  have hA2 : some (Except.error (2, i)) = some r := by
    simp only [atomF] at hA
    rw [e1] at hA
    exact hA
  obtain rfl := Option.some.inj hA2
  clear h hs hA hA2 c2 f2
  have b40 : (bt p i == 40) = false := by rw [e1]; rfl
  have b91 : (bt p i == 91) = false := by rw [e1]; rfl
  have b46 : (bt p i == 46) = false := by rw [e1]; rfl
  have b42 : (bt p i == 42) = false := by rw [e1]; rfl
  have b43 : (bt p i == 43) = false := by rw [e1]; rfl
  have b63 : (bt p i == 63) = false := by rw [e1]; rfl
  have b93 : (bt p i == 93) = true := by rw [e1]; rfl
  clear e1
  go_enter Try.func51, Try.ntmps51
  go_wp2_with fail
  go_at_call 38
  refine (fail_calls _ _ _ _).mono ?_
  rintro e w' ⟨rfl, rfl⟩
  exact ⟨rfl, rfl, kk⟩
set_option maxHeartbeats 4000000 in
set_option maxRecDepth 100000 in
theorem atom_lit (k : Nat) (g : Nat) (p : ByteArray) (i o : Int) (r : Except (Int × Int) (Rx × Int)) (h : atomF (k + 1) p i o = some r) (h0 : 0 ≤ i) (h1 : i < p.size) (hp : p.size ≤ 200) (o0 : 0 ≤ o) (o1 : o ≤ 20) (w : World) (hs : St w g p i o) (n40 : bt p i ≠ 40) (n91 : bt p i ≠ 91) (n46 : bt p i ≠ 46) (n42 : bt p i ≠ 42) (n43 : bt p i ≠ 43) (n63 : bt p i ≠ 63) (n93 : bt p i ≠ 93) (n92 : bt p i ≠ 92) :
    Calls Try.prog 51 #[.pointer (some ⟨g, 0, none⟩)] w (PostX g p o w r) := by
  have HS := Aside0.mk hs
  have hgl : g < w.heap.size := lt_of_some hs
  have c0 := hs.c0
  have c1 := hs.c1
  have c2 := hs.c2
  have f1 := hs.fr 1
  have f2 := hs.fr 2
  have kr : K0 (Bx w.heap.size g w w) := ⟨Bx.refl _ _ _⟩
  have hx := bt_at p i
  have hop : ¬ (isOp (bt p i) = true ∨ bt p i = 93) := by unfold isOp; simp [n42, n43, n63, n93]
  have hA := h
  simp only [atomF] at hA
  rw [if_neg n40, if_neg n91, if_neg n46, if_neg hop] at hA
  rw [if_neg n92] at hA
  obtain rfl := Option.some.inj hA
  have b40 : (bt p i == 40) = false := beq_eq_false_iff_ne.mpr n40
  have b91 : (bt p i == 91) = false := beq_eq_false_iff_ne.mpr n91
  have b46 : (bt p i == 46) = false := beq_eq_false_iff_ne.mpr n46
  have b42 : (bt p i == 42) = false := beq_eq_false_iff_ne.mpr n42
  have b43 : (bt p i == 43) = false := beq_eq_false_iff_ne.mpr n43
  have b63 : (bt p i == 63) = false := beq_eq_false_iff_ne.mpr n63
  have b93 : (bt p i == 93) = false := beq_eq_false_iff_ne.mpr n93
  have b92 : (bt p i == 92) = false := beq_eq_false_iff_ne.mpr n92
  have br := bt_range p i
  have q0 : 0 ≤ bt p i := br.1
  have q1 : bt p i < 256 := by omega
  clear h hs hop c2 f2 n40 n91 n46 n42 n43 n63 n93
  clear hA n92 br
  have hs2 : St (w.setCell ⟨g, 1, none⟩ (.int .i64 (i + 1))) g p (i + 1) o := stt HS
  have hx2 : Bx w.heap.size g w (w.setCell ⟨g, 1, none⟩ (.int .i64 (i + 1))) := kk
  have HS2 := Aside0.mk hs2
  have HX2 := Aside0.mk hx2
  clear hs2 hx2
  go_enter Try.func51, Try.ntmps51
  go_wp2_with fail
  go_at_call 55
  refine (single_calls _ q0 q1 _).mono ?_
  rintro e w1 ⟨rfl, hb⟩
  have hbx : Bx w.heap.size g w w1 := HX2.out.trans ((Bx.of hb).lower HX2.out.size)
  have hst : St w1 g p (i + 1) o := by have := HS2.out; unfold St at this ⊢; rw [hb.block g (lt_of_some this)]; exact this
  have HBX := Aside0.mk hbx
  have HST := Aside0.mk hst
  have kr : K0 (Bx w.heap.size g w w1) := ⟨hbx⟩
  clear hb hbx hst HS2 HX2
  go_wp2
  go_ret
  exact ⟨_, rfl, by unfold sgl RepX; exact ⟨by rw [List.length_set]; exact noB_len, rfl⟩, HST.out, HBX.out⟩
set_option maxHeartbeats 4000000 in
set_option maxRecDepth 100000 in
theorem atom_esc (k : Nat) (g : Nat) (p : ByteArray) (i o : Int) (r : Except (Int × Int) (Rx × Int)) (h : atomF (k + 1) p i o = some r) (h0 : 0 ≤ i) (h1 : i < p.size) (hp : p.size ≤ 200) (o0 : 0 ≤ o) (o1 : o ≤ 20) (w : World) (hs : St w g p i o) (n40 : bt p i ≠ 40) (n91 : bt p i ≠ 91) (n46 : bt p i ≠ 46) (n42 : bt p i ≠ 42) (n43 : bt p i ≠ 43) (n63 : bt p i ≠ 63) (n93 : bt p i ≠ 93) (n92 : bt p i = 92) :
    Calls Try.prog 51 #[.pointer (some ⟨g, 0, none⟩)] w (PostX g p o w r) := by
  have HS := Aside0.mk hs
  have hgl : g < w.heap.size := lt_of_some hs
  have c0 := hs.c0
  have c1 := hs.c1
  have c2 := hs.c2
  have f1 := hs.fr 1
  have f2 := hs.fr 2
  have kr : K0 (Bx w.heap.size g w w) := ⟨Bx.refl _ _ _⟩
  have hx := bt_at p i
  have hop : ¬ (isOp (bt p i) = true ∨ bt p i = 93) := by unfold isOp; simp [n42, n43, n63, n93]
  have hA := h
  simp only [atomF] at hA
  rw [if_neg n40, if_neg n91, if_neg n46, if_neg hop] at hA
  rw [if_pos n92] at hA
  have b40 : (bt p i == 40) = false := beq_eq_false_iff_ne.mpr n40
  have b91 : (bt p i == 91) = false := beq_eq_false_iff_ne.mpr n91
  have b46 : (bt p i == 46) = false := beq_eq_false_iff_ne.mpr n46
  have b42 : (bt p i == 42) = false := beq_eq_false_iff_ne.mpr n42
  have b43 : (bt p i == 43) = false := beq_eq_false_iff_ne.mpr n43
  have b63 : (bt p i == 63) = false := beq_eq_false_iff_ne.mpr n63
  have b93 : (bt p i == 93) = false := beq_eq_false_iff_ne.mpr n93
  have b92 : (bt p i == 92) = true := beq_iff_eq.mpr n92
  clear h hs hop c2 f2 n40 n91 n46 n42 n43 n63 n93
  clear n92
  by_cases e1 : i + 1 = p.size
  · rw [if_pos e1] at hA
    obtain rfl := Option.some.inj hA
    have d1 : (i + 1 == (p.size : Int)) = true := beq_iff_eq.mpr e1
    clear e1 hA
    go_enter Try.func51, Try.ntmps51
    go_wp2
    go_quiet (fail)
    go_wp2_with fail
    go_at_call 38
    refine (fail_calls _ _ _ _).mono ?_
    rintro e w' ⟨rfl, rfl⟩
    exact ⟨rfl, rfl, kk⟩
  · rw [if_neg e1] at hA
    obtain rfl := Option.some.inj hA
    have d1 : (i + 1 == (p.size : Int)) = false := beq_eq_false_iff_ne.mpr e1
    have hx1 := bt_at p (i + 1)
    have br := bt_range p (i + 1)
    have q0 : 0 ≤ bt p (i + 1) := br.1
    have q1 : bt p (i + 1) < 256 := by omega
    have i3 : i + 1 < p.size := by omega
    clear e1 hA br
    go_enter Try.func51, Try.ntmps51
    go_wp2
    go_quiet (fail)
    rename_i nq
    go_wp2_with fail
    go_at_call 55
    have hs2 : St (((w.setCell ⟨g, 1, none⟩ (.int .i64 (i + 1))).drewN nq).setCell ⟨g, 1, none⟩ (.int .i64 (i + 1 + 1))) g p (i + 1 + 1) o := stt HS
    have hx2 : Bx w.heap.size g w (((w.setCell ⟨g, 1, none⟩ (.int .i64 (i + 1))).drewN nq).setCell ⟨g, 1, none⟩ (.int .i64 (i + 1 + 1))) := kk
    have e2 : i + 1 + 1 = i + 2 := by omega
    have HE2 := Aside0.mk e2
    have HS2 := Aside0.mk hs2
    have HX2 := Aside0.mk hx2
    clear hs2 hx2 e2
    refine (single_calls _ q0 q1 _).mono ?_
    rintro e w1 ⟨rfl, hb⟩
    have hbx : Bx w.heap.size g w w1 := HX2.out.trans ((Bx.of hb).lower HX2.out.size)
    have hst : St w1 g p (i + 1 + 1) o := by have := HS2.out; unfold St at this ⊢; rw [hb.block g (lt_of_some this)]; exact this
    have HBX := Aside0.mk hbx
    have HST := Aside0.mk hst
    have kr : K0 (Bx w.heap.size g w w1) := ⟨hbx⟩
    clear hb hbx hst HS2 HX2
    go_wp2
    go_ret
    exact ⟨_, rfl, by unfold sgl RepX; exact ⟨by rw [List.length_set]; exact noB_len, rfl⟩, by have h := HST.out; rwa [HE2.out] at h, HBX.out⟩
theorem atom_calls (k : Nat) (IH : AltC k) : AtomC (k + 1) := by
  intro g p i o r h h0 h1 hp o0 o1 w hs
  by_cases n40 : bt p i = 40
  · exact atom_paren k IH g p i o r h h0 h1 hp o0 o1 w hs n40
  by_cases n91 : bt p i = 91
  · exact atom_class k g p i o r h h0 h1 hp o0 o1 w hs n40 n91
  by_cases n46 : bt p i = 46
  · exact atom_dot k g p i o r h h0 h1 hp o0 o1 w hs n40 n91 n46
  by_cases n42 : bt p i = 42
  · exact atom_bad42 k g p i o r h h0 h1 hp o0 o1 w hs n42
  by_cases n43 : bt p i = 43
  · exact atom_bad43 k g p i o r h h0 h1 hp o0 o1 w hs n43
  by_cases n63 : bt p i = 63
  · exact atom_bad63 k g p i o r h h0 h1 hp o0 o1 w hs n63
  by_cases n93 : bt p i = 93
  · exact atom_bad93 k g p i o r h h0 h1 hp o0 o1 w hs n93
  by_cases n92 : bt p i = 92
  · exact atom_esc k g p i o r h h0 h1 hp o0 o1 w hs n40 n91 n46 n42 n43 n63 n93 n92
  · exact atom_lit k g p i o r h h0 h1 hp o0 o1 w hs n40 n91 n46 n42 n43 n63 n93 n92
end Go.Proofs.Ytimbggkjpdaenaa.Q

namespace Go.Proofs
open Go.Shelf
def Try.lays137_ren : Go.Shelf.Ren := ⟨fun | 137 => 52 | 217 => 56 | 266 => 58 | n => n, fun | 9 => 9 | 5 => 5 | 3 => 3 | n => n, fun | n => n⟩
theorem Try.lays137 : Go.Proofs.Lays.n137 Try.prog Try.lays137_ren := {
  mixed := by kernel_rfl
  f137 := Try.func52.trans (congrArg some (by kernel_rfl))
  f217 := Try.func56.trans (congrArg some (by kernel_rfl))
  f266 := Try.func58.trans (congrArg some (by kernel_rfl))
  t3 := Try.underlying3
  a3 := Try.isAgg3
  z3 := Try.sizeOf3
  v3 := Try.zeroValue3
  t5 := Try.underlying5
  a5 := Try.isAgg5
  z5 := Try.sizeOf5
  v5 := Try.zeroValue5
  t9 := Try.underlying9
  a9 := Try.isAgg9
  z9 := Try.sizeOf9
  v9 := Try.zeroValue9 }
open Go.RowKit in
/-- strings.IndexByte: "IndexByte returns the index of the first instance of c in s, or -1 if c is not present in s.": IT RETURNS 'Lib.indexByte s c'; the world is as it was. (LAID: no walk: one application.) -/
theorem Try.strings_IndexByte (s : ByteArray) (c : Int) (w : World) :
    Calls Try.prog 52 #[.string s, .int .u8 c] w fun e w' => e = .returned (.int .i64 (Lib.indexByte s.data.toList c.toNat.toUInt8)) ∧ w' = w := Any.strings_IndexByte Try.lays137 s c w
end Go.Proofs

namespace Go.Proofs.Ytimbggkjpdaenaa.Q
open Go.RowKit Go.Proofs.YtimbggkjpdaenaaW.PrintWords Go.Proofs.YtimbggkjpdaenaaW.PrintLast
set_option linter.unusedVariables false
set_option linter.unusedSimpArgs false
def ibx (c : Int) : Int := Lib.indexByte [42, 43, 63] c.toNat.toUInt8
theorem ibx_all : (List.range 256).all (fun n => decide (0 ≤ ibx (n : Int)) == isOp (n : Int)) = true := by kernel_rfl
theorem ibx_op (c : Int) (h0 : 0 ≤ c) (h1 : c ≤ 255) : decide (0 ≤ ibx c) = isOp c := by
  have h := List.all_eq_true.mp ibx_all c.toNat (List.mem_range.mpr (by omega))
  rw [show ((c.toNat : Nat) : Int) = c by omega] at h
  exact beq_iff_eq.mp h
theorem ib_calls (c : Int) (w : World) : Calls Try.prog 52 #[.string ⟨#[42, 43, 63]⟩, .int .u8 c] w fun e w' => e = .returned (.int .i64 (ibx c)) ∧ w' = w := Try.strings_IndexByte _ _ _
def seqB (p : ByteArray) (j : Int) : Bool := decide (j < p.size) && (bt p j != 124 && bt p j != 41)
theorem seqB_iff (p : ByteArray) (j : Int) : (seqB p j = true) ↔ (j < p.size ∧ (bt p j ≠ 124 ∧ bt p j ≠ 41)) := by unfold seqB; simp
def opB (p : ByteArray) (j : Int) : Bool := decide (j < p.size) && isOp (bt p j)
theorem opB_iff (p : ByteArray) (j : Int) : (opB p j = true) ↔ (j < p.size ∧ isOp (bt p j) = true) := by unfold opB; simp
theorem info40 : (Try.prog.info? 40).map (fun i => (i.zero, i.size, i.bytes)) = some (some .nilIface, 1, 16) := by kernel_rfl
theorem RepX_iface {w : World} {ok : Nat → Prop} {x : Rx} {v : Value} (h : RepX w ok x v) : ∃ T u, v = .iface T u := by
  cases x <;> unfold RepX at h
  · exact ⟨_, _, h.2⟩
  · obtain ⟨u, vs, rfl, -⟩ := h; exact ⟨_, _, rfl⟩
  · obtain ⟨u, vs, rfl, -⟩ := h; exact ⟨_, _, rfl⟩
  · obtain ⟨u, -, rfl⟩ := h; exact ⟨_, _, rfl⟩
theorem Acc.cell {w : World} {x T : Nat} {acc : List Rx} {v : Value} {vs : List Value} (h : Acc w x T acc v vs) : w.cell? ⟨x, 0, none⟩ = some v := cell_of_row _ x 0 _ T _ h.1
theorem acc_bx {w w1 : World} {g x T : Nat} {acc : List Rx} {v : Value} {vs : List Value} (h : Acc w x T acc v vs) (hb : Bx w.heap.size g w w1) (hg : g < x) : Acc w1 x T acc v vs := acc_move h fun k hk hl => hb.block k hl (by omega)
theorem own_sl {w : World} {b : Nat} {e : TypeId} {size n : Nat} {v : Value} {xs : List Value} (h : w.ownsRow b e size v n xs) : ∃ A m c, v = .slice A m c := by
  rcases h.2 with ⟨rfl, _⟩ | ⟨g, cap, cur, rfl, _⟩ <;> exact ⟨_, _, _, rfl⟩
theorem acc_grown {w1 w2 : World} {x T : Nat} {acc : List Rx} {v : Value} {vs : List Value} {o : Obj} (h : Acc w1 x T acc v vs) (hg : (w1.alloc o).grownBy w2 v.ownBlock) : w2.heap[x]? = some (.cells #[v] T (0, 0)) := by
  have hl := lt_of_some h.1
  exact ((hg.block x (by rw [sz_al]; omega) (fun e => h.2.2.1 e.symm)).trans (heap_alloc_old w1 _ hl)).trans h.1
theorem st_grown {w1 w2 : World} {g : Nat} {p : ByteArray} {i o' : Int} {o : Obj} {row : Option Nat} (h : St w1 g p i o') (hg : (w1.alloc o).grownBy w2 row) (hr : some g ≠ row) : St w2 g p i o' := by
  have hl := lt_of_some h
  exact ((hg.block g (by rw [sz_al]; omega) hr).trans (heap_alloc_old w1 _ hl)).trans h
theorem bx_grown {w w1 w2 : World} {g : Nat} {o : Obj} {row : Option Nat} (h : Bx w.heap.size g w w1) (hg : (w1.alloc o).grownBy w2 row) (hr : ∀ k, row = some k → w.heap.size ≤ k) : Bx w.heap.size g w w2 :=
  h.trans ⟨hg.os, hg.tape, hg.output, by have := hg.size; rw [sz_al] at this; omega, fun k hk _ => (hg.block k (by rw [sz_al]; have := h.size; omega) (fun e => by have := hr k e.symm; omega)).trans (heap_alloc_old w1 _ (by have := h.size; omega))⟩
theorem bk_cell {w : World} {x T : Nat} {v : Value} (h : w.heap[x]? = some (.cells #[v] T (0, 0))) : w.cell? ⟨x, 0, none⟩ = some v := cell_of_row _ x 0 _ T _ h
theorem bk_fr {w : World} {x T : Nat} {cs : Array Value} (h : w.heap[x]? = some (.cells cs T (0, 0))) (j : Nat) : w.frozen? ⟨x, j, none⟩ = false := by unfold World.frozen?; rw [h]; simp
theorem acc_nil (w : World) (T : Nat) : Acc (w.alloc (.cells #[.slice none 0 0] T)) w.heap.size T [] (.slice none 0 0) [] :=
  ⟨heap_alloc_new _ _, World.ownsRow_nil _ _ _ _, by simp [Value.ownBlock], by unfold RepXs; rfl⟩
set_option maxHeartbeats 4000000 in
set_option maxRecDepth 100000 in
theorem seq_calls (k : Nat) (IH : ∀ m, m < k → AtomC m) : SeqC k := by
  intro g p i o r h h0 h1 hp o0 o1 w hs
  have HIH := Aside0.mk IH
  have H := Aside0.mk h
  have HS := Aside0.mk hs
  have hgl : g < w.heap.size := lt_of_some hs
  have HGL := Aside0.mk hgl
  have kr : K0 (Bx w.heap.size g w w) := ⟨Bx.refl _ _ _⟩
  obtain ⟨i0, hi, hz0, hz1, hz2⟩ := info_parts info40
  have HI := Aside0.mk hi
  have HZ := Aside0.mk (And.intro hz0 (And.intro hz1 hz2))
  clear IH h hs hi hz0 hz1 hz2 hgl
  go_enter Try.func45, Try.ntmps45
  go_upto_region 2 with (fail)
  have HS2 := Aside0.mk (show St (w.alloc (.cells #[.slice none 0 0] 51)) g p i o from stt HS)
  have HA2 := Aside0.mk (acc_nil w 51)
  have HX2 := Aside0.mk (show Bx w.heap.size g w (w.alloc (.cells #[.slice none 0 0] 51)) from kk)
  clear kr HS
  go_loopg [4] k (fun kq v4 W => ∃ (j : Int) (acc : List Rx) (v : Value) (vs : List Value), Aside0 (seqL kq p j o acc = some r) ∧ Aside0 (kq ≤ k) ∧ Aside0 (0 ≤ j ∧ j ≤ p.size ∧ acc.length ≤ j) ∧ Aside0 (St W g p j o) ∧ Aside0 (Acc W w.heap.size 51 acc v vs) ∧ Aside0 (Bx w.heap.size g w W))
  case atStart => exact ⟨i, [], _, [], H, ⟨Nat.le_refl _⟩, ⟨h0, h1, h0⟩, HS2, HA2, HX2⟩
  case round =>
    clear HS2 HA2 HX2 H
    obtain ⟨j, acc, v, vs, HA, HK, HN, HST, HACC, HB⟩ := hrel
    cases gk with
    | zero => exact absurd HA.out (by simp [seqL])
    | succ k1 =>
    have c0 := HST.out.c0
    have c1 := HST.out.c1
    have f1 := HST.out.fr 1
    have j0 := HN.out.1
    have j1 := HN.out.2.1
    have kw : K0 (Bx w.heap.size g w wr) := ⟨HB.out⟩
    have hx := bt_at p j
    go_upto_region 2 with (fail)
    go_cut [38] (fun v38 wc => v38 = .bool (seqB p j) ∧ ∃ m, wc = wr.drewN m)
    case first =>
      by_cases e1 : j < p.size
      · have d1 : decide (j < (p.size : Int)) = true := decide_eq_true e1
        by_cases e2 : bt p j = 124
        · have hc : seqB p j = false := by unfold seqB; rw [e2]; simp
          have d2 : (bt p j != 124) = false := bne_eq_false_iff_eq.mpr e2
          have HC := Aside0.mk hc
          clear hc e2
          go_quiet (fail)
          go_wp2
          go_meet
          case rel => exact ⟨by rw [HC.out], _, rfl⟩
        · have d2 : (bt p j != 124) = true := bne_iff_ne.mpr e2
          have hc : seqB p j = (bt p j != 41) := by unfold seqB; rw [d1, d2]; rfl
          have HC := Aside0.mk hc
          clear hc e2
          go_quiet (fail)
          go_wp2
          go_meet
          case rel => exact ⟨by rw [HC.out], _, rfl⟩
      · have d1 : decide (j < (p.size : Int)) = false := decide_eq_false e1
        have hc : seqB p j = false := by unfold seqB; rw [d1]; rfl
        have HC := Aside0.mk hc
        clear hc
        go_quiet (fail)
        go_wp2
        go_meet
        case rel => exact ⟨by rw [HC.out], _, rfl⟩
    case rest =>
      obtain ⟨rfl, m, rfl⟩ := hcut
      have hA := HA.out
      simp only [seqL, ← seqB_iff] at hA
      have hacc : Acc (wr.drewN m) w.heap.size 51 acc v vs := acc_move HACC.out (fun _ _ _ => rfl)
      have HACC2 := Aside0.mk hacc
      have HST2 := Aside0.mk (st_drewN (n := m) HST.out)
      have HB2 := Aside0.mk (show Bx w.heap.size g w (wr.drewN m) from kk)
      clear hacc HACC HST HB kw c0 c1 f1 hx
      generalize hsb : seqB p j = sb at hA ⊢
      have HSB := Aside0.mk hsb
      clear hsb HA
      generalize wr.drewN m = wx at *
      have HGL := HGL
      cases sb
      · obtain rfl := Option.some.inj hA
        have hcl := HACC2.out.cell
        clear hA
        go_wp2
        go_ret
        refine ⟨_, rfl, ?_, HST2.out, HB2.out⟩
        unfold RepX
        exact ⟨v, vs, rfl, own_lower HACC2.out.2.1 (Nat.zero_le _), fun k hk => (HACC2.out.2.1.lt k hk).1, RepXs_move (fun k hk hl => ⟨Nat.le_of_lt hk.1, rfl⟩) _ _ HACC2.out.2.2.2⟩
      · rw [if_pos rfl] at hA
        have HA3 := Aside0.mk hA
        have j2 : j < p.size := by have := (seqB_iff p j).mp HSB.out; exact this.1
        clear hA
        go_wp2_with fail
        go_at_call 51
        cases hq : atomF k1 p j o with
        | none => exfalso; have := HA3.out; rw [hq] at this; cases this
        | some q =>
        have hk1 : k1 < k := by have := HK.out; omega
        refine (HIH.out k1 hk1 g p j o q hq j0 j2 hp o0 o1 _ HST2.out).mono ?_
        rintro e w1 hch
        rcases q with ⟨c, a⟩ | ⟨y0, j3⟩
        · obtain ⟨rfl, hb1⟩ := hch
          have hA := HA3.out
          rw [hq] at hA
          obtain rfl := Option.some.inj hA
          exact ⟨rfl, rfl, HB2.out.trans (hb1.lower HB2.out.size)⟩
        · obtain ⟨v0, rfl, hrep, hst, hb1⟩ := hch
          have hA := HA3.out
          rw [hq] at hA
          simp only [obind] at hA
          obtain ⟨yf, hof, hA⟩ := Option.bind_eq_some_iff.mp hA
          have hjb := (par_ok k1).2.2 _ _ _ _ hq j0 j2
          have HOF := Aside0.mk hof
          have HA4 := Aside0.mk hA
          have HJ := Aside0.mk hjb
          have hfb := opsF_ok _ _ _ _ _ hof hjb.2
          have HF := Aside0.mk hfb
          have HACC := Aside0.mk (acc_bx HACC2.out hb1 HGL.out)
          have hxB : w.heap.size < wx.heap.size := lt_of_some HACC2.out.1
          have HXB := Aside0.mk hxB
          have hvB := fun k hk => (HACC2.out.2.1.lt k hk).2
          have HVB := Aside0.mk hvB
          have HST := Aside0.mk hst
          have HREP := Aside0.mk hrep
          have HB := Aside0.mk (HB2.out.trans (hb1.lower HB2.out.size))
          clear hof hA hjb hfb hxB hvB hst hrep hb1 hq HA3 HACC2 HST2 HB2
          obtain ⟨T0, u0, rfl⟩ := RepX_iface HREP.out
          have kw : K0 (Bx w.heap.size g w w1) := ⟨HB.out⟩
          go_upto_region 4 with (fail)
          go_loopg [4] k1 (fun kq v4 W => ∃ (j2 : Int) (y : Rx) (T4 : TypeId) (u4 : Value), v4 = .iface T4 u4 ∧ Aside0 (opsF kq p j2 y = some yf) ∧ Aside0 (0 ≤ j2 ∧ j2 ≤ p.size) ∧ Aside0 (St W g p j2 o) ∧ Aside0 (RepX W (fun k => wx.heap.size ≤ k) y (.iface T4 u4)) ∧ Aside0 (Acc W w.heap.size 51 acc v vs) ∧ Aside0 (Bx w.heap.size g w W))
          case atStart => exact ⟨j3, y0, T0, u0, rfl, HOF, ⟨by have := HJ.out.1; omega, HJ.out.2⟩, HST, HREP, HACC, HB⟩
          case round =>
            clear HST HREP HACC HB HOF kw
            obtain ⟨j2, y, T4, u4, rfl, HO, HN2, HST, HREP, HACC, HB⟩ := hrel
            cases gk with
            | zero => exact absurd HO.out (by simp [opsF])
            | succ k2 =>
            have c0 := HST.out.c0
            have c1 := HST.out.c1
            have f1 := HST.out.fr 1
            have m0 := HN2.out.1
            have m1 := HN2.out.2
            have kw : K0 (Bx w.heap.size g w wr) := ⟨HB.out⟩
            have hx := bt_at p j2
            go_upto_region 4 with (fail)
            go_cut [63] (fun v63 wc => v63 = .bool (opB p j2) ∧ ∃ m, wc = wr.drewN m)
            case first =>
              by_cases e1 : j2 < p.size
              · have d1 : decide (j2 < (p.size : Int)) = true := decide_eq_true e1
                have br := bt_range p j2
                have hib := ibx_op (bt p j2) br.1 br.2
                have hc : opB p j2 = isOp (bt p j2) := by unfold opB; rw [d1]; rfl
                have HC := Aside0.mk (hc.trans hib.symm)
                clear hc br hib
                go_quiet ((go_at_call 52; exact Calls.quiet_of_same (ib_calls _ _)))
                go_wp2
                go_meet
                case rel => exact ⟨by rw [HC.out], _, rfl⟩
              · have d1 : decide (j2 < (p.size : Int)) = false := decide_eq_false e1
                have hc : opB p j2 = false := by unfold opB; rw [d1]; rfl
                have HC := Aside0.mk hc
                clear hc
                go_quiet (fail)
                go_wp2
                go_meet
                case rel => exact ⟨by rw [HC.out], _, rfl⟩
            case rest =>
              obtain ⟨rfl, m, rfl⟩ := hcut
              have hO := HO.out
              simp only [opsF, ← opB_iff] at hO
              have HACC2 := Aside0.mk (show Acc (wr.drewN m) w.heap.size 51 acc v vs from acc_move HACC.out (fun _ _ _ => rfl))
              have HREP2 := Aside0.mk (show RepX (wr.drewN m) (fun k => wx.heap.size ≤ k) y (.iface T4 u4) from RepX_move (w := wr) (w1 := wr.drewN m) (fun k hk hl => ⟨hk, rfl⟩) _ _ HREP.out)
              have HST2 := Aside0.mk (st_drewN (n := m) HST.out)
              have HB2 := Aside0.mk (show Bx w.heap.size g w (wr.drewN m) from kk)
              clear HACC HREP HST HB kw c0 c1 f1 hx
              generalize hsb : opB p j2 = sb at hO ⊢
              have HSB2 := Aside0.mk hsb
              clear hsb HO
              generalize wr.drewN m = wy at *
              have kw : K0 (Bx w.heap.size g w wy) := ⟨HB2.out⟩
              have c0 := HST2.out.c0
              have c1 := HST2.out.c1
              have f1 := HST2.out.fr 1
              have hx := bt_at p j2
              cases sb
              · obtain rfl := Option.some.inj hO
                have hcl := HACC2.out.cell
                clear hO
                have hvl := RepXs_len _ _ HACC2.out.2.2.2
                have hln := HN.out.2.2
                have hc1 : ∀ j u, [Value.iface T4 u4][j]? = some u → (wy.alloc (.cells #[.iface T4 u4] 40)).cell? ((⟨wy.heap.size, 0, none⟩ : Addr).add j) = some u := by
                  intro j' u' hu
                  rcases j' with _ | j'
                  · cases hu; exact cell_of_row _ wy.heap.size 0 _ 40 _ (heap_alloc_new _ _)
                  · cases hu
                have hc2 : ∀ u ∈ [Value.iface T4 u4], u.oneCell' = true := by
                  intro u' hu
                  obtain rfl := List.mem_singleton.mp hu
                  rfl
                have hc3 : vs.length + 1 ≤ maxLen := by simp only [maxLen]; omega
                have hc4 : (vs.length + 1) * 16 ≤ 140737488355328 := by omega
                have hc5 : w.heap.size ≤ (wy.alloc (.cells #[.iface T4 u4] 40)).heap.size := by rw [sz_al]; have := lt_of_some HACC2.out.1; omega
                have HC1 := Aside0.mk hc1
                have HC2 := Aside0.mk hc2
                have HC3 := Aside0.mk hc3
                have HC4 := Aside0.mk hc4
                have HC5 := Aside0.mk hc5
                have HVL := Aside0.mk hvl
                clear hc1 hc2 hc3 hc4 hc5 hvl hln c0 c1 f1 hx
                go_upto_region 7 with (fail)
                go_wp2_with (at_builtin; refine wpList_append_at rfl (.tmp 84) (.tmp 86) 48 rfl w.heap.size 40 i0 .nilIface 1 16 Try.underlying48 HI.out HZ.out.1 HZ.out.2.1 HZ.out.2.2 rfl (by decide) v vs.length vs rfl (HACC2.out.2.1.alloc _) ⟨wy.heap.size, 0, none⟩ 1 1 [.iface T4 u4] rfl rfl HC1.out HC2.out HC3.out HC4.out HC5.out ?_; intro v2 w2 hown hgr hloc; obtain ⟨A2, n2, c2', rfl⟩ := own_sl hown; have hx2 := acc_grown HACC2.out hgr; have hcl2 := bk_cell hx2; have hfr2 := bk_fr hx2 0; have HG := Aside0.mk (And.intro hown (And.intro hgr hloc)); clear hown hgr hloc hx2)
                go_roundg k1
                case measure => omega
                case rel =>
                  have hpush := acc_push HACC2.out HREP2.out (fun k hk => hk) HXB.out HVB.out HG.out.2.1 HG.out.1 HG.out.2.2
                  have hst : St w2 g p j2 o := st_grown HST2.out HG.out.2.1 (fun e => by have := (HACC2.out.2.1.lt g e.symm).1; have := HGL.out; omega)
                  have hbx : Bx w.heap.size g w w2 := bx_grown HB2.out HG.out.2.1 (fun k hk => (HACC2.out.2.1.lt k hk).1)
                  have kz : K0 (Bx w.heap.size g w w2) := ⟨hbx⟩
                  have kx : K0 (w.heap.size ≤ w.heap.size) := ⟨Nat.le_refl _⟩
                  have hf := HF.out
                  have hj := HJ.out
                  have hn := HN.out
                  exact ⟨j2, acc ++ [y], _, _, HA4, ⟨by have := HK.out; omega⟩, ⟨m0, m1, by rw [List.length_append]; simp only [List.length_cons, List.length_nil]; omega⟩, ⟨st_far hst (by have := HGL.out; omega)⟩, ⟨hpush⟩, ⟨kk⟩⟩
              · rw [if_pos rfl] at hO
                have HO2 := Aside0.mk hO
                have m2 : j2 < p.size := by have := (opB_iff p j2).mp HSB2.out; exact this.1
                clear hO
                go_wp2
                go_quiet (fail)
                go_wp2
                go_roundg k2
                case measure => omega
                case rel =>
                  refine ⟨j2 + 1, .rep y (bt p j2), _, _, rfl, HO2, ⟨by omega, by omega⟩, ⟨stt HST2⟩, ⟨?_⟩, ⟨?_⟩, ⟨kk⟩⟩
                  · unfold RepX
                    refine ⟨_, RepX_move (fun k hk hl => ⟨hk, ?_⟩) _ _ HREP2.out, rfl⟩
                    have hne : k ≠ g := by have := HGL.out; have := HXB.out; omega
                    exact Below.heap_setCell _ _ _ _ hne
                  · exact acc_move HACC2.out (fun k hk hl => Below.heap_setCell _ _ _ _ (by have := HGL.out; show k ≠ g; omega))
end Go.Proofs.Ytimbggkjpdaenaa.Q

namespace Go.Proofs.Ytimbggkjpdaenaa.Q
open Go.RowKit Go.Proofs.YtimbggkjpdaenaaW.PrintWords Go.Proofs.YtimbggkjpdaenaaW.PrintLast
set_option linter.unusedVariables false
set_option linter.unusedSimpArgs false
def altB (p : ByteArray) (j : Int) : Bool := decide (j = p.size) || (bt p j != 124)
theorem altB_iff (p : ByteArray) (j : Int) : (altB p j = true) ↔ (j = p.size ∨ bt p j ≠ 124) := by unfold altB; simp
set_option maxHeartbeats 4000000 in
set_option maxRecDepth 100000 in
theorem alt_calls (k : Nat) (IH : ∀ m, m < k → SeqC m) : AltC k := by
  intro g p i o r h h0 h1 hp o0 o1 w hs
  have HIH := Aside0.mk IH
  have H := Aside0.mk h
  have HS := Aside0.mk hs
  have hgl : g < w.heap.size := lt_of_some hs
  have HGL := Aside0.mk hgl
  have kr : K0 (Bx w.heap.size g w w) := ⟨Bx.refl _ _ _⟩
  obtain ⟨i0, hi, hz0, hz1, hz2⟩ := info_parts info40
  have HI := Aside0.mk hi
  have HZ := Aside0.mk (And.intro hz0 (And.intro hz1 hz2))
  clear IH h hs hi hz0 hz1 hz2 hgl
  go_enter Try.func37, Try.ntmps37
  go_upto_region 2 with (fail)
  have HS2 := Aside0.mk (show St (w.alloc (.cells #[.slice none 0 0] 50)) g p i o from stt HS)
  have HA2 := Aside0.mk (acc_nil w 50)
  have HX2 := Aside0.mk (show Bx w.heap.size g w (w.alloc (.cells #[.slice none 0 0] 50)) from kk)
  clear kr HS
  go_loopg [4] k (fun kq v4 W => ∃ (j : Int) (acc : List Rx) (v : Value) (vs : List Value), Aside0 (altL kq p j o acc = some r) ∧ Aside0 (kq ≤ k) ∧ Aside0 (0 ≤ j ∧ j ≤ p.size ∧ acc.length ≤ j) ∧ Aside0 (St W g p j o) ∧ Aside0 (Acc W w.heap.size 50 acc v vs) ∧ Aside0 (Bx w.heap.size g w W))
  case atStart => exact ⟨i, [], _, [], H, ⟨Nat.le_refl _⟩, ⟨h0, h1, h0⟩, HS2, HA2, HX2⟩
  case round =>
    clear HS2 HA2 HX2 H
    obtain ⟨j, acc, v, vs, HA, HK, HN, HST, HACC, HB⟩ := hrel
    cases gk with
    | zero => exact absurd HA.out (by simp [altL])
    | succ k1 =>
    have j0 := HN.out.1
    have j1 := HN.out.2.1
    have kw : K0 (Bx w.heap.size g w wr) := ⟨HB.out⟩
    have hA := HA.out
    simp only [altL] at hA
    have HA2 := Aside0.mk hA
    clear hA HA
    cases hq : seqL k1 p j o [] with
    | none => exfalso; have := HA2.out; rw [hq] at this; cases this
    | some q =>
    have HQ := Aside0.mk hq
    have hcl := HACC.out.cell
    have HXB := Aside0.mk (lt_of_some HACC.out.1)
    have HVB := Aside0.mk (fun k hk => (HACC.out.2.1.lt k hk).2)
    have HVL := Aside0.mk (RepXs_len _ _ HACC.out.2.2.2)
    have hst := st_drew HST.out
    have hacc : Acc wr.drew w.heap.size 50 acc v vs := acc_move HACC.out (fun _ _ _ => rfl)
    have hbx : Bx w.heap.size g w wr.drew := kk
    have HACC2 := Aside0.mk hacc
    have HST2 := Aside0.mk hst
    have HB2 := Aside0.mk hbx
    have hk1 : k1 < k := by have := HK.out; omega
    have HK1 := Aside0.mk hk1
    clear hacc hst hbx hk1 hq HACC HST HB kw
    go_upto_region 2 with (fail)
    go_cut [] (fun wc => ∃ (y : Rx) (j2 : Int) (v2 : Value) (vs2 : List Value), q = .ok (y, j2) ∧ Aside0 (St wc g p j2 o) ∧ Aside0 (Acc wc w.heap.size 50 (acc ++ [y]) v2 vs2) ∧ Aside0 (Bx w.heap.size g w wc))
    case first =>
      refine sz_region (S := fun W => W.cell? ⟨w.heap.size, 0, none⟩ = some v) 7 [(0, false), (1, false), (2, false), (3, true), (4, true), (5, true), (6, false), (7, true)] (by intro d v c a w h; cases d <;> exact h) (by kernel_rfl) (by kernel_rfl) HACC2.out.cell ?_
      repeat (first | (refine sz_n ?_ ?_ rfl ?_ ?_ ?_; rotate_left 2; (intro W hW; go_simp; first | done | with_reducible rfl); (simp only [List.setIfInBounds_toArray, List.set_cons_zero, List.set_cons_succ]; try rfl)) | (refine sz_g ?_ ?_ rfl rfl rfl ?_ ?_ ?_; rotate_left 2; (intro W hW; go_simp; first | done | with_reducible rfl); (simp only [List.setIfInBounds_toArray, List.set_cons_zero, List.set_cons_succ]; try rfl)) | (refine sz_f ?_ rfl rfl rfl ?_ ?_; rotate_left; (simp only [List.setIfInBounds_toArray, List.set_cons_zero, List.set_cons_succ]; try rfl)) | (refine sz_u ?_ rfl rfl rfl ?_ ?_; rotate_left; (simp only [List.setIfInBounds_toArray, List.set_cons_zero, List.set_cons_succ]; try rfl)))
      refine sz_1n rfl (fun K hK => ?_)
      go_simp
      go_at_call 45
      refine (HIH.out k1 HK1.out g p j o q HQ.out j0 j1 hp o0 o1 _ HST2.out).mono ?_
      rintro e w1 hch
      rcases q with ⟨c, a⟩ | ⟨y, j2⟩
      · obtain ⟨rfl, hb1⟩ := hch
        have hA := HA2.out
        rw [HQ.out] at hA
        obtain rfl := Option.some.inj hA
        exact ⟨rfl, rfl, HB2.out.trans (hb1.lower HB2.out.size)⟩
      · obtain ⟨v1, rfl, hrep, hst, hb1⟩ := hch
        obtain ⟨T1, u1, rfl⟩ := RepX_iface hrep
        have hacc := acc_bx HACC2.out hb1 HGL.out
        have HREP := Aside0.mk hrep
        have HST := Aside0.mk hst
        have HACC := Aside0.mk hacc
        have HB := Aside0.mk (HB2.out.trans (hb1.lower HB2.out.size))
        have hcl1 := hacc.cell
        clear hrep hst hacc hb1 HST2 HACC2 HB2 hcl
        go_wp2_with fail
        refine hK.out _ _ (.inr hcl1) ?_
        refine sz_1n rfl (fun K hK => ?_)
        go_simp
        have hvl := HVL.out
        have hln := HN.out.2.2
        have hc1 : ∀ j u, [Value.iface T1 u1][j]? = some u → (w1.alloc (.cells #[.iface T1 u1] 40)).cell? ((⟨w1.heap.size, 0, none⟩ : Addr).add j) = some u := by
          intro j' u' hu
          rcases j' with _ | j'
          · cases hu; exact cell_of_row _ w1.heap.size 0 _ 40 _ (heap_alloc_new _ _)
          · cases hu
        have hc2 : ∀ u ∈ [Value.iface T1 u1], u.oneCell' = true := by
          intro u' hu
          obtain rfl := List.mem_singleton.mp hu
          rfl
        have hc3 : vs.length + 1 ≤ maxLen := by simp only [maxLen]; omega
        have hc4 : (vs.length + 1) * 16 ≤ 140737488355328 := by omega
        have hc5 : w.heap.size ≤ (w1.alloc (.cells #[.iface T1 u1] 40)).heap.size := by rw [sz_al]; have := lt_of_some HACC.out.1; omega
        refine hK.out _ _ (.inr ((cell_of_row _ w.heap.size 0 _ 50 _ ((heap_alloc_old w1 _ (lt_of_some HACC.out.1)).trans HACC.out.1)))) ?_
        refine sz_1n rfl (fun K hK => ?_)
        refine wp_append_at (.tmp 5) (.tmp 8) 48 rfl w.heap.size 40 i0 .nilIface 1 16 Try.underlying48 HI.out HZ.out.1 HZ.out.2.1 HZ.out.2.2 rfl (by decide) v vs.length vs rfl (HACC.out.2.1.alloc _) ⟨w1.heap.size, 0, none⟩ 1 1 [.iface T1 u1] rfl rfl hc1 hc2 hc3 hc4 hc5 ?_
        intro v2 w2 hown hgr hloc
        obtain ⟨A2, n2, c2', rfl⟩ := own_sl hown
        have hx2 := acc_grown HACC.out hgr
        have hcl2 := bk_cell hx2
        have hfr2 := bk_fr hx2 0
        have HG := Aside0.mk (And.intro hown (And.intro hgr hloc))
        clear hown hgr hloc hx2 hc1 hc2 hc3 hc4 hc5 hvl hln hcl1
        refine hK.out _ _ (.inr hcl2) ?_
        simp only [Act.put, List.setIfInBounds_toArray, List.set_cons_zero, List.set_cons_succ]
        repeat (first | (refine sz_n ?_ ?_ rfl ?_ ?_ ?_; rotate_left 2; (intro W hW; go_simp; first | done | with_reducible rfl); (simp only [List.setIfInBounds_toArray, List.set_cons_zero, List.set_cons_succ]; try rfl)) | (refine sz_g ?_ ?_ rfl rfl rfl ?_ ?_ ?_; rotate_left 2; (intro W hW; go_simp; first | done | with_reducible rfl); (simp only [List.setIfInBounds_toArray, List.set_cons_zero, List.set_cons_succ]; try rfl)) | (refine sz_f ?_ rfl rfl rfl ?_ ?_; rotate_left; (simp only [List.setIfInBounds_toArray, List.set_cons_zero, List.set_cons_succ]; try rfl)) | (refine sz_u ?_ rfl rfl rfl ?_ ?_; rotate_left; (simp only [List.setIfInBounds_toArray, List.set_cons_zero, List.set_cons_succ]; try rfl)))
        refine sz_1n rfl (fun K hK => ?_)
        go_simp
        refine hK.out _ _ (.inl rfl) ?_
        refine sz_done ?_
        go_wp2_with fail
        have hpush := acc_push HACC.out HREP.out (fun k hk => hk) HXB.out HVB.out HG.out.2.1 HG.out.1 HG.out.2.2
        have hst : St w2 g p j2 o := st_grown HST.out HG.out.2.1 (fun e => by have := (HACC.out.2.1.lt g e.symm).1; have := HGL.out; omega)
        have hbx : Bx w.heap.size g w w2 := bx_grown HB.out HG.out.2.1 (fun k hk => (HACC.out.2.1.lt k hk).1)
        have kz : K0 (Bx w.heap.size g w w2) := ⟨hbx⟩
        have kx : K0 (w.heap.size ≤ w.heap.size) := ⟨Nat.le_refl _⟩
        have HP := Aside0.mk hpush
        have HS3 := Aside0.mk hst
        clear hpush hst hbx
        go_meet
        case rel => exact ⟨y, j2, _, _, rfl, ⟨st_far HS3.out (by have := HGL.out; omega)⟩, HP, ⟨kk⟩⟩
    case rest =>
      clear HB2 HST2 HACC2 hcl
      obtain ⟨y, j2, v2, vs2, rfl, HST, HACC, HB⟩ := hcut
      have hA := HA2.out
      rw [HQ.out] at hA
      simp only [obind, ← altB_iff] at hA
      have hjb := (par_ok k1).2.1 _ _ _ _ _ HQ.out j0 j1
      have m0 : 0 ≤ j2 := by have := hjb.1; omega
      have m1 : j2 ≤ p.size := hjb.2
      have HJ := Aside0.mk hjb
      have c0 := HST.out.c0
      have c1 := HST.out.c1
      have f1 := HST.out.fr 1
      have hx := bt_at p j2
      have kw : K0 (Bx w.heap.size g w wc) := ⟨HB.out⟩
      generalize hab : altB p j2 = ab at hA
      have HAB := Aside0.mk hab
      have HA3 := Aside0.mk hA
      clear hA HA2 hab hjb
      go_upto_region 3 with (fail)
      go_cut [32] (fun v32 wd => v32 = .bool ab ∧ ∃ m, wd = wc.drewN m)
      case first =>
        by_cases e1 : j2 = p.size
        · have d1 : (j2 == (p.size : Int)) = true := beq_iff_eq.mpr e1
          have hc : altB p j2 = true := by unfold altB; rw [decide_eq_true e1]; rfl
          have HC := Aside0.mk (HAB.out.symm.trans hc)
          clear hc e1
          go_quiet (fail)
          go_wp2
          go_meet
          case rel => exact ⟨by rw [HC.out], _, rfl⟩
        · have d1 : (j2 == (p.size : Int)) = false := beq_eq_false_iff_ne.mpr e1
          have hc : altB p j2 = (bt p j2 != 124) := by unfold altB; rw [decide_eq_false e1]; rfl
          have HC := Aside0.mk (HAB.out.symm.trans hc)
          have m2 : j2 < p.size := by omega
          clear hc e1
          go_quiet (fail)
          go_wp2
          go_meet
          case rel => exact ⟨by rw [HC.out], _, rfl⟩
      case rest =>
        obtain ⟨rfl, m, rfl⟩ := hcut
        have hacc : Acc (wc.drewN m) w.heap.size 50 (acc ++ [y]) v2 vs2 := acc_move HACC.out (fun _ _ _ => rfl)
        have hst := st_drewN (n := m) HST.out
        have hbx : Bx w.heap.size g w (wc.drewN m) := kk
        have HACC2 := Aside0.mk hacc
        have HST2 := Aside0.mk hst
        have HB2 := Aside0.mk hbx
        have hA := HA3.out
        clear hacc hst hbx HACC HST HB kw HA3 c0 c1 f1
        generalize wc.drewN m = wy at *
        have c0 := HST2.out.c0
        have c1 := HST2.out.c1
        have f1 := HST2.out.fr 1
        have kw : K0 (Bx w.heap.size g w wy) := ⟨HB2.out⟩
        cases ab
        · rw [if_neg (by simp)] at hA
          have HA4 := Aside0.mk hA
          have hne : j2 ≠ (p.size : Int) ∧ bt p j2 = 124 := by have := HAB.out; unfold altB at this; simpa using this
          have m2 : j2 < p.size := by have := hne.1; omega
          clear hA hne
          go_wp2
          go_roundg k1
          case measure => omega
          case rel => 
            have hj := HJ.out
            have hn := HN.out
            exact ⟨j2 + 1, acc ++ [y], v2, vs2, HA4, ⟨by have := HK.out; omega⟩, ⟨by omega, by omega, by rw [List.length_append]; simp only [List.length_cons, List.length_nil]; omega⟩, ⟨stt HST2⟩, ⟨acc_move HACC2.out (fun k hk hl => Below.heap_setCell _ _ _ _ (by have := HGL.out; show k ≠ g; omega))⟩, ⟨kk⟩⟩
        · rw [if_pos rfl] at hA
          obtain rfl := Option.some.inj hA
          have hcl := HACC2.out.cell
          clear hA
          go_wp2
          go_ret
          refine ⟨_, rfl, ?_, HST2.out, HB2.out⟩
          unfold RepX
          exact ⟨v2, vs2, rfl, own_lower HACC2.out.2.1 (Nat.zero_le _), fun k hk => (HACC2.out.2.1.lt k hk).1, RepXs_move (fun k hk hl => ⟨Nat.le_of_lt hk.1, rfl⟩) _ _ HACC2.out.2.2.2⟩
theorem all_calls : ∀ k, (∀ m, m ≤ k → SeqC m) ∧ (∀ m, m ≤ k → AltC m) ∧ (∀ m, m ≤ k → AtomC m)
  | 0 => by
    have hm : ∀ m, m ≤ 0 → AtomC m := by
      intro m hm
      obtain rfl : m = 0 := by omega
      intro g p i o r h
      cases h
    have hs : ∀ m, m ≤ 0 → SeqC m := fun m hm' => seq_calls m fun q hq => (by omega)
    exact ⟨hs, fun m hm' => alt_calls m fun q hq => (by omega), hm⟩
  | k + 1 => by
    obtain ⟨is, ia, im⟩ := all_calls k
    refine ⟨fun m hm => seq_calls m fun q hq => im q (by omega), fun m hm => alt_calls m fun q hq => is q (by omega), fun m hm => ?_⟩
    rcases Nat.lt_or_ge k m with h | h
    · obtain rfl : m = k + 1 := by omega
      exact atom_calls k (ia k (Nat.le_refl _))
    · exact im m h
theorem alt_any (k : Nat) : AltC k := (all_calls k).2.1 k (Nat.le_refl _)
end Go.Proofs.Ytimbggkjpdaenaa.Q

namespace Go.Proofs.Ytimbggkjpdaenaa.Q
open Go.RowKit Go.Proofs.YtimbggkjpdaenaaW.PrintWords Go.Proofs.YtimbggkjpdaenaaW.PrintLast
set_option linter.unusedVariables false
set_option linter.unusedSimpArgs false
def patF (k : Nat) (p : ByteArray) : Option (Except (Int × Int) Rx) := obind (altL k p 0 0 []) fun x => if x.2 < p.size then some (.error (2, x.2)) else some (.ok x.1)
def VarX (w : World) (bx : Nat) (v : Value) : Prop := w.heap[bx]? = some (.cells #[v] 40 (0, 0))
def IsI (v : Value) : Prop := v = .nilIface ∨ ∃ T u, v = .iface T u
set_option maxHeartbeats 4000000 in
set_option maxRecDepth 100000 in
theorem pat1_calls (k : Nat) (p : ByteArray) (r : Except (Int × Int) Rx) (h : patF k p = some r) (hp : p.size ≤ 200) (bp bx : Nat) (u : Value) (w : World) (hb : w.cell? ⟨bp, 0, none⟩ = some (.string p)) (hx : VarX w bx u) (hne : bp ≠ bx) (hu : IsI u) :
    Calls Try.prog 36 #[.pointer (some ⟨bp, 0, none⟩), .pointer (some ⟨bx, 0, none⟩)] w fun e w' => RP r (fun x => ∃ v, e = .returned (.tuple #[]) ∧ VarX w' bx v ∧ RepX w' (fun k => w.heap.size ≤ k) x v ∧ Bx w.heap.size bx w w') (fun c a => e = .panicked (flt c a) ∧ (∃ v, VarX w' bx v ∧ IsI v) ∧ Bx w.heap.size bx w w') := by
  have HX := Aside0.mk hx
  have HXL := Aside0.mk (lt_of_some hx)
  have HBL := Aside0.mk (World.block_lt_of_cell? w _ hb)
  have HNE := Aside0.mk hne
  have HU := Aside0.mk hu
  have hs : St (w.alloc (.cells #[.string p, .int .i64 0, .int .i64 0] 80)) w.heap.size p 0 0 := heap_alloc_new _ _
  have HS := Aside0.mk hs
  have h' := h
  unfold patF at h'
  cases hq : altL k p 0 0 [] with
  | none => rw [hq] at h'; cases h'
  | some q =>
  rw [hq] at h'
  have HQ := Aside0.mk hq
  have HR := Aside0.mk h'
  have HBP := Aside0.mk hb
  clear hx hne hs h h' hq hu
  go_enter Try.func36, Try.ntmps36
  go_wp2_with fail
  go_at_call 37
  refine (alt_any k w.heap.size p 0 0 q HQ.out (Int.le_refl _) (by omega) hp (by omega) (by omega) _ HS.out).mono ?_
  rintro e w1 hch
  have hal : Below w.heap.size w (w.alloc (.cells #[.string p, .int .i64 0, .int .i64 0] 80)) := (Below.refl _ _).alloc (Nat.le_refl _) _
  have hsz := sz_al w (.cells #[.string p, .int .i64 0, .int .i64 0] 80)
  rcases q with ⟨c, a⟩ | ⟨x, j⟩
  · obtain ⟨rfl, hb1⟩ := hch
    obtain rfl := Option.some.inj HR.out
    have hbl := hb1.below (C := w.heap.size) (by rw [hsz]; omega) (Nat.le_refl _)
    exact ⟨rfl, rfl, ⟨u, (hbl.block bx HXL.out).trans ((hal.block bx HXL.out).trans HX.out), HU.out⟩, Bx.of (hal.trans hbl)⟩
  · obtain ⟨v, rfl, hrep, hst, hb1⟩ := hch
    have hbl := hb1.below (C := w.heap.size) (by rw [hsz]; omega) (Nat.le_refl _)
    have hB := hal.trans hbl
    have hvx : VarX w1 bx u := (hB.block bx HXL.out).trans HX.out
    have hcb : w1.cell? ⟨bp, 0, none⟩ = some (.string p) := (hB.cell (p := ⟨bp, 0, none⟩) HBL.out).trans HBP.out
    obtain ⟨T0, u0, rfl⟩ := RepX_iface hrep
    have hjb := (par_ok k).1 _ _ _ _ _ HQ.out (Int.le_refl _) (by omega)
    have j0 : 0 ≤ j := hjb.1
    have j1 : j ≤ p.size := hjb.2
    have hcx := bk_cell hvx
    have hfx := bk_fr hvx 0
    have hgx : w.heap.size ≠ bx := by have := HXL.out; omega
    have hpx : ¬ bp = bx := HNE.out
    have c1 := hst.c1
    have hr := HR.out
    simp only [obind] at hr
    have hst2 : St (w1.setCell ⟨bx, 0, none⟩ (.iface T0 u0)) w.heap.size p j 0 := st_far hst hgx
    have hvx2 : VarX (w1.setCell ⟨bx, 0, none⟩ (.iface T0 u0)) bx (.iface T0 u0) := bk_put hvx _
    have hbx2 : Bx w.heap.size bx w (w1.setCell ⟨bx, 0, none⟩ (.iface T0 u0)) := (Bx.of hB).trans ⟨rfl, rfl, rfl, by simp [World.setCell], fun k _ hk => Below.heap_setCell _ _ _ _ hk⟩
    have hcb2 : (w1.setCell ⟨bx, 0, none⟩ (.iface T0 u0)).cell? ⟨bp, 0, none⟩ = some (.string p) := by
      unfold World.cell?; rw [Below.heap_setCell _ _ _ _ hpx]; exact hcb
    have hrep2 : RepX (w1.setCell ⟨bx, 0, none⟩ (.iface T0 u0)) (fun k => w.heap.size ≤ k) x (.iface T0 u0) := RepX_move (fun k hk hl => ⟨by rw [hsz] at hk; omega, Below.heap_setCell _ _ _ _ (by have := HXL.out; show k ≠ bx; omega)⟩) _ _ hrep
    have c12 := hst2.c1
    have HF := Aside0.mk (And.intro hvx2 (And.intro hbx2 hrep2))
    clear hst2 hvx2 hbx2 hrep2 hst hrep hvx hB hbl hb1 hal hjb HR HX HS c1 hcb
    by_cases e1 : j < p.size
    · rw [if_pos e1] at hr
      obtain rfl := Option.some.inj hr
      have d1 : decide (j < (p.size : Int)) = true := decide_eq_true e1
      clear hr e1
      go_upto_region 2 with (fail)
      generalize w1.setCell ⟨bx, 0, none⟩ (.iface T0 u0) = w2 at *
      go_wp2_with fail
      go_at_call 38
      refine (fail_calls _ _ _ _).mono ?_
      rintro e w' ⟨rfl, rfl⟩
      exact ⟨rfl, rfl, ⟨_, HF.out.1, .inr ⟨_, _, rfl⟩⟩, HF.out.2.1⟩
    · rw [if_neg e1] at hr
      obtain rfl := Option.some.inj hr
      have d1 : decide (j < (p.size : Int)) = false := decide_eq_false e1
      clear hr e1
      go_upto_region 2 with (fail)
      generalize w1.setCell ⟨bx, 0, none⟩ (.iface T0 u0) = w2 at *
      go_wp2
      go_end0
      exact ⟨_, rfl, HF.out.1, HF.out.2.2, HF.out.2.1⟩
end Go.Proofs.Ytimbggkjpdaenaa.Q

namespace Go.Proofs.Ytimbggkjpdaenaa.Q
open Go.RowKit Go.Proofs.YtimbggkjpdaenaaW.PrintWords Go.Proofs.YtimbggkjpdaenaaW.PrintLast
set_option linter.unusedVariables false
set_option linter.unusedSimpArgs false
def Fv (w : World) (b : Nat) (c a : Int) : Prop := w.heap[b]? = some (.cells #[.int .i64 c, .int .i64 a] 42 (0, 0))
theorem catch_idle (b : Nat) (w : World) :
    CallsD Try.prog 44 #[.pointer (some ⟨b, 0, none⟩)] .returning w fun e u' w' => e = .returned (.tuple #[]) ∧ u' = .returning ∧ w' = w := by
  refine callsD_of_wpS Try.func44 rfl fun c₀ cs hu => ?_
  apply wpS_seq
  apply wpS_region
  simp [wpOpsS, go_sem, recoverD, hu, Try.ntmps44, Exit.thenS]
  apply wpS_seq
  apply wpS_region
  simp [wpOpsS, go_sem, Exit.thenS]
  refine wpS_cond (t := false) (by simp [Act.eval, Array.replicate]) ?_
  simp only [Bool.false_eq_true, if_false]
  refine wpS_of_wp (wp_skip ?_)
  cases c₀
  simp_all [bodyPostS, results, Try.results44]
theorem run_ta (v : Value) (w : World) : (Instr.typeAssert (.iface 42 v) 20 42 true).run Try.prog w = .ok (.tuple #[v, .bool true]) w := by kernel_rfl
set_option maxHeartbeats 1000000 in
set_option maxRecDepth 100000 in
theorem catch_some (b : Nat) (c a c0 a0 : Int) (w : World) (hb : Fv w b c0 a0) :
    CallsD Try.prog 44 #[.pointer (some ⟨b, 0, none⟩)] (.panicking (flt c a)) w fun e u' w' => e = .returned (.tuple #[]) ∧ u' = .panicking [{ v := .iface 42 (.agg #[.int .i64 c, .int .i64 a]), recovered := true }] ∧ Fv w' b c a ∧ Bx w.heap.size b w w' := by
  refine callsD_of_wpS Try.func44 rfl fun c₀ cs hu => ?_
  apply wpS_seq
  apply wpS_region
  simp [wpOpsS, go_sem, recoverD, hu, flt, Try.ntmps44, Exit.thenS]
  apply wpS_seq
  apply wpS_region
  simp [wpOpsS, go_sem, Exit.thenS]
  refine wpS_cond (t := true) (by simp [Act.eval, Array.replicate]) ?_
  simp only [if_true]
  refine wpS_of_wp (wp_mono (Q := fun e a' w' => e = .normal ∧ a'.defers = [] ∧ Fv w' b c a ∧ Bx w.heap.size b w w') ?_ ?_)
  · have hbl := lt_of_some hb
    have kr : K0 (Bx w.heap.size b w w) := ⟨Bx.refl _ _ _⟩
    have HB := Aside0.mk hb
    have hc0 : w.cell? ⟨b, 0, none⟩ = some (.int .i64 c0) := cell_of_row _ b 0 _ 42 _ hb
    have hc1 : w.cell? ⟨b, 1, none⟩ = some (.int .i64 a0) := cell_of_row _ b 1 _ 42 _ hb
    have hf0 := bk_fr hb 0
    have hf1 := bk_fr hb 1
    clear hb
    have hta := run_ta
    simp only [Array.replicate_succ, Array.replicate_zero, List.push_toArray, List.append_toArray, List.nil_append, List.cons_append, List.setIfInBounds_toArray, List.set_cons_zero, List.set_cons_succ]
    go_wp2
    refine ⟨?_, kk⟩
    have h1 := bk_put (j := 0) HB.out (.int .i64 c)
    have h2 := bk_put (j := 1) h1 (.int .i64 a)
    have h3 := blk_alloc h2 (.cells #[.int .i64 c, .int .i64 a] 42)
    simpa [Fv] using h3
  · rintro e a' w' ⟨rfl, hd, hf, hx⟩
    cases c₀
    simp [bodyPostS, results, Try.results44, hd, hf, hx]
def CaughtP (w : World) (bx : Nat) (r : Except (Int × Int) Rx) (e : Ending) (w' : World) : Prop :=
  RP r (fun x => ∃ v, e = .returned (.agg #[.int .i64 0, .int .i64 0]) ∧ VarX w' bx v ∧ RepX w' (fun k => w.heap.size ≤ k) x v ∧ Bx w.heap.size bx w w') (fun c a => ∃ v, e = .returned (.agg #[.int .i64 c, .int .i64 a]) ∧ VarX w' bx v ∧ Bx w.heap.size bx w w' ∧ IsI v)
set_option maxHeartbeats 4000000 in
set_option maxRecDepth 100000 in
theorem caught_calls (k : Nat) (p : ByteArray) (r : Except (Int × Int) Rx) (h : patF k p = some r) (hp : p.size ≤ 200) (bp bx : Nat) (u : Value) (w : World) (hb : w.cell? ⟨bp, 0, none⟩ = some (.string p)) (hx : VarX w bx u) (hne : bp ≠ bx) (hu : IsI u) :
    Calls Try.prog 35 #[.func (.func 36) #[] #[.pointer (some ⟨bp, 0, none⟩), .pointer (some ⟨bx, 0, none⟩)]] w (CaughtP w bx r) := by
  have hmf : ∀ (fn : Fn) (first cap : Array Value) (w : World), (Instr.makeFunc fn first cap).run Try.prog w = .ok (.func fn first cap) w := fun _ _ _ _ => rfl
  have hbl := World.block_lt_of_cell? w _ hb
  have hxl := lt_of_some hx
  have hb2 : (w.alloc (.cells #[.int .i64 0, .int .i64 0] 42)).cell? ⟨bp, 0, none⟩ = some (.string p) := by
    unfold World.cell?; rw [heap_alloc_old w _ hbl]; exact hb
  have hx2 : VarX (w.alloc (.cells #[.int .i64 0, .int .i64 0] 42)) bx u := (heap_alloc_old w _ hxl).trans hx
  have hfv : Fv (w.alloc (.cells #[.int .i64 0, .int .i64 0] 42)) w.heap.size 0 0 := heap_alloc_new _ _
  have HB := Aside0.mk hb2
  have HX := Aside0.mk hx2
  have HF := Aside0.mk hfv
  have HXL := Aside0.mk hxl
  clear hb hx hb2 hx2 hfv hbl hxl
  go_enter_defers Try.func35, Try.ntmps35
  go_wp2_with fail
  go_at_call 36
  refine (pat1_calls k p r h hp bp bx u _ HB.out HX.out hne hu).mono ?_
  rintro e w1 hch
  have hsz := sz_al w (.cells #[.int .i64 0, .int .i64 0] 42)
  have hal : Bx w.heap.size bx w (w.alloc (.cells #[.int .i64 0, .int .i64 0] 42)) := Bx.of ((Below.refl _ _).alloc (Nat.le_refl _) _)
  rcases r with ⟨c, a⟩ | x
  · obtain ⟨rfl, ⟨v, hv, hvi⟩, hb1⟩ := hch
    have hfv2 : Fv w1 w.heap.size 0 0 := (hb1.block _ (by rw [hsz]; omega) (by have := HXL.out; omega)).trans HF.out
    have e1 : ∀ w2 : World, VarX w2 bx v → Bx w.heap.size bx w w2 → CaughtP w bx (.error (c, a)) (.returned (.agg #[.int .i64 c, .int .i64 a])) w2 := fun w2 h1 h2 => ⟨v, rfl, h1, h2, hvi⟩
    have E1 := Aside0.mk e1
    clear e1
    generalize CaughtP w bx (.error (c, a)) = CP at *
    refine leaves_cons (f := 44) (args := #[.pointer (some ⟨w.heap.size, 0, none⟩)]) (by simp) (by simp [go_sem]) ?_
    refine (catch_some w.heap.size c a 0 0 w1 hfv2).mono ?_
    rintro e u' w2 ⟨rfl, rfl, hf2, hb2⟩
    have hc0 : w2.cell? ⟨w.heap.size, 0, none⟩ = some (.int .i64 c) := cell_of_row _ w.heap.size 0 _ 42 _ hf2
    have hc1 : w2.cell? ⟨w.heap.size, 1, none⟩ = some (.int .i64 a) := cell_of_row _ w.heap.size 1 _ 42 _ hf2
    have hv2 : VarX w2 bx v := (hb2.block bx (lt_of_some hv) (by have := HXL.out; omega)).trans hv
    have hbb : Bx w.heap.size bx w w2 := (hal.trans (hb1.lower (by rw [hsz]; omega))).trans ⟨hb2.os, hb2.tape, hb2.output, hb2.size, fun k hk hn => hb2.block k (by have := hal.size; have := hb1.size; omega) (by omega)⟩
    have hfin := E1.out w2 hv2 hbb
    simp [Leaves, settle, flt, results, Try.results35, go_sem, hc0, hc1]
    exact hfin
  · obtain ⟨v, rfl, hv, hrep, hb1⟩ := hch
    have hfv2 : Fv w1 w.heap.size 0 0 := (hb1.block _ (by rw [hsz]; omega) (by have := HXL.out; omega)).trans HF.out
    have hc0 : w1.cell? ⟨w.heap.size, 0, none⟩ = some (.int .i64 0) := cell_of_row _ w.heap.size 0 _ 42 _ hfv2
    have hc1 : w1.cell? ⟨w.heap.size, 1, none⟩ = some (.int .i64 0) := cell_of_row _ w.heap.size 1 _ 42 _ hfv2
    have hf0 := bk_fr hfv2 0
    have hf1 := bk_fr hfv2 1
    have h2 := bk_put (j := 1) (bk_put (j := 0) hfv2 (.int .i64 0)) (.int .i64 0)
    have hfv3 : Fv ((w1.setCell ⟨w.heap.size, 0, none⟩ (.int .i64 0)).setCell ⟨w.heap.size, 1, none⟩ (.int .i64 0)) w.heap.size 0 0 := h2
    have hm : ∀ q, q ≠ w.heap.size → ((w1.setCell ⟨w.heap.size, 0, none⟩ (.int .i64 0)).setCell ⟨w.heap.size, 1, none⟩ (.int .i64 0)).heap[q]? = w1.heap[q]? := fun q hq => (Below.heap_setCell _ _ _ _ hq).trans (Below.heap_setCell _ _ _ _ hq)
    have hv2 : VarX ((w1.setCell ⟨w.heap.size, 0, none⟩ (.int .i64 0)).setCell ⟨w.heap.size, 1, none⟩ (.int .i64 0)) bx v := (hm bx (by have := HXL.out; omega)).trans hv
    have hrep2 : RepX ((w1.setCell ⟨w.heap.size, 0, none⟩ (.int .i64 0)).setCell ⟨w.heap.size, 1, none⟩ (.int .i64 0)) (fun k => w.heap.size ≤ k) x v := RepX_move (fun k hk hl => ⟨by rw [hsz] at hk; omega, hm k (by rw [hsz] at hk; omega)⟩) _ _ hrep
    have hbb : Bx w.heap.size bx w ((w1.setCell ⟨w.heap.size, 0, none⟩ (.int .i64 0)).setCell ⟨w.heap.size, 1, none⟩ (.int .i64 0)) := (hal.trans (hb1.lower (by rw [hsz]; omega))).trans ⟨rfl, rfl, rfl, by simp [World.setCell], fun k hk hn => hm k (by omega)⟩
    have e1 : CaughtP w bx (.ok x) (.returned (.agg #[.int .i64 0, .int .i64 0])) ((w1.setCell ⟨w.heap.size, 0, none⟩ (.int .i64 0)).setCell ⟨w.heap.size, 1, none⟩ (.int .i64 0)) := ⟨v, rfl, hv2, hrep2, hbb⟩
    have E1 := Aside0.mk e1
    have HF3 := Aside0.mk hfv3
    clear e1 hv2 hrep2 hbb hm h2 hfv3 hb1 hrep hv hal
    generalize CaughtP w bx (.ok x) = CP at *
    go_wp2
    generalize (w1.setCell ⟨w.heap.size, 0, none⟩ (.int .i64 0)).setCell ⟨w.heap.size, 1, none⟩ (.int .i64 0) = w2 at *
    refine leaves_cons (f := 44) (args := #[.pointer (some ⟨w.heap.size, 0, none⟩)]) (by simp) (by simp [go_sem]) ?_
    refine (catch_idle w.heap.size w2).mono ?_
    rintro e u' w3 ⟨rfl, rfl, rfl⟩
    have hc0 : w3.cell? ⟨w.heap.size, 0, none⟩ = some (.int .i64 0) := cell_of_row _ w.heap.size 0 _ 42 _ HF3.out
    have hc1 : w3.cell? ⟨w.heap.size, 1, none⟩ = some (.int .i64 0) := cell_of_row _ w.heap.size 1 _ 42 _ HF3.out
    simp [Leaves, settle, results, Try.results35, go_sem, hc0, hc1]
    exact E1.out
end Go.Proofs.Ytimbggkjpdaenaa.Q

namespace Go.Proofs.Ytimbggkjpdaenaa.Q
open Go.RowKit Go.Proofs.YtimbggkjpdaenaaW.PrintWords Go.Proofs.YtimbggkjpdaenaaW.PrintLast
set_option linter.unusedVariables false
set_option linter.unusedSimpArgs false
def patR (k : Nat) (p : ByteArray) : Option (Except (Int × Int) Rx) := if 200 < p.size then some (.error (1, 0)) else patF k p
def PatP (w : World) (r : Except (Int × Int) Rx) (e : Ending) (w' : World) : Prop :=
  RP r (fun x => ∃ v, e = .returned (.tuple #[v, .agg #[.int .i64 0, .int .i64 0]]) ∧ RepX w' (fun k => w.heap.size ≤ k) x v ∧ Below w.heap.size w w') (fun c a => ∃ v, e = .returned (.tuple #[v, .agg #[.int .i64 c, .int .i64 a]]) ∧ Below w.heap.size w w')
set_option maxHeartbeats 4000000 in
set_option maxRecDepth 100000 in
theorem pattern_calls (k : Nat) (p : ByteArray) (r : Except (Int × Int) Rx) (h : patR k p = some r) (w : World) :
    Calls Try.prog 18 #[.string p] w (PatP w r) := by
  have hmf : ∀ (fn : Fn) (first cap : Array Value) (w : World), (Instr.makeFunc fn first cap).run Try.prog w = .ok (.func fn first cap) w := fun _ _ _ _ => rfl
  unfold patR at h
  by_cases e1 : 200 < p.size
  · rw [if_pos e1] at h
    obtain rfl := Option.some.inj h
    have d1 : decide (200 < (p.size : Int)) = true := decide_eq_true (by omega)
    have d2 : decide (200 < p.size) = true := decide_eq_true e1
    clear h e1
    go_enter Try.func18, Try.ntmps18
    go_wp2
    have kr : K0 (Below w.heap.size w w) := ⟨Below.refl _ _⟩
    have h1 := old1 w (.cells #[.string p] 9) (.cells #[.nilIface] 40) (.cells #[.int .i64 1, .int .i64 0] 42)
    have h2 := new2 w (.cells #[.string p] 9) (.cells #[.nilIface] 40) (.cells #[.int .i64 1, .int .i64 0] 42)
    have c0 := bk_cell h1
    have c1 := cell_of_row _ (w.heap.size + 1 + 1) 0 _ 42 _ h2
    have c2 := cell_of_row _ (w.heap.size + 1 + 1) 1 _ 42 _ h2
    simp at c1 c2
    refine bodyPost_ret (v := .tuple #[.nilIface, .agg #[.int .i64 1, .int .i64 0]]) (by simp [results, Try.results18, go_sem, c0, c1, c2]) rfl ⟨_, rfl, kk⟩
  · rw [if_neg e1] at h
    have d1 : decide (200 < (p.size : Int)) = false := decide_eq_false (by omega)
    have d2 : decide (200 < p.size) = false := decide_eq_false e1
    have hp2 : p.size ≤ 200 := by omega
    clear e1
    go_enter Try.func18, Try.ntmps18
    go_wp2_with fail
    have h0 : (((w.alloc (.cells #[.string p] 9)).alloc (.cells #[.nilIface] 40)).alloc (.cells #[.int .i64 0, .int .i64 0] 42)).heap[w.heap.size]? = some (.cells #[.string p] 9) := by
      rw [heap_alloc_old ((w.alloc (.cells #[.string p] 9)).alloc (.cells #[.nilIface] 40)) _ (by rw [sz_al, sz_al]; omega), heap_alloc_old (w.alloc (.cells #[.string p] 9)) _ (by rw [sz_al]; omega)]
      exact heap_alloc_new w _
    have h1 := old1 w (.cells #[.string p] 9) (.cells #[.nilIface] 40) (.cells #[.int .i64 0, .int .i64 0] 42)
    have h2 := new2 w (.cells #[.string p] 9) (.cells #[.nilIface] 40) (.cells #[.int .i64 0, .int .i64 0] 42)
    have hsz : (((w.alloc (.cells #[.string p] 9)).alloc (.cells #[.nilIface] 40)).alloc (.cells #[.int .i64 0, .int .i64 0] 42)).heap.size = w.heap.size + 3 := by rw [sz_al, sz_al, sz_al]
    have hal : Below w.heap.size w (((w.alloc (.cells #[.string p] 9)).alloc (.cells #[.nilIface] 40)).alloc (.cells #[.int .i64 0, .int .i64 0] 42)) := by
      have kr : K0 (Below w.heap.size w w) := ⟨Below.refl _ _⟩
      exact kk
    generalize ((w.alloc (.cells #[.string p] 9)).alloc (.cells #[.nilIface] 40)).alloc (.cells #[.int .i64 0, .int .i64 0] 42) = wa at *
    go_at_call 35
    refine (caught_calls k p r h hp2 w.heap.size (w.heap.size + 1) .nilIface wa (bk_cell h0) h1 (by omega) (.inl rfl)).mono ?_
    rintro e w1 hch
    obtain ⟨c, a, v, rfl, hv, hbx, hvi, hpp⟩ : ∃ (c a : Int) (v : Value), e = .returned (.agg #[.int .i64 c, .int .i64 a]) ∧ VarX w1 (w.heap.size + 1) v ∧ Bx wa.heap.size (w.heap.size + 1) wa w1 ∧ IsI v ∧ ∀ w2 : World, Below w.heap.size w w2 → (∀ q, q ≠ w.heap.size + 1 + 1 → q ≠ w.heap.size + 1 → q < w1.heap.size → w2.heap[q]? = w1.heap[q]?) → PatP w r (.returned (.tuple #[v, .agg #[.int .i64 c, .int .i64 a]])) w2 := by
      rcases r with ⟨c, a⟩ | x
      · obtain ⟨v, he, hv, hb, hi⟩ := hch
        exact ⟨c, a, v, he, hv, hb, hi, fun w2 hb2 _ => ⟨v, rfl, hb2⟩⟩
      · obtain ⟨v, he, hv, hrep, hb⟩ := hch
        obtain ⟨T0, u0, rfl⟩ := RepX_iface hrep
        exact ⟨0, 0, _, he, hv, hb, .inr ⟨_, _, rfl⟩, fun w2 hb2 hm => ⟨_, rfl, RepX_move (fun q hq hl => ⟨by rw [hsz] at hq; omega, hm q (by rw [hsz] at hq; omega) (by rw [hsz] at hq; omega) hl⟩) _ _ hrep, hb2⟩⟩
    have hf : Fv w1 (w.heap.size + 1 + 1) 0 0 := (hbx.block _ (by rw [hsz]; omega) (by omega)).trans h2
    have g0 : w1.cell? ⟨w.heap.size + 1 + 1, 0, none⟩ = some (.int .i64 0) := cell_of_row _ (w.heap.size + 1 + 1) 0 _ 42 _ hf
    have g1 : w1.cell? ⟨w.heap.size + 1 + 1, 1, none⟩ = some (.int .i64 0) := cell_of_row _ (w.heap.size + 1 + 1) 1 _ 42 _ hf
    have f0 := bk_fr hf 0
    have f1 := bk_fr hf 1
    have hf2 : Fv ((w1.setCell ⟨w.heap.size + 1 + 1, 0, none⟩ (.int .i64 c)).setCell ⟨w.heap.size + 1 + 1, 1, none⟩ (.int .i64 a)) (w.heap.size + 1 + 1) c a := bk_put (j := 1) (bk_put (j := 0) hf (.int .i64 c)) (.int .i64 a)
    have hm2 : ∀ q, q ≠ w.heap.size + 1 + 1 → ((w1.setCell ⟨w.heap.size + 1 + 1, 0, none⟩ (.int .i64 c)).setCell ⟨w.heap.size + 1 + 1, 1, none⟩ (.int .i64 a)).heap[q]? = w1.heap[q]? := fun q hq => (Below.heap_setCell _ _ _ _ hq).trans (Below.heap_setCell _ _ _ _ hq)
    have hv2 : VarX ((w1.setCell ⟨w.heap.size + 1 + 1, 0, none⟩ (.int .i64 c)).setCell ⟨w.heap.size + 1 + 1, 1, none⟩ (.int .i64 a)) (w.heap.size + 1) v := (hm2 _ (by omega)).trans hv
    have hB2 : Below w.heap.size w ((w1.setCell ⟨w.heap.size + 1 + 1, 0, none⟩ (.int .i64 c)).setCell ⟨w.heap.size + 1 + 1, 1, none⟩ (.int .i64 a)) := (hal.trans (hbx.below (by rw [hsz]; omega) (by omega))).trans ((Below.setCell (Below.setCell (Below.refl _ _) (by show _ ≤ w.heap.size + 1 + 1; omega) _) (by show _ ≤ w.heap.size + 1 + 1; omega) _))
    have HV2 := Aside0.mk hv2
    have HF2 := Aside0.mk hf2
    have HM2 := Aside0.mk hm2
    have HB2 := Aside0.mk hB2
    have HPP := Aside0.mk hpp
    clear hv2 hf2 hm2 hB2 hpp hf hv hbx h0 h1 h2 hal hch h
    go_upto_region 4 with (fail)
    generalize (w1.setCell ⟨w.heap.size + 1 + 1, 0, none⟩ (.int .i64 c)).setCell ⟨w.heap.size + 1 + 1, 1, none⟩ (.int .i64 a) = w2 at *
    have s0 := bk_cell HV2.out
    have s1 : w2.cell? ⟨w.heap.size + 1 + 1, 0, none⟩ = some (.int .i64 c) := cell_of_row _ (w.heap.size + 1 + 1) 0 _ 42 _ HF2.out
    have s2 : w2.cell? ⟨w.heap.size + 1 + 1, 1, none⟩ = some (.int .i64 a) := cell_of_row _ (w.heap.size + 1 + 1) 1 _ 42 _ HF2.out
    have t0 := bk_fr HV2.out 0
    have t1 := bk_fr HF2.out 0
    have t2 := bk_fr HF2.out 1
    refine sz_region (S := fun W => W.cell? ⟨w.heap.size + 1, 0, none⟩ = some v ∧ W.cell? ⟨w.heap.size + 1 + 1, 0, none⟩ = some (.int .i64 c) ∧ W.cell? ⟨w.heap.size + 1 + 1, 1, none⟩ = some (.int .i64 a)) 4 [(0, false), (1, false), (2, true), (3, true)] (by intro d v c a w h; cases d <;> exact h) (by kernel_rfl) (by kernel_rfl) ⟨s0, s1, s2⟩ ?_
    refine sz_n ?_ ?_ rfl ?_ ?_ ?_; rotate_left 2; (intro W hW; obtain ⟨s0, s1, s2⟩ := hW; go_simp; first | done | with_reducible rfl); (simp only [List.setIfInBounds_toArray, List.set_cons_zero, List.set_cons_succ]; try rfl)
    refine sz_n ?_ ?_ rfl ?_ ?_ ?_; rotate_left 2; (intro W hW; obtain ⟨s0, s1, s2⟩ := hW; go_simp; first | done | with_reducible rfl); (simp only [List.setIfInBounds_toArray, List.set_cons_zero, List.set_cons_succ]; try rfl)
    refine sz_1n rfl (fun K hK => ?_)
    have hv3 : VarX ((w2.setCell ⟨w.heap.size + 1, 0, none⟩ v).drew) (w.heap.size + 1) v := bk_put (j := 0) HV2.out v
    have hm3 : ∀ q, q ≠ w.heap.size + 1 → ((w2.setCell ⟨w.heap.size + 1, 0, none⟩ v).drew).heap[q]? = w2.heap[q]? := fun q hq => Below.heap_setCell _ _ _ _ hq
    have hB3 : Below w.heap.size w ((w2.setCell ⟨w.heap.size + 1, 0, none⟩ v).drew) := (HB2.out.trans (Below.setCell (Below.refl _ _) (by show _ ≤ w.heap.size + 1; omega) v)).drew
    have HV3 := Aside0.mk hv3
    have HF3 := Aside0.mk ((hm3 _ (by omega)).trans HF2.out)
    have HB3 := Aside0.mk hB3
    have HM3 := Aside0.mk hm3
    clear hv3 hm3 hB3
    rcases hvi with rfl | ⟨T0, u0, rfl⟩
    all_goals
      go_simp
      refine hK.out _ _ (.inr ?_) ?_
      · exact ⟨bk_cell HV3.out, cell_of_row _ (w.heap.size + 1 + 1) 0 _ 42 _ HF3.out, cell_of_row _ (w.heap.size + 1 + 1) 1 _ 42 _ HF3.out⟩
      refine sz_1n rfl (fun K hK => ?_)
      clear s0 s1 s2 t0 t1 t2
      generalize (w2.setCell ⟨w.heap.size + 1, 0, none⟩ _).drew = w3 at *
      have q1 : w3.cell? ⟨w.heap.size + 1 + 1, 0, none⟩ = some (.int .i64 c) := cell_of_row _ (w.heap.size + 1 + 1) 0 _ 42 _ HF3.out
      have q2 : w3.cell? ⟨w.heap.size + 1 + 1, 1, none⟩ = some (.int .i64 a) := cell_of_row _ (w.heap.size + 1 + 1) 1 _ 42 _ HF3.out
      have q3 := bk_fr HF3.out 0
      have q4 := bk_fr HF3.out 1
      go_simp
      have hm4 : ∀ q, q ≠ w.heap.size + 1 + 1 → ((w3.setCell ⟨w.heap.size + 1 + 1, 0, none⟩ (.int .i64 c)).setCell ⟨w.heap.size + 1 + 1, 1, none⟩ (.int .i64 a)).heap[q]? = w3.heap[q]? := fun q hq => (Below.heap_setCell _ _ _ _ hq).trans (Below.heap_setCell _ _ _ _ hq)
      have hv4 := (hm4 _ (by omega)).trans HV3.out
      have hf4 : Fv ((w3.setCell ⟨w.heap.size + 1 + 1, 0, none⟩ (.int .i64 c)).setCell ⟨w.heap.size + 1 + 1, 1, none⟩ (.int .i64 a)) (w.heap.size + 1 + 1) c a := bk_put (j := 1) (bk_put (j := 0) HF3.out (.int .i64 c)) (.int .i64 a)
      have hB4 : Below w.heap.size w ((w3.setCell ⟨w.heap.size + 1 + 1, 0, none⟩ (.int .i64 c)).setCell ⟨w.heap.size + 1 + 1, 1, none⟩ (.int .i64 a)) := HB3.out.trans ((Below.setCell (Below.setCell (Below.refl _ _) (by show _ ≤ w.heap.size + 1 + 1; omega) _) (by show _ ≤ w.heap.size + 1 + 1; omega) _))
      have hP := HPP.out _ hB4 (fun q h1 h2 h3 => (hm4 q h1).trans ((HM3.out q h2).trans (HM2.out q h1)))
      have HV4 := Aside0.mk hv4
      have HF4 := Aside0.mk hf4
      have HP4 := Aside0.mk hP
      clear hv4 hf4 hB4 hP hm4
      generalize (w3.setCell ⟨w.heap.size + 1 + 1, 0, none⟩ (.int .i64 c)).setCell ⟨w.heap.size + 1 + 1, 1, none⟩ (.int .i64 a) = w4 at *
      have p0 := bk_cell HV4.out
      have p1 : w4.cell? ⟨w.heap.size + 1 + 1, 0, none⟩ = some (.int .i64 c) := cell_of_row _ (w.heap.size + 1 + 1) 0 _ 42 _ HF4.out
      have p2 : w4.cell? ⟨w.heap.size + 1 + 1, 1, none⟩ = some (.int .i64 a) := cell_of_row _ (w.heap.size + 1 + 1) 1 _ 42 _ HF4.out
      refine hK.out _ _ (.inr ⟨p0, p1, p2⟩) ?_
      refine sz_done ?_
      go_wp2
      exact bodyPost_ret (by simp [results, Try.results18, go_sem, p0, p1, p2]) rfl HP4.out
end Go.Proofs.Ytimbggkjpdaenaa.Q

namespace Go.Proofs.Ytimbggkjpdaenaa.Q
open Go.RowKit Go.Proofs.YtimbggkjpdaenaaW.PrintWords Go.Proofs.YtimbggkjpdaenaaW.PrintLast
set_option linter.unusedVariables false
set_option linter.unusedSimpArgs false
theorem leo_cls : ∀ k p i f s, LeO (clsF k p i f s) (clsF (k + 1) p i f s)
  | 0, _, _, _, _ => fun r h => by cases h
  | k + 1, p, i, f, s => by
    simp only [clsF]
    refine LeO.ite ?_ (LeO.refl _)
    rcases hc : chF p i with e | ⟨lo, j⟩
    · exact LeO.refl _
    · simp only []
      refine LeO.ite ?_ (leo_cls k _ _ _ _)
      rcases hc2 : chF p (j + 1) with e | ⟨hi, m⟩
      · exact LeO.refl _
      · exact LeO.ite (LeO.refl _) (leo_cls k _ _ _ _)
theorem leo_cla (k : Nat) (p : ByteArray) (i : Int) : LeO (claF k p i) (claF (k + 1) p i) := LeO.map _ (leo_cls _ _ _ _ _)
theorem altL_s (k : Nat) (p : ByteArray) (i o : Int) (acc : List Rx) : altL (k + 1) p i o acc = obind (seqL k p i o []) fun x => if x.2 = p.size ∨ bt p x.2 ≠ 124 then some (.ok (.alt (acc ++ [x.1]), x.2)) else altL k p (x.2 + 1) o (acc ++ [x.1]) := by rw [altL]
theorem seqL_s (k : Nat) (p : ByteArray) (i o : Int) (acc : List Rx) : seqL (k + 1) p i o acc = if i < p.size ∧ (bt p i ≠ 124 ∧ bt p i ≠ 41) then obind (atomF k p i o) fun x => (opsF k p x.2 x.1).bind fun y => seqL k p y.2 o (acc ++ [y.1]) else some (.ok (.seq acc, i)) := by rw [seqL]
theorem atomF_s (k : Nat) (p : ByteArray) (i o : Int) : atomF (k + 1) p i o =
    if bt p i = 40 then (if o = 20 then some (.error (3, i)) else obind (altL k p (i + 1) (o + 1) []) fun x => if x.2 = p.size then some (.error (2, x.2)) else some (.ok (x.1, x.2 + 1)))
    else if bt p i = 91 then obind (claF k p (i + 1)) fun x => some (.ok (.one x.1 0 false, x.2))
    else if bt p i = 46 then some (.ok (.one (List.replicate 256 true) 0 false, i + 1))
    else if isOp (bt p i) = true ∨ bt p i = 93 then some (.error (2, i))
    else if bt p i = 92 then (if i + 1 = p.size then some (.error (2, i + 1)) else some (.ok (sgl (bt p (i + 1)), i + 2)))
    else some (.ok (sgl (bt p i), i + 1)) := by rw [atomF]
end Go.Proofs.Ytimbggkjpdaenaa.Q

namespace Go.Proofs.Ytimbggkjpdaenaa.Q
open Go.RowKit Go.Proofs.YtimbggkjpdaenaaW.PrintWords Go.Proofs.YtimbggkjpdaenaaW.PrintLast
set_option linter.unusedVariables false
set_option linter.unusedSimpArgs false
theorem oneA_b (s : List Bool) (b : Int) (pl : Bool) (h : s.length = 256) : (oneA s b pl)[256]? = some (.int .u8 b) := by
  unfold oneA
  rw [List.getElem?_toArray, List.getElem?_append_right (by rw [List.length_map, h]; exact Nat.le_refl _), List.length_map, h]
  rfl
theorem oneA_p (s : List Bool) (b : Int) (pl : Bool) (h : s.length = 256) : (oneA s b pl)[257]? = some (.bool pl) := by
  unfold oneA
  rw [List.getElem?_toArray, List.getElem?_append_right (by rw [List.length_map, h]; omega), List.length_map, h]
  rfl
set_option maxHeartbeats 1000000 in
set_option maxRecDepth 100000 in
theorem lit_one (s : List Bool) (b : Int) (pl : Bool) (hs : s.length = 256) (w : World) :
    Calls Try.prog 76 #[.agg (oneA s b pl)] w fun e w' => e = .returned (.tuple #[.int .u8 b, .bool pl]) ∧ Below w.heap.size w w' := by
  have h := heap_alloc_new w (.cells (oneA s b pl) 87)
  have c1 : (w.alloc (.cells (oneA s b pl) 87)).cell? ⟨w.heap.size, 256, none⟩ = some (.int .u8 b) := by
    unfold World.cell?; rw [h]; exact oneA_b s b pl hs
  have c2 : (w.alloc (.cells (oneA s b pl) 87)).cell? ⟨w.heap.size, 257, none⟩ = some (.bool pl) := by
    unfold World.cell?; rw [h]; exact oneA_p s b pl hs
  have hz := oneA_size s b pl hs
  have hB : Below w.heap.size w (w.alloc (.cells (oneA s b pl) 87)) := (Below.refl _ _).alloc (Nat.le_refl _) _
  have HB := Aside0.mk hB
  clear h hB
  go_enter Try.func76, Try.ntmps76
  go_wp2
  go_quiet (fail)
  go_wp2
  go_ret2
  exact ⟨rfl, HB.out.trans (pw_below_drewN (Below.refl _ _) _)⟩
theorem lit_seq (v : Value) (w : World) : Calls Try.prog 75 #[.agg #[v]] w fun e w' => e = .returned (.tuple #[.int .u8 0, .bool false]) ∧ Below w.heap.size w w' := by
  have kr : K0 (Below w.heap.size w w) := ⟨Below.refl _ _⟩
  go_enter Try.func75, Try.ntmps75
  go_wp2
  go_ret2
  exact ⟨rfl, kk⟩
theorem lit_alt (v : Value) (w : World) : Calls Try.prog 74 #[.agg #[v]] w fun e w' => e = .returned (.tuple #[.int .u8 0, .bool false]) ∧ Below w.heap.size w w' := by
  have kr : K0 (Below w.heap.size w w) := ⟨Below.refl _ _⟩
  go_enter Try.func74, Try.ntmps74
  go_wp2
  go_ret2
  exact ⟨rfl, kk⟩
theorem lit_rep (v u : Value) (w : World) : Calls Try.prog 77 #[.agg #[v, u]] w fun e w' => e = .returned (.tuple #[.int .u8 0, .bool false]) ∧ Below w.heap.size w w' := by
  have kr : K0 (Below w.heap.size w w) := ⟨Below.refl _ _⟩
  go_enter Try.func77, Try.ntmps77
  go_wp2
  go_ret2
  exact ⟨rfl, kk⟩
/-! The text that a pattern begins with. -/
def prefL : List Rx → List Int → List Int × Bool
  | [], t => (t, true)
  | .one s b pl :: ys, t => if pl = true then prefL ys (t ++ [b]) else (t, false)
  | .seq _ :: _, t => (t, false)
  | .alt _ :: _, t => (t, false)
  | .rep _ _ :: _, t => (t, false)
def prefM : Except (Int × Int) Rx → List Int × Bool
  | .ok (.alt [.seq ys]) => prefL ys []
  | _ => ([], false)
theorem seqL_shape : ∀ (k : Nat) (p : ByteArray) (i o : Int) (acc : List Rx) (r : Rx × Int), seqL k p i o acc = some (.ok r) → 0 ≤ i → i ≤ p.size → ∃ zs, r.1 = .seq zs ∧ (zs.length : Int) ≤ acc.length + (r.2 - i)
  | 0, _, _, _, _, _, h, _, _ => by cases h
  | k + 1, p, i, o, acc, r, h, h0, h1 => by
    rw [seqL_s] at h
    split at h
    · rename_i hc
      obtain ⟨x, hx, h⟩ := obind_ok h
      have hb := (par_ok k).2.2 _ _ _ _ hx h0 hc.1
      obtain ⟨y, hy, h⟩ := Option.bind_eq_some_iff.mp h
      have hb2 := opsF_ok _ _ _ _ _ hy hb.2
      obtain ⟨zs, e, hl⟩ := seqL_shape k p y.2 o (acc ++ [y.1]) r h (by omega) hb2.2
      refine ⟨zs, e, ?_⟩
      rw [List.length_append] at hl
      simp only [List.length_cons, List.length_nil] at hl
      omega
    · cases h
      exact ⟨acc, rfl, by show (acc.length : Int) ≤ acc.length + (i - i); omega⟩
theorem altL_shape : ∀ (k : Nat) (p : ByteArray) (i o : Int) (acc : List Rx) (r : Rx × Int), altL k p i o acc = some (.ok r) → 0 ≤ i → i ≤ p.size → ∃ zs, r.1 = .alt (acc ++ zs) ∧ zs ≠ [] ∧ ∀ y ∈ zs, ∃ ys, y = .seq ys ∧ (ys.length : Int) ≤ p.size
  | 0, _, _, _, _, _, h, _, _ => by cases h
  | k + 1, p, i, o, acc, r, h, h0, h1 => by
    rw [altL_s] at h
    obtain ⟨x, hx, h⟩ := obind_ok h
    have hb := (par_ok k).2.1 _ _ _ _ _ hx h0 h1
    obtain ⟨ys, hys, hl⟩ := seqL_shape k p i o [] x hx h0 h1
    have hy : ∃ ys, x.1 = .seq ys ∧ (ys.length : Int) ≤ p.size := ⟨ys, hys, by simp only [List.length_nil] at hl; omega⟩
    split at h
    · cases h
      exact ⟨[x.1], rfl, by simp, fun y hy' => by obtain rfl := List.mem_singleton.mp hy'; exact hy⟩
    · obtain ⟨zs, e, hn, hz⟩ := altL_shape k p (x.2 + 1) o (acc ++ [x.1]) r h (by omega) (by rename_i hc; have : ¬ x.2 = p.size := fun e => hc (.inl e); omega)
      refine ⟨x.1 :: zs, by rw [e, List.append_assoc]; rfl, by simp, fun y hy' => ?_⟩
      rcases List.mem_cons.mp hy' with rfl | h'
      · exact hy
      · exact hz y h'
theorem patR_shape {k : Nat} {p : ByteArray} {x : Rx} (h : patR k p = some (.ok x)) : ∃ zs, x = .alt zs ∧ zs ≠ [] ∧ ∀ y ∈ zs, ∃ ys, y = .seq ys ∧ ys.length ≤ 200 := by
  unfold patR at h
  split at h
  · cases h
  · unfold patF at h
    obtain ⟨y, hy, h⟩ := obind_ok h
    obtain ⟨zs, e, hn, hz⟩ := altL_shape k p 0 0 [] y hy (Int.le_refl _) (by omega)
    split at h
    · cases h
    · cases h
      exact ⟨zs, e, hn, fun y hy => by obtain ⟨ys, e, hl⟩ := hz y hy; exact ⟨ys, e, by omega⟩⟩
theorem chF_err {p : ByteArray} {i c a : Int} (h : chF p i = .error (c, a)) : c ≠ 0 := by
  unfold chF at h
  split at h
  · split at h
    · cases h; decide
    · cases h
  · split at h
    · cases h; decide
    · cases h
theorem clsF_err : ∀ (k : Nat) (p : ByteArray) (i : Int) (f : Bool) (s : List Bool) (c a : Int), clsF k p i f s = some (.error (c, a)) → c ≠ 0
  | 0, _, _, _, _, _, _, h => by cases h
  | k + 1, p, i, f, s, c, a, h => by
    simp only [clsF] at h
    split at h
    · cases hch : chF p i with
      | error x => rw [hch] at h; cases h; exact chF_err hch
      | ok x =>
        obtain ⟨lo, j⟩ := x
        rw [hch] at h
        simp only [] at h
        split at h
        · cases hch2 : chF p (j + 1) with
          | error x => rw [hch2] at h; cases h; exact chF_err hch2
          | ok x =>
            obtain ⟨hi, m⟩ := x
            rw [hch2] at h
            simp only [] at h
            split at h
            · cases h; decide
            · exact clsF_err k _ _ _ _ _ _ h
        · exact clsF_err k _ _ _ _ _ _ h
    · cases h
theorem obind_er {α β : Type} {x : Option (Except (Int × Int) α)} {f : α → Option (Except (Int × Int) β)} {e : Int × Int} (h : obind x f = some (.error e)) : x = some (.error e) ∨ ∃ a, x = some (.ok a) ∧ f a = some (.error e) := by
  rcases x with _ | (e' | a)
  · cases h
  · cases h; exact .inl rfl
  · exact .inr ⟨a, rfl, h⟩
theorem par_err : ∀ k, (∀ p i o acc c a, altL k p i o acc = some (.error (c, a)) → c ≠ 0) ∧ (∀ p i o acc c a, seqL k p i o acc = some (.error (c, a)) → c ≠ 0) ∧ (∀ p i o c a, atomF k p i o = some (.error (c, a)) → c ≠ 0)
  | 0 => ⟨fun _ _ _ _ _ _ h => (by cases h), fun _ _ _ _ _ _ h => (by cases h), fun _ _ _ _ _ h => (by cases h)⟩
  | k + 1 => by
    obtain ⟨ia, is, im⟩ := par_err k
    refine ⟨fun p i o acc c a h => ?_, fun p i o acc c a h => ?_, fun p i o c a h => ?_⟩
    · rw [altL_s] at h
      rcases obind_er h with h | ⟨x, hx, h⟩
      · exact is _ _ _ _ _ _ h
      · split at h
        · cases h
        · exact ia _ _ _ _ _ _ h
    · rw [seqL_s] at h
      split at h
      · rcases obind_er h with h | ⟨x, hx, h⟩
        · exact im _ _ _ _ _ h
        · obtain ⟨y, hy, h⟩ := Option.bind_eq_some_iff.mp h
          exact is _ _ _ _ _ _ h
      · cases h
    · rw [atomF_s] at h
      split at h
      · split at h
        · cases h; decide
        · rcases obind_er h with h | ⟨x, hx, h⟩
          · exact ia _ _ _ _ _ _ h
          · split at h
            · cases h; decide
            · cases h
      · split at h
        · rcases obind_er h with h | ⟨x, hx, h⟩
          · obtain ⟨q, hq, hr⟩ := claF_err h
            rcases q with ⟨c', a'⟩ | x
            · cases hr; exact clsF_err _ _ _ _ _ _ _ hq
            · cases hr
          · cases h
        · split at h
          · cases h
          · split at h
            · cases h; decide
            · split at h
              · split at h
                · cases h; decide
                · cases h
              · cases h
theorem patR_err {k : Nat} {p : ByteArray} {c a : Int} (h : patR k p = some (.error (c, a))) : c ≠ 0 := by
  unfold patR at h
  split at h
  · cases h; decide
  · unfold patF at h
    rcases obind_er h with h | ⟨x, hx, h⟩
    · exact (par_err k).1 _ _ _ _ _ _ h
    · split at h
      · cases h; decide
      · cases h
def impl_PrefixOf.f (k : Nat) (a0 : ByteArray) : Option (ByteArray × Bool) := (patR k a0).map fun q => (strOfNums (prefM q).1, (prefM q).2)
theorem own_at {w : World} {b e : Nat} {v : Value} {vs : List Value} (h : w.ownsRow b e 1 v vs.length vs) {i : Nat} (hi : i < vs.length) : ∃ g c, v = .slice (some ⟨g, 0, none⟩) vs.length c ∧ w.cell? ⟨g, i, none⟩ = some (vs[i]) := by
  rcases h.2 with ⟨rfl, h0⟩ | ⟨g, cap, cur, rfl, hb, hg, hnc, hcm, hcs, htake⟩
  · omega
  · refine ⟨g, cap, rfl, ?_⟩
    have := h.cells (g := g) rfl i vs[i] (by rw [List.getElem?_eq_getElem hi])
    rwa [Addr.add_lit, Nat.zero_add] at this
theorem RepXs_at {w : World} {ok : Nat → Prop} : ∀ (xs : List Rx) (vs : List Value), RepXs w ok xs vs → ∀ i (hi : i < xs.length) (hv : i < vs.length), RepX w ok xs[i] vs[i]
  | [], _, _, i, hi, _ => by simp at hi
  | x :: xs, vs, h, i, hi, hv => by
    unfold RepXs at h
    obtain ⟨u, us, rfl, h1, h2⟩ := h
    rcases i with _ | i
    · exact h1
    · exact RepXs_at xs us h2 i (by simpa using hi) (by simpa using hv)
theorem run_ta50 (v : Value) (w : World) : (Instr.typeAssert (.iface 50 v) 40 50 false).run Try.prog w = .ok v w := by kernel_rfl
theorem run_ta51 (v : Value) (w : World) : (Instr.typeAssert (.iface 51 v) 40 51 false).run Try.prog w = .ok v w := by kernel_rfl
theorem run_fd50 (A : Option Addr) (n c : Nat) (w : World) : (Instr.field 50 (.agg #[.slice A n c]) 0).run Try.prog w = .ok (.slice A n c) w := by kernel_rfl
theorem run_fd51 (A : Option Addr) (n c : Nat) (w : World) : (Instr.field 51 (.agg #[.slice A n c]) 0).run Try.prog w = .ok (.slice A n c) w := by kernel_rfl
theorem run_m87 (v : Value) (w : World) : (method 219 87 v "loop.example/s01854/impl.literal").run Try.prog w = .ok (76, v) w := by kernel_rfl
theorem run_m51 (v : Value) (w : World) : (method 219 51 v "loop.example/s01854/impl.literal").run Try.prog w = .ok (75, v) w := by kernel_rfl
theorem run_m50 (v : Value) (w : World) : (method 219 50 v "loop.example/s01854/impl.literal").run Try.prog w = .ok (74, v) w := by kernel_rfl
theorem run_m89 (v : Value) (w : World) : (method 219 89 v "loop.example/s01854/impl.literal").run Try.prog w = .ok (77, v) w := by kernel_rfl
theorem nums_snoc (xs : List Int) (b : Int) : nums .u8 (xs ++ [b]) = nums .u8 xs ++ [.int .u8 b] := by simp [nums]
set_option maxHeartbeats 4000000 in
set_option maxRecDepth 100000 in
theorem impl_PrefixOf.calls (k : Nat) (a0 : ByteArray) (r1 : ByteArray) (r2 : Bool) (w : World) (h : impl_PrefixOf.f k a0 = some (r1, r2)) :
    Calls Try.prog 11 #[.string a0] w fun e w' => e = .returned (.agg #[.string r1, .bool r2]) ∧ Below w.heap.size w w' := by
  obtain ⟨q, hq, hr⟩ := Option.map_eq_some_iff.mp h
  have kr : K0 (Below w.heap.size w w) := ⟨Below.refl _ _⟩
  have ha : Below w.heap.size w (w.alloc (.cells #[.string ⟨#[]⟩, .bool false] 28)) := kk
  have hx := heap_alloc_new w (.cells #[.string ⟨#[]⟩, .bool false] 28)
  have HQ := Aside0.mk hq
  have HA := Aside0.mk ha
  have HX := Aside0.mk hx
  have hsz := sz_al w (.cells #[.string ⟨#[]⟩, .bool false] 28)
  have HSZ := Aside0.mk hsz
  clear h hq ha hx hsz kr
  go_enter Try.func11, Try.ntmps11
  go_wp2_with fail
  generalize w.alloc (.cells #[.string ⟨#[]⟩, .bool false] 28) = wa at *
  go_at_call 18
  refine (pattern_calls k a0 q HQ.out _).mono ?_
  rintro e w1 hp
  rcases q with ⟨c, a⟩ | x
  · obtain ⟨v, rfl, hb⟩ := hp
    have hc := patR_err HQ.out
    have d1 : (c != 0) = true := bne_iff_ne.mpr hc
    obtain ⟨rfl, rfl⟩ : strOfNums [] = r1 ∧ false = r2 := by cases hr; exact ⟨rfl, rfl⟩
    have h1 : w1.heap[w.heap.size]? = some (.cells #[.string ⟨#[]⟩, .bool false] 28) := (hb.block _ (by rw [HSZ.out]; omega)).trans HX.out
    have hb2 : Below w.heap.size w w1 := HA.out.trans (hb.mono (by rw [HSZ.out]; omega))
    have hc0 : w1.cell? ⟨w.heap.size, 0, none⟩ = some (.string ⟨#[]⟩) := cell_of_row _ w.heap.size 0 _ 28 _ h1
    have hc1 : w1.cell? ⟨w.heap.size, 1, none⟩ = some (.bool false) := cell_of_row _ w.heap.size 1 _ 28 _ h1
    have f0 := bk_fr h1 0
    have f1 := bk_fr h1 1
    have hl := lt_of_some h1
    have H1 := Aside0.mk h1
    have HB2 := Aside0.mk hb2
    clear hr hb h1 hb2 HA HX HQ hc
    go_wp2
    have h2 : ((w1.setCell ⟨w.heap.size, 0, none⟩ (.string ⟨#[]⟩)).setCell ⟨w.heap.size, 1, none⟩ (.bool false)).heap[w.heap.size]? = some (.cells #[.string ⟨#[]⟩, .bool false] 28) := bk_put (j := 1) (bk_put (j := 0) H1.out (.string ⟨#[]⟩)) (.bool false)
    have h3 := blk_alloc h2 (.cells #[.int .i64 c, .int .i64 a] 42)
    refine bodyPost_ret (results_cell_row rfl _ _ w.heap.size 28 _ (0, 0) _ rfl h3 Try.underlying28 rfl (by kernel_rfl)) rfl ⟨rfl, ?_⟩
    have kr : K0 (Below w.heap.size w w1) := ⟨HB2.out⟩
    have kx : K0 (w.heap.size ≤ w.heap.size) := ⟨Nat.le_refl _⟩
    exact kk
  · obtain ⟨v, rfl, hrep, hb⟩ := hp
    obtain ⟨zs, rfl, hzn, hzs⟩ := patR_shape HQ.out
    unfold RepX at hrep
    obtain ⟨u, us, rfl, hu, -, hus⟩ := hrep
    have hul := RepXs_len _ _ hus
    have h1 : (w1.alloc (.cells #[.int .i64 0, .int .i64 0] 42)).heap[w.heap.size]? = some (.cells #[.string ⟨#[]⟩, .bool false] 28) := blk_alloc ((hb.block _ (by rw [HSZ.out]; omega)).trans HX.out) _
    have hb2 : Below w.heap.size w (w1.alloc (.cells #[.int .i64 0, .int .i64 0] 42)) := (HA.out.trans (hb.mono (by rw [HSZ.out]; omega))).trans ((Below.refl _ _).alloc (by have := hb.size; rw [HSZ.out] at this; omega) _)
    have hu2 := own_move (w1 := w1.alloc (.cells #[.int .i64 0, .int .i64 0] 42)) hu (fun k hk => heap_alloc_old w1 _ (hu.lt k hk).2)
    have hus2 : RepXs (w1.alloc (.cells #[.int .i64 0, .int .i64 0] 42)) (fun k => wa.heap.size ≤ k) zs us := RepXs_move (fun k hk hl => ⟨hk, heap_alloc_old w1 _ hl⟩) _ _ hus
    obtain ⟨A, cap, hA⟩ := own_slice hu
    subst hA
    have HU := Aside0.mk hu2
    have HUS := Aside0.mk hus2
    have HUL := Aside0.mk hul
    have HB2 := Aside0.mk hb2
    have H1 := Aside0.mk h1
    have HZ := Aside0.mk (And.intro hzn hzs)
    have hum : us.length ≤ maxLen := by
      rcases hu.2 with ⟨_, h0⟩ | ⟨g, c', cur, _, _, _, hnc, hcm, _⟩
      · rw [h0]; exact Nat.zero_le _
      · omega
    have HUM := Aside0.mk hum
    clear hb h1 hb2 HA HX HQ hu hus hu2 hus2 hul hum hzn hzs
    have ht0 := run_ta50
    have ht1 := run_ta51
    have ht2 := run_fd50
    have ht3 := run_fd51
    go_upto_region 4 with (fail)
    generalize w1.alloc (.cells #[.int .i64 0, .int .i64 0] 42) = wb at *
    by_cases e1 : 1 < us.length
    · obtain ⟨rfl, rfl⟩ : strOfNums [] = r1 ∧ false = r2 := by
        have hl := HUL.out
        rcases zs with _ | ⟨y, _ | ⟨y2, zs⟩⟩
        · exact absurd rfl HZ.out.1
        · simp at hl; omega
        · have e : prefM (.ok (.alt (y :: y2 :: zs))) = ([], false) := by cases y <;> rfl
          rw [e] at hr
          cases hr; exact ⟨rfl, rfl⟩
      have d1 : decide (1 < (us.length : Int)) = true := decide_eq_true (by omega)
      have d2 : decide (1 < us.length) = true := decide_eq_true e1
      have hc0 : wb.cell? ⟨w.heap.size, 0, none⟩ = some (.string ⟨#[]⟩) := cell_of_row _ w.heap.size 0 _ 28 _ H1.out
      have hc1 : wb.cell? ⟨w.heap.size, 1, none⟩ = some (.bool false) := cell_of_row _ w.heap.size 1 _ 28 _ H1.out
      have f0 := bk_fr H1.out 0
      have f1 := bk_fr H1.out 1
      clear hr e1
      go_wp2
      have h2 : ((wb.setCell ⟨w.heap.size, 0, none⟩ (.string ⟨#[]⟩)).setCell ⟨w.heap.size, 1, none⟩ (.bool false)).heap[w.heap.size]? = some (.cells #[.string ⟨#[]⟩, .bool false] 28) := bk_put (j := 1) (bk_put (j := 0) H1.out (.string ⟨#[]⟩)) (.bool false)
      refine bodyPost_ret (results_cell_row rfl _ _ w.heap.size 28 _ (0, 0) _ rfl h2 Try.underlying28 rfl (by kernel_rfl)) rfl ⟨rfl, ?_⟩
      have kr : K0 (Below w.heap.size w wb) := ⟨HB2.out⟩
      have kx : K0 (w.heap.size ≤ w.heap.size) := ⟨Nat.le_refl _⟩
      exact kk
    · have hl := HUL.out
      obtain ⟨y, rfl⟩ : ∃ y, zs = [y] := by
        rcases zs with _ | ⟨y, _ | ⟨y2, zs⟩⟩
        · exact absurd rfl HZ.out.1
        · exact ⟨y, rfl⟩
        · simp at hl; omega
      obtain ⟨ys, rfl, hyl⟩ := HZ.out.2 y (List.mem_singleton.mpr rfl)
      have hl1 : us.length = 1 := hl
      obtain ⟨u1, rfl⟩ : ∃ u1, us = [u1] := by
        rcases us with _ | ⟨u1, _ | ⟨u2, us⟩⟩
        · simp at hl1
        · exact ⟨u1, rfl⟩
        · simp at hl1
      have hy := RepXs_at _ _ HUS.out 0 (by simp) (by simp)
      have hy' : RepX wb (fun k => wa.heap.size ≤ k) (.seq ys) u1 := hy
      unfold RepX at hy'
      obtain ⟨v2, vs, rfl, hv2, -, hvs⟩ := hy'
      obtain ⟨g1, c1', hA1, hcu⟩ := own_at HU.out (i := 0) (by simp)
      obtain ⟨A2, cap2, hA2⟩ := own_slice hv2
      subst hA2
      simp only [List.length_cons, List.length_nil, Nat.zero_add, Value.slice.injEq] at hA1
      obtain ⟨rfl, -, rfl⟩ := hA1
      have hvl := RepXs_len _ _ hvs
      have hcu' : wb.cell? ⟨g1, 0, none⟩ = some (.iface 51 (.agg #[.slice A2 vs.length cap2])) := hcu
      have hres : prefL ys [] = prefM (.ok (.alt [.seq ys])) := rfl
      have hr1 : r1 = strOfNums (prefL ys []).1 ∧ r2 = (prefL ys []).2 := by
        rw [hres]; cases hr; exact ⟨rfl, rfl⟩
      have HR := Aside0.mk hr1
      have HV2 := Aside0.mk hv2
      have HVS := Aside0.mk hvs
      have HVL := Aside0.mk hvl
      have hvn : vs.length ≤ 200 := by omega
      clear hr hr1 hres hv2 hvs hvl hy hcu hl hl1 e1 HZ HUL HUM HU HUS
      simp only [List.length_cons, List.length_nil, Nat.zero_add]
      go_upto_region 9 with (fail)
      go_loopg [6, 33] vs.length (fun kq v6 v33 W => ∃ (i : Nat) (tx : List Int), v33 = .int .i64 i ∧ Aside0 (i + kq = vs.length) ∧ Aside0 (prefL (ys.drop i) tx = prefL ys []) ∧ Aside0 (tx.length ≤ i) ∧ Aside0 (W.ownsRow wb.heap.size 5 1 v6 tx.length (nums .u8 tx)) ∧ Aside0 (Below wb.heap.size wb W))
      case atStart => exact ⟨0, [], rfl, ⟨by omega⟩, ⟨rfl⟩, ⟨Nat.le_refl _⟩, ⟨World.ownsRow_nil _ _ _ _⟩, ⟨Below.refl _ _⟩⟩
      case round =>
        obtain ⟨i, tx, rfl, HI, HP, HT, HO, HB⟩ := hrel
        obtain ⟨A6, c6, rfl⟩ := own_slice HO.out
        have hst := own_string Try.underlying32 Try.underlying5 Try.underlying9 HO.out
        have h1 : wr.heap[w.heap.size]? = some (.cells #[.string ⟨#[]⟩, .bool false] 28) := (HB.out.block _ (lt_of_some H1.out)).trans H1.out
        have hc0 : wr.cell? ⟨w.heap.size, 0, none⟩ = some (.string ⟨#[]⟩) := cell_of_row _ w.heap.size 0 _ 28 _ h1
        have hc1 : wr.cell? ⟨w.heap.size, 1, none⟩ = some (.bool false) := cell_of_row _ w.heap.size 1 _ 28 _ h1
        have f0 := bk_fr h1 0
        have f1 := bk_fr h1 1
        have hl := lt_of_some h1
        have HH1 := Aside0.mk h1
        have kb : K0 (Below w.heap.size w wr) := ⟨HB2.out.trans (HB.out.mono HB2.out.size)⟩
        have kx : K0 (w.heap.size ≤ w.heap.size) := ⟨Nat.le_refl _⟩
        have HST := Aside0.mk hst
        clear h1 hst
        cases gk with
        | zero =>
          obtain rfl : i = vs.length := by have := HI.out; omega
          have hp := HP.out
          rw [List.drop_eq_nil_of_le (by have := HVL.out; omega)] at hp
          obtain ⟨rfl, rfl⟩ : r1 = strOfNums tx ∧ r2 = true := by
            have := HR.out; rw [← hp] at this; exact this
          have hst := HST.out
          clear hp
          go_wp2
          have h2 := bk_put (j := 1) (bk_put (j := 0) HH1.out (.string (strOfNums tx))) (.bool true)
          refine bodyPost_ret (results_cell_row rfl _ _ w.heap.size 28 _ (0, 0) _ rfl h2 Try.underlying28 rfl (by kernel_rfl)) rfl ⟨rfl, kk⟩
        | succ kq =>
          have hi : i < vs.length := by have := HI.out; omega
          have hi2 : i < ys.length := by rw [← HVL.out]; exact hi
          obtain ⟨g2, c2', hA2', hcv⟩ := own_at HV2.out hi
          simp only [Value.slice.injEq] at hA2'
          obtain ⟨rfl, -, rfl⟩ := hA2'
          have hcv2 : wr.cell? ⟨g2, i, none⟩ = some (vs[i]) := (HB.out.cell (p := ⟨g2, i, none⟩) (World.block_lt_of_cell? wb _ hcv)).trans hcv
          have hrx := RepXs_at _ _ HVS.out i hi2 hi
          have hp := HP.out
          rw [List.drop_eq_getElem_cons hi2] at hp
          have HP2 := Aside0.mk hp
          clear hp hcv HP
          generalize hgy : ys[i] = y at hrx HP2
          generalize hgv : vs[i] = v at hrx hcv2
          clear hgy hgv
          cases y with
          | one s b pl =>
            unfold RepX at hrx
            obtain ⟨hs, rfl⟩ := hrx
            have hq := HP2.out
            simp only [prefL] at hq
            have hm := run_m87
            cases pl with
            | false =>
              obtain ⟨rfl, rfl⟩ : r1 = strOfNums tx ∧ r2 = false := by
                have := HR.out; rw [← hq] at this; exact this
              clear hq HP2
              go_wp2_with fail
              go_at_call 76
              refine (lit_one s b false hs _).mono ?_
              rintro e w2 ⟨rfl, hb2⟩
              have ho2 := own_move (w1 := w2) HO.out (fun q hq => hb2.block q (HO.out.lt q hq).2)
              have hst := own_string Try.underlying32 Try.underlying5 Try.underlying9 ho2
              have h1 : w2.heap[w.heap.size]? = some (.cells #[.string ⟨#[]⟩, .bool false] 28) := (hb2.block _ (lt_of_some HH1.out)).trans HH1.out
              have hc0 : w2.cell? ⟨w.heap.size, 0, none⟩ = some (.string ⟨#[]⟩) := cell_of_row _ w.heap.size 0 _ 28 _ h1
              have hc1 : w2.cell? ⟨w.heap.size, 1, none⟩ = some (.bool false) := cell_of_row _ w.heap.size 1 _ 28 _ h1
              have f0 := bk_fr h1 0
              have f1 := bk_fr h1 1
              have hl := lt_of_some h1
              have HH2 := Aside0.mk h1
              have kc : K0 (Below w.heap.size w w2) := ⟨kb.out.trans (hb2.mono kb.out.size)⟩
              clear ho2 h1 hb2
              go_wp2
              have h2 := bk_put (j := 1) (bk_put (j := 0) HH2.out (.string (strOfNums tx))) (.bool false)
              refine bodyPost_ret (results_cell_row rfl _ _ w.heap.size 28 _ (0, 0) _ rfl h2 Try.underlying28 rfl (by kernel_rfl)) rfl ⟨rfl, kk⟩
            | true =>
              rw [if_pos rfl] at hq
              have HQ2 := Aside0.mk hq
              clear hq HP2 HR
              go_wp2_with fail
              go_at_call 76
              refine (lit_one s b true hs _).mono ?_
              rintro e w2 ⟨rfl, hb2⟩
              have ho2 := own_move (w1 := w2) HO.out (fun q hq => hb2.block q (HO.out.lt q hq).2)
              have hbb := HB.out.trans (hb2.mono HB.out.size)
              obtain ⟨i0, hi0, hz0, hz1, hz2⟩ := info_parts info5
              have hc1' : ∀ j u, [Value.int .u8 b][j]? = some u → (w2.alloc (.cells #[.int .u8 b] 5)).cell? ((⟨w2.heap.size, 0, none⟩ : Addr).add j) = some u := by
                intro j' u' hu
                rcases j' with _ | j'
                · cases hu; exact cell_of_row _ w2.heap.size 0 _ 5 _ (heap_alloc_new _ _)
                · cases hu
              have hc2' : ∀ u ∈ [Value.int .u8 b], u.oneCell' = true := by
                intro u' hu
                obtain rfl := List.mem_singleton.mp hu
                rfl
              have htl := HT.out
              have hc3 : tx.length + 1 ≤ maxLen := by simp only [maxLen]; omega
              have hc4 : (tx.length + 1) * 1 ≤ 140737488355328 := by omega
              have hc5 : wb.heap.size ≤ (w2.alloc (.cells #[.int .u8 b] 5)).heap.size := by rw [sz_al]; have := hbb.size; omega
              have HO2 := Aside0.mk ho2
              have HBB := Aside0.mk hbb
              have HC := Aside0.mk (And.intro hc1' (And.intro hc2' (And.intro hc3 (And.intro hc4 hc5))))
              have HZZ := Aside0.mk (And.intro hi0 (And.intro hz0 (And.intro hz1 hz2)))
              clear ho2 hbb hc1' hc2' hc3 hc4 hc5 hi0 hz0 hz1 hz2 htl hb2 hc0 hc1 f0 f1 hl kb
              go_wp2_with (at_builtin; refine wpList_append_at rfl (.tmp 47) (.tmp 49) 32 rfl wb.heap.size 5 i0 (.int .u8 0) 1 1 Try.underlying32 HZZ.out.1 HZZ.out.2.1 HZZ.out.2.2.1 HZZ.out.2.2.2 rfl (by decide) (.slice A6 tx.length c6) tx.length (nums .u8 tx) rfl (HO2.out.alloc _) ⟨w2.heap.size, 0, none⟩ 1 1 [.int .u8 b] rfl rfl HC.out.1 HC.out.2.1 HC.out.2.2.1 HC.out.2.2.2.1 HC.out.2.2.2.2 ?_; intro v3 w3 hown hgr hloc; have HG := Aside0.mk (And.intro hown (And.intro hgr hloc)); clear hown hgr hloc)
              go_roundg kq
              case measure => omega
              case rel =>
                refine ⟨i + 1, tx ++ [b], by go_num, ⟨by have := HI.out; omega⟩, HQ2, ⟨by have := HT.out; rw [List.length_append]; simp only [List.length_cons, List.length_nil]; omega⟩, ⟨?_⟩, ⟨?_⟩⟩
                · rw [nums_snoc, List.length_append]; exact HG.out.1
                · exact ((HBB.out.alloc HBB.out.size _).trans ((Below.refl _ _).grown HG.out.2.1 (by rw [sz_al]; have := HBB.out.size; omega) (fun q hq => (HO2.out.lt q hq).1)))
          | seq xs =>
            unfold RepX at hrx
            obtain ⟨u, us, rfl, -⟩ := hrx
            have hq := HP2.out
            simp only [prefL] at hq
            obtain ⟨rfl, rfl⟩ : r1 = strOfNums tx ∧ r2 = false := by
              have := HR.out; rw [← hq] at this; exact this
            have hm := run_m51
            have HST0 := HST
            clear hq HP2
            go_wp2_with fail
            go_at_call 75
            refine (lit_seq _ _).mono ?_
            rintro e w2 ⟨rfl, hb2⟩
            have ho2 := own_move (w1 := w2) HO.out (fun q hq => hb2.block q (HO.out.lt q hq).2)
            have hst := own_string Try.underlying32 Try.underlying5 Try.underlying9 ho2
            have h1 : w2.heap[w.heap.size]? = some (.cells #[.string ⟨#[]⟩, .bool false] 28) := (hb2.block _ (lt_of_some HH1.out)).trans HH1.out
            have hc0 : w2.cell? ⟨w.heap.size, 0, none⟩ = some (.string ⟨#[]⟩) := cell_of_row _ w.heap.size 0 _ 28 _ h1
            have hc1 : w2.cell? ⟨w.heap.size, 1, none⟩ = some (.bool false) := cell_of_row _ w.heap.size 1 _ 28 _ h1
            have f0 := bk_fr h1 0
            have f1 := bk_fr h1 1
            have hl := lt_of_some h1
            have HH2 := Aside0.mk h1
            have kc : K0 (Below w.heap.size w w2) := ⟨kb.out.trans (hb2.mono kb.out.size)⟩
            clear ho2 h1 hb2
            go_wp2
            have h2 := bk_put (j := 1) (bk_put (j := 0) HH2.out (.string (strOfNums tx))) (.bool false)
            refine bodyPost_ret (results_cell_row rfl _ _ w.heap.size 28 _ (0, 0) _ rfl h2 Try.underlying28 rfl (by kernel_rfl)) rfl ⟨rfl, kk⟩
          | alt xs =>
            unfold RepX at hrx
            obtain ⟨u, us, rfl, -⟩ := hrx
            have hq := HP2.out
            simp only [prefL] at hq
            obtain ⟨rfl, rfl⟩ : r1 = strOfNums tx ∧ r2 = false := by
              have := HR.out; rw [← hq] at this; exact this
            have hm := run_m50
            have HST0 := HST
            clear hq HP2
            go_wp2_with fail
            go_at_call 74
            refine (lit_alt _ _).mono ?_
            rintro e w2 ⟨rfl, hb2⟩
            have ho2 := own_move (w1 := w2) HO.out (fun q hq => hb2.block q (HO.out.lt q hq).2)
            have hst := own_string Try.underlying32 Try.underlying5 Try.underlying9 ho2
            have h1 : w2.heap[w.heap.size]? = some (.cells #[.string ⟨#[]⟩, .bool false] 28) := (hb2.block _ (lt_of_some HH1.out)).trans HH1.out
            have hc0 : w2.cell? ⟨w.heap.size, 0, none⟩ = some (.string ⟨#[]⟩) := cell_of_row _ w.heap.size 0 _ 28 _ h1
            have hc1 : w2.cell? ⟨w.heap.size, 1, none⟩ = some (.bool false) := cell_of_row _ w.heap.size 1 _ 28 _ h1
            have f0 := bk_fr h1 0
            have f1 := bk_fr h1 1
            have hl := lt_of_some h1
            have HH2 := Aside0.mk h1
            have kc : K0 (Below w.heap.size w w2) := ⟨kb.out.trans (hb2.mono kb.out.size)⟩
            clear ho2 h1 hb2
            go_wp2
            have h2 := bk_put (j := 1) (bk_put (j := 0) HH2.out (.string (strOfNums tx))) (.bool false)
            refine bodyPost_ret (results_cell_row rfl _ _ w.heap.size 28 _ (0, 0) _ rfl h2 Try.underlying28 rfl (by kernel_rfl)) rfl ⟨rfl, kk⟩
          | rep x op =>
            unfold RepX at hrx
            obtain ⟨u, -, rfl⟩ := hrx
            have hq := HP2.out
            simp only [prefL] at hq
            obtain ⟨rfl, rfl⟩ : r1 = strOfNums tx ∧ r2 = false := by
              have := HR.out; rw [← hq] at this; exact this
            have hm := run_m89
            have HST0 := HST
            clear hq HP2
            go_wp2_with fail
            go_at_call 77
            refine (lit_rep _ _ _).mono ?_
            rintro e w2 ⟨rfl, hb2⟩
            have ho2 := own_move (w1 := w2) HO.out (fun q hq => hb2.block q (HO.out.lt q hq).2)
            have hst := own_string Try.underlying32 Try.underlying5 Try.underlying9 ho2
            have h1 : w2.heap[w.heap.size]? = some (.cells #[.string ⟨#[]⟩, .bool false] 28) := (hb2.block _ (lt_of_some HH1.out)).trans HH1.out
            have hc0 : w2.cell? ⟨w.heap.size, 0, none⟩ = some (.string ⟨#[]⟩) := cell_of_row _ w.heap.size 0 _ 28 _ h1
            have hc1 : w2.cell? ⟨w.heap.size, 1, none⟩ = some (.bool false) := cell_of_row _ w.heap.size 1 _ 28 _ h1
            have f0 := bk_fr h1 0
            have f1 := bk_fr h1 1
            have hl := lt_of_some h1
            have HH2 := Aside0.mk h1
            have kc : K0 (Below w.heap.size w w2) := ⟨kb.out.trans (hb2.mono kb.out.size)⟩
            clear ho2 h1 hb2
            go_wp2
            have h2 := bk_put (j := 1) (bk_put (j := 0) HH2.out (.string (strOfNums tx))) (.bool false)
            refine bodyPost_ret (results_cell_row rfl _ _ w.heap.size 28 _ (0, 0) _ rfl h2 Try.underlying28 rfl (by kernel_rfl)) rfl ⟨rfl, kk⟩
end Go.Proofs.Ytimbggkjpdaenaa.Q

namespace Go.Proofs.Ytimbggkjpdaenaa.Q
open Go.RowKit Go.Proofs.YtimbggkjpdaenaaW.PrintWords Go.Proofs.YtimbggkjpdaenaaW.PrintLast Go.Proofs.YtimbggkjpdaenaaW.PrintMore
set_option linter.unusedVariables false
set_option linter.unusedSimpArgs false

/-! ### laws_FnExactPrefixOf: function 4 -/
def laws_FnExactPrefixOf.f (k : Nat) (a0 : ByteArray) : Option (Bool) := if (a0.size : Int) > 1048576 then (some true) else ((spec_PrefixOf.f k a0).bind fun bt158 => ((impl_PrefixOf.f k a0).bind fun bt161 => ((laws_eqPrefix.f bt161.1 bt161.2 bt158.1 bt158.2).bind fun t164 => (if t164 = true then (some true) else (some false)))))
set_option maxHeartbeats 8000000 in
set_option maxRecDepth 100000 in
theorem laws_FnExactPrefixOf.calls (k : Nat) (a0 : ByteArray) (r : Bool) (w : World) (h : laws_FnExactPrefixOf.f k a0 = some r) :
  Calls Try.prog 4 #[.string a0] w fun e w' => e = .returned (.bool r) ∧ Below w.heap.size w w' := by
 have hu28 := Try.underlying28
 have HB := Aside0.mk (Below.refl w.heap.size w)
 have H : (if (a0.size : Int) > 1048576 then (some true) else ((spec_PrefixOf.f k a0).bind fun bt158 => ((impl_PrefixOf.f k a0).bind fun bt161 => ((laws_eqPrefix.f bt161.1 bt161.2 bt158.1 bt158.2).bind fun t164 => (if t164 = true then (some true) else (some false)))))) = some r := h
 clear h
 by_cases c2 : (a0.size : Int) > 1048576
 ·rw [if_pos c2] at H
  have c2b0 : decide (1048576 < (a0.size : Int)) = true := decide_eq_true c2
  have c2b1 : decide (1048576 < a0.size) = true := decide_eq_true (by omega)
  clear c2
  obtain rfl := Option.some.inj H
  go_enter Try.func4, Try.ntmps4
  go_wp2
  go_ret
  exact ⟨by first | rfl | (simp [errW_none, errW_some] <;> rfl) | (simp [*, errW_none, errW_some] <;> rfl), bw⟩
 ·rw [if_neg c2] at H
  have c2b0 : decide (1048576 < (a0.size : Int)) = false := decide_eq_false c2
  have c2b1 : decide (1048576 < a0.size) = false := decide_eq_false (by omega)
  clear c2
  replace H := Option.bind_eq_some_iff.mp H
  obtain ⟨⟨t158, t159⟩, A30, H⟩ := H
  replace H : ((impl_PrefixOf.f k a0).bind fun bt161 => ((laws_eqPrefix.f bt161.1 bt161.2 t158 t159).bind fun t164 => (if t164 = true then (some true) else (some false)))) = some r := H
  have A3 := Aside0.mk A30
  clear A30
  replace H := Option.bind_eq_some_iff.mp H
  obtain ⟨⟨t161, t162⟩, A40, H⟩ := H
  replace H : ((laws_eqPrefix.f t161 t162 t158 t159).bind fun t164 => (if t164 = true then (some true) else (some false))) = some r := H
  have A4 := Aside0.mk A40
  clear A40
  replace H := Option.bind_eq_some_iff.mp H
  obtain ⟨t164, A50, H⟩ := H
  replace H : (if t164 = true then (some true) else (some false)) = some r := H
  have A5 := Aside0.mk A50
  clear A50
  by_cases c6 : t164 = true
  ·subst c6
   have H1 : (some true) = some r := by rw [if_pos rfl] at H; exact H
   clear H
   have H := H1
   clear H1
   obtain rfl := Option.some.inj H
   go_enter Try.func4, Try.ntmps4
   go_wp2_with (first | ((with_reducible refine at_fn (f := 10) rfl ?_); refine goesL_ (some 9) rfl rfl Try.func10 (by kernel_rfl) rfl #[.string a0] rfl (by (try simp only [List.map_toArray, List.map_cons, List.map_nil]); first | done | rfl | (simp only [List.length_drop, List.length_take]; rfl)) ?_; (with_reducible refine (spec_PrefixOf.calls k a0 t158 t159 _ A3.out).mono ?_); rintro e w7 ⟨rfl, hb⟩; refine ⟨_, rfl, ?_⟩; have n0_ := Aside0.mk (below_step bw hb); clear HB; have HB := n0_; clear n0_; (try clear hb); (try clear hb2); (try clear hk); (try clear hi)) | ((with_reducible refine gate_dst (N := 3) rfl ?_); refine box_event ?hg (N := 3) ?hd (cs := #[.string (⟨#[]⟩ : ByteArray), .bool false]) (t := 28) ?hr ?_; (case hd => rfl); (case hg => rfl); (case hr => first | (go_simp; done) | (go_simp; rfl)); intro gb160 hg w8 hbox hb; have n0_ := Aside0.mk (below_step bw hb); have n1_ := Aside0.mk (hbox); have n2_ := Aside0.mk ((by rw [hg]; exact (below_size bw) : w.heap.size ≤ gb160)); have n3_ := Aside0.mk ((by rw [hg]; exact (below_size bw) : w.heap.size ≤ gb160)); clear HB; have HB := n0_; have BK160 := n1_; have GW160 := n2_; have GE160 := n3_; clear n0_ n1_ n2_ n3_; clear hb hbox hg; have hcz9_0 : w8.cell? ⟨gb160, 0, none⟩ = some (.string (⟨#[]⟩ : ByteArray)) := (blk_cell BK160.out 0).trans rfl; have hcz9_1 : w8.cell? ⟨gb160, 1, none⟩ = some (.bool false) := (blk_cell BK160.out 1).trans rfl; have hfz9_0 := blk_frozen BK160.out 0; have hfz9_1 := blk_frozen BK160.out 1) | ((with_reducible refine at_fn (f := 11) rfl ?_); refine goesL_ (some 11) rfl rfl Try.func11 (by kernel_rfl) rfl #[.string a0] rfl (by (try simp only [List.map_toArray, List.map_cons, List.map_nil]); first | done | rfl | (simp only [List.length_drop, List.length_take]; rfl)) ?_; (with_reducible refine (impl_PrefixOf.calls k a0 t161 t162 _ A4.out).mono ?_); rintro e w10 ⟨rfl, hb⟩; refine ⟨_, rfl, ?_⟩; have n0_ := Aside0.mk (blk_below (g := gb160) (o := .cells #[.string t158, .bool t159] 28 (0, 0)) (by (with_reducible repeat (first | refine blk_drewN ?_ _ | refine blk_drew ?_ | refine blk_alloc ?_ _)); refine blk_put (cs := #[.string t158, .bool false]) ?_ 1 _ rfl; (with_reducible repeat (first | refine blk_drewN ?_ _ | refine blk_drew ?_ | refine blk_alloc ?_ _)); refine blk_put (cs := #[.string (⟨#[]⟩ : ByteArray), .bool false]) ?_ 0 _ rfl; (with_reducible repeat (first | refine blk_drewN ?_ _ | refine blk_drew ?_ | refine blk_alloc ?_ _)); exact BK160.out) hb); have n1_ := Aside0.mk (below_step bw hb); clear BK160; clear HB; have BK160 := n0_; have HB := n1_; clear n0_ n1_; (try clear hb); (try clear hb2); (try clear hk); (try clear hi)) | ((with_reducible refine gate_dst (N := 4) rfl ?_); refine box_event ?hg (N := 4) ?hd (cs := #[.string (⟨#[]⟩ : ByteArray), .bool false]) (t := 28) ?hr ?_; (case hd => rfl); (case hg => rfl); (case hr => first | (go_simp; done) | (go_simp; rfl)); intro gb163 hg w11 hbox hb; have n0_ := Aside0.mk (blk_below (g := gb160) (o := .cells #[.string t158, .bool t159] 28 (0, 0)) (lb BK160) hb); have n1_ := Aside0.mk (below_step bw hb); have n2_ := Aside0.mk (hbox); have n3_ := Aside0.mk ((by rw [hg]; exact (below_size bw) : w.heap.size ≤ gb163)); have n4_ := Aside0.mk ((by rw [hg]; exact (below_size bw) : w.heap.size ≤ gb163)); have n5_ := Aside0.mk ((by rw [hg]; exact Nat.ne_of_lt (blk_lt (g := gb160) (o := .cells #[.string t158, .bool t159] 28 (0, 0)) (lb BK160)) : gb160 ≠ gb163)); have n6_ := Aside0.mk ((by rw [hg]; exact Nat.ne_of_gt (blk_lt (g := gb160) (o := .cells #[.string t158, .bool t159] 28 (0, 0)) (lb BK160)) : gb163 ≠ gb160)); clear BK160; clear HB; have BK160 := n0_; have HB := n1_; have BK163 := n2_; have GW163 := n3_; have GE163 := n4_; have NB160_163 := n5_; have NB163_160 := n6_; clear n0_ n1_ n2_ n3_ n4_ n5_ n6_; clear hb hbox hg; have hnb12 := NB163_160.out; have hnc12 := NB160_163.out; have hcz13_0 : w11.cell? ⟨gb163, 0, none⟩ = some (.string (⟨#[]⟩ : ByteArray)) := (blk_cell BK163.out 0).trans rfl; have hcz13_1 : w11.cell? ⟨gb163, 1, none⟩ = some (.bool false) := (blk_cell BK163.out 1).trans rfl; have hfz13_0 := blk_frozen BK163.out 0; have hfz13_1 := blk_frozen BK163.out 1; have hcz14_0 : w11.cell? ⟨gb160, 0, none⟩ = some (.string t158) := (blk_cell BK160.out 0).trans rfl; have hcz14_1 : w11.cell? ⟨gb160, 1, none⟩ = some (.bool t159) := (blk_cell BK160.out 1).trans rfl; have hfz14_0 := blk_frozen BK160.out 0; have hfz14_1 := blk_frozen BK160.out 1) | ((with_reducible refine at_fn (f := 12) rfl ?_); refine goesL_ (some 14) rfl rfl Try.func12 (by kernel_rfl) rfl #[.agg #[.string t161, .bool t162], .agg #[.string t158, .bool t159]] rfl (by (try simp only [List.map_toArray, List.map_cons, List.map_nil]); first | done | rfl | (simp only [List.length_drop, List.length_take]; rfl)) ?_; (with_reducible refine (laws_eqPrefix.calls t161 t162 t158 t159 true _ A5.out).mono ?_); rintro e w15 ⟨rfl, hb⟩; refine ⟨_, rfl, ?_⟩; have n0_ := Aside0.mk (blk_below (g := gb160) (o := .cells #[.string t158, .bool t159] 28 (0, 0)) (by (with_reducible repeat (first | refine blk_drewN ?_ _ | refine blk_drew ?_ | refine blk_alloc ?_ _)); refine blk_far ?_ NB160_163.out _; (with_reducible repeat (first | refine blk_drewN ?_ _ | refine blk_drew ?_ | refine blk_alloc ?_ _)); refine blk_far ?_ NB160_163.out _; (with_reducible repeat (first | refine blk_drewN ?_ _ | refine blk_drew ?_ | refine blk_alloc ?_ _)); exact BK160.out) hb); have n1_ := Aside0.mk (blk_below (g := gb163) (o := .cells #[.string t161, .bool t162] 28 (0, 0)) (by (with_reducible repeat (first | refine blk_drewN ?_ _ | refine blk_drew ?_ | refine blk_alloc ?_ _)); refine blk_put (cs := #[.string t161, .bool false]) ?_ 1 _ rfl; (with_reducible repeat (first | refine blk_drewN ?_ _ | refine blk_drew ?_ | refine blk_alloc ?_ _)); refine blk_put (cs := #[.string (⟨#[]⟩ : ByteArray), .bool false]) ?_ 0 _ rfl; (with_reducible repeat (first | refine blk_drewN ?_ _ | refine blk_drew ?_ | refine blk_alloc ?_ _)); exact BK163.out) hb); have n2_ := Aside0.mk (below_step bw hb); clear BK160; clear BK163; clear HB; have BK160 := n0_; have BK163 := n1_; have HB := n2_; clear n0_ n1_ n2_; (try clear hb); (try clear hb2); (try clear hk); (try clear hi)))
   go_ret
   exact ⟨by first | rfl | (simp [errW_none, errW_some] <;> rfl) | (simp [*, errW_none, errW_some] <;> rfl), bw⟩
  ·replace c6 := Bool.eq_false_iff.mpr c6
   subst c6
   have H1 : (some false) = some r := by rw [if_neg (show ¬ (false = true) by decide)] at H; exact H
   clear H
   have H := H1
   clear H1
   obtain rfl := Option.some.inj H
   go_enter Try.func4, Try.ntmps4
   go_wp2_with (first | ((with_reducible refine at_fn (f := 10) rfl ?_); refine goesL_ (some 9) rfl rfl Try.func10 (by kernel_rfl) rfl #[.string a0] rfl (by (try simp only [List.map_toArray, List.map_cons, List.map_nil]); first | done | rfl | (simp only [List.length_drop, List.length_take]; rfl)) ?_; (with_reducible refine (spec_PrefixOf.calls k a0 t158 t159 _ A3.out).mono ?_); rintro e w16 ⟨rfl, hb⟩; refine ⟨_, rfl, ?_⟩; have n0_ := Aside0.mk (below_step bw hb); clear HB; have HB := n0_; clear n0_; (try clear hb); (try clear hb2); (try clear hk); (try clear hi)) | ((with_reducible refine gate_dst (N := 3) rfl ?_); refine box_event ?hg (N := 3) ?hd (cs := #[.string (⟨#[]⟩ : ByteArray), .bool false]) (t := 28) ?hr ?_; (case hd => rfl); (case hg => rfl); (case hr => first | (go_simp; done) | (go_simp; rfl)); intro gb160 hg w17 hbox hb; have n0_ := Aside0.mk (below_step bw hb); have n1_ := Aside0.mk (hbox); have n2_ := Aside0.mk ((by rw [hg]; exact (below_size bw) : w.heap.size ≤ gb160)); have n3_ := Aside0.mk ((by rw [hg]; exact (below_size bw) : w.heap.size ≤ gb160)); clear HB; have HB := n0_; have BK160 := n1_; have GW160 := n2_; have GE160 := n3_; clear n0_ n1_ n2_ n3_; clear hb hbox hg; have hcz18_0 : w17.cell? ⟨gb160, 0, none⟩ = some (.string (⟨#[]⟩ : ByteArray)) := (blk_cell BK160.out 0).trans rfl; have hcz18_1 : w17.cell? ⟨gb160, 1, none⟩ = some (.bool false) := (blk_cell BK160.out 1).trans rfl; have hfz18_0 := blk_frozen BK160.out 0; have hfz18_1 := blk_frozen BK160.out 1) | ((with_reducible refine at_fn (f := 11) rfl ?_); refine goesL_ (some 11) rfl rfl Try.func11 (by kernel_rfl) rfl #[.string a0] rfl (by (try simp only [List.map_toArray, List.map_cons, List.map_nil]); first | done | rfl | (simp only [List.length_drop, List.length_take]; rfl)) ?_; (with_reducible refine (impl_PrefixOf.calls k a0 t161 t162 _ A4.out).mono ?_); rintro e w19 ⟨rfl, hb⟩; refine ⟨_, rfl, ?_⟩; have n0_ := Aside0.mk (blk_below (g := gb160) (o := .cells #[.string t158, .bool t159] 28 (0, 0)) (by (with_reducible repeat (first | refine blk_drewN ?_ _ | refine blk_drew ?_ | refine blk_alloc ?_ _)); refine blk_put (cs := #[.string t158, .bool false]) ?_ 1 _ rfl; (with_reducible repeat (first | refine blk_drewN ?_ _ | refine blk_drew ?_ | refine blk_alloc ?_ _)); refine blk_put (cs := #[.string (⟨#[]⟩ : ByteArray), .bool false]) ?_ 0 _ rfl; (with_reducible repeat (first | refine blk_drewN ?_ _ | refine blk_drew ?_ | refine blk_alloc ?_ _)); exact BK160.out) hb); have n1_ := Aside0.mk (below_step bw hb); clear BK160; clear HB; have BK160 := n0_; have HB := n1_; clear n0_ n1_; (try clear hb); (try clear hb2); (try clear hk); (try clear hi)) | ((with_reducible refine gate_dst (N := 4) rfl ?_); refine box_event ?hg (N := 4) ?hd (cs := #[.string (⟨#[]⟩ : ByteArray), .bool false]) (t := 28) ?hr ?_; (case hd => rfl); (case hg => rfl); (case hr => first | (go_simp; done) | (go_simp; rfl)); intro gb163 hg w20 hbox hb; have n0_ := Aside0.mk (blk_below (g := gb160) (o := .cells #[.string t158, .bool t159] 28 (0, 0)) (lb BK160) hb); have n1_ := Aside0.mk (below_step bw hb); have n2_ := Aside0.mk (hbox); have n3_ := Aside0.mk ((by rw [hg]; exact (below_size bw) : w.heap.size ≤ gb163)); have n4_ := Aside0.mk ((by rw [hg]; exact (below_size bw) : w.heap.size ≤ gb163)); have n5_ := Aside0.mk ((by rw [hg]; exact Nat.ne_of_lt (blk_lt (g := gb160) (o := .cells #[.string t158, .bool t159] 28 (0, 0)) (lb BK160)) : gb160 ≠ gb163)); have n6_ := Aside0.mk ((by rw [hg]; exact Nat.ne_of_gt (blk_lt (g := gb160) (o := .cells #[.string t158, .bool t159] 28 (0, 0)) (lb BK160)) : gb163 ≠ gb160)); clear BK160; clear HB; have BK160 := n0_; have HB := n1_; have BK163 := n2_; have GW163 := n3_; have GE163 := n4_; have NB160_163 := n5_; have NB163_160 := n6_; clear n0_ n1_ n2_ n3_ n4_ n5_ n6_; clear hb hbox hg; have hnb21 := NB163_160.out; have hnc21 := NB160_163.out; have hcz22_0 : w20.cell? ⟨gb163, 0, none⟩ = some (.string (⟨#[]⟩ : ByteArray)) := (blk_cell BK163.out 0).trans rfl; have hcz22_1 : w20.cell? ⟨gb163, 1, none⟩ = some (.bool false) := (blk_cell BK163.out 1).trans rfl; have hfz22_0 := blk_frozen BK163.out 0; have hfz22_1 := blk_frozen BK163.out 1; have hcz23_0 : w20.cell? ⟨gb160, 0, none⟩ = some (.string t158) := (blk_cell BK160.out 0).trans rfl; have hcz23_1 : w20.cell? ⟨gb160, 1, none⟩ = some (.bool t159) := (blk_cell BK160.out 1).trans rfl; have hfz23_0 := blk_frozen BK160.out 0; have hfz23_1 := blk_frozen BK160.out 1) | ((with_reducible refine at_fn (f := 12) rfl ?_); refine goesL_ (some 14) rfl rfl Try.func12 (by kernel_rfl) rfl #[.agg #[.string t161, .bool t162], .agg #[.string t158, .bool t159]] rfl (by (try simp only [List.map_toArray, List.map_cons, List.map_nil]); first | done | rfl | (simp only [List.length_drop, List.length_take]; rfl)) ?_; (with_reducible refine (laws_eqPrefix.calls t161 t162 t158 t159 false _ A5.out).mono ?_); rintro e w24 ⟨rfl, hb⟩; refine ⟨_, rfl, ?_⟩; have n0_ := Aside0.mk (blk_below (g := gb160) (o := .cells #[.string t158, .bool t159] 28 (0, 0)) (by (with_reducible repeat (first | refine blk_drewN ?_ _ | refine blk_drew ?_ | refine blk_alloc ?_ _)); refine blk_far ?_ NB160_163.out _; (with_reducible repeat (first | refine blk_drewN ?_ _ | refine blk_drew ?_ | refine blk_alloc ?_ _)); refine blk_far ?_ NB160_163.out _; (with_reducible repeat (first | refine blk_drewN ?_ _ | refine blk_drew ?_ | refine blk_alloc ?_ _)); exact BK160.out) hb); have n1_ := Aside0.mk (blk_below (g := gb163) (o := .cells #[.string t161, .bool t162] 28 (0, 0)) (by (with_reducible repeat (first | refine blk_drewN ?_ _ | refine blk_drew ?_ | refine blk_alloc ?_ _)); refine blk_put (cs := #[.string t161, .bool false]) ?_ 1 _ rfl; (with_reducible repeat (first | refine blk_drewN ?_ _ | refine blk_drew ?_ | refine blk_alloc ?_ _)); refine blk_put (cs := #[.string (⟨#[]⟩ : ByteArray), .bool false]) ?_ 0 _ rfl; (with_reducible repeat (first | refine blk_drewN ?_ _ | refine blk_drew ?_ | refine blk_alloc ?_ _)); exact BK163.out) hb); have n2_ := Aside0.mk (below_step bw hb); clear BK160; clear BK163; clear HB; have BK160 := n0_; have BK163 := n1_; have HB := n2_; clear n0_ n1_ n2_; (try clear hb); (try clear hb2); (try clear hk); (try clear hi)))
   go_ret
   exact ⟨by first | rfl | (simp [errW_none, errW_some] <;> rfl) | (simp [*, errW_none, errW_some] <;> rfl), bw⟩


end Go.Proofs.Ytimbggkjpdaenaa.Q

namespace Go.Proofs.Ytimbggkjpdaenaa.Q
open Go.RowKit Go.Proofs.YtimbggkjpdaenaaW.PrintWords Go.Proofs.YtimbggkjpdaenaaW.PrintLast
set_option linter.unusedVariables false

/-- The law over lists and numbers. -/
def laws_FnExactPrefixOf.Pure : Prop := ∀ (a0 : ByteArray), a0.size ≤ maxLen → ∃ k, laws_FnExactPrefixOf.f k a0 = some true
end Go.Proofs.Ytimbggkjpdaenaa.Q

namespace Go.Proofs.Ytimbggkjpdaenaa.Q
open Go.RowKit Go.Proofs.YtimbggkjpdaenaaW.PrintWords Go.Proofs.YtimbggkjpdaenaaW.PrintLast
set_option linter.unusedVariables false
set_option linter.unusedSimpArgs false
set_option linter.unusedSectionVars false
theorem Ev.obind {α β : Type} {x : Nat → Option (Except (Int × Int) α)} {f : Nat → α → Option (Except (Int × Int) β)} {a : α} {r : Except (Int × Int) β} (h : Ev x (.ok a)) (k : Ev (fun n => f n a) r) : Ev (fun n => Q.obind (x n) (f n)) r := by
  obtain ⟨K, h⟩ := h
  obtain ⟨K', k⟩ := k
  refine ⟨max K K', fun n hn => ?_⟩
  simp only []
  rw [h n (by omega)]
  exact k n (by omega)
theorem Ev.obind_err {α β : Type} {x : Nat → Option (Except (Int × Int) α)} {f : Nat → α → Option (Except (Int × Int) β)} {e : Int × Int} (h : Ev x (.error e)) : Ev (fun n => Q.obind (x n) (f n)) (.error e) := by
  obtain ⟨K, h⟩ := h
  refine ⟨K, fun n hn => ?_⟩
  simp only []
  rw [h n hn]
  rfl
section
variable {p : ByteArray} (hp : p.size ≤ 200)
include hp
theorem wr1 {i : Int} (h0 : 0 ≤ i) (h1 : i ≤ p.size) : wrap64 (i + 1) = i + 1 := wrap_id _ (by omega) (by omega)
theorem wr2 {i : Int} (h0 : 0 ≤ i) (h1 : i ≤ p.size) : wrap64 (i + 2) = i + 2 := wrap_id _ (by omega) (by omega)
/-- One ch: what the reference says. -/
def chS : Except (Int × Int) (Int × Int) → Int × Int × Bool
  | .ok (c, j) => (c, j, true)
  | .error (_, a) => (0, a, false)
theorem ch_code {i c a : Int} (h : chF p i = .error (c, a)) : c = 2 := by
  unfold chF at h
  split at h
  · split at h
    · cases h; rfl
    · cases h
  · split at h
    · cases h; rfl
    · cases h
theorem ch_spec {i : Int} (h0 : 0 ≤ i) (h1 : i ≤ p.size) : Ev (fun k => spec_l4Ch.f k p i) (chS (chF p i)) := by
  have hw1 := wr1 hp h0 h1
  have hw2 := wr2 hp h0 h1
  refine ⟨1, fun k hk => ?_⟩
  obtain ⟨k, rfl⟩ : ∃ m, k = m + 1 := ⟨k - 1, by omega⟩
  show spec_l4Ch.f (k + 1) p i = some (chS (chF p i))
  unfold spec_l4Ch.f chF
  by_cases e0 : i = p.size
  · rw [if_pos (by omega), if_neg (by omega), if_pos (.inl e0)]
    simp [spec_l4Ch.j0, chS]
  · rw [if_neg (by omega), if_pos h0, if_pos (by omega)]
    by_cases e93 : bt p i = 93
    · rw [if_pos e93, if_neg (by omega), if_pos (.inr (.inl e93))]
      simp [spec_l4Ch.j0, chS]
    · rw [if_neg e93]
      by_cases e45 : bt p i = 45
      · rw [if_neg (by omega), if_pos (.inr (.inr e45)), e45]
        simp [spec_l4Ch.j0, chS]
      · have hb : (bt p i == 45) = false := beq_eq_false_iff_ne.mpr e45
        rw [hb]
        simp only [spec_l4Ch.j0, Bool.false_eq_true, if_false]
        rw [hw1, hw2]
        have hlt : i < (p.size : Int) := by omega
        by_cases e92 : bt p i = 92
        · by_cases e1 : i + 1 = p.size
          · simp only [h0, hlt, e92, e1, if_true, and_self, ge_iff_le, Int.le_refl]; rfl
          · have e2 : ¬ (p.size : Int) ≤ i + 1 := by omega
            have e3 : 0 ≤ i + 1 := by omega
            have e4 : i + 1 < (p.size : Int) := by omega
            simp only [h0, hlt, e92, e1, e2, e3, e4, if_true, if_false, and_self, ge_iff_le]; rfl
        · have e5 : ¬ (i = p.size ∨ bt p i = 93 ∨ bt p i = 45) := by omega
          simp only [h0, hlt, e92, e5, if_true, if_false, and_false]; rfl
def clS : Except (Int × Int) (List Bool × Int) → Int × Int × Int
  | .ok (_, j) => (j + 1, 0, 0)
  | .error (c, a) => (0, c, a)
theorem cls_spec : ∀ (d : Nat) (i n : Int) (s : List Bool), 0 ≤ i → i ≤ p.size → (p.size : Int) - i = d → 0 ≤ n → n ≤ i →
    ∃ q, Ev (fun k => clsF k p i (decide (n = 0)) s) q ∧ Ev (fun k => spec_l4Class.l0 k p i n) (clS q) ∧ (∀ c a, q = .error (c, a) → c ≠ 0) := by
  intro d
  induction d using Nat.strongRecOn with
  | _ d ih =>
  intro i n s h0 h1 hd n0 n1
  have hcs := ch_spec hp h0 h1
  by_cases ee : i = p.size
  · have hch : chF p i = .error (2, i) := by unfold chF; rw [if_neg (by omega), if_pos (.inl ee)]
    refine ⟨.error (2, i), ⟨1, fun k hk => ?_⟩, ⟨1, fun k hk => ?_⟩, fun c a h => by cases h; decide⟩
    · obtain ⟨k, rfl⟩ : ∃ m, k = m + 1 := ⟨k - 1, by omega⟩
      show clsF (k + 1) p i _ s = _
      simp only [clsF]
      rw [if_pos (.inr (.inl ee)), hch]
    · obtain ⟨k, rfl⟩ : ∃ m, k = m + 1 := ⟨k - 1, by omega⟩
      show spec_l4Class.l0 (k + 1) p i n = _
      simp only [spec_l4Class.l0]
      rw [if_neg (by omega), ee]; rfl
  have hlt : i < p.size := by omega
  have hw1 := wr1 hp h0 h1
  by_cases ec : n = 0 ∨ bt p i ≠ 93
  · -- an item
    have hl0 : ∀ k, spec_l4Class.l0 (k + 1) p i n = spec_l4Class.j3 k p i n false := by
      intro k
      simp only [spec_l4Class.l0]
      rw [if_pos hlt, if_pos h0]
      by_cases e93 : bt p i = 93
      · rw [if_pos e93]
        have : n = 0 := by rcases ec with h | h
                           · exact h
                           · exact absurd e93 h
        rw [this]; rfl
      · rw [if_neg e93]
    have hcl : ∀ k, clsF (k + 1) p i (decide (n = 0)) s = (match chF p i with
      | .error x => some (.error x)
      | .ok (lo, j) =>
        if j < p.size ∧ bt p j = 45 then
          match chF p (j + 1) with
          | .error x => some (.error x)
          | .ok (hi, m) => if lo > hi then some (.error (4, i)) else clsF k p m false (setR s lo hi)
        else clsF k p j false (setR s lo lo)) := by
      intro k
      simp only [clsF]
      rw [if_pos (by rcases ec with h | h
                     · exact .inl (by simp [h])
                     · exact .inr (.inr h))]
      try rfl
    cases hch : chF p i with
    | error x =>
      obtain ⟨c, a⟩ := x
      have hc2 := ch_code hp hch
      subst hc2
      rw [hch] at hcs
      refine ⟨.error (2, a), Ev.step (fun k => by rw [hcl, hch]) (Ev.now _), Ev.step hl0 (Ev.step (fun k => by simp only [spec_l4Class.j3]; rw [if_neg Bool.false_ne_true]) (Ev.bind hcs ?_)), fun c a h => by cases h; decide⟩
      exact Ev.if_neg (by simp [chS]) (Ev.now _)
    | ok x =>
      obtain ⟨lo, j⟩ := x
      obtain ⟨l0, l1, l2, l3⟩ := chF_ok hch h0 h1
      rw [hch] at hcs
      have hw : wrap64 (n + 1) = n + 1 := wrap_id _ (by omega) (by omega)
      have hdn : decide (n + 1 = 0) = false := decide_eq_false (by omega)
      by_cases ed : j < p.size ∧ bt p j = 45
      · have hcs2 := ch_spec hp (i := j + 1) (by omega) (by omega)
        have hwj : wrap64 (j + 1) = j + 1 := wr1 hp (by omega) l3
        cases hch2 : chF p (j + 1) with
        | error x =>
          obtain ⟨c, a⟩ := x
          have hc2 := ch_code hp hch2
          subst hc2
          rw [hch2] at hcs2
          refine ⟨.error (2, a), Ev.step (fun k => by rw [hcl, hch]; simp only []; rw [if_pos ed, hch2]) (Ev.now _), Ev.step hl0 (Ev.step (fun k => by simp only [spec_l4Class.j3]; rw [if_neg Bool.false_ne_true]) (Ev.bind hcs ?_)), fun c a h => by cases h; decide⟩
          simp only [chS, if_true]
          refine Ev.if_pos ed.1 (Ev.if_pos (show 0 ≤ j by omega) ?_)
          rw [ed.2]
          refine Ev.step (fun k => by simp only [spec_l4Class.j4]; rw [if_pos (show ((45 : Int) == 45) = true by decide), hwj]) (Ev.bind hcs2 ?_)
          exact Ev.if_neg (by simp [chS]) (Ev.now _)
        | ok x =>
          obtain ⟨hi, m⟩ := x
          obtain ⟨q0, q1, q2, q3⟩ := chF_ok hch2 (by omega) (by omega)
          rw [hch2] at hcs2
          by_cases elh : lo > hi
          · refine ⟨.error (4, i), Ev.step (fun k => by rw [hcl, hch]; simp only []; rw [if_pos ed, hch2]; simp only []; rw [if_pos elh]) (Ev.now _), Ev.step hl0 (Ev.step (fun k => by simp only [spec_l4Class.j3]; rw [if_neg Bool.false_ne_true]) (Ev.bind hcs ?_)), fun c a h => by cases h; decide⟩
            simp only [chS, if_true]
            refine Ev.if_pos ed.1 (Ev.if_pos (show 0 ≤ j by omega) ?_)
            rw [ed.2]
            refine Ev.step (fun k => by simp only [spec_l4Class.j4]; rw [if_pos (show ((45 : Int) == 45) = true by decide), hwj]) (Ev.bind hcs2 ?_)
            simp only [chS, if_true]
            exact Ev.if_pos elh (Ev.now _)
          · obtain ⟨q, hq1, hq2, hq3⟩ := ih ((p.size : Int) - m).toNat (by omega) m (n + 1) (setR s lo hi) (by omega) q3 (by omega) (by omega) (by omega)
            rw [hdn] at hq1
            refine ⟨q, Ev.step (fun k => by rw [hcl, hch]; simp only []; rw [if_pos ed, hch2]; simp only []; rw [if_neg elh]) hq1, Ev.step hl0 (Ev.step (fun k => by simp only [spec_l4Class.j3]; rw [if_neg Bool.false_ne_true]) (Ev.bind hcs ?_)), hq3⟩
            simp only [chS, if_true]
            refine Ev.if_pos ed.1 (Ev.if_pos (show 0 ≤ j by omega) ?_)
            rw [ed.2]
            refine Ev.step (fun k => by simp only [spec_l4Class.j4]; rw [if_pos (show ((45 : Int) == 45) = true by decide), hwj]) (Ev.bind hcs2 ?_)
            simp only [chS, if_true]
            refine Ev.if_neg elh ?_
            rw [hw]; exact hq2
      · obtain ⟨q, hq1, hq2, hq3⟩ := ih ((p.size : Int) - j).toNat (by omega) j (n + 1) (setR s lo lo) (by omega) l3 (by omega) (by omega) (by omega)
        rw [hdn] at hq1
        refine ⟨q, Ev.step (fun k => by rw [hcl, hch]; simp only []; rw [if_neg ed]) hq1, Ev.step hl0 (Ev.step (fun k => by simp only [spec_l4Class.j3]; rw [if_neg Bool.false_ne_true]) (Ev.bind hcs ?_)), hq3⟩
        simp only [chS, if_true]
        by_cases ej : j < p.size
        · have hb : (bt p j == 45) = false := beq_eq_false_iff_ne.mpr (fun h => ed ⟨ej, h⟩)
          refine Ev.if_pos ej (Ev.if_pos (show 0 ≤ j by omega) ?_)
          rw [hb]
          refine Ev.step (fun k => by simp only [spec_l4Class.j4]; rw [if_neg Bool.false_ne_true, hw]) hq2
        · refine Ev.if_neg ej ?_
          refine Ev.step (fun k => by simp only [spec_l4Class.j4]; rw [if_neg Bool.false_ne_true, hw]) hq2
  · have hn : ¬ n = 0 := fun h => ec (.inl h)
    have h93 : bt p i = 93 := Classical.not_not.mp fun h => ec (.inr h)
    refine ⟨.ok (s, i), Ev.step (f := fun _ => some (.ok (s, i))) (fun k => ?_) (Ev.now _), Ev.step (f := fun k => spec_l4Class.j3 k p i n true) (fun k => ?_) (Ev.step (f := fun _ => some (i + 1, 0, 0)) (fun k => ?_) (Ev.now _)), fun c a h => by cases h⟩
    · simp only [clsF]
      rw [if_neg (by simp [hn, ee, h93])]
    · simp only [spec_l4Class.l0]
      rw [if_pos hlt, if_pos h0, if_pos h93, decide_eq_true (by omega)]
    · simp only [spec_l4Class.j3, if_true, hw1]
theorem class_spec {i : Int} (h0 : 0 ≤ i) (h1 : i < p.size) : ∃ q, Ev (fun k => claF k p (i + 1)) q ∧ ((∃ s j, q = .ok (s, j) ∧ Ev (fun k => spec_l4Class.f k p i) (j, 0, 0)) ∨ (∃ c a, q = .error (c, a) ∧ c ≠ 0 ∧ Ev (fun k => spec_l4Class.f k p i) (0, c, a))) := by
  have hw1 := wr1 hp h0 (Int.le_of_lt h1)
  have hn : 0 ≤ notI p (i + 1) ∧ notI p (i + 1) ≤ p.size := by
    unfold notI; split
    · rename_i hh; unfold notQ at hh; simp at hh; omega
    · omega
  obtain ⟨q, hq1, hq2, hq3⟩ := cls_spec hp ((p.size : Int) - notI p (i + 1)).toNat (notI p (i + 1)) 0 noB hn.1 hn.2 (by omega) (Int.le_refl _) hn.1
  have hs : Ev (fun k => spec_l4Class.f k p i) (clS q) := by
    unfold spec_l4Class.f
    rw [hw1]
    by_cases e : i + 1 < p.size
    · refine Ev.if_pos e (Ev.if_pos (show 0 ≤ i + 1 by omega) ?_)
      have hnq : notQ p (i + 1) = (bt p (i + 1) == 94) := by unfold notQ; rw [decide_eq_true e]; rfl
      have hw2 := wr1 hp (i := i + 1) (by omega) (by omega)
      refine Ev.step (f := fun k => spec_l4Class.j1 k p (notI p (i + 1))) (fun k => ?_) (Ev.step (fun k => by simp only [spec_l4Class.j1]) hq2)
      simp only [spec_l4Class.j0]
      unfold notI
      rw [hnq, hw2]
      split <;> rfl
    · refine Ev.if_neg e ?_
      have hnq : notQ p (i + 1) = false := by unfold notQ; rw [decide_eq_false e]; rfl
      refine Ev.step (f := fun k => spec_l4Class.j1 k p (notI p (i + 1))) (fun k => ?_) (Ev.step (fun k => by simp only [spec_l4Class.j1]) hq2)
      simp only [spec_l4Class.j0]
      unfold notI
      rw [hnq]
      rfl
  have hc : Ev (fun k => claF k p (i + 1)) (q.map fun x => (if notQ p (i + 1) then x.1.map (!·) else x.1, x.2 + 1)) := by
    obtain ⟨K, hK⟩ := hq1
    refine ⟨K, fun k hk => ?_⟩
    have := hK k hk
    simp only [decide_true] at this
    show (clsF k p (notI p (i + 1)) true noB).map _ = _
    rw [this]; rfl
  refine ⟨_, hc, ?_⟩
  rcases q with ⟨c, a⟩ | ⟨s, j⟩
  · exact .inr ⟨c, a, rfl, hq3 c a rfl, hs⟩
  · exact .inl ⟨_, _, rfl, hs⟩
theorem l4Op_is (c : Int) : spec_l4Op.f c = some (isOp c) := by
  unfold spec_l4Op.f isOp
  by_cases h1 : c = 42
  · simp [h1]
  · by_cases h2 : c = 43
    · simp [h2]
    · simp [h1, h2, beq_eq_false_iff_ne.mpr h1, beq_eq_false_iff_ne.mpr h2]
/-- The reference comes to r from this state. -/
def SL (p : ByteArray) (o : Int) (at_ : Bool) (i : Int) (r : Int × Int) : Prop := Ev (fun k => spec_CheckRegex.l0 k p o at_ i) r
theorem sl_s (k : Nat) (o : Int) (at_ : Bool) (i : Int) (h0 : 0 ≤ i) (h1 : i < p.size) (ho : 0 ≤ o) (ho2 : o ≤ 20) : spec_CheckRegex.l0 (k + 1) p o at_ i =
    (if bt p i = 40 then (if o = 20 then some (3, i) else spec_CheckRegex.l0 k p (o + 1) false (i + 1))
    else if bt p i = 41 then (if o = 0 then some (2, i) else spec_CheckRegex.l0 k p (o - 1) true (i + 1))
    else if bt p i = 124 then spec_CheckRegex.l0 k p o false (i + 1)
    else if isOp (bt p i) = true then (if at_ = true then spec_CheckRegex.l0 k p o at_ (i + 1) else some (2, i))
    else if bt p i = 91 then ((spec_l4Class.f k p i).bind fun b => if b.2.1 = 0 then spec_CheckRegex.l0 k p o true b.1 else some (b.2.1, b.2.2))
    else if bt p i = 93 then some (2, i)
    else if bt p i = 92 then (if i + 1 = p.size then some (2, (p.size : Int)) else spec_CheckRegex.l0 k p o true (i + 2))
    else spec_CheckRegex.l0 k p o true (i + 1)) := by
  have hw1 := wr1 hp h0 (Int.le_of_lt h1)
  have hw2 := wr2 hp h0 (Int.le_of_lt h1)
  have hw3 : wrap64 (o + 1) = o + 1 := wrap_id _ (by omega) (by omega)
  have hw4 : wrap64 (o - 1) = o - 1 := wrap_id _ (by omega) (by omega)
  rw [spec_CheckRegex.l0, if_pos h1, if_pos h0, hw1, hw2, hw3, hw4, l4Op_is hp]
  rfl
theorem sl_end (o : Int) (at_ : Bool) (ho : 0 ≤ o) : SL p o at_ p.size (if o > 0 then (2, (p.size : Int)) else (0, 0)) := by
  refine Ev.step (f := fun _ => some (if o > 0 then (2, (p.size : Int)) else (0, 0))) (fun k => ?_) (Ev.now _)
  rw [spec_CheckRegex.l0, if_neg (by omega)]
  split <;> rfl
/-- Operators behind an atom. -/
theorem ops_spec : ∀ (d : Nat) (j : Int) (x : Rx) (o : Int), 0 ≤ o → o ≤ 20 → 0 ≤ j → j ≤ p.size → (p.size : Int) - j = d →
    ∃ x' j', Ev (fun k => opsF k p j x) (x', j') ∧ j ≤ j' ∧ j' ≤ p.size ∧ (j' < p.size → isOp (bt p j') = false) ∧ ∀ r, SL p o true j' r → SL p o true j r := by
  intro d
  induction d with
  | zero =>
    intro j x o o0 o1 h0 h1 hd
    refine ⟨x, j, Ev.step (f := fun _ => some (x, j)) (fun k => ?_) (Ev.now _), Int.le_refl _, h1, fun h => by omega, fun r h => h⟩
    simp only [opsF]
    rw [if_neg (by omega)]
  | succ d ih =>
    intro j x o o0 o1 h0 h1 hd
    have hlt : j < p.size := by omega
    by_cases hop : isOp (bt p j) = true
    · obtain ⟨x', j', he, a, b, c, hs⟩ := ih (j + 1) (.rep x (bt p j)) o o0 o1 (by omega) (by omega) (by omega)
      refine ⟨x', j', Ev.step (fun k => by simp only [opsF]; rw [if_pos ⟨hlt, hop⟩]) he, by omega, b, c, fun r h => Ev.step (fun k => ?_) (hs r h)⟩
      have hn : bt p j ≠ 40 ∧ bt p j ≠ 41 ∧ bt p j ≠ 124 := by
        refine ⟨fun e => ?_, fun e => ?_, fun e => ?_⟩ <;> (rw [e] at hop; revert hop; decide)
      rw [sl_s hp k o true j h0 hlt o0 o1, if_neg hn.1, if_neg hn.2.1, if_neg hn.2.2, if_pos hop, if_pos rfl]
    · refine ⟨x, j, Ev.step (f := fun _ => some (x, j)) (fun k => ?_) (Ev.now _), Int.le_refl _, h1, fun _ => by simpa using hop, fun r h => h⟩
      simp only [opsF]
      rw [if_neg (fun h => hop h.2)]
def AtomS (p : ByteArray) (i o : Int) (at_ : Bool) : Prop :=
  (∃ c a, Ev (fun k => atomF k p i o) (.error (c, a)) ∧ SL p o at_ i (c, a)) ∨
  (∃ x j, Ev (fun k => atomF k p i o) (.ok (x, j)) ∧ i < j ∧ j ≤ p.size ∧ ∀ r, SL p o true j r → SL p o at_ i r)
def SeqS (p : ByteArray) (i o : Int) (at_ : Bool) : Prop :=
  (∃ c a, (∀ acc, Ev (fun k => seqL k p i o acc) (.error (c, a))) ∧ SL p o at_ i (c, a)) ∨
  (∃ xs j, (∀ acc, Ev (fun k => seqL k p i o acc) (.ok (.seq (acc ++ xs), j))) ∧ i ≤ j ∧ j ≤ p.size ∧ (j < p.size → bt p j = 124 ∨ bt p j = 41) ∧ ∀ r, (∀ b, SL p o b j r) → SL p o at_ i r)
def AltS (p : ByteArray) (i o : Int) : Prop :=
  (∃ c a, (∀ acc, Ev (fun k => altL k p i o acc) (.error (c, a))) ∧ SL p o false i (c, a)) ∨
  (∃ xs j, (∀ acc, Ev (fun k => altL k p i o acc) (.ok (.alt (acc ++ xs), j))) ∧ i ≤ j ∧ j ≤ p.size ∧ (j < p.size → bt p j = 41) ∧ ∀ r, (∀ b, SL p o b j r) → SL p o false i r)
theorem atom_spec (i o : Int) (at_ : Bool) (h0 : 0 ≤ i) (h1 : i < p.size) (o0 : 0 ≤ o) (o1 : o ≤ 20) (hat : at_ = true → isOp (bt p i) = false) (n124 : bt p i ≠ 124) (n41 : bt p i ≠ 41)
    (IH : o < 20 → AltS p (i + 1) (o + 1)) : AtomS p i o at_ := by
  have hsl := fun k b => sl_s hp k o b i h0 h1 o0 o1
  by_cases n40 : bt p i = 40
  · by_cases e20 : o = 20
    · refine .inl ⟨3, i, Ev.step (f := fun _ => some (.error (3, i))) (fun k => by rw [atomF_s, if_pos n40, if_pos e20]) (Ev.now _), Ev.step (f := fun _ => some (3, i)) (fun k => by rw [hsl, if_pos n40, if_pos e20]) (Ev.now _)⟩
    · have ho : o < 20 := by omega
      rcases IH ho with ⟨c, a, ha, hs⟩ | ⟨xs, j, ha, a, b, hj, hs⟩
      · refine .inl ⟨c, a, Ev.step (fun k => by rw [atomF_s, if_pos n40, if_neg e20]) (Ev.obind_err (ha [])), Ev.step (fun k => by rw [hsl, if_pos n40, if_neg e20]) hs⟩
      · by_cases ej : j = p.size
        · refine .inl ⟨2, j, Ev.step (fun k => by rw [atomF_s, if_pos n40, if_neg e20]) (Ev.obind (ha []) (Ev.if_pos ej (Ev.now _))), Ev.step (fun k => by rw [hsl, if_pos n40, if_neg e20]) (hs _ fun b => ?_)⟩
          have := sl_end hp (o + 1) b (by omega)
          rw [if_pos (by omega)] at this
          rw [ej]; exact this
        · have hlt : j < p.size := by omega
          refine .inr ⟨_, j + 1, Ev.step (fun k => by rw [atomF_s, if_pos n40, if_neg e20]) (Ev.obind (ha []) (Ev.if_neg ej (Ev.now _))), by omega, by omega, fun r h => Ev.step (fun k => by rw [hsl, if_pos n40, if_neg e20]) (hs _ fun b => ?_)⟩
          have h41 := hj hlt
          refine Ev.step (fun k => ?_) h
          rw [sl_s hp k (o + 1) b j (by omega) hlt (by omega) (by omega), if_neg (by omega), if_pos h41, if_neg (by omega), show o + 1 - 1 = o by omega]
  · by_cases n91 : bt p i = 91
    · have hop : ¬ isOp (bt p i) = true := by rw [n91]; decide
      obtain ⟨q, hq, h⟩ := class_spec hp h0 h1
      have hA : ∀ k, atomF (k + 1) p i o = obind (claF k p (i + 1)) fun x => some (.ok (.one x.1 0 false, x.2)) := fun k => by rw [atomF_s, if_neg n40, if_pos n91]
      have hS : ∀ k, spec_CheckRegex.l0 (k + 1) p o at_ i = ((spec_l4Class.f k p i).bind fun b => if b.2.1 = 0 then spec_CheckRegex.l0 k p o true b.1 else some (b.2.1, b.2.2)) := fun k => by rw [hsl, if_neg n40, if_neg n41, if_neg n124, if_neg hop, if_pos n91]
      rcases h with ⟨s, j, rfl, hs⟩ | ⟨c, a, rfl, hc, hs⟩
      · obtain ⟨K, hK⟩ := hq
        obtain ⟨a, b, -⟩ := claF_ok (hK K (Nat.le_refl _)) (by omega) (by omega)
        have a' : i + 1 < j := a
        refine .inr ⟨_, j, Ev.step hA (Ev.obind ⟨K, hK⟩ (Ev.now _)), by omega, b, fun r h => Ev.step hS (Ev.bind hs (Ev.if_pos rfl h))⟩
      · refine .inl ⟨c, a, Ev.step hA (Ev.obind_err hq), Ev.step hS (Ev.bind hs (Ev.if_neg hc (Ev.now _)))⟩
    · by_cases n46 : bt p i = 46
      · have hop : ¬ isOp (bt p i) = true := by rw [n46]; decide
        refine .inr ⟨_, i + 1, Ev.step (fun k => by rw [atomF_s, if_neg n40, if_neg n91, if_pos n46]) (Ev.now _), by omega, by omega, fun r h => Ev.step (fun k => ?_) h⟩
        rw [hsl, if_neg n40, if_neg n41, if_neg n124, if_neg hop, if_neg n91, if_neg (by omega), if_neg (by omega)]
      · by_cases hop : isOp (bt p i) = true
        · have hb : at_ = false := by
            cases at_
            · rfl
            · have := hat rfl; rw [hop] at this; cases this
          subst hb
          refine .inl ⟨2, i, Ev.step (fun k => by rw [atomF_s, if_neg n40, if_neg n91, if_neg n46, if_pos (.inl hop)]) (Ev.now _), Ev.step (fun k => ?_) (Ev.now _)⟩
          rw [hsl, if_neg n40, if_neg n41, if_neg n124, if_pos hop, if_neg Bool.false_ne_true]
        · by_cases n93 : bt p i = 93
          · refine .inl ⟨2, i, Ev.step (fun k => by rw [atomF_s, if_neg n40, if_neg n91, if_neg n46, if_pos (.inr n93)]) (Ev.now _), Ev.step (fun k => ?_) (Ev.now _)⟩
            rw [hsl, if_neg n40, if_neg n41, if_neg n124, if_neg hop, if_neg n91, if_pos n93]
          · have hno : ¬ (isOp (bt p i) = true ∨ bt p i = 93) := fun h => h.elim hop n93
            by_cases n92 : bt p i = 92
            · by_cases e1 : i + 1 = p.size
              · refine .inl ⟨2, i + 1, Ev.step (fun k => by rw [atomF_s, if_neg n40, if_neg n91, if_neg n46, if_neg hno, if_pos n92, if_pos e1]) (Ev.now _), Ev.step (fun k => ?_) (Ev.now _)⟩
                rw [hsl, if_neg n40, if_neg n41, if_neg n124, if_neg hop, if_neg n91, if_neg n93, if_pos n92, if_pos e1, e1]
              · refine .inr ⟨_, i + 2, Ev.step (fun k => by rw [atomF_s, if_neg n40, if_neg n91, if_neg n46, if_neg hno, if_pos n92, if_neg e1]) (Ev.now _), by omega, by omega, fun r h => Ev.step (fun k => ?_) h⟩
                rw [hsl, if_neg n40, if_neg n41, if_neg n124, if_neg hop, if_neg n91, if_neg n93, if_pos n92, if_neg e1]
            · refine .inr ⟨_, i + 1, Ev.step (fun k => by rw [atomF_s, if_neg n40, if_neg n91, if_neg n46, if_neg hno, if_neg n92]) (Ev.now _), by omega, by omega, fun r h => Ev.step (fun k => ?_) h⟩
              rw [hsl, if_neg n40, if_neg n41, if_neg n124, if_neg hop, if_neg n91, if_neg n93, if_neg n92]
theorem par_spec : ∀ (d : Nat) (i : Int), 0 ≤ i → i ≤ p.size → (p.size : Int) - i = d → (∀ o at_, 0 ≤ o → o ≤ 20 → (at_ = true → i < p.size → isOp (bt p i) = false) → SeqS p i o at_) ∧ (∀ o, 0 ≤ o → o ≤ 20 → AltS p i o) := by
  intro d
  induction d using Nat.strongRecOn with
  | _ d ih =>
  intro i h0 h1 hd
  have hseq : ∀ o at_, 0 ≤ o → o ≤ 20 → (at_ = true → i < p.size → isOp (bt p i) = false) → SeqS p i o at_ := by
    intro o at_ o0 o1 hat
    by_cases hc : i < p.size ∧ (bt p i ≠ 124 ∧ bt p i ≠ 41)
    · have hS : ∀ k acc, seqL (k + 1) p i o acc = obind (atomF k p i o) fun x => (opsF k p x.2 x.1).bind fun y => seqL k p y.2 o (acc ++ [y.1]) := fun k acc => by rw [seqL_s, if_pos hc]
      rcases atom_spec hp i o at_ h0 hc.1 o0 o1 (fun h => hat h hc.1) hc.2.1 hc.2.2 (fun h20 => (ih ((p.size : Int) - (i + 1)).toNat (by omega) (i + 1) (by omega) (by omega) (by omega)).2 (o + 1) (by omega) (by omega)) with ⟨c, a, ha, hs⟩ | ⟨x, j, ha, a, b, hs⟩
      · exact .inl ⟨c, a, fun acc => Ev.step (fun k => hS k acc) (Ev.obind_err ha), hs⟩
      · obtain ⟨x', j', ho, a2, b2, c2, hs2⟩ := ops_spec hp ((p.size : Int) - j).toNat j x o o0 o1 (by omega) b (by omega)
        rcases (ih ((p.size : Int) - j').toNat (by omega) j' (by omega) b2 (by omega)).1 o true o0 o1 (fun _ h => c2 h) with ⟨c, e, hq, hs3⟩ | ⟨xs, j3, hq, a3, b3, c3, hs3⟩
        · exact .inl ⟨c, e, fun acc => Ev.step (fun k => hS k acc) (Ev.obind ha (Ev.bind ho (hq _))), hs _ (hs2 _ hs3)⟩
        · refine .inr ⟨x' :: xs, j3, fun acc => ?_, by omega, b3, c3, fun r h => hs _ (hs2 _ (hs3 r h))⟩
          have := hq (acc ++ [x'])
          rw [List.append_assoc] at this
          exact Ev.step (fun k => hS k acc) (Ev.obind ha (Ev.bind ho this))
    · refine .inr ⟨[], i, fun acc => ?_, Int.le_refl _, h1, fun hlt => ?_, fun r h => h _⟩
      · rw [List.append_nil]
        exact Ev.step (fun k => by rw [seqL_s, if_neg hc]) (Ev.now _)
      · by_cases e : bt p i = 124
        · exact .inl e
        · by_cases e2 : bt p i = 41
          · exact .inr e2
          · exact absurd ⟨hlt, e, e2⟩ hc
  refine ⟨hseq, fun o o0 o1 => ?_⟩
  rcases hseq o false o0 o1 (fun h => by cases h) with ⟨c, a, hq, hs⟩ | ⟨xs, j, hq, a, b, hj, hs⟩
  · exact .inl ⟨c, a, fun acc => Ev.step (fun k => altL_s k p i o acc) (Ev.obind_err (hq [])), hs⟩
  · by_cases hb : j = p.size ∨ bt p j ≠ 124
    · refine .inr ⟨[.seq xs], j, fun acc => Ev.step (fun k => altL_s k p i o acc) (Ev.obind (hq []) (Ev.if_pos hb (Ev.now _))), a, b, fun hlt => ?_, hs⟩
      rcases hj hlt with h | h
      · rcases hb with h' | h'
        · omega
        · exact absurd h h'
      · exact h
    · have e1 : j < p.size := by
        have : ¬ j = p.size := fun h => hb (.inl h)
        omega
      have e2 : bt p j = 124 := Classical.not_not.mp fun h => hb (.inr h)
      have hbar : ∀ r, SL p o false (j + 1) r → ∀ b, SL p o b j r := fun r h b => Ev.step (fun k => by rw [sl_s hp k o b j (by omega) e1 o0 o1, if_neg (by omega), if_neg (by omega), if_pos e2]) h
      rcases (ih ((p.size : Int) - (j + 1)).toNat (by omega) (j + 1) (by omega) (by omega) (by omega)).2 o o0 o1 with ⟨c, e, ha, hs3⟩ | ⟨ys, j3, ha, a3, b3, c3, hs3⟩
      · exact .inl ⟨c, e, fun acc => Ev.step (fun k => altL_s k p i o acc) (Ev.obind (hq []) (Ev.if_neg hb (ha _))), hs _ (hbar _ hs3)⟩
      · refine .inr ⟨.seq xs :: ys, j3, fun acc => ?_, by omega, b3, c3, fun r h => hs _ (hbar _ (hs3 r h))⟩
        have := ha (acc ++ [.seq xs])
        rw [List.append_assoc] at this
        exact Ev.step (fun k => altL_s k p i o acc) (Ev.obind (hq []) (Ev.if_neg hb this))
end
/-- The program's reading of a pattern and the reference's check tell the same fault. -/
theorem check_spec (p : ByteArray) : ∃ q, Ev (fun k => patR k p) q ∧ Ev (fun k => spec_CheckRegex.f k p) (match q with | .ok _ => (0, 0) | .error x => x) := by
  by_cases hb : 200 < p.size
  · refine ⟨.error (1, 0), ⟨0, fun k _ => ?_⟩, ⟨0, fun k _ => ?_⟩⟩
    · show patR k p = _
      unfold patR; rw [if_pos hb]
    · show spec_CheckRegex.f k p = _
      unfold spec_CheckRegex.f; rw [if_pos (by omega)]
  · have hp : p.size ≤ 200 := by omega
    have hR : ∀ k, patR k p = patF k p := fun k => by unfold patR; rw [if_neg hb]
    have hF : ∀ k, spec_CheckRegex.f k p = spec_CheckRegex.l0 k p 0 false 0 := fun k => by unfold spec_CheckRegex.f; rw [if_neg (by omega)]
    simp only [hR, hF]
    rcases (par_spec hp p.size 0 (Int.le_refl _) (by omega) (by omega)).2 0 (Int.le_refl _) (by omega) with ⟨c, a, ha, hs⟩ | ⟨xs, j, ha, a, b, hj, hs⟩
    · exact ⟨.error (c, a), Ev.obind_err (ha []), hs⟩
    · by_cases e : j < p.size
      · refine ⟨.error (2, j), Ev.obind (ha []) (Ev.if_pos e (Ev.now _)), hs _ fun b => Ev.step (fun k => ?_) (Ev.now _)⟩
        rw [sl_s hp k 0 b j a e (Int.le_refl _) (by omega), if_neg (by have := hj e; omega), if_pos (hj e), if_pos rfl]
      · refine ⟨.ok (.alt ([] ++ xs)), Ev.obind (ha []) (Ev.if_neg e (Ev.now _)), hs _ fun b => ?_⟩
        have := sl_end hp 0 b (Int.le_refl _)
        rw [if_neg (by omega)] at this
        rw [show j = p.size by omega]; exact this
end Go.Proofs.Ytimbggkjpdaenaa.Q

namespace Go.Proofs.Ytimbggkjpdaenaa.Q
open Go.RowKit Go.Proofs.YtimbggkjpdaenaaW.PrintWords Go.Proofs.YtimbggkjpdaenaaW.PrintLast
set_option linter.unusedVariables false
set_option linter.unusedSimpArgs false
set_option linter.unusedSectionVars false
theorem par_end : ∀ k, (∀ p i o acc r, altL k p i o acc = some (.ok r) → r.2 = p.size ∨ bt p r.2 ≠ 124) ∧ (∀ p i o acc r, seqL k p i o acc = some (.ok r) → ¬ (r.2 < p.size ∧ (bt p r.2 ≠ 124 ∧ bt p r.2 ≠ 41)))
  | 0 => ⟨fun _ _ _ _ _ h => (by cases h), fun _ _ _ _ _ h => (by cases h)⟩
  | k + 1 => by
    obtain ⟨ia, is⟩ := par_end k
    refine ⟨fun p i o acc r h => ?_, fun p i o acc r h => ?_⟩
    · rw [altL_s] at h
      obtain ⟨x, hx, h⟩ := obind_ok h
      split at h
      · rename_i hc; cases h; exact hc
      · exact ia _ _ _ _ _ h
    · rw [seqL_s] at h
      split at h
      · obtain ⟨x, hx, h⟩ := obind_ok h
        obtain ⟨y, hy, h⟩ := Option.bind_eq_some_iff.mp h
        exact is _ _ _ _ _ h
      · rename_i hc; cases h; exact hc
theorem alt_end : ∀ k p i o acc r, altL k p i o acc = some (.ok r) → 0 ≤ i → i ≤ (p.size : Int) → r.2 < p.size → bt p r.2 = 41
  | 0, _, _, _, _, _, h, _, _, _ => by cases h
  | k + 1, p, i, o, acc, r, h, h0, h1, hl => by
    rw [altL_s] at h
    obtain ⟨x, hx, h⟩ := obind_ok h
    have hb := (par_ok k).2.1 _ _ _ _ _ hx h0 h1
    have he := (par_end k).2 _ _ _ _ _ hx
    split at h
    · rename_i hc
      cases h
      have hl' : x.2 < (p.size : Int) := hl
      show bt p x.2 = 41
      rcases hc with hc | hc
      · omega
      · exact Classical.not_not.mp fun h41 => he ⟨hl', hc, h41⟩
    · rename_i hc
      have : ¬ x.2 = (p.size : Int) := fun e => hc (.inl e)
      exact alt_end k _ _ _ _ _ h (by omega) (by omega) hl
theorem atom_noop {k : Nat} {p : ByteArray} {i o : Int} {r : Rx × Int} (h : atomF k p i o = some (.ok r)) : isOp (bt p i) = false := by
  cases k with
  | zero => cases h
  | succ k =>
    rw [atomF_s] at h
    by_cases hop : isOp (bt p i) = true
    · have n : bt p i ≠ 40 ∧ bt p i ≠ 91 ∧ bt p i ≠ 46 := by
        refine ⟨fun e => ?_, fun e => ?_, fun e => ?_⟩ <;> (rw [e] at hop; revert hop; decide)
      rw [if_neg n.1, if_neg n.2.1, if_neg n.2.2, if_pos (.inl hop)] at h
      cases h
    · simpa using hop
section
variable {p : ByteArray} (hp : p.size ≤ 200)
include hp
theorem ae_s (k : Nat) (i : Int) (h0 : 0 ≤ i) (h1 : i < p.size) : spec_l4AtomEnd.f (k + 1) p i = if bt p i = 92 then some (i + 2) else if bt p i = 91 then ((spec_l4Class.f k p i).bind fun b => some b.1) else if bt p i = 40 then spec_l4AtomEnd.l0 k p (i + 1) else some (i + 1) := by
  rw [spec_l4AtomEnd.f, if_pos h0, if_pos h1, wr1 hp h0 (Int.le_of_lt h1), wr2 hp h0 (Int.le_of_lt h1)]
theorem al_s (k : Nat) (i : Int) (h0 : 0 ≤ i) (h1 : i < p.size) : spec_l4AtomEnd.l0 (k + 1) p i = if bt p i = 41 then some (i + 1) else if bt p i = 124 then spec_l4AtomEnd.l0 k p (i + 1) else if isOp (bt p i) = true then spec_l4AtomEnd.l0 k p (i + 1) else (spec_l4AtomEnd.f k p i).bind fun t => spec_l4AtomEnd.l0 k p t := by
  rw [spec_l4AtomEnd.l0, if_pos h0, if_pos h1, wr1 hp h0 (Int.le_of_lt h1), l4Op_is hp]
  rfl
theorem op_ne {c : Int} (h : isOp c = true) : c ≠ 41 ∧ c ≠ 124 := by
  refine ⟨fun e => ?_, fun e => ?_⟩ <;> (rw [e] at h; revert h; decide)
theorem ops_end : ∀ (k : Nat) (i : Int) (x : Rx) (r : Rx × Int), opsF k p i x = some r → 0 ≤ i → i ≤ p.size → ∀ q, Ev (fun n => spec_l4AtomEnd.l0 n p r.2) q → Ev (fun n => spec_l4AtomEnd.l0 n p i) q
  | 0, _, _, _, h, _, _ => by cases h
  | k + 1, i, x, r, h, h0, h1 => by
    intro q hq
    simp only [opsF] at h
    split at h
    · rename_i hc
      have hn := op_ne hp hc.2
      refine Ev.step (fun n => ?_) (ops_end k (i + 1) _ r h (by omega) (by omega) q hq)
      rw [al_s hp n i h0 hc.1, if_neg hn.1, if_neg hn.2, if_pos hc.2]
    · cases h; exact hq
theorem par_ends : ∀ k, (∀ i o acc r, altL k p i o acc = some (.ok r) → 0 ≤ i → i ≤ (p.size : Int) → ∀ q, Ev (fun n => spec_l4AtomEnd.l0 n p r.2) q → Ev (fun n => spec_l4AtomEnd.l0 n p i) q) ∧
    (∀ i o acc r, seqL k p i o acc = some (.ok r) → 0 ≤ i → i ≤ (p.size : Int) → ∀ q, Ev (fun n => spec_l4AtomEnd.l0 n p r.2) q → Ev (fun n => spec_l4AtomEnd.l0 n p i) q) ∧
    (∀ i o r, atomF k p i o = some (.ok r) → 0 ≤ i → i < (p.size : Int) → Ev (fun n => spec_l4AtomEnd.f n p i) r.2)
  | 0 => ⟨fun _ _ _ _ h => (by cases h), fun _ _ _ _ h => (by cases h), fun _ _ _ h => (by cases h)⟩
  | k + 1 => by
    obtain ⟨ia, is, im⟩ := par_ends k
    refine ⟨fun i o acc r h h0 h1 q hq => ?_, fun i o acc r h h0 h1 q hq => ?_, fun i o r h h0 h1 => ?_⟩
    · rw [altL_s] at h
      obtain ⟨x, hx, h⟩ := obind_ok h
      have hb := (par_ok k).2.1 _ _ _ _ _ hx h0 h1
      split at h
      · cases h; exact is _ _ _ _ hx h0 h1 q hq
      · rename_i hc
        have e1 : ¬ x.2 = (p.size : Int) := fun e => hc (.inl e)
        have e2 : bt p x.2 = 124 := Classical.not_not.mp fun e => hc (.inr e)
        refine is _ _ _ _ hx h0 h1 q (Ev.step (fun n => ?_) (ia _ _ _ _ h (by omega) (by omega) q hq))
        rw [al_s hp n x.2 (by omega) (by omega), if_neg (by omega), if_pos e2]
    · rw [seqL_s] at h
      split at h
      · rename_i hc
        obtain ⟨x, hx, h⟩ := obind_ok h
        have hb := (par_ok k).2.2 _ _ _ _ hx h0 hc.1
        obtain ⟨y, hy, h⟩ := Option.bind_eq_some_iff.mp h
        have hb2 := opsF_ok _ _ _ _ _ hy hb.2
        have hno := atom_noop hx
        refine Ev.step (fun n => ?_) (Ev.bind (im _ _ _ hx h0 hc.1) (ops_end hp k x.2 x.1 y hy (by omega) hb.2 q (is _ _ _ _ h (by omega) hb2.2 q hq)))
        rw [al_s hp n i h0 hc.1, if_neg hc.2.2, if_neg hc.2.1, if_neg (by rw [hno]; decide)]
      · cases h; exact hq
    · have hs := fun n => ae_s hp n i h0 h1
      rw [atomF_s] at h
      by_cases n40 : bt p i = 40
      · rw [if_pos n40] at h
        split at h
        · cases h
        · obtain ⟨x, hx, h⟩ := obind_ok h
          have hb := (par_ok k).1 _ _ _ _ _ hx (by omega) (by omega)
          split at h
          · cases h
          · rename_i e1
            cases h
            have hlt : x.2 < (p.size : Int) := by omega
            have h41 := alt_end k _ _ _ _ _ hx (by omega) (by omega) hlt
            refine Ev.step (fun n => ?_) (ia _ _ _ _ hx (by omega) (by omega) (x.2 + 1) (Ev.step (f := fun _ => some (x.2 + 1)) (fun n => ?_) (Ev.now _)))
            · rw [hs, if_neg (by omega), if_neg (by omega), if_pos n40]
            · rw [al_s hp n x.2 (by omega) hlt, if_pos h41]
      · rw [if_neg n40] at h
        by_cases n91 : bt p i = 91
        · rw [if_pos n91] at h
          obtain ⟨x, hx, h⟩ := obind_ok h
          cases h
          obtain ⟨q, hq, hc⟩ := class_spec hp h0 h1
          have e := Ev.same (Ev.of (leo_cla · p (i + 1)) hx) hq
          subst e
          rcases hc with ⟨s, j, e, hc⟩ | ⟨c, a, e, _⟩
          · cases e
            exact Ev.step (fun n => by rw [hs, if_neg (by omega), if_pos n91]) (Ev.bind hc (Ev.now _))
          · cases e
        · rw [if_neg n91] at h
          split at h
          · rename_i n46
            cases h
            exact Ev.step (f := fun _ => some (i + 1)) (fun n => by rw [hs, if_neg (by omega), if_neg n91, if_neg n40]) (Ev.now _)
          · split at h
            · cases h
            · split at h
              · rename_i n92
                split at h
                · cases h
                · cases h
                  exact Ev.step (f := fun _ => some (i + 2)) (fun n => by rw [hs, if_pos n92]) (Ev.now _)
              · rename_i n92
                cases h
                exact Ev.step (f := fun _ => some (i + 1)) (fun n => by rw [hs, if_neg n92, if_neg n91, if_neg n40]) (Ev.now _)
/-! The parts. -/
theorem pt_s (k : Nat) (out : List ByteArray) (f i : Int) (h0 : 0 ≤ i) (h1 : i < p.size) (f0 : 0 ≤ f) (f1 : f ≤ i) (ho : out.length < 8796093022208) : spec_l4Parts.l0 (k + 1) p out f i = if bt p i = 124 then spec_l4Parts.l0 k p (out ++ [p.extract f.toNat i.toNat]) (i + 1) (i + 1) else if isOp (bt p i) = true then spec_l4Parts.l0 k p out f (i + 1) else (spec_l4AtomEnd.f k p i).bind fun t => spec_l4Parts.l0 k p out f t := by
  rw [spec_l4Parts.l0, if_pos h1, if_pos h0, wr1 hp h0 (Int.le_of_lt h1), l4Op_is hp, if_pos f0, if_pos f1, if_pos (show i ≤ (p.size : Int) by omega), if_pos ho]
  rfl
theorem parts_ops : ∀ (k : Nat) (i : Int) (x : Rx) (r : Rx × Int), opsF k p i x = some r → 0 ≤ i → i ≤ p.size → ∀ out f q, 0 ≤ f → f ≤ i → out.length < 8796093022208 → Ev (fun n => spec_l4Parts.l0 n p out f r.2) q → Ev (fun n => spec_l4Parts.l0 n p out f i) q
  | 0, _, _, _, h, _, _ => by cases h
  | k + 1, i, x, r, h, h0, h1 => by
    intro out f q f0 f1 ho hq
    simp only [opsF] at h
    split at h
    · rename_i hc
      have hn := op_ne hp hc.2
      refine Ev.step (fun n => ?_) (parts_ops k (i + 1) _ r h (by omega) (by omega) out f q f0 (by omega) ho hq)
      rw [pt_s hp n out f i h0 hc.1 f0 f1 ho, if_neg hn.2, if_pos hc.2]
    · cases h; exact hq
theorem parts_seq : ∀ (k : Nat) (i o : Int) (acc : List Rx) (r : Rx × Int), seqL k p i o acc = some (.ok r) → 0 ≤ i → i ≤ (p.size : Int) → ∀ out f q, 0 ≤ f → f ≤ i → out.length < 8796093022208 → Ev (fun n => spec_l4Parts.l0 n p out f r.2) q → Ev (fun n => spec_l4Parts.l0 n p out f i) q
  | 0, _, _, _, _, h, _, _ => by cases h
  | k + 1, i, o, acc, r, h, h0, h1 => by
    intro out f q f0 f1 ho hq
    rw [seqL_s] at h
    split at h
    · rename_i hc
      obtain ⟨x, hx, h⟩ := obind_ok h
      have hb := (par_ok k).2.2 _ _ _ _ hx h0 hc.1
      obtain ⟨y, hy, h⟩ := Option.bind_eq_some_iff.mp h
      have hb2 := opsF_ok _ _ _ _ _ hy hb.2
      have hno := atom_noop hx
      refine Ev.step (fun n => ?_) (Ev.bind ((par_ends hp k).2.2 _ _ _ hx h0 hc.1) (parts_ops hp k x.2 x.1 y hy (by omega) hb.2 out f q f0 (by omega) ho (parts_seq k _ _ _ _ h (by omega) hb2.2 out f q f0 (by omega) ho hq)))
      rw [pt_s hp n out f i h0 hc.1 f0 f1 ho, if_neg hc.2.1, if_neg (by rw [hno]; decide)]
    · cases h; exact hq
theorem parts_alt : ∀ (k : Nat) (i o : Int) (acc : List Rx) (r : Rx × Int), altL k p i o acc = some (.ok r) → 0 ≤ i → i ≤ (p.size : Int) → r.2 = p.size → ∀ (out : List ByteArray), (out.length : Int) ≤ i → ∃ zs ps, r.1 = .alt (acc ++ zs) ∧ ps.length = zs.length ∧ Ev (fun n => spec_l4Parts.l0 n p out i i) (out ++ ps)
  | 0, _, _, _, _, h, _, _, _ => by cases h
  | k + 1, i, o, acc, r, h, h0, h1, hr => by
    intro out ho
    have ho2 : out.length < 8796093022208 := by omega
    rw [altL_s] at h
    obtain ⟨x, hx, h⟩ := obind_ok h
    have hb := (par_ok k).2.1 _ _ _ _ _ hx h0 h1
    split at h
    · cases h
      have hr' : x.2 = (p.size : Int) := hr
      refine ⟨[x.1], [p.extract i.toNat p.size], rfl, rfl, parts_seq hp k _ _ _ _ hx h0 h1 out i _ h0 (Int.le_refl _) ho2 (Ev.step (f := fun _ => some (out ++ [p.extract i.toNat p.size])) (fun n => ?_) (Ev.now _))⟩
      rw [spec_l4Parts.l0, if_neg (by omega), if_pos h0, if_pos h1, if_pos ho2]
    · rename_i hc
      have e1 : ¬ x.2 = (p.size : Int) := fun e => hc (.inl e)
      have e2 : bt p x.2 = 124 := Classical.not_not.mp fun e => hc (.inr e)
      obtain ⟨zs, ps, ez, el, hv⟩ := parts_alt k (x.2 + 1) o (acc ++ [x.1]) r h (by omega) (by omega) hr (out ++ [p.extract i.toNat x.2.toNat]) (by rw [List.length_append]; simp only [List.length_cons, List.length_nil]; omega)
      refine ⟨x.1 :: zs, p.extract i.toNat x.2.toNat :: ps, by rw [ez, List.append_assoc]; rfl, by simp [el], parts_seq hp k _ _ _ _ hx h0 h1 out i _ h0 (Int.le_refl _) ho2 (Ev.step (fun n => ?_) (by rw [List.append_assoc] at hv; exact hv))⟩
      rw [pt_s hp n out i x.2 (by omega) (by omega) h0 (by omega) ho2, if_pos e2]
/-! The text. -/
def isSp (c : Int) : Bool := isOp c || (c == 124 || (c == 40 || (c == 41 || (c == 91 || (c == 93 || (c == 46 || c == 92))))))
theorem spc_is (c : Int) : spec_l4Special.f c = some (isSp c) := by
  unfold spec_l4Special.f isSp isOp
  by_cases a : c = 42
  · subst a; rfl
  by_cases b : c = 43
  · subst b; rfl
  by_cases d : c = 63
  · subst d; rfl
  by_cases e : c = 124
  · subst e; rfl
  by_cases f : c = 40
  · subst f; rfl
  by_cases g : c = 41
  · subst g; rfl
  by_cases h : c = 91
  · subst h; rfl
  by_cases j : c = 93
  · subst j; rfl
  by_cases m : c = 46
  · subst m; rfl
  simp only [a, b, d, e, f, g, h, j, m, if_false, beq_eq_false_iff_ne.mpr a, beq_eq_false_iff_ne.mpr b, beq_eq_false_iff_ne.mpr d, beq_eq_false_iff_ne.mpr e, beq_eq_false_iff_ne.mpr f, beq_eq_false_iff_ne.mpr g, beq_eq_false_iff_ne.mpr h, beq_eq_false_iff_ne.mpr j, beq_eq_false_iff_ne.mpr m, Bool.false_or]
theorem ops_rep {k : Nat} {j : Int} {x : Rx} {y : Rx × Int} (h : opsF k p j x = some y) : (if j < p.size ∧ isOp (bt p j) = true then ∃ u op, y.1 = .rep u op else y = (x, j)) := by
  have key : ∀ (k : Nat) (j : Int) (u : Rx) (op : Int) (y : Rx × Int), opsF k p j (.rep u op) = some y → ∃ u op, y.1 = .rep u op := by
    intro k
    induction k with
    | zero => intro j u op y h; cases h
    | succ k ih =>
      intro j u op y h
      simp only [opsF] at h
      split at h
      · exact ih _ _ _ _ h
      · cases h; exact ⟨u, op, rfl⟩
  cases k with
  | zero => cases h
  | succ k =>
    simp only [opsF] at h
    by_cases hc : j < p.size ∧ isOp (bt p j) = true
    · rw [if_pos hc] at h ⊢; exact key _ _ _ _ _ h
    · rw [if_neg hc] at h ⊢; cases h; rfl
theorem text_j2 {tx : List Int} {j : Int} {q : ByteArray × Bool} (h0 : 1 ≤ j) (h1 : j ≤ p.size) (ht : (tx.length : Int) < p.size) (h : Ev (fun n => spec_PrefixOf.l0 n p (tx ++ [bt p (j - 1)]) j) q) : Ev (fun n => spec_PrefixOf.j2 n p tx j false) q := by
  have hw : wrap64 (j - 1) = j - 1 := wrap_id _ (by omega) (by omega)
  refine Ev.step (fun n => ?_) h
  rw [spec_PrefixOf.j2, if_neg Bool.false_ne_true, hw, if_pos (by omega), if_pos (by omega), if_pos (by omega)]
theorem text_j2t (tx : List Int) (j : Int) : Ev (fun n => spec_PrefixOf.j2 n p tx j true) (strOfNums tx, false) :=
  Ev.step (f := fun _ => some (strOfNums tx, false)) (fun n => by rw [spec_PrefixOf.j2, if_pos rfl]) (Ev.now _)
/-- One atom: the reference's loop. -/
theorem text_l0 {tx : List Int} {i j : Int} {q : ByteArray × Bool} (h0 : 0 ≤ i) (h1 : i < p.size) (hj0 : 0 ≤ j) (hj : Ev (fun n => spec_l4AtomEnd.f n p i) j)
    (h : Ev (fun n => spec_PrefixOf.j2 n p tx j ((isSp (bt p i) && (bt p i != 92)) || (decide (j < p.size) && isOp (bt p j)))) q) : Ev (fun n => spec_PrefixOf.l0 n p tx i) q := by
  have hl : ∀ n, spec_PrefixOf.l0 (n + 1) p tx i = (spec_l4AtomEnd.f n p i).bind fun t149 => (if 0 ≤ i then ((spec_l4Special.f (bt p i)).bind fun t150 => (if t150 = true then (if bt p i = 92 then (if t149 < (p.size : Int) then (if 0 ≤ t149 then ((spec_l4Op.f (bt p t149)).bind fun t151 => spec_PrefixOf.j2 n p tx t149 t151) else none) else spec_PrefixOf.j2 n p tx t149 false) else spec_PrefixOf.j2 n p tx t149 true) else (if t149 < (p.size : Int) then (if 0 ≤ t149 then ((spec_l4Op.f (bt p t149)).bind fun t152 => spec_PrefixOf.j2 n p tx t149 t152) else none) else spec_PrefixOf.j2 n p tx t149 false))) else none) := fun n => by rw [spec_PrefixOf.l0, if_pos h1]
  refine Ev.step hl (Ev.bind (f := fun n t149 => (if 0 ≤ i then ((spec_l4Special.f (bt p i)).bind fun t150 => (if t150 = true then (if bt p i = 92 then (if t149 < (p.size : Int) then (if 0 ≤ t149 then ((spec_l4Op.f (bt p t149)).bind fun t151 => spec_PrefixOf.j2 n p tx t149 t151) else none) else spec_PrefixOf.j2 n p tx t149 false) else spec_PrefixOf.j2 n p tx t149 true) else (if t149 < (p.size : Int) then (if 0 ≤ t149 then ((spec_l4Op.f (bt p t149)).bind fun t152 => spec_PrefixOf.j2 n p tx t149 t152) else none) else spec_PrefixOf.j2 n p tx t149 false))) else none)) hj ?_)
  refine Ev.if_pos h0 (Ev.bind_some (spc_is hp (bt p i)) ?_)
  · have key : Ev (fun n => if j < (p.size : Int) then (if 0 ≤ j then ((spec_l4Op.f (bt p j)).bind fun t151 => spec_PrefixOf.j2 n p tx j t151) else none) else spec_PrefixOf.j2 n p tx j false) q ∨ (isSp (bt p i) = true ∧ bt p i ≠ 92) := by
      by_cases hs : isSp (bt p i) = true ∧ bt p i ≠ 92
      · exact .inr hs
      · have hb : (isSp (bt p i) && (bt p i != 92)) = false := by
          rw [Bool.and_eq_false_iff]
          by_cases e : isSp (bt p i) = true
          · exact .inr (bne_eq_false_iff_eq.mpr (Classical.not_not.mp fun e2 => hs ⟨e, e2⟩))
          · exact .inl (by simpa using e)
        rw [hb, Bool.false_or] at h
        by_cases hl : j < (p.size : Int)
        · rw [decide_eq_true hl, Bool.true_and] at h
          exact .inl (Ev.if_pos hl (Ev.if_pos hj0 (Ev.bind_some (l4Op_is hp _) h)))
        · rw [decide_eq_false hl, Bool.false_and] at h
          exact .inl (Ev.if_neg hl h)
    by_cases hs : isSp (bt p i) = true
    · refine Ev.if_pos hs ?_
      by_cases h92 : bt p i = 92
      · refine Ev.if_pos h92 (key.resolve_right fun e => e.2 h92)
      · refine Ev.if_neg h92 ?_
        rw [hs, bne_iff_ne.mpr h92] at h
        exact h
    · exact Ev.if_neg hs (key.resolve_right fun e => hs e.1)
theorem text_seq : ∀ (k : Nat) (i o : Int) (acc : List Rx) (r : Rx × Int), seqL k p i o acc = some (.ok r) → 0 ≤ i → i ≤ (p.size : Int) → r.2 = p.size → ∃ ys, r.1 = .seq (acc ++ ys) ∧ ∀ (tx : List Int), (tx.length : Int) ≤ i → Ev (fun n => spec_PrefixOf.l0 n p tx i) (strOfNums (prefL ys tx).1, (prefL ys tx).2)
  | 0, _, _, _, _, h, _, _, _ => by cases h
  | k + 1, i, o, acc, r, h, h0, h1, hr => by
    rw [seqL_s] at h
    split at h
    · rename_i hc
      obtain ⟨x, hx, h⟩ := obind_ok h
      have hb := (par_ok k).2.2 _ _ _ _ hx h0 hc.1
      obtain ⟨y, hy, h⟩ := Option.bind_eq_some_iff.mp h
      have hb2 := opsF_ok _ _ _ _ _ hy hb.2
      have hae := (par_ends hp k).2.2 _ _ _ hx h0 hc.1
      obtain ⟨ys, er, ih⟩ := text_seq k y.2 o (acc ++ [y.1]) r h (by omega) hb2.2 hr
      refine ⟨y.1 :: ys, by rw [er, List.append_assoc]; rfl, fun tx ht => text_l0 hp h0 hc.1 (by omega) hae ?_⟩
      have hrep := ops_rep hp hy
      by_cases ho : x.2 < p.size ∧ isOp (bt p x.2) = true
      · rw [if_pos ho] at hrep
        obtain ⟨u, op, e⟩ := hrep
        rw [decide_eq_true ho.1, ho.2, Bool.true_and, Bool.or_true, e]
        exact text_j2t hp tx x.2
      · rw [if_neg ho] at hrep
        subst hrep
        have hof : (decide (x.2 < (p.size : Int)) && isOp (bt p x.2)) = false := by
          rw [Bool.and_eq_false_iff]
          by_cases e : x.2 < (p.size : Int)
          · exact .inr (by simpa using fun e2 => ho ⟨e, e2⟩)
          · exact .inl (decide_eq_false e)
        rw [hof, Bool.or_false]
        have flag : ∀ (c : Int), bt p i = c → isSp c = true → c ≠ 92 → prefL (x.1 :: ys) tx = (tx, false) → Ev (fun n => spec_PrefixOf.j2 n p tx x.2 (isSp (bt p i) && (bt p i != 92))) (strOfNums (prefL (x.1 :: ys) tx).1, (prefL (x.1 :: ys) tx).2) := by
          intro c ec hs h92 e
          rw [e, ec, hs, bne_iff_ne.mpr h92]
          exact text_j2t hp tx x.2
        have hno := atom_noop hx
        cases k with
        | zero => cases hx
        | succ k =>
        rw [atomF_s] at hx
        by_cases n40 : bt p i = 40
        · rw [if_pos n40] at hx
          split at hx
          · cases hx
          · obtain ⟨z, hz, hx⟩ := obind_ok hx
            obtain ⟨zs, ez, -⟩ := altL_shape k _ _ _ _ _ hz (by omega) (by omega)
            split at hx
            · cases hx
            · cases hx
              refine flag 40 n40 (by decide) (by decide) ?_
              show prefL (z.1 :: ys) tx = _
              rw [ez]; rfl
        · rw [if_neg n40] at hx
          by_cases n91 : bt p i = 91
          · rw [if_pos n91] at hx
            obtain ⟨z, hz, hx⟩ := obind_ok hx
            cases hx
            exact flag 91 n91 (by decide) (by decide) rfl
          · rw [if_neg n91] at hx
            by_cases n46 : bt p i = 46
            · rw [if_pos n46] at hx
              cases hx
              exact flag 46 n46 (by decide) (by decide) rfl
            · rw [if_neg n46] at hx
              split at hx
              · cases hx
              · rename_i hno2
                by_cases n92 : bt p i = 92
                · rw [if_pos n92] at hx
                  split at hx
                  · cases hx
                  · cases hx
                    rw [n92]
                    have ht2 : (tx.length : Int) < p.size := by omega
                    refine text_j2 hp (by show 1 ≤ i + 2; omega) hb.2 ht2 ?_
                    have e : (i + 2 - 1 : Int) = i + 1 := by omega
                    show Ev (fun n => spec_PrefixOf.l0 n p (tx ++ [bt p (i + 2 - 1)]) (i + 2)) _
                    rw [e]
                    exact ih (tx ++ [bt p (i + 1)]) (by rw [List.length_append]; simp only [List.length_cons, List.length_nil]; show _ ≤ i + 2; omega)
                · rw [if_neg n92] at hx
                  cases hx
                  have hsp : isSp (bt p i) = false := by
                    unfold isSp
                    rw [hno, beq_eq_false_iff_ne.mpr hc.2.1, beq_eq_false_iff_ne.mpr n40, beq_eq_false_iff_ne.mpr hc.2.2, beq_eq_false_iff_ne.mpr n91, beq_eq_false_iff_ne.mpr n46, beq_eq_false_iff_ne.mpr n92, beq_eq_false_iff_ne.mpr (fun e => hno2 (.inr e))]
                    rfl
                  rw [hsp, Bool.false_and]
                  have ht2 : (tx.length : Int) < p.size := by omega
                  refine text_j2 hp (by show 1 ≤ i + 1; omega) hb.2 ht2 ?_
                  have e : (i + 1 - 1 : Int) = i := by omega
                  show Ev (fun n => spec_PrefixOf.l0 n p (tx ++ [bt p (i + 1 - 1)]) (i + 1)) _
                  rw [e]
                  exact ih (tx ++ [bt p i]) (by rw [List.length_append]; simp only [List.length_cons, List.length_nil]; show _ ≤ i + 1; omega)
    · rename_i hc
      cases h
      refine ⟨[], by rw [List.append_nil], fun tx ht => Ev.step (f := fun _ => some (strOfNums tx, true)) (fun n => ?_) (Ev.now _)⟩
      have hr' : i = (p.size : Int) := hr
      rw [spec_PrefixOf.l0, if_neg (by omega)]
end
theorem prefix_spec (p : ByteArray) : ∃ q, Ev (fun k => patR k p) q ∧ Ev (fun k => spec_PrefixOf.f k p) (strOfNums (prefM q).1, (prefM q).2) := by
  obtain ⟨q, hq, hs⟩ := check_spec p
  refine ⟨q, hq, ?_⟩
  have hj : Ev (fun k => spec_PrefixOf.j0 k p true) ((⟨#[]⟩ : ByteArray), false) := Ev.step (f := fun _ => some ((⟨#[]⟩ : ByteArray), false)) (fun n => by rw [spec_PrefixOf.j0, if_pos rfl]) (Ev.now _)
  obtain ⟨K, hK⟩ := hq
  have hk : patR K p = some q := hK K (Nat.le_refl _)
  rcases q with ⟨c, a⟩ | x
  · have hc := patR_err hk
    exact Ev.bind hs (Ev.if_neg hc hj)
  · refine Ev.bind hs (Ev.if_pos rfl ?_)
    unfold patR at hk
    split at hk
    · cases hk
    · have hp : p.size ≤ 200 := by omega
      unfold patF at hk
      obtain ⟨z, hz, hk⟩ := obind_ok hk
      have hb := (par_ok K).1 _ _ _ _ _ hz (Int.le_refl _) (by omega)
      split at hk
      · cases hk
      · rename_i hlt
        cases hk
        have hend : z.2 = (p.size : Int) := by omega
        obtain ⟨zs, ps, ez, el, hv⟩ := parts_alt hp K 0 0 [] z hz (Int.le_refl _) (by omega) hend [] (Int.le_refl _)
        rw [List.nil_append] at ez hv
        refine Ev.bind (f := fun k t => spec_PrefixOf.j0 k p (decide ((t.length : Int) > 1))) hv ?_
        cases K with
        | zero => cases hz
        | succ K =>
        rw [altL_s] at hz
        obtain ⟨x, hx, hz⟩ := obind_ok hz
        have hxb := (par_ok K).2.1 _ _ _ _ _ hx (Int.le_refl _) (by omega)
        split at hz
        · cases hz
          have ez' : Rx.alt [x.1] = .alt zs := ez
          injection ez' with ez'
          subst ez'
          obtain ⟨ys, ey, ht⟩ := text_seq hp K 0 0 [] x hx (Int.le_refl _) (by omega) hend
          rw [List.nil_append] at ey
          have h1 := ht [] (Int.le_refl _)
          have e2 : prefM (.ok (.alt ([] ++ [x.1]))) = prefL ys [] := by rw [ey]; rfl
          show Ev (fun k => spec_PrefixOf.j0 k p (decide ((ps.length : Int) > 1))) (strOfNums (prefM (.ok (.alt ([] ++ [x.1])))).1, (prefM (.ok (.alt ([] ++ [x.1])))).2)
          rw [e2, el]
          exact Ev.step (fun n => by rw [spec_PrefixOf.j0, if_neg (by simp)]) h1
        · rename_i hc2
          have hne : ¬ x.2 = (p.size : Int) := fun e => hc2 (.inl e)
          obtain ⟨zs2, e3, hn3, -⟩ := altL_shape K _ _ _ _ _ hz (by omega) (by omega)
          have e4 : zs = x.1 :: zs2 := by
            rw [ez] at e3
            injection e3 with e3
          rcases zs2 with _ | ⟨w2, zs2⟩
          · exact absurd rfl hn3
          · have e5 : prefM (.ok z.1) = ([], false) := by
              rw [ez, e4]
              cases x.1 <;> rfl
            rw [e5, el, e4]
            have : (decide (((x.1 :: w2 :: zs2).length : Int) > 1)) = true := decide_eq_true (by simp only [List.length_cons]; omega)
            rw [this]
            exact hj
end Go.Proofs.Ytimbggkjpdaenaa.Q

namespace Go.Proofs.Ytimbggkjpdaenaa.Pr
open Q Go.Proofs.YtimbggkjpdaenaaW.PrintWords
theorem FnExactPrefixOf : laws_FnExactPrefixOf.Pure := by
  intro p _
  apply Ev.rounds
  unfold laws_FnExactPrefixOf.f
  by_cases h : (p.size : Int) > 1048576
  · exact Ev.if_pos h (Ev.now _)
  refine Ev.if_neg h ?_
  obtain ⟨q, ⟨K, hK⟩, hs⟩ := prefix_spec p
  have hi2 : Ev (fun k => impl_PrefixOf.f k p) (strOfNums (prefM q).1, (prefM q).2) :=
    ⟨K, fun k hk => by have h : patR k p = some q := hK k hk; show (patR k p).map _ = _; rw [h]; rfl⟩
  refine Ev.bind hs (Ev.bind hi2 (Ev.bind_some (a := true) ?_ (Ev.if_pos rfl (Ev.now _))))
  unfold laws_eqPrefix.f
  rw [if_pos rfl, if_neg (by simp)]
end Go.Proofs.Ytimbggkjpdaenaa.Pr

namespace Go.Proofs.Ytimbggkjpdaenaa.fnExactPrefixOf
open Go.ChangeShapes Go.WideShapes Go.ChangeAt Go.RowKit Go.Proofs.YtimbggkjpdaenaaW.PrintWords Go.Proofs.Ytimbggkjpdaenaa.RowK Go.Proofs.Ytimbggkjpdaenaa.Q
open Go.ChangeMaps (open_string shut_string)
set_option linter.unusedVariables false
theorem own : ownKnob Try.prog.godebug = none := by kernel_rfl
theorem laidOut : laidOutB Try.prog = true := by kernel_rfl
set_option maxRecDepth 100000 in
theorem lifted (os : Os) (started : os.Started) (H : Type) (enc : TypeId × Value → H) :
    ReturnsInHanded {} Try.checked os 4 .any (Rows.fnExactPrefixOfSpec.pre6 enc Try.prog Try.f4 Rows.fnExactPrefixOfRow.domain false) (Rows.fnExactPrefixOfSpec.post enc Try.prog Try.f4 false true false false) := by
  refine returnsInHanded_of_change_sized (C := Try.checked) own started (by kernel_rfl) Try.func4
    (ChangeSpec.witness6 (enc := enc) (C := Try.checked) false ⟨#[], #[.string ByteArray.empty], []⟩ 8 (by kernel_rfl) (by kernel_rfl) (by kernel_rfl) (by kernel_rfl)) ?_
  intro W base args ds gs before hval0 hW hcnd hsz0 _
  have hval : ∀ (j : Nat) t v, Try.f4.params[j]? = some t → args[j]? = some v → Value.okWide Try.prog W .any base t v := hval0
  have hW' := hW
  obtain ⟨p, q, hA0, hV, rfl, hfz, hnd⟩ := hW
  have hA : DataW.TrodAll enc Try.prog W 0 (fun _ => true) true Try.f4.params.toList args.toList ds p := hA0
  rw [Try.params4] at hA hval
  obtain ⟨v0, vs0, d0, ds0, p0, q0, hargs, rfl, rfl, h0, r0⟩ := trodAll_cons hA
  obtain ⟨rfl, rfl, rfl⟩ := trodAll_nil r0
  obtain rfl : args = #[v0] := by cases args; simp_all
  obtain ⟨rfl, rfl⟩ := trodVars_none hV
  obtain ⟨a0, rfl, rfl, rfl, y0⟩ := open_string Try.underlying9 (hval 0 9 v0 rfl rfl) h0
  obtain ⟨k_, hp_⟩ := Pr.FnExactPrefixOf a0 y0
  clear hA0 hval0 hsz0
  have hc_ := Q.laws_FnExactPrefixOf.calls k_ a0 true W  hp_
  refine hc_.mono fun e W' ⟨he, bel0⟩ => ?_
  subst he
  have bel : Below W.heap.size W W' := bel0
  exact ⟨_, rfl, _, _, _, [], _, [], hW', trodAll_mk1 (shut_bool Try.underlying4 _), (trodAll_cons_mk (shut_string Try.underlying9 y0) trodAll_mk0), rfl, bel.frame _, fun h => by cases h⟩
theorem over : Rows.fnExactPrefixOfRow.holds Try.pinned (OpenSpec.ofChange Rows.fnExactPrefixOfSpec) :=
  OpenClaim.holds_of_wide 4 Try.f4 rfl rfl rfl rfl rfl rfl rfl ⟨rfl, rfl, rfl, rfl, rfl⟩ rfl rfl rfl rfl rfl (by kernel_rfl) Try.func4 (by kernel_rfl)
    (of_decide_eq_true (by kernel_rfl)) (by unfold Func.isWrapper; first | (rw [if_pos (by decide +kernel)]; kernel_rfl) | (rw [if_neg (by decide +kernel)]; exact ⟨rfl, rfl⟩))
    (fun os started H enc _ => lifted os started H enc)
end Go.Proofs.Ytimbggkjpdaenaa.fnExactPrefixOf
namespace Go.Proofs.Ytimbggkjpdaenaa
theorem fnExactPrefixOf_holds : Rows.FnExactPrefixOfSaid := fnExactPrefixOf.over
#print axioms fnExactPrefixOf_holds
end Go.Proofs.Ytimbggkjpdaenaa
