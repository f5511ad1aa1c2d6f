/- Contracts of the program's functions, and plain laws on numbers and texts (joined: NatH, NatI, NatJ, Str, NatK, Int, IntA, IntB, IntC, IntD, IntE). -/
import Derived.Test.YtkljejejabikiaaGreatDoorV01
import Derived.Deep.DeepCutAuto
import Derived.Deep.CutBlock
import Derived.Lib.BufferOwn
import Derived.Shelf.Spec.TrailingZeros
import Derived.Laws.BytesArg
import Derived.RegionTactic
import Derived.ChangeAlike
import Derived.Deep.RegionHeld3
import Derived.Deep.QuietTactic
import Derived.BigQuiet

/- The walk of package big's step: one digit of a long division. -/
namespace Go.Proofs.YtkljejejabikiaaGreatDoor
open Go Go.RowKit Cusp

theorem drop_set {l : List Int} {j i : Nat} {x : Int} : (l.set (j + i) x).drop j = (l.drop j).set i x := by
  rw [List.drop_set, if_neg (by omega)]; congr 1; omega

/-- The guess: it fits, and nothing greater that is allowed does. -/
def GuessOk (T v1 v2 u2 g : Nat) : Prop := g ≤ 4294967295 ∧ g * (v1 * 4294967296 + v2) ≤ T * 4294967296 + u2 ∧ ∀ x, x ≤ T / v1 → x ≤ 4294967295 → x * (v1 * 4294967296 + v2) ≤ T * 4294967296 + u2 → x ≤ g
/-- While the guess goes down. -/
def GuessMax (T v1 v2 u2 g : Nat) : Prop := g ≤ 4294967295 ∧ g * v1 ≤ T ∧ ∀ x, x ≤ T / v1 → x ≤ 4294967295 → x * (v1 * 4294967296 + v2) ≤ T * 4294967296 + u2 → x ≤ g
theorem guess_first {T v1 v2 u2 : Nat} : GuessMax T v1 v2 u2 (min (T / v1) 4294967295) := by
  refine ⟨Nat.min_le_right _ _, ?_, fun x h1 h2 _ => Nat.le_min.2 ⟨h1, h2⟩⟩
  exact Nat.le_trans (Nat.mul_le_mul_right _ (Nat.min_le_left _ _)) (Nat.div_mul_le_self T v1)
theorem guess_down {T v1 v2 u2 g : Nat} (h : GuessMax T v1 v2 u2 (g + 1)) (hl : (T - (g + 1) * v1) * 4294967296 + u2 < (g + 1) * v2) : GuessMax T v1 v2 u2 g := by
  obtain ⟨h1, h2, h3⟩ := h
  have hn := guess_less h2 hl
  refine ⟨by omega, Nat.le_trans (Nat.mul_le_mul_right _ (by omega)) h2, fun x a b c => ?_⟩
  have := h3 x a b c
  rcases Nat.lt_or_ge x (g + 1) with hx | hx
  · omega
  · have : x = g + 1 := by omega
    subst this; omega
theorem guess_zero {T v1 v2 u2 : Nat} (h : GuessMax T v1 v2 u2 0) : GuessOk T v1 v2 u2 0 := ⟨h.1, by rw [Nat.zero_mul]; omega, h.2.2⟩
theorem guess_end {T v1 v2 u2 g : Nat} (h : GuessMax T v1 v2 u2 g) (hv : v2 < 4294967296) (he : 4294967296 ≤ T - g * v1 ∨ g * v2 ≤ (T - g * v1) * 4294967296 + u2) : GuessOk T v1 v2 u2 g :=
  ⟨h.1, guess_fits h.2.1 (by have := h.1; omega) hv he, h.2.2⟩
theorem nat_mul_lt {a b : Nat} (ha : a ≤ 4294967295) (hb : b < 4294967296) : a * b ≤ 18446744065119617025 :=
  Nat.le_trans (Nat.mul_le_mul ha (Nat.le_of_lt_succ hb)) (by decide)

/-- While it is taken off: what stands where, after i words. -/
structure OffInv0 (g0 V B g : Nat) (l : List Int) (j i k bo ca : Nat) (l1 : List Int) (w wr : World) : Prop where
  last : i = k + 1 → ca = 0
  words : Words l1
  len : l1.length = l.length
  head : l1.take j = l.take j
  same : ∀ p, j + i ≤ p → ix l1 p = ix l p
  val : lv ((l1.drop j).take i) + g0 * lv ((wd V).take i) = lv ((l.drop j).take i) + 4294967296 ^ i * (bo + ca)
  below : Below B w wr
  keep : w.grownBy wr (some g)
  size : B ≤ wr.heap.size
def OffInv (g0 V B g : Nat) (l : List Int) (j i k bo ca : Nat) (l1 : List Int) (w wr : World) : Prop := bo ≤ 1 ∧ ca < 4294967296 ∧ OffInv0 g0 V B g l j i k bo ca l1 w wr
theorem off_start {g0 V B g : Nat} {l : List Int} {j k : Nat} {w wr : World} (hw : Words l) (hb : Below B w wr) (hkp : w.grownBy wr (some g)) (hs : B ≤ wr.heap.size) : OffInv g0 V B g l j 0 k 0 0 l w wr :=
  ⟨by omega, by omega, ⟨by omega, hw, rfl, rfl, fun _ _ => rfl, by simp [lv], hb, hkp, hs⟩⟩

theorem off_next {g0 V B g : Nat} {l l1 : List Int} {j i k bo ca : Nat} {w wr : World} (hbo : bo ≤ 1) (hca : ca < 4294967296) (hI : OffInv0 g0 V B g l j i k bo ca l1 w wr) (hwl : Words l) (hg0 : g0 ≤ 4294967295) (hik : i ≤ k) (hV : (wd V).length = k) (hjl : j + k < l.length) (hgB : B ≤ g) (u : Value)
    {c2 t : Nat} (hc2 : c2 = ca + g0 * (ix (wd V) i).toNat) (ht : t = c2 % 4294967296 + bo) :
    OffInv g0 V B g l j (i + 1) k (if ix l (j + i) < t then 1 else 0) (c2 / 4294967296) (l1.set (j + i) ((ix l (j + i) - t) % 4294967296)) w (wr.setCell ⟨g, j + i, none⟩ u) := by
  have e1 : ix (l.drop j) i = ix l (j + i) := ix_drop
  have hst := off_step (u := l1.drop j) (u0 := l.drop j) (v := wd V) (i := i) (words_drop hwl j) (words_wd V) (g := g0) (by omega) hca hbo (by rw [List.length_drop, hI.len]; omega) hI.val hc2 ht
  rw [e1] at hst
  refine ⟨by split <;> omega, hst.2.1, ⟨?_, words_set hI.words _ (by omega) (by omega), by rw [List.length_set, hI.len], ?_, fun p hp => ?_, ?_, hI.below.setCell hgB _, Lib.grownBy_setB hI.keep _ _, by rw [size_setCell]; exact hI.size⟩⟩
  · intro h
    have : i = k := by omega
    rw [this, ix_of_ge (by omega)] at hc2
    simp only [Int.toNat_zero, Nat.mul_zero, Nat.add_zero] at hc2
    omega
  · rw [List.take_set_of_le (by omega)]; exact hI.head
  · rw [ix_set_other (by omega)]; exact hI.same p (by omega)
  · rw [drop_set]; exact hst.1

/-- A list of words below W^m has nothing from place m on. -/
theorem lv_take_of_lt {D : List Int} (m : Nat) (h : lv D < 4294967296 ^ m) : lv (D.take m) = lv D ∧ lv (D.drop m) = 0 := by
  rcases Nat.lt_or_ge D.length m with hm | hm
  · rw [List.take_of_length_le (by omega), List.drop_eq_nil_of_le (by omega)]; exact ⟨rfl, rfl⟩
  · have e := lv_drop D m hm
    rcases Nat.eq_zero_or_pos (lv (D.drop m)) with h0 | h0
    · rw [h0] at e; exact ⟨by omega, h0⟩
    · have : 4294967296 ^ m * 1 ≤ 4294967296 ^ m * lv (D.drop m) := Nat.mul_le_mul_left _ h0
      omega
theorem lv_two {D : List Int} {i : Nat} : lv (D.drop i) = (ix D i).toNat + 4294967296 * ((ix D (i + 1)).toNat + 4294967296 * lv (D.drop (i + 2))) := by
  rw [lv_drop_step, lv_drop_step D (i + 1)]

/-- The guess is the digit, or one more. -/
theorem digit_guess {D : List Int} {V k g0 uk uk1 uk2 v1 v2 T : Nat} (hV : (wd V).length = k) (hk : 2 ≤ k) (hDk : k < D.length) (hw : Words D) (hU : lv D < V * 4294967296)
    (h0 : ix D k = (uk : Int)) (h1 : ix D (k - 1) = (uk1 : Int)) (h2 : ix D (k - 2) = (uk2 : Int)) (g1 : ix (wd V) (k - 1) = (v1 : Int)) (g2 : ix (wd V) (k - 2) = (v2 : Int)) (hv1 : 0 < v1) (hT : T = uk * 4294967296 + uk1)
    (hg : GuessOk T v1 v2 uk2 g0) : lv D / V ≤ g0 ∧ g0 ≤ lv D / V + 1 := by
  have hVlt : V < 4294967296 ^ k := by have := lv_lt (words_wd V); rwa [lv_wd, hV] at this
  have hUW : lv D < 4294967296 ^ (k + 1) := by
    rw [Nat.pow_succ]; exact Nat.lt_of_lt_of_le hU (Nat.mul_le_mul_right _ (Nat.le_of_lt hVlt))
  have hz := (lv_take_of_lt (k + 1) hUW).2
  have b2 := ix_words hw (k - 2)
  obtain ⟨i, hi⟩ : ∃ i, k = i + 2 := ⟨k - 2, by omega⟩
  subst hi
  simp only [Nat.add_sub_cancel, show i + 2 - 1 = i + 1 by omega] at h1 h2 g1 g2 b2
  have eU := lv_drop D i (by omega)
  have eV := lv_drop (wd V) i (by omega)
  rw [lv_two, h2, h1, lv_drop_step, h0, hz] at eU
  rw [lv_two, g2, g1, List.drop_eq_nil_of_le (by omega), lv_wd] at eV
  simp only [Int.toNat_natCast, lv, Nat.mul_zero, Nat.add_zero] at eU eV
  have lU := lv_take_lt hw i
  have lV := lv_take_lt (words_wd V) i
  have hP := pow32 i
  rw [h2] at b2
  generalize (4294967296 : Nat) ^ i = P at *
  have eU3 : uk2 + 4294967296 * (uk1 + 4294967296 * uk) = T * 4294967296 + uk2 := by rw [hT]; omega
  have eV2 : v2 + 4294967296 * v1 = v1 * 4294967296 + v2 := by omega
  rw [eU3] at eU
  rw [eV2] at eV
  have hV0 : 0 < V := by
    rcases Nat.eq_zero_or_pos V with h | h
    · subst h; simp at hU
    · exact h
  refine guess_good (P := P) (U3 := T * 4294967296 + uk2) (V2 := v1 * 4294967296 + v2) ?_ ?_ ?_ ?_ hg.2.1 ?_ ?_ hV0
  · rw [Nat.mul_comm]; omega
  · rw [Nat.add_mul, Nat.one_mul, Nat.mul_comm _ P]; omega
  · rw [Nat.mul_comm]; omega
  · rw [Nat.add_mul, Nat.one_mul, Nat.mul_comm _ P]; omega
  · intro x hx1 hx2
    have hxW : x < 4294967296 := by
      refine Nat.lt_of_le_of_lt hx2 ((Nat.div_lt_iff_lt_mul hV0).2 ?_)
      rw [Nat.mul_comm]; exact hU
    refine hg.2.2 x ?_ (by omega) hx1
    rw [Nat.le_div_iff_mul_le hv1]
    have e : x * (v1 * 4294967296 + v2) = x * v1 * 4294967296 + x * v2 := by rw [Nat.mul_add, ← Nat.mul_assoc]
    omega
  · have h3 : g0 * P ≤ 4294967296 * P := Nat.mul_le_mul_right _ (by have := hg.1; omega)
    have h4 : 4294967296 * P ≤ P * (v1 * 4294967296 + v2) := by rw [Nat.mul_comm]; exact Nat.mul_le_mul_left _ (by omega)
    omega

theorem drop_same {l l1 : List Int} {p : Nat} (hlen : l1.length = l.length) (h : ∀ q, p ≤ q → ix l1 q = ix l q) : l1.drop p = l.drop p := by
  apply List.ext_getElem
  · simp [hlen]
  · intro i h1 h2
    rw [List.length_drop] at h1 h2
    have := h (p + i) (by omega)
    rw [ix_of_lt (by omega), ix_of_lt (by omega)] at this
    simpa using this

/-- What is left when it has been taken off. -/
theorem off_end {g0 V B g : Nat} {l l1 : List Int} {j k bo : Nat} {w wr : World} (hV : (wd V).length = k) (hU : lv (l.drop j) < V * 4294967296) (hI : OffInv0 g0 V B g l j (k + 1) k bo 0 l1 w wr) (hbo : bo ≤ 1)
    (hg : lv (l.drop j) / V ≤ g0 ∧ g0 ≤ lv (l.drop j) / V + 1) :
    (bo = 0 → g0 = lv (l.drop j) / V ∧ lv (l1.drop j) = lv (l.drop j) % V) ∧
    (bo ≠ 0 → g0 = lv (l.drop j) / V + 1 ∧ lv (l1.drop j) + V = lv (l.drop j) % V + 4294967296 ^ (k + 1) ∧ lv (l1.drop j) < 4294967296 ^ (k + 1)) ∧ lv (l1.drop j) = lv ((l1.drop j).take (k + 1)) := by
  have hV0 : 0 < V := by
    rcases Nat.eq_zero_or_pos V with h | h
    · subst h; simp at hU
    · exact h
  have hVlt : V < 4294967296 ^ k := by have := lv_lt (words_wd V); rwa [lv_wd, hV] at this
  have hUW : lv (l.drop j) < 4294967296 ^ (k + 1) := by
    rw [Nat.pow_succ]; exact Nat.lt_of_lt_of_le hU (Nat.mul_le_mul_right _ (Nat.le_of_lt hVlt))
  obtain ⟨t1, t2⟩ := lv_take_of_lt (k + 1) hUW
  have hd : (l1.drop j).drop (k + 1) = (l.drop j).drop (k + 1) := by
    rw [List.drop_drop, List.drop_drop]; exact drop_same hI.len hI.same
  have hl1 : lv (l1.drop j) = lv ((l1.drop j).take (k + 1)) := by
    rcases Nat.lt_or_ge (l1.drop j).length (k + 1) with h | h
    · rw [List.take_of_length_le (by omega)]
    · rw [lv_drop (l1.drop j) (k + 1) h, hd, t2]; omega
  have hlt1 : lv (l1.drop j) < 4294967296 ^ (k + 1) := by rw [hl1]; exact lv_take_lt (words_drop hI.words j) _
  have hv := hI.val
  rw [← hl1, t1, lv_take_all (wd V) (by omega), lv_wd, Nat.add_zero] at hv
  have hdm := Nat.div_add_mod (lv (l.drop j)) V
  have hml := Nat.mod_lt (lv (l.drop j)) hV0
  generalize lv (l.drop j) / V = q at *
  generalize lv (l.drop j) % V = r at *
  generalize (4294967296 : Nat) ^ (k + 1) = P at *
  refine ⟨fun hb => ?_, fun hb => ?_, hl1⟩
  · subst hb
    have hgq : g0 = q := by
      rcases Nat.lt_or_ge q g0 with h | h
      · have : g0 = q + 1 := by omega
        subst this
        rw [Nat.add_mul, Nat.one_mul, Nat.mul_comm q V] at hv; omega
      · omega
    subst hgq
    rw [Nat.mul_comm g0 V] at hv
    exact ⟨rfl, by omega⟩
  · have hb1 : bo = 1 := by omega
    subst hb1
    have hgq : g0 = q + 1 := by
      rcases Nat.lt_or_ge q g0 with h | h
      · omega
      · have : g0 = q := by omega
        subst this
        rw [Nat.mul_comm g0 V] at hv; omega
    subst hgq
    rw [Nat.add_mul, Nat.one_mul, Nat.mul_comm q V] at hv
    exact ⟨rfl, by omega, hlt1⟩

/-- While it is put back. -/
structure BackInv0 (V B g : Nat) (l l1 : List Int) (j i back : Nat) (l2 : List Int) (w wr : World) : Prop where
  words : Words l2
  len : l2.length = l.length
  head : l2.take j = l.take j
  same : ∀ p, j + i ≤ p → ix l2 p = ix l1 p
  val : lv ((l2.drop j).take i) + 4294967296 ^ i * back = lv ((l1.drop j).take i) + lv ((wd V).take i)
  below : Below B w wr
  keep : w.grownBy wr (some g)
  size : B ≤ wr.heap.size
def BackInv (V B g : Nat) (l l1 : List Int) (j i back : Nat) (l2 : List Int) (w wr : World) : Prop := back ≤ 1 ∧ BackInv0 V B g l l1 j i back l2 w wr
theorem back_start {g0 V B g : Nat} {l l1 : List Int} {j i k bo ca : Nat} {w wr : World} (h : OffInv0 g0 V B g l j i k bo ca l1 w wr) : BackInv V B g l l1 j 0 0 l1 w wr :=
  ⟨by omega, ⟨h.words, h.len, h.head, fun _ _ => rfl, by simp [lv], h.below, h.keep, h.size⟩⟩
theorem back_next {V B g : Nat} {l l1 l2 : List Int} {j i k back : Nat} {w wr : World} (hb : back ≤ 1) (hI : BackInv0 V B g l l1 j i back l2 w wr) (hw1 : Words l1) (hik : i ≤ k) (hjl : j + k < l.length) (hgB : B ≤ g) (u : Value)
    {b2 : Nat} (hb2 : b2 = back + (ix l1 (j + i)).toNat + (ix (wd V) i).toNat) :
    BackInv V B g l l1 j (i + 1) (b2 / 4294967296) (l2.set (j + i) ((b2 % 4294967296 : Nat) : Int)) w (wr.setCell ⟨g, j + i, none⟩ u) := by
  have e1 : ix (l1.drop j) i = ix l1 (j + i) := ix_drop
  have hst := back_step (b2 := b2) (u := l2.drop j) (u0 := l1.drop j) (v := wd V) (i := i) (words_drop hw1 j) (words_wd V) hb (by rw [List.length_drop, hI.len]; omega) hI.val (by rw [e1]; exact hb2)
  refine ⟨hst.2, ⟨words_set hI.words _ (by omega) (by omega), by rw [List.length_set, hI.len], ?_, fun p hp => ?_, ?_, hI.below.setCell hgB _, Lib.grownBy_setB hI.keep _ _, by rw [size_setCell]; exact hI.size⟩⟩
  · rw [List.take_set_of_le (by omega)]; exact hI.head
  · rw [ix_set_other (by omega)]; exact hI.same p (by omega)
  · rw [drop_set]; exact hst.1
theorem back_end {V B k r g : Nat} {l l1 l2 : List Int} {j back : Nat} {w wr : World} (hV : (wd V).length = k) (hb : back ≤ 1) (hI : BackInv0 V B g l l1 j (k + 1) back l2 w wr) (hl1 : l1.length = l.length) (he : lv (l1.drop j) = lv ((l1.drop j).take (k + 1)))
    (h : lv (l1.drop j) + V = r + 4294967296 ^ (k + 1)) (hlt : lv (l1.drop j) < 4294967296 ^ (k + 1)) : lv (l2.drop j) = r := by
  have hd : (l2.drop j).drop (k + 1) = (l1.drop j).drop (k + 1) := by
    rw [List.drop_drop, List.drop_drop]; exact drop_same (by rw [hI.len, hl1]) hI.same
  obtain ⟨t1, t2⟩ := lv_take_of_lt (k + 1) hlt
  have hl2 : lv (l2.drop j) = lv ((l2.drop j).take (k + 1)) := by
    rcases Nat.lt_or_ge (l2.drop j).length (k + 1) with h | h
    · rw [List.take_of_length_le (by omega)]
    · rw [lv_drop (l2.drop j) (k + 1) h, hd, t2]; omega
  have hlt2 := lv_take_lt (words_drop hI.words j) (k + 1)
  rw [← hl2] at hlt2
  have hv := hI.val
  rw [← hl2, ← he, lv_take_all (wd V) (by omega), lv_wd] at hv
  have hVlt : V < 4294967296 ^ (k + 1) := by
    have h1 := lv_lt (words_wd V); rw [lv_wd, hV] at h1
    exact Nat.lt_of_lt_of_le h1 (Nat.pow_le_pow_right (by omega) (by omega))
  generalize (4294967296 : Nat) ^ (k + 1) = P at *
  have hb1 : back = 1 := by
    rcases Nat.eq_zero_or_pos back with h0 | h0
    · subst h0; omega
    · omega
  subst hb1; omega

set_option maxHeartbeats 4000000 in
set_option maxRecDepth 100000 in
theorem step_calls (g L c j k cv V B : Nat) (l : List Int) (Av : Option Addr) (w0 w : World)
    (hO : Own B w 71 .u32 (.slice (some ⟨g, 0, none⟩) L c) l) (hwl : Words l) (hv : Nt w0 Av k cv V) (h0 : Ext w0 w) (hB0 : w0.heap.size ≤ B) (hBw : B ≤ w.heap.size)
    (hk : 2 ≤ k) (hkj : j + k < L) (hL : L ≤ 1000000000) (hU : lv (l.drop j) < V * 4294967296) :
    Calls Tryz.prog 277 #[.slice (some ⟨g, j, none⟩) (L - j) (c - j), .slice Av k cv] w fun e w' => e = .returned (.int .u32 ((lv (l.drop j) / V : Nat) : Int)) ∧ ∃ l',
      Own B w' 71 .u32 (.slice (some ⟨g, 0, none⟩) L c) l' ∧ Words l' ∧ l'.length = l.length ∧ l'.take j = l.take j ∧ lv (l'.drop j) = lv (l.drop j) % V ∧ Below B w w' ∧ w.grownBy w' (some g) ∧ B ≤ w'.heap.size := by
  have hrd := hO.rd
  have hcl := hrd.cap
  have hcb := hrd.big
  have LL := Lib.hid hrd.len
  have LV := Lib.hid hv.len
  have hgB : B ≤ g := hO.base_le g rfl
  obtain ⟨bv, ov, rfl, hvc⟩ := (hv.ext h0).cell (by omega)
  obtain ⟨n, hn⟩ : ∃ n, n = L - j := ⟨_, rfl⟩
  obtain ⟨m, hm⟩ : ∃ m, m = c - j := ⟨_, rfl⟩
  rw [← hn, ← hm]
  have hnk : k < n := by omega
  have hn9 : n ≤ 1000000000 := by omega
  have HNn := Lib.hid hn; clear hn
  have HMm := Lib.hid hm; clear hm
  have hle : ¬ ((n : Int) ≤ k) := by omega
  have cell := fun i (hi : i < l.length) => (hO.at_ i hi).1
  have hlL : l.length = L := LL.out
  have xk := cell (j + k) (by omega)
  have xk1 := cell (j + (k - 1)) (by omega)
  have yk1 := hvc (k - 1) (by omega)
  have yk2 := hvc (k - 2) (by omega)
  have xk2 := cell (j + (k - 2)) (by omega)
  clear cell hlL
  have i1 : ((k : Int) - 1).toNat = k - 1 := by omega
  have i2 : ((k : Int) - 2).toNat = k - 2 := by omega
  have j0 : 1 ≤ (k : Int) := by omega
  have j1 : (k : Int) - 1 < n := by omega
  have j2 : (k : Int) - 2 < n := by omega
  have j3 : 2 ≤ (k : Int) := by omega
  have j4 : (k : Int) < n := by omega
  have r0 := ix_words hwl (j + k)
  have r1 := ix_words hwl (j + (k - 1))
  have r2 := ix_words hwl (j + (k - 2))
  have s1 := ix_words (words_wd V) (k - 1)
  have s2 := ix_words (words_wd V) (k - 2)
  have v1n := last_of_trim (trim_wd V) (by rw [LV.out]; omega)
  rw [LV.out] at v1n
  obtain ⟨uk, hu0⟩ := Int.eq_ofNat_of_zero_le r0.1
  obtain ⟨uk1, hu1⟩ := Int.eq_ofNat_of_zero_le r1.1
  obtain ⟨uk2, hu2⟩ := Int.eq_ofNat_of_zero_le r2.1
  obtain ⟨v1, hv1⟩ := Int.eq_ofNat_of_zero_le s1.1
  obtain ⟨v2, hv2⟩ := Int.eq_ofNat_of_zero_le s2.1
  rw [hu0] at xk r0
  rw [hu1] at xk1 r1
  rw [hu2] at xk2 r2
  rw [hv1] at yk1 s1 v1n
  rw [hv2] at yk2 s2
  have HU0 := Lib.hid hu0; clear hu0
  have HU1 := Lib.hid hu1; clear hu1
  have HU2 := Lib.hid hu2; clear hu2
  have HV1 := Lib.hid hv1; clear hv1
  have HV2 := Lib.hid hv2; clear hv2
  obtain ⟨T, hT⟩ : ∃ T, T = uk * 4294967296 + uk1 := ⟨_, rfl⟩
  have htop := or_low (r := uk) (x := (uk1 : Int)) (by omega) (by omega) (by omega)
  rw [Int.toNat_natCast, ← hT] at htop
  have hTb : T < 18446744073709551616 := by omega
  have HT := Lib.hid hT; clear hT
  have hdv : (T : Int).tdiv (v1 : Int) = ((T / v1 : Nat) : Int) := (Int.ofNat_tdiv T v1).symm
  have v10 : ¬ (v1 : Int) = 0 := v1n
  clear v1n
  go_enter Tryz.func277, Tryz.ntmps277
  go_wp2
  go_quiet (fail)
  go_upto_block 0 with (fail)
  go_cut [7] (fun gs wx => ∃ g0 : Nat, gs = .int .u64 (g0 : Int) ∧ GuessOk T v1 v2 uk2 g0 ∧ Ext w wx)
  case first =>
    go_wp2
    go_loopw [7] (fun gs wr => ∃ g0 : Nat, gs = .int .u64 (g0 : Int) ∧ GuessMax T v1 v2 uk2 g0 ∧ Ext w wr) (fun gs _ => (intOf gs).toNat)
    case atStart =>
      refine ⟨min (T / v1) 4294967295, int_int ?_, guess_first, Ext.drewN _ _⟩
      have : T / v1 ≤ T := Nat.div_le_self _ _
      rw [IntKind.wrap_u64, ← Int.natCast_ediv]
      generalize T / v1 = q at *
      omega
    case round =>
      obtain ⟨g0, rfl, hg, hx⟩ := hrel
      rcases Nat.eq_zero_or_pos g0 with hz | hz
      · subst hz
        go_wp2
        go_meet
        case rel => exact ⟨0, rfl, guess_zero hg, hx⟩
      · obtain ⟨P1, hP1⟩ : ∃ P1, P1 = g0 * v1 := ⟨_, rfl⟩
        obtain ⟨P2, hP2⟩ : ∃ P2, P2 = g0 * v2 := ⟨_, rfl⟩
        have q1 : (g0 : Int) * (v1 : Int) = (P1 : Int) := by rw [hP1]; simp
        have q2 : (g0 : Int) * (v2 : Int) = (P2 : Int) := by rw [hP2]; simp
        have b1 : P1 ≤ T := by rw [hP1]; exact hg.2.1
        have b2 : P2 ≤ 18446744065119617025 := by rw [hP2]; exact nat_mul_lt hg.1 (by omega)
        have HP1 := Lib.hid hP1; clear hP1
        have HP2 := Lib.hid hP2; clear hP2
        have hg9 := hg.1
        obtain ⟨R, hR⟩ : ∃ R, R = T - P1 := ⟨_, rfl⟩
        have q3 : (T : Int) - (P1 : Int) = (R : Int) := by omega
        have hRb : R ≤ T := by omega
        have HR := Lib.hid hR; clear hR
        have yk1' := hx.cell yk1
        have yk2' := hx.cell yk2
        have xk2' := hx.cell xk2
        by_cases hbig : 4294967296 ≤ R
        · have t1 : ((R : Int) / 4294967296 == 0) = false := by rw [beq_eq_false_iff_ne]; omega
          have t2 : ((R : Int) / 4294967296 != 0) = true := by rw [bne_iff_ne]; omega
          go_wp2
          go_quiet (fail)
          go_wp2
          go_meet
          case rel => exact ⟨g0, rfl, guess_end hg (by omega) (.inl (by rw [← HP1.out, ← HR.out]; exact hbig)), hx.drewN' _⟩
        · have t1 : ((R : Int) / 4294967296 == 0) = true := by rw [beq_iff_eq]; omega
          have t2 : ((R : Int) / 4294967296 != 0) = false := by rw [bne_eq_false_iff_eq]; omega
          have hlow := or_low (r := R) (x := (uk2 : Int)) (by omega) (by omega) (by omega)
          rw [Int.toNat_natCast] at hlow
          obtain ⟨S, hS⟩ : ∃ S, S = R * 4294967296 + uk2 := ⟨_, rfl⟩
          rw [← hS] at hlow
          have HS := Lib.hid hS; clear hS
          by_cases hcmp : P2 ≤ S
          · have c1 : (P2 : Int) ≤ S := by omega
            go_wp2
            go_quiet (fail)
            go_wp2
            go_meet
            case rel => exact ⟨g0, rfl, guess_end hg (by omega) (.inr (by rw [← HP1.out, ← HR.out, ← HP2.out, ← HS.out]; exact hcmp)), hx.drewN' _⟩
          · have c1 : ¬ (P2 : Int) ≤ S := by omega
            have c2 : decide ((P2 : Int) ≤ S) = false := by simpa using c1
            go_wp2
            go_quiet (fail)
            go_wp2
            go_roundw
            case rel =>
              refine ⟨g0 - 1, int_int (by omega), ?_, hx.drewN' _⟩
              refine guess_down (g := g0 - 1) (by rw [Nat.sub_add_cancel hz]; exact hg) ?_
              rw [Nat.sub_add_cancel hz, ← HP1.out, ← HR.out, ← HP2.out, ← HS.out]; omega
            case measure => simp [intOf]; omega
  case rest =>
    obtain ⟨g0, rfl, hg, hx⟩ := hcut
    have hg9 := hg.1
    go_wp2
    go_loopw [9, 10, 83] (fun br cr ii wr => ∃ (i : Nat) (l1 : List Int) (bo ca : Nat), i ≤ k + 1 ∧ ii = .int .i64 (i : Int) ∧ br = .int .u64 (bo : Int) ∧ cr = .int .u64 (ca : Int) ∧ OffInv g0 V B g l j i k bo ca l1 w wr ∧ Own B wr 71 .u32 (.slice (some ⟨g, 0, none⟩) L c) l1) (fun _ _ ii _ => k + 1 - (intOf ii).toNat)
    case atStart => exact ⟨0, l, 0, 0, by omega, rfl, rfl, rfl, off_start hwl (Below.mono hx hBw) (Lib.grownBy_below (World.grownBy.refl _ _) hx) (by have := hx.size; omega), hO.ext hx⟩
    case round =>
      obtain ⟨i, l1, bo, ca, hi, rfl, rfl, rfl, hI, hO1⟩ := hrel
      obtain ⟨hbo, hca, hI⟩ := hI
      have HI := Lib.hid hI; clear hI
      have h01 : Ext w0 wr := Below.trans h0 (Below.mono HI.out.below hB0)
      by_cases hlt : i < k + 1
      · obtain ⟨x, hx0⟩ := Int.eq_ofNat_of_zero_le (ix_words hwl (j + i)).1
        have hx1 := (ix_words hwl (j + i)).2
        rw [hx0] at hx1
        obtain ⟨hc1, hf1⟩ := hO1.at_ (j + i) (by rw [HI.out.len, LL.out]; omega)
        rw [HI.out.same (j + i) (Nat.le_refl _), hx0] at hc1
        have HX0 := Lib.hid hx0; clear hx0
        have hin : (i : Int) < n := by omega
        have hik : (i : Int) < (k : Int) + 1 := by omega
        by_cases hk2 : i < k
        · have hk2' : (i : Int) < k := by omega
          obtain ⟨y, hy0⟩ := Int.eq_ofNat_of_zero_le (ix_words (words_wd V) i).1
          have hy1 := (ix_words (words_wd V) i).2
          rw [hy0] at hy1
          have hc2 : wr.cell? ⟨bv, ov + i, none⟩ = some (.int .u32 (y : Int)) := by
            obtain ⟨b', o', he, hc⟩ := (hv.ext h01).at_ i hk2
            injection he with he; injection he with he1 he2; subst he1; subst he2
            rw [hc, hy0]
          have HY0 := Lib.hid hy0; clear hy0
          obtain ⟨P, hP⟩ : ∃ P, P = g0 * y := ⟨_, rfl⟩
          have q1 : (g0 : Int) * (y : Int) = (P : Int) := by rw [hP]; simp
          have b2 : P ≤ 18446744065119617025 := by rw [hP]; exact nat_mul_lt hg.1 (by omega)
          have HP := Lib.hid hP; clear hP
          by_cases hb : (x : Int) < ((ca : Int) + (P : Int)) % 4294967296 + (bo : Int)
          · go_wp2
            go_roundw
            case rel =>
              have hval : IntKind.u64.wrap ((x : Int) - (((ca : Int) + (P : Int)) % 4294967296 + (bo : Int))) % 4294967296 = (ix l (j + i) - ((((ca + P) % 4294967296 + bo) : Nat) : Int)) % 4294967296 := by rw [HX0.out]; rw [wrap_low]; omega
              rw [hval]
              have hnx := off_next (g := g) (c2 := (ca + P)) hbo hca HI.out hwl hg9 (by omega) LV.out (by rw [LL.out]; exact hkj) hgB (.int .u32 ((ix l (j + i) - ((((ca + P) % 4294967296 + bo) : Nat) : Int)) % 4294967296)) (by rw [HP.out, HY0.out, Int.toNat_natCast]) rfl
              rw [if_pos (by rw [HX0.out]; omega :  ix l (j + i) < ((((ca + P) % 4294967296 + bo) : Nat) : Int))] at hnx
              exact ⟨i + 1, _, 1, _, by omega, by go_num, rfl, int_int (by omega), hnx, hO1.store _ _⟩
            case measure => simp [intOf]; omega
          · go_wp2
            go_roundw
            case rel =>
              have hval : (x : Int) - (((ca : Int) + (P : Int)) % 4294967296 + (bo : Int)) = (ix l (j + i) - ((((ca + P) % 4294967296 + bo) : Nat) : Int)) % 4294967296 := by rw [HX0.out]; omega
              rw [hval]
              have hnx := off_next (g := g) (c2 := (ca + P)) hbo hca HI.out hwl hg9 (by omega) LV.out (by rw [LL.out]; exact hkj) hgB (.int .u32 ((ix l (j + i) - ((((ca + P) % 4294967296 + bo) : Nat) : Int)) % 4294967296)) (by rw [HP.out, HY0.out, Int.toNat_natCast]) rfl
              rw [if_neg (by rw [HX0.out]; omega : ¬ ( ix l (j + i) < ((((ca + P) % 4294967296 + bo) : Nat) : Int)))] at hnx
              exact ⟨i + 1, _, 0, _, by omega, by go_num, rfl, int_int (by omega), hnx, hO1.store _ _⟩
            case measure => simp [intOf]; omega
        · have hk3 : k = i := by omega
          have hk2' : ¬ (i : Int) < k := by omega
          subst hk3
          by_cases hb : (x : Int) < (ca : Int) + (bo : Int)
          · go_wp2
            go_roundw
            case rel =>
              have hval : IntKind.u64.wrap ((x : Int) - ((ca : Int) + (bo : Int))) % 4294967296 = (ix l (j + k) - (((ca % 4294967296 + bo) : Nat) : Int)) % 4294967296 := by rw [HX0.out]; rw [wrap_low]; omega
              rw [hval]
              have hnx := off_next (g := g) (c2 := ca) hbo hca HI.out hwl hg9 (by omega) LV.out (by rw [LL.out]; exact hkj) hgB (.int .u32 ((ix l (j + k) - (((ca % 4294967296 + bo) : Nat) : Int)) % 4294967296)) (by rw [ix_of_ge (l := wd V) (by have := LV.out; omega)]; simp) rfl
              rw [if_pos (by rw [HX0.out]; omega :  ix l (j + k) < (((ca % 4294967296 + bo) : Nat) : Int))] at hnx
              exact ⟨k + 1, _, 1, _, by omega, by go_num, rfl, int_int (by omega), hnx, hO1.store _ _⟩
            case measure => simp [intOf]
          · go_wp2
            go_roundw
            case rel =>
              have hval : (x : Int) - ((ca : Int) + (bo : Int)) = (ix l (j + k) - (((ca % 4294967296 + bo) : Nat) : Int)) % 4294967296 := by rw [HX0.out]; omega
              rw [hval]
              have hnx := off_next (g := g) (c2 := ca) hbo hca HI.out hwl hg9 (by omega) LV.out (by rw [LL.out]; exact hkj) hgB (.int .u32 ((ix l (j + k) - (((ca % 4294967296 + bo) : Nat) : Int)) % 4294967296)) (by rw [ix_of_ge (l := wd V) (by have := LV.out; omega)]; simp) rfl
              rw [if_neg (by rw [HX0.out]; omega : ¬ ( ix l (j + k) < (((ca % 4294967296 + bo) : Nat) : Int)))] at hnx
              exact ⟨k + 1, _, 0, _, by omega, by go_num, rfl, int_int (by omega), hnx, hO1.store _ _⟩
            case measure => simp [intOf]
      · have hik : i = k + 1 := by omega
        subst hik
        have hca0 := HI.out.last rfl
        subst hca0
        have hdg := digit_guess (D := l.drop j) LV.out hk (by rw [List.length_drop, LL.out]; omega) (words_drop hwl j) hU (by rw [ix_drop]; exact HU0.out) (by rw [ix_drop]; exact HU1.out) (by rw [ix_drop]; exact HU2.out) HV1.out HV2.out (by omega) HT.out hg
        have hend := off_end LV.out hU HI.out hbo hdg
        have HE := Lib.hid hend; clear hend hdg
        by_cases hb0 : bo = 0
        · subst hb0
          have e0 := HE.out.1 rfl
          have HE0 := Lib.hid e0; clear e0
          go_wp2
          go_ret
          exact ⟨ret_int (by rw [HE0.out.1]; simp), l1, hO1, HI.out.words, HI.out.len, HI.out.head, HE0.out.2, HI.out.below, HI.out.keep, HI.out.size⟩
        · have t1 : ((bo : Int) == 0) = false := by rw [beq_eq_false_iff_ne]; omega
          have e0 := HE.out.2.1 hb0
          have HE0 := Lib.hid e0; clear e0
          have hg1 : 1 ≤ g0 := by rw [HE0.out.1]; exact Nat.le_add_left 1 _
          have hg1' : 1 ≤ (g0 : Int) := by omega
          obtain ⟨wo, rfl⟩ : ∃ wo : World, wo = wr := ⟨_, rfl⟩
          clear xk xk1 xk2 yk1 yk2
          go_wp2
          go_loopw [14, 131] (fun bk ii wr => ∃ (i : Nat) (l2 : List Int) (back : Nat), i ≤ k + 1 ∧ ii = .int .i64 (i : Int) ∧ bk = .int .u64 (back : Int) ∧ BackInv V B g l l1 j i back l2 w wr ∧ Own B wr 71 .u32 (.slice (some ⟨g, 0, none⟩) L c) l2) (fun _ ii _ => k + 1 - (intOf ii).toNat)
          case atStart => exact ⟨0, l1, 0, by omega, rfl, rfl, back_start HI.out, hO1⟩
          case round =>
            obtain ⟨i, l2, back, hi, rfl, rfl, hJ, hO2⟩ := hrel
            obtain ⟨hbk, hJ⟩ := hJ
            have HJ := Lib.hid hJ; clear hJ
            have h01 : Ext w0 wr := Below.trans h0 (Below.mono HJ.out.below hB0)
            by_cases hlt : i < k + 1
            · obtain ⟨x, hx0⟩ := Int.eq_ofNat_of_zero_le (ix_words HI.out.words (j + i)).1
              have hx1 := (ix_words HI.out.words (j + i)).2
              rw [hx0] at hx1
              obtain ⟨hc1, hf1⟩ := hO2.at_ (j + i) (by rw [HJ.out.len, LL.out]; omega)
              rw [HJ.out.same (j + i) (Nat.le_refl _), hx0] at hc1
              have HX0 := Lib.hid hx0; clear hx0
              have hin : (i : Int) < n := by omega
              have hik : (i : Int) < (k : Int) + 1 := by omega
              by_cases hk2 : i < k
              · have hk2' : (i : Int) < k := by omega
                obtain ⟨y, hy0⟩ := Int.eq_ofNat_of_zero_le (ix_words (words_wd V) i).1
                have hy1 := (ix_words (words_wd V) i).2
                rw [hy0] at hy1
                have hc2 : wr.cell? ⟨bv, ov + i, none⟩ = some (.int .u32 (y : Int)) := by
                  obtain ⟨b', o', he, hc⟩ := (hv.ext h01).at_ i hk2
                  injection he with he; injection he with he1 he2; subst he1; subst he2
                  rw [hc, hy0]
                have HY0 := Lib.hid hy0; clear hy0
                have hnx := back_next (g := g) (k := k) (b2 := back + x + y) hbk HJ.out HI.out.words (by omega) (by rw [LL.out]; exact hkj) hgB (.int .u32 (((back + x + y) % 4294967296 : Nat) : Int)) (by rw [HX0.out, HY0.out, Int.toNat_natCast, Int.toNat_natCast])
                have HNX := Lib.hid hnx; clear hnx
                go_wp2
                go_roundw
                case rel =>
                  have hval : ((back : Int) + x + y) % 4294967296 = (((back + x + y) % 4294967296 : Nat) : Int) := by omega
                  rw [hval]
                  exact ⟨i + 1, _, _, by omega, by go_num, int_int (by omega), HNX.out, hO2.store _ _⟩
                case measure => simp [intOf]; omega
              · have hk3 : k = i := by omega
                have hk2' : ¬ (i : Int) < k := by omega
                have hy0 : ix (wd V) i = 0 := ix_of_ge (by have := LV.out; omega)
                have hnx := back_next (g := g) (k := k) (b2 := back + x + 0) hbk HJ.out HI.out.words (by omega) (by rw [LL.out]; exact hkj) hgB (.int .u32 (((back + x + 0) % 4294967296 : Nat) : Int)) (by rw [HX0.out, hy0, Int.toNat_natCast]; rfl)
                have HNX := Lib.hid hnx; clear hnx hy0
                subst hk3
                go_wp2
                go_roundw
                case rel =>
                  have hval : ((back : Int) + x) % 4294967296 = (((back + x + 0) % 4294967296 : Nat) : Int) := by omega
                  rw [hval]
                  exact ⟨k + 1, _, _, by omega, by go_num, int_int (by omega), HNX.out, hO2.store _ _⟩
                case measure => simp [intOf]
            · have hik : i = k + 1 := by omega
              subst hik
              have hfin := back_end LV.out hbk HJ.out HI.out.len HE.out.2.2 HE0.out.2.1 HE0.out.2.2
              have HF := Lib.hid hfin; clear hfin
              go_wp2
              go_ret
              exact ⟨ret_int (by rw [HE0.out.1]; simp), l2, hO2, HJ.out.words, HJ.out.len, HJ.out.head, HF.out, HJ.out.below, HJ.out.keep, HJ.out.size⟩
end Go.Proofs.YtkljejejabikiaaGreatDoor

/- append(v, ys...); slices.Clone at big.nat; the walk of package big's div. -/
namespace Cusp
open Go Go.RowKit
section
variable {P : Program} {ops : Array Oper} {rest : List Oper} {o : Oper} {a : Act} {Q : Exit → Act → World → Prop}
/-- append(v, ys...), ys a slice that is read, nil let in; behind 'at_builtin'. -/
theorem append_row {w0 W : World} {e : TypeId} {k : IntKind} (base : Nat) (hgd : o.guard = none) (s x : Operand) (t : TypeId) (bytes : Nat)
    (ho : o.op = .call { callee := .builtin .append, args := #[s, x], argTypes := #[t, t] })
    (ht : P.underlying t = some (.slice e)) (hinfo : (P.info? e).map (fun i => (i.zero, i.size, i.bytes)) = some (some (.int k 0), 1, bytes)) (hb0 : 0 < bytes)
    (v : Value) (xs ys : List Int) (A : Option Addr) (m c : Nat) (hs : a.eval s = v) (hx : a.eval x = .slice A m c)
    (HO : Own base W e k v xs) (HR : Rd W k A m c ys) (HB : Below base w0 W) (hbase : base ≤ W.heap.size) (hl : (xs.length + m) * bytes ≤ 140737488355328)
    (h : ∀ v1 w1, Own base w1 e k v1 (xs ++ ys) → Below base w0 w1 → base ≤ w1.heap.size → W.grownBy w1 v.ownBlock → (v1.ownBlock = v.ownBlock ∨ ∃ b, v1.ownBlock = some b ∧ W.heap.size ≤ b) → wpList P ops Q rest (a.put o.dst v1) w1) :
    wpList P ops Q (o :: rest) a W := by
  obtain ⟨i0, hi, hzz⟩ := Option.map_eq_some_iff.1 hinfo
  simp only [Prod.mk.injEq] at hzz
  obtain ⟨hz0, hz1, hz2⟩ := hzz
  have hm : ys.length = m := HR.len
  have hlen : xs.length + m ≤ 140737488355328 := Nat.le_trans (Nat.le_mul_of_pos_right _ hb0) hl
  have hrun : ∃ v1 w1, (Builtin.append_ #[t, t] o.type #[v, .slice A m c]).run P W = .ok v1 w1 ∧ Own base w1 e k v1 (xs ++ ys) ∧ W.grownBy w1 v.ownBlock ∧ (v1.ownBlock = v.ownBlock ∨ v1.ownBlock = some W.heap.size) := by
    rcases A with _ | ad
    · have h0 : m = 0 := by
        rcases Nat.eq_zero_or_pos m with h0 | h0
        · exact h0
        · obtain ⟨b, off, h, _⟩ := HR.cell h0
          cases h
      subst h0
      obtain rfl : ys = [] := List.eq_nil_of_length_eq_zero hm
      refine ⟨v, W, ?_, by simpa using HO, World.grownBy.refl W _, .inl rfl⟩
      rcases HO.own.2 with ⟨rfl, hn⟩ | ⟨g, cap, cur, rfl, _, _, hnc, _⟩
      · simp [Builtin.append_, run_underlying ht, Go.sizeOf, typeInfo, hi, Builtin.lenOf, Builtin.firstCells]
      · simp [Builtin.append_, run_underlying ht, Go.sizeOf, typeInfo, hi, Builtin.lenOf, Builtin.firstCells, hnc, storeCells]
    · have hcells : ∀ j u, (nums k ys)[j]? = some u → W.cell? (ad.add j) = some u := by
        intro j u hu
        have hj : j < ys.length := by
          rcases Nat.lt_or_ge j ys.length with h | h
          · exact h
          · simp [nums, List.getElem?_eq_none h] at hu
        obtain ⟨b, off, h', hc⟩ := HR.cell (by omega)
        injection h' with h'
        subst h'
        have hc := hc j (by omega)
        rw [nums_at hj] at hu
        injection hu with hu
        subst hu
        rw [← hc]
        congr 1
        unfold Addr.add; split
        · rename_i h0; subst h0; rfl
        · rfl
      obtain ⟨v1, w1, hr, h2, h3, _, h5⟩ := run_append_own_at (P := P) W base t o.type e i0 (.int k 0) 1 bytes ht hi hz0 hz1 hz2 rfl (by omega) v xs.length (nums k xs) HO.own ad m c (nums k ys) (by simp [nums, hm]) hcells
        (by intro u hu; simp only [nums, List.mem_map] at hu; obtain ⟨q, _, rfl⟩ := hu; rfl) (by simp only [maxLen]; omega) hl hbase
      exact ⟨v1, w1, hr, ⟨by simpa [nums, hm] using h2⟩, h3, h5⟩
  obtain ⟨v1, w1, hr, hown, hg, hat⟩ := hrun
  refine wpList_plain hgd fun K hK => ?_
  unfold Oper.wp execOp
  simp only [ho, resolve, invoke, builtin, Sem.run_bind, Sem.run_pure, Result.andThen_ok, List.map_toArray, List.map_cons, List.map_nil, hs, hx, hr]
  have hsz := hg.size
  refine hK _ _ (h v1 w1 hown (HB.grown hg hbase HO.base_le) (by omega) hg ?_)
  rcases hat with hat | hat
  · exact .inl hat
  · exact .inr ⟨_, hat, Nat.le_refl _⟩
end
end Cusp
namespace Go.Proofs.YtkljejejabikiaaGreatDoor
open Go Go.RowKit Cusp

set_option maxHeartbeats 400000 in
set_option maxRecDepth 100000 in
theorem clone_calls (A : Option Addr) (n c : Nat) (l : List Int) (w : World) (h : Rd w .u32 A n c l) (hn : n ≤ 1000000000) :
    Calls Tryz.prog 276 #[.slice A n c] w fun e w' => ∃ v, e = .returned v ∧ Own w.heap.size w' 71 .u32 v l ∧ Ext w w' := by
  rcases A with _ | ad
  · have hl : l = [] := by
      rcases Nat.eq_zero_or_pos n with h0 | h0
      · exact List.eq_nil_of_length_eq_zero (by rw [h.len, h0])
      · obtain ⟨b, off, he, _⟩ := h.cell h0; cases he
    have hcn := fun wx => Lib.run_eql_slice_nil (P := Tryz.prog) wx 103 71 none n c 0 0 Tryz.underlying103
    go_enter Tryz.func276, Tryz.ntmps276
    go_wp2
    go_ret
    exact ⟨_, rfl, by rw [hl]; exact Own.nil _ _ _ _, Ext.refl _⟩
  · have hcn := fun wx => Lib.run_eql_slice_nil (P := Tryz.prog) wx 103 71 (some ad) n c 0 0 Tryz.underlying103
    go_enter Tryz.func276, Tryz.ntmps276
    go_wp2_with (at_builtin; refine append_row (w0 := w) w.heap.size rfl _ _ 103 4 rfl Tryz.underlying103 info_u32 (by omega) _ [] l _ _ _ rfl rfl (own_lit w _ _ .u32 [] (Nat.le_refl _) (by simp)) (h.ext ((Ext.refl w).alloc _)) ((Below.refl _ _).alloc (Nat.le_refl _) _) (by simp) ?c1 ?_)
    case c1 => simp; omega
    intro v1 w1 hO1 hB1 _ _ _
    go_wp2
    go_ret
    exact ⟨v1, rfl, by simpa using hO1, hB1⟩

set_option maxHeartbeats 400000 in
set_option maxRecDepth 100000 in
theorem cloneU_calls (A : Option Addr) (n c : Nat) (l : List Int) (w : World) (h : Rd w .u32 A n c l) (hn : n ≤ 1000000000) :
    Calls Tryz.prog 316 #[.slice A n c] w fun e w' => ∃ v, e = .returned v ∧ Own w.heap.size w' 71 .u32 v l ∧ Ext w w' := by
  rcases A with _ | ad
  · have hl : l = [] := by
      rcases Nat.eq_zero_or_pos n with h0 | h0
      · exact List.eq_nil_of_length_eq_zero (by rw [h.len, h0])
      · obtain ⟨b, off, he, _⟩ := h.cell h0; cases he
    have hcn := fun wx => Lib.run_eql_slice_nil (P := Tryz.prog) wx 42 71 none n c 0 0 Tryz.underlying42
    go_enter Tryz.func316, Tryz.ntmps316
    go_wp2
    go_ret
    exact ⟨_, rfl, by rw [hl]; exact Own.nil _ _ _ _, Ext.refl _⟩
  · have hcn := fun wx => Lib.run_eql_slice_nil (P := Tryz.prog) wx 42 71 (some ad) n c 0 0 Tryz.underlying42
    go_enter Tryz.func316, Tryz.ntmps316
    go_wp2_with (at_builtin; refine append_row (w0 := w) w.heap.size rfl _ _ 42 4 rfl Tryz.underlying42 info_u32 (by omega) _ [] l _ _ _ rfl rfl (own_lit w _ _ .u32 [] (Nat.le_refl _) (by simp)) (h.ext ((Ext.refl w).alloc _)) ((Below.refl _ _).alloc (Nat.le_refl _) _) (by simp) ?c1 ?_)
    case c1 => simp; omega
    intro v1 w1 hO1 hB1 _ _ _
    go_wp2
    go_ret
    exact ⟨v1, rfl, by simpa using hO1, hB1⟩

/-- A slice from a place on. -/
theorem slice_from {P : Program} (t e : TypeId) (kl : IntKind) {i : TypeInfo} (ht : P.underlying t = some (.slice e)) (hi : P.info? e = some i) (hsz : i.size = 1) (g n c m : Nat) (hm : m ≤ n) (hmc : m < c) :
    ∀ W : World, (Instr.slice t (.slice (some ⟨g, 0, none⟩) n c) (some (.int kl (m : Int))) none none).run P W = .ok (.slice (some ⟨g, m, none⟩) (n - m) (c - m)) W := by
  intro W
  have hel : P.elem t = e := by simp [Program.elem, ht]
  have hu : P.underlying t = some (.slice (P.elem t)) := by rw [hel]; exact ht
  rw [run_slice_l W t _ n c hu kl (m : Int) (Int.natCast_nonneg _) (by omega), hel]
  have hne : ¬ c = m := by omega
  simp [Go.sizeOf, typeInfo, hi, hsz, sliced, Result.andThen, hne, add_plain]

/-- The divisor, its highest bit set. -/
theorem norm_div {d m : Nat} (hl : (wd d).length = m) (hm : 0 < m) : ∃ K : Nat, (32 - (Lib.bitLen (ix (wd d) (m - 1)).toNat : Int)) = (K : Int) ∧ K ≤ 32 ∧ (wd (d * 2 ^ K)).length = m ∧ 4294967296 ^ (m - 1) ≤ d * 2 ^ K := by
  have hw := ix_words (words_wd d) (m - 1)
  have hne : ix (wd d) (m - 1) ≠ 0 := by rw [← hl]; exact last_of_trim (trim_wd d) (by omega)
  have hbl := bl_words (a := d) (n := m - 1) (by omega)
  rw [bitLen_eq (by omega)]
  obtain ⟨t, ht⟩ : ∃ t, t = (ix (wd d) (m - 1)).toNat := ⟨_, rfl⟩
  rw [← ht] at hbl ⊢
  have h1 : bl t ≤ 32 := bl_le_of_lt (by omega)
  have h2 := bl_pos (n := t) (by omega)
  refine ⟨32 - bl t, by omega, by omega, ?_⟩
  have hd0 : d ≠ 0 := by rintro rfl; rw [wd_zero] at hl; simp at hl; omega
  have hb := bl_mul_pow hd0 (32 - bl t)
  have hb' : bl (d * 2 ^ (32 - bl t)) = 32 * m := by omega
  have hV0 : d * 2 ^ (32 - bl t) ≠ 0 := Nat.mul_ne_zero hd0 (Nat.pos_iff_ne_zero.1 (Nat.pow_pos (by omega)))
  have hlo := bl_le hV0
  have hhi := lt_bl (d * 2 ^ (32 - bl t))
  rw [hb'] at hlo hhi
  generalize d * 2 ^ (32 - bl t) = V at *
  have e1 : (4294967296 : Nat) ^ m = 2 ^ (32 * m) := by rw [Nat.pow_mul]
  have e2 : (4294967296 : Nat) ^ (m - 1) = 2 ^ (32 * (m - 1)) := by rw [Nat.pow_mul]
  have h4 : 4294967296 ^ (m - 1) ≤ V := by rw [e2]; exact Nat.le_trans (Nat.pow_le_pow_right (by omega) (by omega)) hlo
  refine ⟨?_, h4⟩
  have h3 : (wd V).length ≤ m := len_wd_le (by rw [e1]; exact hhi)
  have h5 := lv_lt (words_wd V)
  rw [lv_wd] at h5
  have : ¬ (wd V).length ≤ m - 1 := fun h => by
    have := Nat.pow_le_pow_right (n := 4294967296) (by omega) h
    omega
  omega

/-- One digit of the quotient. -/
structure DivInv (V : Nat) (u0 ql ul : List Int) (jj : Nat) : Prop where
  qw : Words ql
  uw : Words ul
  ulen : ul.length = u0.length
  head : ul.take jj = u0.take jj
  val : lv (ql.drop jj) * V + lv (ul.drop jj) = lv (u0.drop jj)
  lt : lv (ul.drop jj) < V
theorem div_start {V N L m : Nat} {u0 : List Int} (hu0 : u0 = wd N ++ [0]) (hL : u0.length = L) (hmL : m < L) (hm : 0 < m) (hV : 4294967296 ^ (m - 1) ≤ V) : DivInv V u0 (List.replicate (L - m) 0) u0 (L - m) := by
  have hw : Words u0 := by rw [hu0]; exact words_snoc (words_wd N) (by omega) (by omega)
  refine ⟨words_replicate _, hw, rfl, rfl, by rw [List.drop_eq_nil_of_le (by simp)]; simp [lv], ?_⟩
  have hlen : (wd N).length = L - 1 := by rw [hu0] at hL; simp at hL; omega
  rw [hu0, List.drop_append_of_le_length (by omega), lv_snoc]
  have h := lv_lt (words_drop (words_wd N) (L - m))
  rw [List.length_drop, hlen, show L - 1 - (L - m) = m - 1 by omega] at h
  simpa using Nat.lt_of_lt_of_le h hV
theorem div_lt {V jj : Nat} {u0 ql ul : List Int} (h : DivInv V u0 ql ul (jj + 1)) : lv (ul.drop jj) < V * 4294967296 := by
  have h1 := h.lt
  have h2 := ix_words h.uw jj
  rw [lv_drop_step]
  generalize lv (ul.drop (jj + 1)) = x at *
  omega
theorem div_next {V jj : Nat} {u0 ql ul ul' : List Int} (h : DivInv V u0 ql ul (jj + 1)) (hw : Words ul') (hlen : ul'.length = ul.length) (htk : ul'.take jj = ul.take jj) (hr : lv (ul'.drop jj) = lv (ul.drop jj) % V) (hq : jj < ql.length) :
    DivInv V u0 (ql.set jj ((lv (ul.drop jj) / V : Nat) : Int)) ul' jj ∧ lv (ul.drop jj) / V < 4294967296 := by
  have h1 := div_lt h
  have hV : 0 < V := by have := h.lt; omega
  have hd : lv (ul.drop jj) / V < 4294967296 := Nat.div_lt_of_lt_mul h1
  have hix : ix ul jj = ix u0 jj := by
    rw [← ix_take (l := ul) (i := jj + 1) (by omega), ← ix_take (l := u0) (i := jj + 1) (by omega), h.head]
  refine ⟨⟨words_set h.qw _ (by generalize lv (ul.drop jj) / V = q at *; omega) (by generalize lv (ul.drop jj) / V = q at *; omega), hw, by rw [hlen, h.ulen], ?_, ?_, by rw [hr]; exact Nat.mod_lt _ hV⟩, hd⟩
  · rw [htk]
    have := congrArg (List.take jj) h.head
    simpa [List.take_take, Nat.min_eq_left (Nat.le_succ jj)] using this
  · rw [hr, lv_drop_step (ql.set _ _), ix_set_same hq, lv_drop_step u0, ← hix, List.drop_set_of_lt (by omega)]
    have hv := h.val
    have hdm := Nat.div_add_mod (lv (ul.drop jj)) V
    rw [lv_drop_step ul jj] at hdm ⊢
    have h2 := ix_words h.uw jj
    rw [← hv]
    generalize lv (ul.drop (jj + 1)) = x at *
    generalize lv (ql.drop (jj + 1)) = y at *
    generalize ((ix ul jj).toNat + 4294967296 * x) / V = q at *
    generalize ((ix ul jj).toNat + 4294967296 * x) % V = r at *
    rw [Int.toNat_natCast, Nat.add_mul, Nat.mul_assoc, Nat.mul_comm q V]
    generalize y * V = z at *
    generalize V * q = zz at *
    omega
theorem div_end {d a K : Nat} {u0 ql ul : List Int} (hu0 : u0 = wd (a * 2 ^ K) ++ [0]) (h : DivInv (d * 2 ^ K) u0 ql ul 0) : lv ql = a / d ∧ lv ul / 2 ^ K = a % d := by
  have hv := h.val
  have hl := h.lt
  simp only [List.drop_zero] at hv hl
  rw [hu0, lv_snoc, lv_wd] at hv
  simp only [Int.toNat_zero, Nat.mul_zero, Nat.add_zero] at hv
  have hV : 0 < d * 2 ^ K := by omega
  have e1 : lv ql = a * 2 ^ K / (d * 2 ^ K) := by
    rw [← hv, Nat.mul_comm, Nat.mul_add_div hV, Nat.div_eq_of_lt hl, Nat.add_zero]
  have e2 : lv ul = a * 2 ^ K % (d * 2 ^ K) := by
    rw [← hv, Nat.mul_comm, Nat.mul_add_mod, Nat.mod_eq_of_lt hl]
  have hp : 0 < 2 ^ K := Nat.pow_pos (by omega)
  rw [e1, e2, Nat.mul_div_mul_right _ _ hp, Nat.mul_mod_mul_right, Nat.mul_div_cancel _ hp]
  exact ⟨rfl, rfl⟩

set_option maxHeartbeats 4000000 in
set_option maxRecDepth 100000 in
theorem div_walk (A D : Option Addr) (n m c cd a d : Nat) (w : World) (ha : Nt w A n c a) (hd : Nt w D m cd d) (hn : n ≤ 900000000) (hm : 2 ≤ m) (hda : d ≤ a) :
    Calls Tryz.prog 219 #[.slice A n c, .slice D m cd] w fun e w' => ∃ A1 n1 c1 A2 n2 c2, e = .returned (.tuple #[.slice A1 n1 c1, .slice A2 n2 c2]) ∧ Nt w' A1 n1 c1 (a / d) ∧ Nt w' A2 n2 c2 (a % d) ∧ Ext w w' := by
  have L1 := Lib.hid ha.len
  have L2 := Lib.hid hd.len
  have hmn : m ≤ n := by rw [← L1.out, ← L2.out]; exact len_wd_mono hda
  have t1 : ((m : Int) == 1) = false := by rw [beq_eq_false_iff_ne]; omega
  have t2 : ¬ ord a d < 0 := by unfold ord; rw [if_neg (by omega)]; split <;> omega
  have hd0 : 0 < d := by
    rcases Nat.eq_zero_or_pos d with h | h
    · rw [h, wd_zero] at L2; have := L2.out; simp at this; omega
    · exact h
  obtain ⟨K, hK, hK32, hVl, hV⟩ := norm_div L2.out (by omega)
  obtain ⟨b1, o1, rfl, hx⟩ := hd.cell (by omega)
  have x1 := hx (m - 1) (by omega)
  have i1 : ((m : Int) - 1).toNat = m - 1 := by omega
  have j0 : 1 ≤ (m : Int) := by omega
  have r1 := ix_words (words_wd d) (m - 1)
  clear hx
  go_enter Tryz.func219, Tryz.ntmps219
  go_wp2_with fail
  refine (cmp_calls _ _ _ _ _ _ a d _ ha hd).mono ?_
  rintro e w1 ⟨rfl, hx1⟩
  have x1' := hx1.cell x1
  go_wp2_with fail
  refine (Tryz.bits_LeadingZeros32 _ _ r1.1 (by omega)).mono ?_
  rintro e w2 ⟨rfl, rfl⟩
  rw [hK]
  go_wp2_with fail
  refine (shl_calls _ _ _ d K _ (hd.ext hx1) (by omega) (by omega)).mono ?_
  rintro e w3 ⟨Av, mv, cv, rfl, hv3, hx3⟩
  have hmv : mv = m := by rw [← hv3.len, hVl]
  subst hmv
  go_wp2_with fail
  refine (shl_calls _ _ _ a K _ ((ha.ext hx1).ext hx3) (by omega) (by omega)).mono ?_
  rintro e w4 ⟨Au, mu, cu, rfl, hu4, hx4⟩
  have hK64 : 2 ^ K ≤ 4294967296 := Nat.pow_le_pow_right (n := 2) (by omega) hK32
  have LU := Lib.hid hu4.len
  have hmu : n ≤ mu ∧ mu ≤ n + 2 := by
    have h1 := len_wd_mul a (2 ^ K)
    have h2 := len_wd_small (a := 2 ^ K) (by omega)
    have h3 := len_wd_mono (Nat.le_mul_of_pos_right a (Nat.pow_pos (n := K) (show 0 < 2 by omega)))
    rw [LU.out] at h1 h3
    rw [L1.out] at h1 h3
    omega
  go_wp2_with fail
  refine (clone_calls _ _ _ _ _ hu4 (by omega)).mono ?_
  rintro e w5 ⟨v5, rfl, hO5, hx5⟩
  have hM := Lib.hid LU
  have hBw : w4.heap.size ≤ w5.heap.size := hx5.size
  go_wp2_with (at_builtin; refine append_one (w0 := w5) w4.heap.size rfl _ _ 103 4 rfl Tryz.underlying103 info_u32 (by omega) _ (wd (a * 2 ^ K)) rfl rfl hO5 (Below.refl _ w5) hBw ?c1 ?_)
  case c1 => rw [LU.out]; omega
  intro v6 w6 hO6 hB6 hsz6 _ _
  obtain ⟨gu, cw, hv6, hgB⟩ := hO6.form_pos (by simp)
  obtain ⟨L, hL⟩ : ∃ L, L = mu + 1 := ⟨_, rfl⟩
  have hul : (wd (a * 2 ^ K) ++ [0]).length = L := by rw [List.length_append, LU.out, hL]; rfl
  rw [hul] at hv6
  subst hv6
  have hLb : n + 1 ≤ L ∧ L ≤ n + 3 := by omega
  clear hL
  have hgu := (hO6.own.lt gu rfl).2
  have hE6 : Ext w4 w6 := Below.trans hx5 hB6
  have hcw : L ≤ cw ∧ cw ≤ 9223372036854775807 := ⟨hO6.rd.cap, hO6.rd.big⟩
  have hmk := make_all (P := Tryz.prog) 103 71 .u32 4 Tryz.underlying103 info_u32 (by omega) (L - mv) (by omega)
  rw [show ((L - mv : Nat) : Int) = (L : Int) - mv by omega] at hmk
  have tL : ((L : Int) == (n : Int)) = false := by rw [beq_eq_false_iff_ne]; omega
  have hst := div_start (u0 := wd (a * 2 ^ K) ++ [0]) rfl hul (by omega) (by omega) hV
  have HUL := Lib.hid hul; clear hul
  have HVL := Lib.hid hVl; clear hVl
  obtain ⟨V, hVV⟩ : ∃ V, V = d * 2 ^ K := ⟨_, rfl⟩
  obtain ⟨u0, hu0⟩ : ∃ u0, u0 = wd (a * 2 ^ K) ++ [0] := ⟨_, rfl⟩
  rw [← hVV, ← hu0] at hst
  rw [← hVV] at hv3 HVL
  rw [← hu0] at hO6 HUL
  have hVV' := Lib.hid hVV
  have hu0' := Lib.hid hu0
  clear hVV hu0
  go_wp2_with fail
  go_loopw [12] (fun j wr => ∃ (k : Nat) (ql ul : List Int), k ≤ L - mv ∧ j = .int .i64 ((k : Int) - 1) ∧ DivInv V u0 ql ul k ∧ ql.length = L - mv ∧
      Own w4.heap.size wr 71 .u32 (.slice (some ⟨w6.heap.size, 0, none⟩) (L - mv) (L - mv)) ql ∧ Own w4.heap.size wr 71 .u32 (.slice (some ⟨gu, 0, none⟩) L cw) ul ∧ Ext w4 wr) (fun j _ => (intOf j + 1).toNat)
  case atStart => exact ⟨L - mv, List.replicate (L - mv) 0, u0, by omega, by rw [show ((L - mv : Nat) : Int) = (L : Int) - mv by omega], hst, by simp, own_made w6 _ _ _ _ (by omega) (by omega), hO6.alloc _, hE6.alloc _⟩
  case round =>
    obtain ⟨k, ql, ul, hk, rfl, hI, hqlen, hOq, hOu, hE⟩ := hrel
    have HI := Lib.hid hI; clear hI
    have HQ := Lib.hid hqlen; clear hqlen
    cases k with
    | zero =>
      rw [show ((0 : Nat) : Int) - 1 = -1 from rfl]
      go_wp2_with fail
      have hHV := hVV'.out
      have hH0 := hu0'.out
      have hI := HI.out
      rw [hHV] at hI
      have hend := div_end hH0 hI
      clear hHV hH0 hI
      refine (trim_nt _ _ _ (a / d) ql _ hOq.rd HI.out.qw hend.1).mono ?_
      rintro e w7 ⟨m7, hm7, rfl, hn7, hx7⟩
      go_wp2_with fail
      refine (trim_nt _ _ _ (lv ul) ul _ ((hOu.ext hx7).rd) HI.out.uw rfl).mono ?_
      rintro e w8 ⟨m8, hm8, rfl, hn8, hx8⟩
      go_wp2_with fail
      refine (shr_calls _ _ _ (lv ul) K _ hn8 (by omega) (by omega)).mono ?_
      rintro e w9 ⟨A9, n9, c9, rfl, hn9, hx9⟩
      rw [hend.2] at hn9
      go_wp2
      go_ret2
      exact ⟨_, _, _, A9, n9, c9, rfl, (hn7.ext hx8).ext hx9, hn9, hx1.trans (hx3.trans (hx4.trans (hE.trans (hx7.trans (hx8.trans hx9)))))⟩
    | succ k =>
      rw [show ((k + 1 : Nat) : Int) - 1 = (k : Int) by omega]
      obtain ⟨ui, hui, hz0⟩ := Option.map_eq_some_iff.1 info_u32
      simp only [Prod.mk.injEq] at hz0
      have hsl := slice_from (P := Tryz.prog) 103 71 .i64 Tryz.underlying103 hui hz0.2.1 gu L cw k (by omega) (by omega)
      have hlt := Lib.hid (div_lt HI.out)
      go_wp2_with fail
      refine (step_calls gu L cw k mv cv V w4.heap.size ul Av w3 wr hOu HI.out.uw hv3 (hx4.trans hE) hx4.size hE.size hm (by omega) (by omega) hlt.out).mono ?_
      rintro e w7 ⟨rfl, ul', hOu', hwl', hlen', htk', hr', hB7, hG7, hs7⟩
      have hne : w6.heap.size ≠ gu := Nat.ne_of_gt hgu
      have hOq' : Own w4.heap.size w7 71 .u32 (.slice (some ⟨w6.heap.size, 0, none⟩) (L - mv) (L - mv)) ql := ⟨hOq.own.kept hG7 (.inr (fun h => hne (Option.some.inj h)))⟩
      obtain ⟨x3, f3⟩ := hOq'.at_ k (by rw [HQ.out]; omega)
      have hnx := Lib.hid (div_next HI.out hwl' hlen' htk' hr' (by rw [HQ.out]; omega))
      have hkL : (k : Int) < (L : Int) - mv := by omega
      clear hlen' htk' hr'
      have h46 := hE6.size
      go_wp2
      go_roundw
      case rel => exact ⟨k, _, ul', by omega, rfl, hnx.out.1, by simp [HQ.out], hOq'.store _ _, hOu'.other _ _ (fun h => hne (Option.some.inj h).symm), Below.setCell (Below.trans hE hB7) h46 _⟩
      case measure => simp [intOf]
end Go.Proofs.YtkljejejabikiaaGreatDoor

/- Noughts behind a number's lowest one; the quotient and what is left; the greatest divisor. -/
namespace Go.Proofs.YtkljejejabikiaaGreatDoor
open Go Go.RowKit Cusp

/-- What the library's variables hold; all of it lies below block B. -/
structure Glob (B : Nat) (w : World) : Prop where
  size : B ≤ w.heap.size
  min : 13 ≤ B
  tz : TabAt 11 Lib.deBruijn32tab w
theorem Glob.below {B : Nat} {w w' : World} (h : Glob B w) (e : Below B w w') : Glob B w' := by
  have := h.min
  exact ⟨Nat.le_trans h.size e.size, h.min, fun j hj => by rw [Below.cell e (by show (11 : Nat) < B; omega)]; exact h.tz j hj⟩
theorem Glob.ext {B : Nat} {w w' : World} (h : Glob B w) (e : Ext w w') : Glob B w' := h.below (Below.mono e h.size)

set_option maxHeartbeats 1000000 in
theorem tz32_core (x k idx : Nat) (w : World) (hx0 : ((x : Int) == 0) = false)
    (key : bits BinOp.and IntKind.u32 (x : Int) (-(x : Int) % 4294967296) * 125613361 % 4294967296 / 134217728 = (idx : Int))
    (hi : idx < 32) (hk : k < 32) (hcell : w.cell? ⟨11, idx, none⟩ = some (.int .u8 k)) :
    Calls Tryz.prog 320 #[.int .u32 x] w fun e w' => e = .returned (.int .i64 k) ∧ w' = w := by
  go_enter Tryz.func320, Tryz.ntmps320
  go_wp2_with (simp only [key])
  go_ret
  exact ⟨rfl, rfl⟩

theorem tz32_calls (x : Nat) (w : World) (hx0 : x ≠ 0) (hx : x < 4294967296) {B : Nat} (hG : Glob B w) :
    Calls Tryz.prog 320 #[.int .u32 x] w fun e w' => ∃ k : Nat, e = .returned (.int .i64 k) ∧ w' = w ∧ k < 32 ∧ ∃ m, x = 2 ^ k * (2 * m + 1) := by
  obtain ⟨hlow, hk⟩ := Lib.lowest_bit 32 x hx0 hx
  obtain ⟨hi, htab⟩ := Lib.deBruijn32_at _ hk
  have hcell := hG.tz _ hi
  rw [htab] at hcell
  refine (tz32_core x _ _ w (by simp; omega) (tz32_key x _ hx hx0 hlow) hi hk hcell).mono ?_
  rintro e w' ⟨rfl, rfl⟩
  refine ⟨_, rfl, rfl, hk, ?_⟩
  unfold Lib.ctz
  rw [if_neg hx0]
  obtain ⟨m, hm, _⟩ := Lib.ctzFrom_spec 32 x (by omega) (by simpa using hx)
  exact ⟨m, hm⟩

theorem low_zero {a : Nat} {k : Nat} (h : ∀ j, j < k → ix (wd a) j = 0) : lv ((wd a).take k) = 0 := by
  induction k with
  | zero => simp [lv]
  | succ k ih => rw [lv_take_succ, ih (fun j hj => h j (by omega)), h k (by omega)]; simp

theorem odd_part {a k z : Nat} (hk : k < (wd a).length) (h : ∀ j, j < k → ix (wd a) j = 0) (hz : ∃ m, (ix (wd a) k).toNat = 2 ^ z * (2 * m + 1)) (hz32 : z < 32) : ∃ m, a = 2 ^ (32 * k + z) * (2 * m + 1) := by
  have h1 := lv_drop (wd a) k (by omega)
  rw [lv_wd, low_zero h, Nat.zero_add, lv_drop_step] at h1
  obtain ⟨m, hm⟩ := hz
  rw [hm] at h1
  generalize lv ((wd a).drop (k + 1)) = y at h1
  refine ⟨m + 2 ^ (31 - z) * y, ?_⟩
  have e1 : (4294967296 : Nat) = 2 ^ z * (2 * 2 ^ (31 - z)) := by
    rw [← Nat.pow_succ', ← Nat.pow_add]
    have : z + (31 - z).succ = 32 := by omega
    rw [this]
  have e2 : (4294967296 : Nat) ^ k = 2 ^ (32 * k) := by rw [Nat.pow_mul]
  rw [e2] at h1
  rw [h1, Nat.pow_add, Nat.mul_assoc]
  congr 1
  have e3 : 2 * (m + 2 ^ (31 - z) * y) + 1 = (2 * m + 1) + 2 * 2 ^ (31 - z) * y := by
    rw [Nat.mul_add, Nat.mul_assoc]; omega
  rw [e3, Nat.mul_add (2 ^ z) (2 * m + 1)]
  congr 1
  rw [← Nat.mul_assoc (2 ^ z), ← e1]

set_option maxHeartbeats 2000000 in
set_option maxRecDepth 100000 in
/-- Noughts behind the lowest one. -/
theorem zeros_calls (A : Option Addr) (n c a : Nat) (w : World) (ha : Nt w A n c a) (hn : n ≤ 1000000000) {B : Nat} (hG : Glob B w) :
    Calls Tryz.prog 325 #[.slice A n c] w fun e w' => ∃ k : Nat, e = .returned (.int .u64 (k : Int)) ∧ w' = w ∧ k < 32 * n + 1 ∧ (a ≠ 0 → ∃ m, a = 2 ^ k * (2 * m + 1)) := by
  have L1 := Lib.hid ha.len
  go_enter Tryz.func325, Tryz.ntmps325
  go_wp2
  go_loopw [7] (fun i w' => ∃ (k : Nat), k ≤ n ∧ i = .int .i64 k ∧ (∀ j, j < k → ix (wd a) j = 0) ∧ w' = w) (fun i _ => n - (intOf i).toNat)
  case atStart => exact ⟨0, by omega, rfl, fun j hj => absurd hj (by omega), rfl⟩
  case round =>
    obtain ⟨k, hk, rfl, hz, rfl⟩ := hrel
    have HZ := Lib.hid hz; clear hz
    by_cases hlt : k < n
    · obtain ⟨b1, o1, rfl, x1⟩ := ha.at_ k hlt
      have r1 := ix_words (words_wd a) k
      by_cases h0 : ix (wd a) k = 0
      · go_wp2
        go_roundw
        case rel =>
          refine ⟨k + 1, by omega, by simp, fun j hj => ?_, trivial⟩
          rcases Nat.lt_or_ge j k with h | h
          · exact HZ.out j h
          · rw [show j = k by omega]; exact h0
        case measure => simp [intOf]; omega
      · obtain ⟨X, hX⟩ : ∃ X : Nat, ix (wd a) k = (X : Int) := ⟨(ix (wd a) k).toNat, by omega⟩
        have HX := Lib.hid hX
        rw [hX] at x1 h0 r1
        clear hX
        have t0 : ((X : Int) != 0) = true := by rw [bne_iff_ne]; exact h0
        go_wp2_with fail
        refine (tz32_calls X _ (by omega) (by omega) hG).mono ?_
        rintro e w1 ⟨z, rfl, rfl, hz32, hzz⟩
        go_wp2
        go_ret
        refine ⟨32 * k + z, ?_, rfl, by omega, fun _ => odd_part (by rw [L1.out]; exact hlt) HZ.out (by rw [HX.out]; simpa using hzz) hz32⟩
        apply ret_int
        omega
    · have hkn : k = n := by omega
      subst hkn
      go_wp2
      go_ret
      refine ⟨0, rfl, rfl, by omega, fun h => ?_⟩
      have h1 := low_zero HZ.out
      rw [lv_take_all _ (by rw [L1.out]; omega), lv_wd] at h1
      exact absurd h1 h

set_option maxHeartbeats 2000000 in
set_option maxRecDepth 100000 in
/-- The quotient and what is left, of any divisor that is not 0. -/
theorem div_calls (A D : Option Addr) (n m c cd a d : Nat) (w : World) (ha : Nt w A n c a) (hd : Nt w D m cd d) (hn : n ≤ 900000000) (hd0 : 0 < d) :
    Calls Tryz.prog 219 #[.slice A n c, .slice D m cd] w fun e w' => ∃ A1 n1 c1 A2 n2 c2, e = .returned (.tuple #[.slice A1 n1 c1, .slice A2 n2 c2]) ∧ Nt w' A1 n1 c1 (a / d) ∧ Nt w' A2 n2 c2 (a % d) ∧ Ext w w' := by
  have L1 := Lib.hid ha.len
  have L2 := Lib.hid hd.len
  have hm0 : m ≠ 0 := by
    rintro rfl
    have := wd_eq_nil.1 (List.eq_nil_of_length_eq_zero L2.out)
    omega
  by_cases hlt : a < d
  · have t2 : ord a d < 0 := by unfold ord; rw [if_pos hlt]; omega
    have hq : a / d = 0 := Nat.div_eq_of_lt hlt
    have hr : a % d = a := Nat.mod_eq_of_lt hlt
    go_enter Tryz.func219, Tryz.ntmps219
    go_wp2_with fail
    refine (cmp_calls _ _ _ _ _ _ a d _ ha hd).mono ?_
    rintro e w1 ⟨rfl, hx1⟩
    go_wp2_with fail
    go_ret2
    refine ⟨none, 0, 0, A, n, c, rfl, ?_, ?_, hx1⟩
    · rw [hq]; unfold Nt; rw [wd_zero]; exact Rd.nil _ _ _ _ (by omega)
    · rw [hr]; exact ha.ext hx1
  · rcases Nat.lt_or_ge m 2 with hm | hm
    · obtain rfl : m = 1 := by omega
      have t2 : ¬ ord a d < 0 := by unfold ord; rw [if_neg (by omega)]; split <;> omega
      obtain ⟨b1, o1, rfl, x1⟩ := hd.at_ 0 (by omega)
      have hd1 : d < 4294967296 := by
        have := lv_lt (words_wd d); rw [lv_wd, L2.out] at this; simpa using this
      have hix : ix (wd d) 0 = (d : Int) := by
        rw [wd_pos (by omega)]; simp [ix]; omega
      rw [hix, Nat.add_zero] at x1
      go_enter Tryz.func219, Tryz.ntmps219
      go_wp2_with fail
      refine (cmp_calls _ _ _ _ _ _ a d _ ha hd).mono ?_
      rintro e w1 ⟨rfl, hx1⟩
      have x1' := hx1.cell x1
      go_wp2_with fail
      refine (short_calls _ _ _ a d _ (ha.ext hx1) (by omega) hd0 hd1).mono ?_
      rintro e w2 ⟨n2, c2, rfl, hn2, hx2⟩
      have hmd : ((a % d : Nat) : Int) < 4294967296 := by have := Nat.mod_lt a hd0; generalize a % d = r at *; omega
      have hmd0 : (0 : Int) ≤ ((a % d : Nat) : Int) := Int.natCast_nonneg _
      obtain ⟨r, hr⟩ : ∃ r, r = a % d := ⟨_, rfl⟩
      rw [← hr] at hmd hmd0 ⊢
      have HR := Lib.hid hr
      clear hr
      go_wp2_with fail
      refine (small_calls (r : Int) _ hmd0 (by omega)).mono ?_
      rintro e w3 ⟨A3, n3, c3, rfl, hn3, hx3⟩
      rw [Int.toNat_natCast] at hn3
      go_wp2_with fail
      go_ret2
      exact ⟨_, _, _, A3, n3, c3, rfl, hn2.ext hx3, by rw [← HR.out]; exact hn3, hx1.trans (hx2.trans hx3)⟩
    · exact div_walk A D n m c cd a d w ha hd hn hm (by omega)

open Classical in
/-- The number of a slice. -/
noncomputable def ntVal (v : Value) (w : World) : Nat := if h : ∃ b A n c, v = .slice A n c ∧ Nt w A n c b then h.choose else 0
theorem Nt.uniq {w : World} {A : Option Addr} {n c a b : Nat} (h : Nt w A n c a) (k : Nt w A n c b) : a = b := by
  have : wd a = wd b := by
    apply List.ext_getElem (by rw [h.len, k.len])
    intro i h1 h2
    have e1 : (wd a)[i] = ix (wd a) i := (ix_of_lt h1).symm
    have e2 : (wd b)[i] = ix (wd b) i := (ix_of_lt h2).symm
    rw [e1, e2]
    obtain ⟨b1, o1, rfl, x1⟩ := h.at_ i (by rw [← h.len]; exact h1)
    obtain ⟨b2, o2, hh, x2⟩ := k.at_ i (by rw [← h.len]; exact h1)
    injection hh with hh
    injection hh with hh1 hh2
    subst hh1 hh2
    rw [x1] at x2
    injection x2 with x2
    injection x2 with _ x2
  rw [← lv_wd a, this, lv_wd]
theorem ntVal_eq {w : World} {A : Option Addr} {n c a : Nat} (h : Nt w A n c a) : ntVal (.slice A n c) w = a := by
  have hex : ∃ b A' n' c', Value.slice A n c = .slice A' n' c' ∧ Nt w A' n' c' b := ⟨a, A, n, c, rfl, h⟩
  unfold ntVal
  rw [dif_pos hex]
  obtain ⟨A', n', c', he, hn⟩ := hex.choose_spec
  injection he with h1 h2 h3
  subst h1 h2 h3
  exact hn.uniq h

set_option maxHeartbeats 2000000 in
set_option maxRecDepth 100000 in
/-- The greatest divisor of both. -/
theorem gcd_calls (A B : Option Addr) (n m c d a b : Nat) (w : World) (ha : Nt w A n c a) (hb : Nt w B m d b) (hn : n ≤ 900000000) (hm : m ≤ 900000000) :
    Calls Tryz.prog 271 #[.slice A n c, .slice B m d] w fun e w' => ∃ A' n' c', e = .returned (.slice A' n' c') ∧ Nt w' A' n' c' (Nat.gcd a b) ∧ Ext w w' := by
  go_enter Tryz.func271, Tryz.ntmps271
  go_wp2
  go_loopw [0, 1] (fun x y w' => ∃ A n c a' B m d b', x = .slice A n c ∧ y = .slice B m d ∧ n ≤ 900000000 ∧ m ≤ 900000000 ∧ Nt w' A n c a' ∧ Nt w' B m d b' ∧ Nat.gcd a' b' = Nat.gcd a b ∧ Ext w w') (fun _ y w' => ntVal y w')
  case atStart => exact ⟨A, n, c, a, B, m, d, b, rfl, rfl, hn, hm, ha, hb, rfl, Ext.refl _⟩
  case round =>
    obtain ⟨A, n, c, a', B, m, d, b', rfl, rfl, hn, hm, ha, hb, hg, hx⟩ := hrel
    have HG := Lib.hid hg; clear hg
    rcases Nat.eq_zero_or_pos m with h0 | h0
    · subst h0
      have hb0 : b' = 0 := wd_eq_nil.1 (List.eq_nil_of_length_eq_zero hb.len)
      go_wp2
      go_ret
      refine ⟨A, n, c, rfl, ?_, hx⟩
      have h := HG.out
      rw [hb0, Nat.gcd_zero_right] at h
      rw [← h]; exact ha
    · have hb0 : 0 < b' := by
        rcases Nat.eq_zero_or_pos b' with h | h
        · have h2 := hb.len; rw [h, wd_zero] at h2; simp at h2; omega
        · exact h
      have hm0 : (0 : Int) < (m : Int) := by omega
      go_wp2_with fail
      refine (div_calls _ _ _ _ _ _ a' b' _ ha hb (by omega) hb0).mono ?_
      rintro e w1 ⟨A1, n1, c1, A2, n2, c2, rfl, h1, h2, hx1⟩
      have hlt := Lib.hid (Nat.mod_lt a' hb0)
      have hn2 : n2 ≤ 900000000 := by
        have h3 := len_wd_mono (Nat.le_of_lt hlt.out)
        rw [← h2.len]
        exact Nat.le_trans h3 (by rw [hb.len]; exact hm)
      have hv1 := ntVal_eq h2
      have hv2 := ntVal_eq hb
      go_wp2
      go_roundw
      case rel => exact ⟨B, m, d, b', A2, n2, c2, a' % b', rfl, rfl, hm, hn2, hb.ext hx1, h2, by rw [← HG.out, Nat.gcd_comm a' b', Nat.gcd_rec b' a', Nat.gcd_comm], hx.trans hx1⟩
      case measure => rw [hv1, hv2]; exact hlt.out
end Go.Proofs.YtkljejejabikiaaGreatDoor

/- Strings as lists of bytes' values; decimal digits. Plain, no program. -/
namespace Cusp
open Go

theorem st_append (l m : List Int) : strOfNums l ++ strOfNums m = strOfNums (l ++ m) := by
  apply ByteArray.ext
  simp [strOfNums]
theorem st_extract (l : List Int) (i j : Nat) : (strOfNums l).extract i j = strOfNums ((l.drop i).take (j - i)) := by
  apply ByteArray.ext
  rw [ByteArray.data_extract]
  apply Array.toList_inj.1
  simp [strOfNums, List.map_drop, List.map_take]
theorem st_size (l : List Int) : (strOfNums l).size = l.length := strOfNums_size l
theorem st_empty : strOfNums [] = ByteArray.empty := rfl
/-- The bytes of a string. -/
def bs (s : ByteArray) : List Int := s.data.toList.map (fun b => (b.toNat : Int))
theorem st_bs (s : ByteArray) : strOfNums (bs s) = s := by
  apply ByteArray.ext
  apply Array.toList_inj.1
  simp [strOfNums, bs, List.map_map, Function.comp_def]
def Bytes (l : List Int) : Prop := ∀ x ∈ l, 0 ≤ x ∧ x < 256
theorem bytes_bs (s : ByteArray) : Bytes (bs s) := by
  intro x hx
  simp only [bs, List.mem_map] at hx
  obtain ⟨b, _, rfl⟩ := hx
  have := b.toNat_lt
  omega
theorem bs_st {l : List Int} (h : Bytes l) : bs (strOfNums l) = l := by
  simp only [bs, strOfNums, List.map_map]
  apply List.ext_getElem (by simp)
  intro i h1 h2
  have := h l[i] (List.getElem_mem h2)
  simp
  omega
theorem bs_length (s : ByteArray) : (bs s).length = s.size := by unfold bs; rw [List.length_map]; rfl

/-- Decimal digits, the lowest first. -/
def dg (n : Nat) : List Int := if n = 0 then [] else (48 + (n % 10 : Nat) : Int) :: dg (n / 10)
  termination_by n
  decreasing_by omega
theorem dg_zero : dg 0 = [] := by rw [dg]; simp
theorem dg_pos {n : Nat} (h : n ≠ 0) : dg n = (48 + (n % 10 : Nat) : Int) :: dg (n / 10) := by
  conv => lhs; rw [dg]
  rw [if_neg h]
/-- A number's decimal text. -/
def dec (n : Nat) : List Int := if n = 0 then [48] else (dg n).reverse
end Cusp

/- A number's decimal digits: package big's text. -/
namespace Go.Proofs.YtkljejejabikiaaGreatDoor
open Go Go.RowKit Cusp

theorem info_u8 : (Tryz.prog.info? 5).map (fun i => (i.zero, i.size, i.bytes)) = some (some (.int .u8 0), 1, 1) := by kernel_rfl

/-- After so many swaps. -/
def Half (l l1 : List Int) (k : Nat) : Prop := l1.length = l.length ∧ ∀ p, p < l.length → ix l1 p = if p < k ∨ l.length - 1 - k < p then ix l (l.length - 1 - p) else ix l p
theorem half_zero (l : List Int) : Half l l 0 := ⟨rfl, fun p hp => by rw [if_neg (by omega)]⟩
theorem half_next {l l1 : List Int} {k : Nat} (h : Half l l1 k) (hk : k < l.length - 1 - k) : Half l ((l1.set k (ix l1 (l.length - 1 - k))).set (l.length - 1 - k) (ix l1 k)) (k + 1) := by
  obtain ⟨h1, h2⟩ := h
  refine ⟨by simp [h1], fun p hp => ?_⟩
  by_cases e1 : p = l.length - 1 - k
  · subst e1
    rw [ix_set_same (by simp [h1]; omega), h2 k (by omega), if_neg (by omega), if_pos (by omega)]
    congr 1; omega
  · rw [ix_set_other (by omega)]
    by_cases e2 : p = k
    · subst e2
      rw [ix_set_same (by omega), h2 _ (by omega), if_neg (by omega), if_pos (by omega)]
    · rw [ix_set_other (by omega), h2 p hp]
      by_cases e3 : p < k ∨ l.length - 1 - k < p
      · rw [if_pos e3, if_pos (by omega)]
      · rw [if_neg e3, if_neg (by omega)]
theorem half_end {l l1 : List Int} {k : Nat} (h : Half l l1 k) (hk : ¬ k < l.length - 1 - k) : l1 = l.reverse := by
  obtain ⟨h1, h2⟩ := h
  apply List.ext_getElem (by simp [h1])
  intro p hp1 hp2
  have e1 : l1[p] = ix l1 p := (ix_of_lt hp1).symm
  rw [e1, h2 p (by omega), List.getElem_reverse]
  have e2 : l[l.length - 1 - p] = ix l (l.length - 1 - p) := (ix_of_lt (by omega)).symm
  rw [e2]
  split
  · rfl
  · rename_i hh
    congr 1; omega

set_option maxHeartbeats 2000000 in
set_option maxRecDepth 100000 in
/-- slices.Reverse at bytes of the call's own. -/
theorem reverse_calls (g L c B : Nat) (l : List Int) (w : World)
    (hO : Own B w 5 .u8 (.slice (some ⟨g, 0, none⟩) L c) l) (hB : B ≤ w.heap.size) (h0 : 0 < L) (hL : L ≤ 9000000000000000000) :
    Calls Tryz.prog 273 #[.slice (some ⟨g, 0, none⟩) L c] w fun e w' => e = .returned (.tuple #[]) ∧ Own B w' 5 .u8 (.slice (some ⟨g, 0, none⟩) L c) l.reverse ∧ Below B w w' ∧ B ≤ w'.heap.size := by
  have LL := Lib.hid hO.rd.len
  have hgB : B ≤ g := hO.base_le g rfl
  have hw : wrap64 ((L : Int) - 1) = (L : Int) - 1 := by unfold wrap64; omega
  go_enter Tryz.func273, Tryz.ntmps273
  go_wp2
  go_loopw [2, 3] (fun i j wr => ∃ (k q : Nat) (l1 : List Int), k + q + 1 = L ∧ i = .int .i64 (k : Int) ∧ j = .int .i64 (q : Int) ∧ Half l l1 k ∧ Own B wr 5 .u8 (.slice (some ⟨g, 0, none⟩) L c) l1 ∧ Below B w wr ∧ B ≤ wr.heap.size) (fun _ j _ => (intOf j).toNat)
  case atStart => exact ⟨0, L - 1, l, by omega, rfl, by apply int_int; omega, half_zero l, hO, Below.refl _ _, hB⟩
  case round =>
    obtain ⟨k, q, l1, hkq, rfl, rfl, hH, hO1, hB1, hs1⟩ := hrel
    have HH := Lib.hid hH; clear hH
    have hlen : l1.length = L := by rw [HH.out.1, LL.out]
    by_cases hlt : k < q
    · obtain ⟨x1, f1⟩ := hO1.at_ k (by omega)
      obtain ⟨x2, f2⟩ := hO1.at_ q (by omega)
      have t1 : decide ((k : Int) < (q : Int)) = true := by simpa using hlt
      have hn1 := half_next HH.out (by rw [LL.out]; omega)
      rw [show l.length - 1 - k = q by rw [LL.out]; omega] at hn1
      have HN := Lib.hid hn1; clear hn1
      have b1 : (k : Int) < (L : Int) := by omega
      have b2 : (q : Int) < (L : Int) := by omega
      have hne : k ≠ q := by omega
      clear hlen
      go_wp2_with fail
      go_region
      go_wp2
      go_roundw
      case rel => exact ⟨k + 1, q - 1, _, by omega, by simp, int_int (by omega), HN.out, ⟨((hO1.store _ _).store _ _).own⟩, Ext.below ((hB1.setCell hgB _).setCell hgB _) (by simpa [size_setCell] using hs1) (Ext.drew _), by simpa [size_setCell] using hs1⟩
      case measure => simp [intOf]; omega
    · have hend := half_end HH.out (by rw [LL.out]; omega)
      clear hlen
      go_wp2
      go_end0
      exact ⟨rfl, by rw [← hend]; exact hO1, hB1, hs1⟩

theorem _root_.Cusp.Rd.grown {w w' : World} {k : IntKind} {A : Option Addr} {n c : Nat} {l : List Int} {row : Option Nat} (h : Rd w k A n c l) (hg : w.grownBy w' row) (hne : ∀ b o, 0 < n → A = some ⟨b, o, none⟩ → some b ≠ row) : Rd w' k A n c l :=
  ⟨h.len, h.cap, h.big, fun h0 => by
    obtain ⟨b, o, hA, hc⟩ := h.cell h0
    exact ⟨b, o, hA, fun j hj => hg.cell (hc j hj) (hne b o h0 hA)⟩⟩
theorem dg_len (n : Nat) : (dg n).length ≤ bl n := by
  induction n using Nat.strongRecOn with
  | _ n ih =>
    by_cases h : n = 0
    · rw [h, dg_zero]; simp
    · rw [dg_pos h, List.length_cons]
      have h1 := ih (n / 10) (by omega)
      have h2 := bl_pos h
      have h3 : bl (n / 10) ≤ bl n - 1 := by
        apply bl_le_of_lt
        have h4 := lt_bl n
        have h5 : 2 ^ bl n = 2 * 2 ^ (bl n - 1) := by rw [← Nat.pow_succ']; congr 1; omega
        omega
      omega
theorem bl_len {a n : Nat} (h : (wd a).length = n) : bl a ≤ 32 * n := by
  apply bl_le_of_lt
  have := lv_lt (words_wd a)
  rw [lv_wd, h] at this
  rwa [Nat.pow_mul]
theorem digit_at (r : Nat) (h : r < 10) (h' : r < (ByteArray.mk #[48, 49, 50, 51, 52, 53, 54, 55, 56, 57, 97, 98, 99, 100, 101, 102, 103, 104, 105, 106, 107, 108, 109, 110, 111, 112, 113, 114, 115, 116, 117, 118, 119, 120, 121, 122]).size) :
    (((ByteArray.mk #[48, 49, 50, 51, 52, 53, 54, 55, 56, 57, 97, 98, 99, 100, 101, 102, 103, 104, 105, 106, 107, 108, 109, 110, 111, 112, 113, 114, 115, 116, 117, 118, 119, 120, 121, 122])[r]'h').toNat : Int) = (48 + (r : Nat) : Int) := by
  revert r; decide

set_option maxHeartbeats 2000000 in
set_option maxRecDepth 100000 in
theorem text_calls (A : Option Addr) (n c a : Nat) (w : World) (ha : Nt w A n c a) (hn : n ≤ 100000000) :
    Calls Tryz.prog 215 #[.slice A n c, .int .i64 10] w fun e w' => e = .returned (.string (strOfNums (dec a))) ∧ Ext w w' := by
  rcases Nat.eq_zero_or_pos n with h0 | h0
  · subst h0
    have h0 : a = 0 := wd_eq_nil.1 (List.eq_nil_of_length_eq_zero ha.len)
    go_enter Tryz.func215, Tryz.ntmps215
    go_wp2
    go_ret
    exact ⟨by rw [h0]; rfl, Ext.refl _⟩
  · have ha0 : a ≠ 0 := by rintro rfl; have h := ha.len; rw [wd_zero] at h; simp at h; omega
    have hD : (dg a).length ≤ 32 * n := Nat.le_trans (dg_len a) (bl_len ha.len)
    have hne : ((n : Int) == 0) = false := by rw [beq_eq_false_iff_ne]; omega
    go_enter Tryz.func215, Tryz.ntmps215
    go_wp2
    go_loopw [0, 5] (fun x b wr => ∃ A1 n1 c1 a1 v l, x = .slice A1 n1 c1 ∧ b = v ∧ n1 ≤ 100000000 ∧ Nt wr A1 n1 c1 a1 ∧ l ++ dg a1 = dg a ∧ (∀ b o, 0 < n1 → A1 = some ⟨b, o, none⟩ → some b ≠ v.ownBlock) ∧ Own w.heap.size wr 5 .u8 v l ∧ Ext w wr) (fun x _ wr => ntVal x wr)
    case atStart => exact ⟨A, n, c, a, _, [], rfl, rfl, hn, ha, rfl, (fun b o _ _ h => by cases h), Own.nil _ _ _ _, Ext.refl _⟩
    case round =>
      obtain ⟨A1, n1, c1, a1, v, l, rfl, rfl, hn1, ha1, hl, hfar, hO, hx⟩ := hrel
      have HL := Lib.hid hl; clear hl
      have hsz := hx.size
      rcases Nat.eq_zero_or_pos n1 with h1 | h1
      · subst h1
        clear hfar
        have ha10 : a1 = 0 := wd_eq_nil.1 (List.eq_nil_of_length_eq_zero ha1.len)
        subst ha10
        rw [dg_zero, List.append_nil] at HL
        have hlp : 0 < l.length := by rw [HL.out, dg_pos ha0]; simp
        obtain ⟨g, cc, rfl, hgB⟩ := hO.form_pos hlp
        obtain ⟨L, hL⟩ : ∃ L, L = l.length := ⟨_, rfl⟩
        have HLL := Lib.hid hL
        rw [← hL] at hO hlp ⊢
        clear hL
        go_wp2_with fail
        refine (reverse_calls g L cc w.heap.size l _ hO hsz hlp (by rw [HLL.out, HL.out]; omega)).mono ?_
        rintro e w1 ⟨rfl, hO1, hB1, hs1⟩
        have hcv := run_convert_bytes_arg (P := Tryz.prog) w1 116 5 Tryz.underlying116 Tryz.underlying5 g 0 L cc l.reverse (by rw [List.length_reverse, HLL.out]) (fun i hi => by
          have := (hO1.at_ i (by rw [List.length_reverse, ← HLL.out]; exact hi)).1
          rw [Nat.zero_add, this]; rfl) 9 Tryz.underlying9
        go_wp2_with fail
        go_ret
        refine ⟨?_, Below.trans hx hB1⟩
        have hD := HL.out
        unfold dec
        rw [if_neg ha0, ← hD]
        rfl
      · clear hfar
        have ht : decide ((n1 : Int) > 0) = true := by simpa using h1
        go_wp2_with fail
        refine (short_calls _ _ _ a1 10 _ ha1 (by omega) (by omega) (by omega)).mono ?_
        rintro e w1 ⟨n2, c2, rfl, hn2, hx2⟩
        have hlt := Lib.hid (Nat.mod_lt a1 (show 0 < 10 by omega))
        have hv2 := ntVal_eq ha1
        have ha10 : a1 ≠ 0 := by rintro rfl; have h := ha1.len; rw [wd_zero] at h; simp at h; omega
        have hvlt : ∀ b, u5.ownBlock = some b → b < wr.heap.size := fun b hb => (hO.own.lt b hb).2
        have hn2n : n2 ≤ n1 := by
          have h3 := len_wd_mono (Nat.div_le_self a1 10)
          rw [hn2.len, ha1.len] at h3; exact h3
        go_wp2_with (at_builtin; refine append_one (w0 := w1) w.heap.size rfl _ _ 116 1 rfl Tryz.underlying116 info_u8 (by omega) _ l rfl rfl (hO.ext hx2) (Below.refl _ _) (Nat.le_trans hsz hx2.size) ?c1 ?_)
        case c1 =>
          have h := congrArg List.length HL.out
          rw [List.length_append] at h
          omega
        intro v1 w2 hO2 hB2 hs2 hG2 hat
        rw [digit_at _ hlt.out] at hO2
        have hn3 : Nt w2 (some ⟨wr.heap.size, 0, none⟩) n2 c2 (a1 / 10) := Rd.grown hn2 hG2 (fun b o _ hA hrow => by
          injection hA with hA; injection hA with hA; have := hvlt b hrow.symm; omega)
        have hv1 := ntVal_eq hn3
        have hfar2 : ∀ b o, 0 < n2 → (some ⟨wr.heap.size, 0, none⟩ : Option Addr) = some ⟨b, o, none⟩ → some b ≠ v1.ownBlock := by
          intro b o h0 hA hrow
          injection hA with hA; injection hA with hA
          rcases hat with h | ⟨b', h, hb'⟩
          · rw [h] at hrow; have := hvlt b hrow.symm; omega
          · rw [h] at hrow; injection hrow with hrow
            obtain ⟨b2, o2, hA2, x2⟩ := hn2.at_ 0 h0
            injection hA2 with hA2; injection hA2 with hA2
            have := World.block_lt_of_cell? _ _ x2
            simp only at this
            omega
        go_wp2
        go_roundw
        case rel => exact ⟨_, n2, c2, a1 / 10, v1, _, rfl, rfl, by omega, hn3, by rw [← HL.out, dg_pos ha10, List.append_assoc]; rfl, hfar2, hO2, Below.trans hx (Below.trans (Below.mono hx2 hsz) hB2)⟩
        case measure => rw [hv1, hv2]; omega
end Go.Proofs.YtkljejejabikiaaGreatDoor

/- Whole numbers behind pointers (package big's Int): what lies there, and what a write to one leaves alone. -/
namespace Cusp
open Go Go.RowKit Go.Proofs.YtkljejejabikiaaGreatDoor

/-- At block b, cell o: package big's Int x. -/
structure IsInt (w : World) (b o : Nat) (x : Int) : Prop where
  ex : ∃ A n c, w.cell? ⟨b, o, none⟩ = some (.bool (decide (x < 0))) ∧ w.cell? ⟨b, o + 1, none⟩ = some (.slice A n c) ∧ Nt w A n c x.natAbs
  fz : w.frozen? ⟨b, o, none⟩ = false
  fz1 : w.frozen? ⟨b, o + 1, none⟩ = false

/-- Of what lay in w only the Int at block b, cell o has turned. -/
structure Wr (b o : Nat) (w w' : World) : Prop where
  grown : w.grownBy w' (some b)
  cell : ∀ j, j ≠ o → j ≠ o + 1 → w'.cell? ⟨b, j, none⟩ = w.cell? ⟨b, j, none⟩
  frozen : ∀ j, w'.frozen? ⟨b, j, none⟩ = w.frozen? ⟨b, j, none⟩

theorem IsInt.lt {w : World} {b o : Nat} {x : Int} (h : IsInt w b o x) : b < w.heap.size := by
  obtain ⟨A, n, c, h1, _⟩ := h.ex
  exact World.block_lt_of_cell? _ _ h1
theorem Wr.size {b o : Nat} {w w' : World} (h : Wr b o w w') : w.heap.size ≤ w'.heap.size := h.grown.size
theorem Wr.below {b o B : Nat} {w w' : World} (h : Wr b o w w') (hB : B ≤ b) (hw : B ≤ w.heap.size) : Below B w w' :=
  Below.grown (Below.refl _ _) h.grown hw (fun k hk => by injection hk with hk; omega)
theorem IsInt.ext {w w' : World} {b o : Nat} {x : Int} (h : IsInt w b o x) (e : Ext w w') : IsInt w' b o x := by
  obtain ⟨⟨A, n, c, h1, h2, h3⟩, f0, f1⟩ := h
  exact ⟨⟨A, n, c, e.cell h1, e.cell h2, h3.ext e⟩, by rw [e.frozen h1]; exact f0, by rw [e.frozen h2]; exact f1⟩
theorem Wr.ext_left {b o : Nat} {w w1 w' : World} (e : Ext w w1) (hb : b < w.heap.size) (h : Wr b o w1 w') : Wr b o w w' := by
  have hg : w.grownBy w1 (some b) := Lib.grownBy_below (World.grownBy.refl _ _) e
  refine ⟨hg.trans h.grown, fun j h1 h2 => ?_, fun j => ?_⟩
  · rw [h.cell j h1 h2]; exact Below.cell e hb
  · rw [h.frozen j]; exact Below.frozen e hb
theorem Wr.ext_right {b o : Nat} {w w1 w' : World} (h : Wr b o w w1) (hb : b < w.heap.size) (e : Ext w1 w') : Wr b o w w' := by
  have hs := h.size
  have hg : w1.grownBy w' (some b) := Lib.grownBy_below (World.grownBy.refl _ _) e
  refine ⟨h.grown.trans hg, fun j h1 h2 => ?_, fun j => ?_⟩
  · rw [← h.cell j h1 h2]; exact Below.cell e (show b < w1.heap.size by omega)
  · rw [← h.frozen j]; exact Below.frozen e (show b < w1.heap.size by omega)
theorem Wr.trans {b o : Nat} {w w1 w' : World} (h : Wr b o w w1) (k : Wr b o w1 w') : Wr b o w w' :=
  ⟨h.grown.trans k.grown, fun j h1 h2 => by rw [k.cell j h1 h2, h.cell j h1 h2], fun j => by rw [k.frozen, h.frozen]⟩
/-- A cell that is none of the Int's two. -/
theorem Wr.other {b o : Nat} {w w' : World} (h : Wr b o w w') {p : Addr} {v : Value} (hp : p.spot = none) (hc : w.cell? p = some v) (hne : p.block ≠ b ∨ p.off ≠ o ∧ p.off ≠ o + 1) : w'.cell? p = some v ∧ w'.frozen? p = w.frozen? p := by
  obtain ⟨pb, po, ps⟩ := p
  simp only at hp hne
  subst hp
  by_cases hb : pb = b
  · subst hb
    obtain ⟨h1, h2⟩ := hne.resolve_left (fun h => h rfl)
    exact ⟨by rw [h.cell po h1 h2]; exact hc, h.frozen po⟩
  · have hlt := World.block_lt_of_cell? _ _ hc
    exact ⟨h.grown.cell hc (fun e => hb (by injection e)), h.grown.frozen_far _ hlt (fun e => hb (by injection e))⟩
/-- A cell that holds a number. -/
theorem Wr.num {b o : Nat} {w w' : World} (h : Wr b o w w') {x : Int} (hz : IsInt w b o x) {p : Addr} (hp : p.spot = none) {k : IntKind} {v : Int} (hc : w.cell? p = some (.int k v)) : w'.cell? p = some (.int k v) := by
  refine (h.other hp hc ?_).1
  obtain ⟨A, n, c, h1, h2, _⟩ := hz.ex
  obtain ⟨pb, po, ps⟩ := p
  simp only at hp ⊢
  subst hp
  by_cases hb : pb = b
  · subst hb
    right
    refine ⟨?_, ?_⟩
    · rintro rfl; rw [h1] at hc; cases hc
    · rintro rfl; rw [h2] at hc; cases hc
  · exact .inl hb
theorem Wr.rd {b o : Nat} {w w' : World} (h : Wr b o w w') {x : Int} (hz : IsInt w b o x) {k : IntKind} {A : Option Addr} {n c : Nat} {l : List Int} (hr : Rd w k A n c l) : Rd w' k A n c l :=
  ⟨hr.len, hr.cap, hr.big, fun h0 => by
    obtain ⟨b', o', hA, hc⟩ := hr.cell h0
    exact ⟨b', o', hA, fun j hj => h.num hz rfl (hc j hj)⟩⟩
theorem Wr.nt {b o : Nat} {w w' : World} (h : Wr b o w w') {x : Int} (hz : IsInt w b o x) {A : Option Addr} {n c a : Nat} (hr : Nt w A n c a) : Nt w' A n c a := h.rd hz hr
theorem Wr.int {b o : Nat} {w w' : World} (h : Wr b o w w') {x : Int} (hz : IsInt w b o x) {b' o' : Nat} {y : Int} (hy : IsInt w b' o' y) (hne : b' ≠ b ∨ o' ≠ o) : IsInt w' b' o' y := by
  obtain ⟨A, n, c, h1, h2, h3⟩ := hy.ex
  obtain ⟨A1, n1, c1, k1, k2, _⟩ := hz.ex
  have hd : b' ≠ b ∨ o' ≠ o ∧ o' ≠ o + 1 := by
    rcases hne with hne | hne
    · exact .inl hne
    · by_cases hb : b' = b
      · subst hb
        refine .inr ⟨hne, ?_⟩
        rintro rfl
        rw [k2] at h1; cases h1
      · exact .inl hb
  have hd1 : b' ≠ b ∨ o' + 1 ≠ o ∧ o' + 1 ≠ o + 1 := by
    rcases hne with hne | hne
    · exact .inl hne
    · by_cases hb : b' = b
      · subst hb
        refine .inr ⟨?_, by omega⟩
        rintro rfl
        rw [k1] at h2; cases h2
      · exact .inl hb
  have e1 := h.other rfl h1 hd
  have e2 := h.other rfl h2 hd1
  exact ⟨⟨A, n, c, e1.1, e2.1, h.nt hz h3⟩, by rw [e1.2]; exact hy.fz, by rw [e2.2]; exact hy.fz1⟩
theorem Wr.own {b o : Nat} {w w' : World} (h : Wr b o w w') {base : Nat} {e : TypeId} {k : IntKind} {v : Value} {l : List Int} (ho : Own base w e k v l) (hne : v.ownBlock ≠ some b) : Own base w' e k v l :=
  ⟨ho.own.kept h.grown (.inr hne)⟩

/-- What 'put' leaves. -/
theorem put_world {w : World} {b o : Nat} {x0 : Int} (h : IsInt w b o x0) {A : Option Addr} {n c a : Nat} (ha : Nt w A n c a) (s : Bool) (x : Int) (hx : x = if s then -(a : Int) else a) (s' : Bool) (hs : s' = (s && decide ((0 : Int) < n))) :
    IsInt ((w.setCell ⟨b, o, none⟩ (.bool s')).setCell ⟨b, o + 1, none⟩ (.slice A n c)) b o x ∧
    Wr b o w ((w.setCell ⟨b, o, none⟩ (.bool s')).setCell ⟨b, o + 1, none⟩ (.slice A n c)) := by
  obtain ⟨A0, n0, c0, h1, h2, h3⟩ := h.ex
  have hne : (⟨b, o, none⟩ : Addr) ≠ ⟨b, o + 1, none⟩ := by intro e; injection e with _ e; omega
  have hW : Wr b o w ((w.setCell ⟨b, o, none⟩ (.bool s')).setCell ⟨b, o + 1, none⟩ (.slice A n c)) := by
    refine ⟨Lib.grownBy_setB (Lib.grownBy_setB (World.grownBy.refl _ _) _ _) _ _, fun j j0 j1 => ?_, fun j => by simp⟩
    have n1 : (⟨b, o + 1, none⟩ : Addr) ≠ ⟨b, j, none⟩ := by intro e; injection e with _ e; omega
    have n2 : (⟨b, o, none⟩ : Addr) ≠ ⟨b, j, none⟩ := by intro e; injection e with _ e; omega
    rw [World.cell?_setCell_other _ _ _ _ n1, World.cell?_setCell_other _ _ _ _ n2]
  refine ⟨⟨⟨A, n, c, ?_, ?_, ?_⟩, by simpa using h.fz, by simpa using h.fz1⟩, hW⟩
  · rw [World.cell?_setCell_other _ _ _ _ (Ne.symm hne), World.cell?_setCell_same _ _ _ h1]
    congr 2
    have hn : 0 < n ↔ 0 < a := by
      constructor
      · intro h0
        rcases Nat.eq_zero_or_pos a with h | h
        · have := ha.len; rw [h, wd_zero] at this; simp at this; omega
        · exact h
      · intro h0
        rcases Nat.eq_zero_or_pos n with h | h
        · subst h; have := wd_eq_nil.1 (List.eq_nil_of_length_eq_zero ha.len); omega
        · exact h
    subst hx hs
    cases s with
    | false => simp
    | true =>
      simp only [Bool.true_and, if_true]
      rw [decide_eq_decide]
      omega
  · rw [World.cell?_setCell_same _ _ _ (u := .slice A0 n0 c0)]
    rw [World.cell?_setCell_other _ _ _ _ hne]; exact h2
  · have e : x.natAbs = a := by subst hx; cases s <;> simp
    rw [e]; exact hW.nt h ha
end Cusp

/- Package big's Int: the methods that set one. -/
namespace Go.Proofs.YtkljejejabikiaaGreatDoor
open Go Go.RowKit Cusp

set_option maxHeartbeats 1000000 in
set_option maxRecDepth 100000 in
theorem put_calls (b o : Nat) (x0 : Int) (w : World) (h : IsInt w b o x0) (s : Bool) (A : Option Addr) (n c a : Nat) (ha : Nt w A n c a) (x : Int) (hx : x = if s then -(a : Int) else a) :
    Calls Tryz.prog 145 #[.pointer (some ⟨b, o, none⟩), .bool s, .slice A n c] w fun e w' => e = .returned (.pointer (some ⟨b, o, none⟩)) ∧ IsInt w' b o x ∧ Wr b o w w' := by
  obtain ⟨A0, n0, c0, h1, h2, h3⟩ := h.ex
  have f0 := h.fz
  have f1 := h.fz1
  have hp := put_world h ha s x hx
  clear h3 hx
  cases s with
  | false =>
    go_enter Tryz.func145, Tryz.ntmps145
    go_wp2
    go_ret
    exact ⟨rfl, hp false rfl⟩
  | true =>
    go_enter Tryz.func145, Tryz.ntmps145
    go_wp2
    go_ret
    exact ⟨rfl, hp (decide (0 < n)) (by simp)⟩

theorem sgn_abs (x : Int) : x = if decide (x < 0) = true then -((x.natAbs : Nat) : Int) else ((x.natAbs : Nat) : Int) := by
  by_cases h : x < 0
  · rw [decide_eq_true h, if_pos rfl]; omega
  · rw [decide_eq_false h, if_neg (by simp)]; omega
theorem sgn_mul (x : Int) (m : Nat) : x * m = if decide (x < 0) = true then -((x.natAbs * m : Nat) : Int) else ((x.natAbs * m : Nat) : Int) := by
  conv => lhs; rw [sgn_abs x]
  split
  · rw [Int.natCast_mul, Int.neg_mul]
  · rw [Int.natCast_mul]

set_option maxHeartbeats 2000000 in
set_option maxRecDepth 100000 in
theorem lsh_calls (zb zo xb xo : Nat) (z x : Int) (K : Nat) (w : World) (hz : IsInt w zb zo z) (hx : IsInt w xb xo x) (hlen : (wd x.natAbs).length ≤ 1000000000) (hK : K ≤ 10000000000) :
    Calls Tryz.prog 164 #[.pointer (some ⟨zb, zo, none⟩), .pointer (some ⟨xb, xo, none⟩), .int .u64 (K : Int)] w fun e w' => e = .returned (.pointer (some ⟨zb, zo, none⟩)) ∧ IsInt w' zb zo (x * (2 ^ K : Nat)) ∧ Wr zb zo w w' := by
  obtain ⟨A, n, c, h1, h2, h3⟩ := hx.ex
  rw [h3.len] at hlen
  have hlt := hz.lt
  go_enter Tryz.func164, Tryz.ntmps164
  go_wp2
  go_region_with (first | (go_at_call 220; refine (shl_calls _ _ _ x.natAbs K _ (h3.ext (Ext.drew _)) hlen hK).mono ?_; rintro e w1 ⟨A1, n1, c1, rfl, hn1, hx1⟩; have g1 := hx1.cell h1; have g2 := hx1.cell h2) | (go_at_call 145; refine (put_calls zb zo z _ (hz.ext (Ext.trans (Ext.drew _) hx1)) _ _ _ _ _ hn1 _ (sgn_mul x (2 ^ K))).mono ?_; rintro e w2 ⟨rfl, hI2, hW2⟩))
  all_goals (go_wp2; go_ret; exact ⟨rfl, hI2, Wr.ext_left (Ext.trans (Ext.drew _) hx1) hlt hW2⟩)
end Go.Proofs.YtkljejejabikiaaGreatDoor

/- Package big's Int: Set, Neg, Abs, SetInt64, NewInt, Mul. -/
namespace Go.Proofs.YtkljejejabikiaaGreatDoor
open Go Go.RowKit Cusp

set_option maxHeartbeats 1000000 in
set_option maxRecDepth 100000 in
theorem set_calls (zb zo xb xo : Nat) (z x : Int) (w : World) (hz : IsInt w zb zo z) (hx : IsInt w xb xo x) :
    Calls Tryz.prog 113 #[.pointer (some ⟨zb, zo, none⟩), .pointer (some ⟨xb, xo, none⟩)] w fun e w' => e = .returned (.pointer (some ⟨zb, zo, none⟩)) ∧ IsInt w' zb zo x ∧ Wr zb zo w w' := by
  obtain ⟨A, n, c, h1, h2, h3⟩ := hx.ex
  have hlt := hz.lt
  go_enter Tryz.func113, Tryz.ntmps113
  go_wp2
  go_region_with (go_at_call 145; refine (put_calls zb zo z _ (hz.ext (Ext.drew _)) _ _ _ _ _ (h3.ext (Ext.drew _)) _ (sgn_abs x)).mono ?_; rintro e w2 ⟨rfl, hI2, hW2⟩)
  all_goals (go_wp2; go_ret; exact ⟨rfl, hI2, Wr.ext_left (Ext.drew _) hlt hW2⟩)

theorem sgn_neg (x : Int) : -x = if (!decide (x < 0)) = true then -((x.natAbs : Nat) : Int) else ((x.natAbs : Nat) : Int) := by
  by_cases h : x < 0
  · rw [decide_eq_true h, if_neg (by simp)]; omega
  · rw [decide_eq_false h, if_pos (by simp)]; omega

set_option maxHeartbeats 1000000 in
set_option maxRecDepth 100000 in
theorem neg_calls (zb zo xb xo : Nat) (z x : Int) (w : World) (hz : IsInt w zb zo z) (hx : IsInt w xb xo x) :
    Calls Tryz.prog 118 #[.pointer (some ⟨zb, zo, none⟩), .pointer (some ⟨xb, xo, none⟩)] w fun e w' => e = .returned (.pointer (some ⟨zb, zo, none⟩)) ∧ IsInt w' zb zo (-x) ∧ Wr zb zo w w' := by
  obtain ⟨A, n, c, h1, h2, h3⟩ := hx.ex
  have hlt := hz.lt
  go_enter Tryz.func118, Tryz.ntmps118
  go_wp2
  go_region_with (go_at_call 145; refine (put_calls zb zo z _ (hz.ext (Ext.drew _)) (!decide (x < 0)) _ _ _ _ (h3.ext (Ext.drew _)) _ (sgn_neg x)).mono ?_; rintro e w2 ⟨rfl, hI2, hW2⟩)
  all_goals (go_wp2; go_ret; exact ⟨rfl, hI2, Wr.ext_left (Ext.drew _) hlt hW2⟩)

set_option maxHeartbeats 1000000 in
set_option maxRecDepth 100000 in
theorem abs_calls (zb zo xb xo : Nat) (z x : Int) (w : World) (hz : IsInt w zb zo z) (hx : IsInt w xb xo x) :
    Calls Tryz.prog 238 #[.pointer (some ⟨zb, zo, none⟩), .pointer (some ⟨xb, xo, none⟩)] w fun e w' => e = .returned (.pointer (some ⟨zb, zo, none⟩)) ∧ IsInt w' zb zo (x.natAbs : Int) ∧ Wr zb zo w w' := by
  obtain ⟨A, n, c, h1, h2, h3⟩ := hx.ex
  go_enter Tryz.func238, Tryz.ntmps238
  go_wp2_with fail
  refine (put_calls zb zo z _ hz false _ _ _ _ h3 (x.natAbs : Int) (by simp)).mono ?_
  rintro e w2 ⟨rfl, hI2, hW2⟩
  go_wp2
  go_ret
  exact ⟨rfl, hI2, hW2⟩

set_option maxHeartbeats 1000000 in
set_option maxRecDepth 100000 in
theorem setInt64_calls (zb zo : Nat) (z v : Int) (w : World) (hz : IsInt w zb zo z) (h0 : -9223372036854775808 ≤ v) (h1 : v < 9223372036854775808) :
    Calls Tryz.prog 116 #[.pointer (some ⟨zb, zo, none⟩), .int .i64 v] w fun e w' => e = .returned (.pointer (some ⟨zb, zo, none⟩)) ∧ IsInt w' zb zo v ∧ Wr zb zo w w' := by
  have hlt := hz.lt
  by_cases hv : v < 0
  · have e2 : IntKind.u64.wrap (-IntKind.u64.wrap v) = -v := by rw [IntKind.wrap_u64, IntKind.wrap_u64]; omega
    go_enter Tryz.func116, Tryz.ntmps116
    go_wp2_with fail
    refine (small_calls (-v) _ (by omega) (by omega)).mono ?_
    rintro e w1 ⟨A, n, c, rfl, hn, hx1⟩
    go_wp2_with fail
    refine (put_calls zb zo z _ (hz.ext hx1) true _ _ _ _ hn v (by simp; omega)).mono ?_
    rintro e w2 ⟨rfl, hI2, hW2⟩
    go_wp2
    go_ret
    exact ⟨rfl, hI2, Wr.ext_left hx1 hlt hW2⟩
  · have e1 : IntKind.u64.wrap v = v := by rw [IntKind.wrap_u64]; omega
    go_enter Tryz.func116, Tryz.ntmps116
    go_wp2_with fail
    refine (small_calls v _ (by omega) (by omega)).mono ?_
    rintro e w1 ⟨A, n, c, rfl, hn, hx1⟩
    go_wp2_with fail
    refine (put_calls zb zo z _ (hz.ext hx1) false _ _ _ _ hn v (by simp; omega)).mono ?_
    rintro e w2 ⟨rfl, hI2, hW2⟩
    go_wp2
    go_ret
    exact ⟨rfl, hI2, Wr.ext_left hx1 hlt hW2⟩
theorem cell_new (w : World) (cs : Array Value) (T : TypeId) (j : Nat) (v : Value) (h : cs[j]? = some v) : (w.alloc (.cells cs T)).cell? ⟨w.heap.size, j, none⟩ = some v := by
  simp only [World.cell?, heap_alloc_new]; simpa using h
/-- A new Int. -/
theorem int_new (w : World) (T : TypeId) : IsInt (w.alloc (.cells #[.bool false, .slice none 0 0] T)) w.heap.size 0 0 := by
  refine ⟨⟨none, 0, 0, ?_, ?_, ?_⟩, ?_, ?_⟩
  · exact cell_new w _ _ 0 _ rfl
  · exact cell_new w _ _ 1 _ rfl
  · show Rd _ _ _ _ _ (wd 0)
    rw [wd_zero]; exact Rd.nil _ _ _ _ (by omega)
  · simp only [World.frozen?, heap_alloc_new]; rfl
  · simp only [World.frozen?, heap_alloc_new]; rfl
theorem Wr.own_ext {w w1 w' : World} {b o : Nat} (e : Ext w w1) (hb : w.heap.size ≤ b) (h : Wr b o w1 w') : Ext w w' :=
  Below.trans e (h.below hb e.size)

set_option maxHeartbeats 1000000 in
set_option maxRecDepth 100000 in
theorem newInt_calls (v : Int) (w : World) (h0 : -9223372036854775808 ≤ v) (h1 : v < 9223372036854775808) :
    Calls Tryz.prog 75 #[.int .i64 v] w fun e w' => e = .returned (.pointer (some ⟨w.heap.size, 0, none⟩)) ∧ IsInt w' w.heap.size 0 v ∧ Ext w w' := by
  go_enter Tryz.func75, Tryz.ntmps75
  go_wp2_with fail
  refine (setInt64_calls _ _ _ v _ (int_new w _) h0 h1).mono ?_
  rintro e w2 ⟨rfl, hI2, hW2⟩
  go_wp2
  go_ret
  exact ⟨rfl, hI2, Wr.own_ext ((Ext.refl w).alloc _) (Nat.le_refl _) hW2⟩

theorem sgn_mul2 (x y : Int) : x * y = if (decide (x < 0) != decide (y < 0)) = true then -((x.natAbs * y.natAbs : Nat) : Int) else ((x.natAbs * y.natAbs : Nat) : Int) := by
  have hx := sgn_abs x
  have hy := sgn_abs y
  conv => lhs; rw [hx, hy]
  cases decide (x < 0) <;> cases decide (y < 0) <;> simp [Int.mul_neg, Int.neg_mul]

end Go.Proofs.YtkljejejabikiaaGreatDoor

/- Package big's Int: sum, Add, Sub, QuoRem, Quo, Rsh. -/
namespace Go.Proofs.YtkljejejabikiaaGreatDoor
open Go Go.RowKit Cusp

theorem bool_false {s : Bool} (h : ¬ true = s) : s = false := by
  cases s with
  | false => rfl
  | true => exact absurd rfl h
theorem bool_true {s : Bool} (h : ¬ false = s) : s = true := by
  cases s with
  | false => exact absurd rfl h
  | true => rfl
/-- A sum by its signs. -/
theorem sgn_far {x y : Int} {s : Bool} (h : ¬ decide (x < 0) = s) (hy : y = if s = true then -((y.natAbs : Nat) : Int) else ((y.natAbs : Nat) : Int)) (hl : y.natAbs ≤ x.natAbs) : x + y = if decide (x < 0) = true then -((x.natAbs - y.natAbs : Nat) : Int) else ((x.natAbs - y.natAbs : Nat) : Int) := by
  by_cases h1 : x < 0
  · rw [decide_eq_true h1] at h ⊢
    rw [bool_false h, if_neg Bool.false_ne_true] at hy
    rw [if_pos rfl]; omega
  · rw [decide_eq_false h1] at h ⊢
    rw [bool_true h, if_pos rfl] at hy
    rw [if_neg Bool.false_ne_true]; omega
theorem sgn_near {x y : Int} {s : Bool} (h : ¬ decide (x < 0) = s) (hy : y = if s = true then -((y.natAbs : Nat) : Int) else ((y.natAbs : Nat) : Int)) (hl : x.natAbs ≤ y.natAbs) : x + y = if s = true then -((y.natAbs - x.natAbs : Nat) : Int) else ((y.natAbs - x.natAbs : Nat) : Int) := by
  by_cases h1 : x < 0
  · rw [decide_eq_true h1] at h
    have hs := bool_false h
    rw [hs, if_neg Bool.false_ne_true] at hy
    rw [hs, if_neg Bool.false_ne_true]; omega
  · rw [decide_eq_false h1] at h
    have hs := bool_true h
    rw [hs, if_pos rfl] at hy
    rw [hs, if_pos rfl]; omega
theorem sgn_same {x y : Int} (hy : y = if decide (x < 0) = true then -((y.natAbs : Nat) : Int) else ((y.natAbs : Nat) : Int)) : x + y = if decide (x < 0) = true then -((x.natAbs + y.natAbs : Nat) : Int) else ((x.natAbs + y.natAbs : Nat) : Int) := by
  by_cases h1 : x < 0
  · rw [decide_eq_true h1, if_pos rfl] at hy ⊢; omega
  · rw [decide_eq_false h1, if_neg Bool.false_ne_true] at hy ⊢; omega

set_option maxHeartbeats 4000000 in
set_option maxRecDepth 100000 in
/-- z becomes x + y, where y comes as a sign and a magnitude. -/
theorem sum_calls (zb zo xb xo : Nat) (z x y : Int) (s : Bool) (B : Option Addr) (m d : Nat) (w : World) (hz : IsInt w zb zo z) (hx : IsInt w xb xo x) (hB : Nt w B m d y.natAbs) (hy : y = if s = true then -((y.natAbs : Nat) : Int) else ((y.natAbs : Nat) : Int))
    (hl1 : (wd x.natAbs).length ≤ 1000000000) (hl2 : (wd y.natAbs).length ≤ 1000000000) :
    Calls Tryz.prog 184 #[.pointer (some ⟨zb, zo, none⟩), .pointer (some ⟨xb, xo, none⟩), .bool s, .slice B m d] w fun e w' => e = .returned (.pointer (some ⟨zb, zo, none⟩)) ∧ IsInt w' zb zo (x + y) ∧ Wr zb zo w w' := by
  obtain ⟨A, n, c, h1, h2, h3⟩ := hx.ex
  rw [h3.len] at hl1
  rw [hB.len] at hl2
  have hlt := hz.lt
  have HY := Lib.hid hy; clear hy
  by_cases hs : decide (x < 0) = s
  · have t1 : (decide (x < 0) == s) = true := by rw [beq_iff_eq]; exact hs
    subst hs
    have hsum := sgn_same HY.out
    have HS := Lib.hid hsum; clear hsum
    go_enter Tryz.func184, Tryz.ntmps184
    go_wp2_with fail
    refine (add_calls _ _ _ _ _ _ x.natAbs y.natAbs _ h3 hB hl1 hl2).mono ?_
    rintro e w1 ⟨A1, n1, c1, rfl, hn1, hx1⟩
    go_wp2_with fail
    refine (put_calls zb zo z _ (hz.ext hx1) _ _ _ _ _ hn1 (x + y) HS.out).mono ?_
    rintro e w2 ⟨rfl, hI2, hW2⟩
    go_wp2
    go_ret
    exact ⟨rfl, hI2, Wr.ext_left hx1 hlt hW2⟩
  · have t1 : (decide (x < 0) == s) = false := by rw [beq_eq_false_iff_ne]; exact hs
    by_cases hc : y.natAbs ≤ x.natAbs
    · have hsum := sgn_far hs HY.out hc
      have HS := Lib.hid hsum; clear hsum
      have hord : (0 : Int) ≤ ord x.natAbs y.natAbs := by unfold ord; rw [if_neg (by omega)]; split <;> omega
      go_enter Tryz.func184, Tryz.ntmps184
      go_wp2_with fail
      refine (cmp_calls _ _ _ _ _ _ x.natAbs y.natAbs _ h3 hB).mono ?_
      rintro e w1 ⟨rfl, hx1⟩
      have g1 := hx1.cell h1
      have g2 := hx1.cell h2
      go_wp2_with fail
      go_region_with (first | (go_at_call 231; refine (sub_calls _ _ _ _ _ _ x.natAbs y.natAbs _ ((h3.ext hx1).ext (Ext.drew _)) ((hB.ext hx1).ext (Ext.drew _)) hl1 hc).mono ?_; rintro e w2 ⟨A1, n1, c1, rfl, hn1, hx2⟩; have q1 := hx2.cell g1; have q2 := hx2.cell g2) | (go_at_call 145; refine (put_calls zb zo z _ ((hz.ext hx1).ext (Ext.trans (Ext.drew _) hx2)) _ _ _ _ _ hn1 (x + y) HS.out).mono ?_; rintro e w3 ⟨rfl, hI2, hW2⟩))
      all_goals (go_wp2; go_ret; exact ⟨rfl, hI2, Wr.ext_left (hx1.trans (Ext.trans (Ext.drew _) hx2)) hlt hW2⟩)
    · have hsum := sgn_near hs HY.out (by omega)
      have HS := Lib.hid hsum; clear hsum
      have hord : ¬ (0 : Int) ≤ ord x.natAbs y.natAbs := by unfold ord; rw [if_pos (by omega)]; omega
      go_enter Tryz.func184, Tryz.ntmps184
      go_wp2_with fail
      refine (cmp_calls _ _ _ _ _ _ x.natAbs y.natAbs _ h3 hB).mono ?_
      rintro e w1 ⟨rfl, hx1⟩
      have g1 := hx1.cell h1
      have g2 := hx1.cell h2
      go_wp2_with fail
      refine (sub_calls _ _ _ _ _ _ y.natAbs x.natAbs _ (hB.ext hx1) (h3.ext hx1) hl2 (by omega)).mono ?_
      rintro e w2 ⟨A1, n1, c1, rfl, hn1, hx2⟩
      go_wp2_with fail
      refine (put_calls zb zo z _ ((hz.ext hx1).ext hx2) _ _ _ _ _ hn1 (x + y) HS.out).mono ?_
      rintro e w3 ⟨rfl, hI2, hW2⟩
      go_wp2
      go_ret
      exact ⟨rfl, hI2, Wr.ext_left (hx1.trans hx2) hlt hW2⟩
set_option maxHeartbeats 2000000 in
set_option maxRecDepth 100000 in
theorem intAdd_calls (zb zo xb xo yb yo : Nat) (z x y : Int) (w : World) (hz : IsInt w zb zo z) (hx : IsInt w xb xo x) (hy : IsInt w yb yo y) (hl1 : (wd x.natAbs).length ≤ 1000000000) (hl2 : (wd y.natAbs).length ≤ 1000000000) :
    Calls Tryz.prog 166 #[.pointer (some ⟨zb, zo, none⟩), .pointer (some ⟨xb, xo, none⟩), .pointer (some ⟨yb, yo, none⟩)] w fun e w' => e = .returned (.pointer (some ⟨zb, zo, none⟩)) ∧ IsInt w' zb zo (x + y) ∧ Wr zb zo w w' := by
  obtain ⟨B, m, d, k1, k2, k3⟩ := hy.ex
  have hlt := hz.lt
  go_enter Tryz.func166, Tryz.ntmps166
  go_wp2
  go_region_with (go_at_call 184; refine (sum_calls zb zo xb xo z x y _ _ _ _ _ (hz.ext (Ext.drew _)) (hx.ext (Ext.drew _)) (k3.ext (Ext.drew _)) (sgn_abs y) hl1 hl2).mono ?_; rintro e w2 ⟨rfl, hI2, hW2⟩)
  all_goals (go_wp2; go_ret; exact ⟨rfl, hI2, Wr.ext_left (Ext.drew _) hlt hW2⟩)

set_option maxHeartbeats 2000000 in
set_option maxRecDepth 100000 in
theorem intSub_calls (zb zo xb xo yb yo : Nat) (z x y : Int) (w : World) (hz : IsInt w zb zo z) (hx : IsInt w xb xo x) (hy : IsInt w yb yo y) (hl1 : (wd x.natAbs).length ≤ 1000000000) (hl2 : (wd y.natAbs).length ≤ 1000000000) :
    Calls Tryz.prog 114 #[.pointer (some ⟨zb, zo, none⟩), .pointer (some ⟨xb, xo, none⟩), .pointer (some ⟨yb, yo, none⟩)] w fun e w' => e = .returned (.pointer (some ⟨zb, zo, none⟩)) ∧ IsInt w' zb zo (x - y) ∧ Wr zb zo w w' := by
  obtain ⟨B, m, d, k1, k2, k3⟩ := hy.ex
  have hlt := hz.lt
  have hl3 : (wd (-y).natAbs).length ≤ 1000000000 := by rw [Int.natAbs_neg]; exact hl2
  have hn : -y = if (!decide (y < 0)) = true then -(((-y).natAbs : Nat) : Int) else (((-y).natAbs : Nat) : Int) := by rw [Int.natAbs_neg]; exact sgn_neg y
  have k4 : Nt w B m d (-y).natAbs := by rw [Int.natAbs_neg]; exact k3
  go_enter Tryz.func114, Tryz.ntmps114
  go_wp2
  go_region_with (go_at_call 184; refine (sum_calls zb zo xb xo z x (-y) (!decide (y < 0)) _ _ _ _ (hz.ext (Ext.drew _)) (hx.ext (Ext.drew _)) (k4.ext (Ext.drew _)) hn hl1 hl3).mono ?_; rintro e w2 ⟨rfl, hI2, hW2⟩)
  all_goals (go_wp2; go_ret; exact ⟨rfl, by rw [Int.sub_eq_add_neg]; exact hI2, Wr.ext_left (Ext.drew _) hlt hW2⟩)
end Go.Proofs.YtkljejejabikiaaGreatDoor

/- Package big's Int: QuoRem, Quo, Rsh, and what only reads. -/
namespace Go.Proofs.YtkljejejabikiaaGreatDoor
open Go Go.RowKit Cusp

theorem sgn_quo (x y : Int) : x.tdiv y = if (decide (x < 0) != decide (y < 0)) = true then -((x.natAbs / y.natAbs : Nat) : Int) else ((x.natAbs / y.natAbs : Nat) : Int) := by
  have hx := sgn_abs x
  have hy := sgn_abs y
  rw [Int.natCast_ediv, ← Int.natCast_ediv]
  conv => lhs; rw [hx, hy]
  cases decide (x < 0) <;> cases decide (y < 0) <;> simp [Int.neg_tdiv, Int.tdiv_neg]
theorem sgn_rem (x y : Int) : x.tmod y = if decide (x < 0) = true then -((x.natAbs % y.natAbs : Nat) : Int) else ((x.natAbs % y.natAbs : Nat) : Int) := by
  have hx := sgn_abs x
  have hy := sgn_abs y
  conv => lhs; rw [hx, hy]
  cases decide (x < 0) <;> cases decide (y < 0) <;> simp [Int.neg_tmod, Int.tmod_neg] <;> exact (Int.ofNat_tmod _ _).symm

set_option maxHeartbeats 4000000 in
set_option maxRecDepth 100000 in
theorem quoRem_calls (zb zo xb xo yb yo rb ro : Nat) (z x y r : Int) (w : World) (hz : IsInt w zb zo z) (hx : IsInt w xb xo x) (hy : IsInt w yb yo y) (hr : IsInt w rb ro r) (hne : zb ≠ rb ∨ zo ≠ ro)
    (hl1 : (wd x.natAbs).length ≤ 900000000) (hy0 : y ≠ 0) :
    Calls Tryz.prog 163 #[.pointer (some ⟨zb, zo, none⟩), .pointer (some ⟨xb, xo, none⟩), .pointer (some ⟨yb, yo, none⟩), .pointer (some ⟨rb, ro, none⟩)] w fun e w' =>
      e = .returned (.tuple #[.pointer (some ⟨zb, zo, none⟩), .pointer (some ⟨rb, ro, none⟩)]) ∧ IsInt w' zb zo (x.tdiv y) ∧ IsInt w' rb ro (x.tmod y) ∧ ∃ w1, Wr rb ro w w1 ∧ Wr zb zo w1 w' := by
  obtain ⟨A, n, c, h1, h2, h3⟩ := hx.ex
  obtain ⟨B, m, d, k1, k2, k3⟩ := hy.ex
  rw [h3.len] at hl1
  have hltr := hr.lt
  have hyp : 0 < y.natAbs := by omega
  go_enter Tryz.func163, Tryz.ntmps163
  go_wp2
  go_region_held3 (fun w' => w'.cell? ⟨xb, xo + 1, none⟩ = some (.slice A n c) ∧ w'.cell? ⟨yb, yo + 1, none⟩ = some (.slice B m d)) (first | exact ⟨h2, k2⟩ | exact ⟨hx1.cell h2, hx1.cell k2⟩)
    (first | (go_at_call 219; refine (div_calls _ _ _ _ _ _ x.natAbs y.natAbs _ (h3.ext (Ext.drew _)) (k3.ext (Ext.drew _)) hl1 hyp).mono ?_; rintro e w1 ⟨A1, n1, c1, A2, n2, c2, rfl, hn1, hn2, hx1⟩))
  have e1 : Ext w w1 := Ext.trans (Ext.drew _) hx1
  have g1 := e1.cell h1
  have g2 := e1.cell k1
  go_wp2
  go_quiet (fail)
  go_wp2_with fail
  refine (put_calls rb ro r _ ((hr.ext e1).ext (Ext.drewN _ _)) _ _ _ _ _ (hn2.ext (Ext.drewN _ _)) (x.tmod y) (sgn_rem x y)).mono ?_
  rintro e w2 ⟨rfl, hI2, hW2⟩
  go_wp2_with fail
  have hz2 := hW2.int ((hr.ext e1).ext (Ext.drewN _ _)) ((hz.ext e1).ext (Ext.drewN _ _)) hne
  have hn3 := hW2.nt ((hr.ext e1).ext (Ext.drewN _ _)) (hn1.ext (Ext.drewN _ _))
  refine (put_calls zb zo z _ hz2 _ _ _ _ _ hn3 (x.tdiv y) (sgn_quo x y)).mono ?_
  rintro e w3 ⟨rfl, hI3, hW3⟩
  go_wp2
  go_ret2
  exact ⟨rfl, hI3, hW3.int hz2 hI2 (by rcases hne with h | h; exact .inl (Ne.symm h); exact .inr (Ne.symm h)), w2, Wr.ext_left (e1.trans (Ext.drewN _ _)) hltr hW2, hW3⟩

set_option maxHeartbeats 4000000 in
set_option maxRecDepth 100000 in
theorem quo_calls (zb zo xb xo yb yo : Nat) (z x y : Int) (w : World) (hz : IsInt w zb zo z) (hx : IsInt w xb xo x) (hy : IsInt w yb yo y)
    (hl1 : (wd x.natAbs).length ≤ 900000000) (hy0 : y ≠ 0) :
    Calls Tryz.prog 172 #[.pointer (some ⟨zb, zo, none⟩), .pointer (some ⟨xb, xo, none⟩), .pointer (some ⟨yb, yo, none⟩)] w fun e w' =>
      e = .returned (.pointer (some ⟨zb, zo, none⟩)) ∧ IsInt w' zb zo (x.tdiv y) ∧ Wr zb zo w w' := by
  have hlt := hz.lt
  have e1 := (Ext.refl w).alloc (.cells #[.bool false, .slice none 0 0] 105)
  go_enter Tryz.func172, Tryz.ntmps172
  go_wp2_with fail
  refine (quoRem_calls zb zo xb xo yb yo w.heap.size 0 z x y 0 _ (hz.ext e1) (hx.ext e1) (hy.ext e1) (int_new w _) (.inl (by omega)) hl1 hy0).mono ?_
  rintro e w2 ⟨rfl, hI, hR, w1, hW1, hW2⟩
  go_wp2
  go_ret
  refine ⟨rfl, hI, Wr.ext_left (Wr.own_ext e1 (Nat.le_refl _) hW1) hlt hW2⟩
end Go.Proofs.YtkljejejabikiaaGreatDoor

/- Package big's Int: what only reads; Rsh of a number from 0 on; words; texts. -/
namespace Go.Proofs.YtkljejejabikiaaGreatDoor
open Go Go.RowKit Cusp

theorem _root_.Cusp.IsInt.zero {w : World} {b o : Nat} {x : Int} (_ : IsInt w b o x) {A : Option Addr} {n c : Nat} (hn : Nt w A n c x.natAbs) : (n = 0) = (x = 0) := by
  apply propext
  constructor
  · rintro rfl
    have := wd_eq_nil.1 (List.eq_nil_of_length_eq_zero hn.len); omega
  · rintro rfl
    have h := hn.len
    rw [show (0 : Int).natAbs = 0 from rfl, wd_zero] at h
    simpa using h.symm

def sgn (x : Int) : Int := if x = 0 then 0 else if x < 0 then -1 else 1

set_option maxHeartbeats 1000000 in
set_option maxRecDepth 100000 in
theorem sign_calls (xb xo : Nat) (x : Int) (w : World) (hx : IsInt w xb xo x) :
    Calls Tryz.prog 112 #[.pointer (some ⟨xb, xo, none⟩)] w fun e w' => e = .returned (.int .i64 (sgn x)) ∧ w' = w := by
  obtain ⟨A, n, c, h1, h2, h3⟩ := hx.ex
  have hz := hx.zero h3
  by_cases h0 : n = 0
  · have hx0 : x = 0 := by rw [← hz]; exact h0
    have hs : sgn x = 0 := by unfold sgn; rw [if_pos hx0]
    subst h0
    clear hz hx0
    go_enter Tryz.func112, Tryz.ntmps112
    go_wp2
    go_ret
    exact ⟨by first | rfl | (rw [hs]; rfl), rfl⟩
  · have hx0 : ¬ x = 0 := by rw [← hz]; exact h0
    have t1 : ((n : Int) == 0) = false := by rw [beq_eq_false_iff_ne]; omega
    clear hz
    by_cases hneg : x < 0
    · have hs : sgn x = -1 := by unfold sgn; rw [if_neg hx0, if_pos hneg]
      have hd : decide (x < 0) = true := decide_eq_true hneg
      go_enter Tryz.func112, Tryz.ntmps112
      go_wp2
      go_ret
      exact ⟨by first | rfl | (rw [hs]; rfl), rfl⟩
    · have hs : sgn x = 1 := by unfold sgn; rw [if_neg hx0, if_neg hneg]
      have hd : decide (x < 0) = false := decide_eq_false hneg
      go_enter Tryz.func112, Tryz.ntmps112
      go_wp2
      go_ret
      exact ⟨by first | rfl | (rw [hs]; rfl), rfl⟩

set_option maxHeartbeats 1000000 in
set_option maxRecDepth 100000 in
theorem cmpAbs_calls (xb xo yb yo : Nat) (x y : Int) (w : World) (hx : IsInt w xb xo x) (hy : IsInt w yb yo y) :
    Calls Tryz.prog 115 #[.pointer (some ⟨xb, xo, none⟩), .pointer (some ⟨yb, yo, none⟩)] w fun e w' => e = .returned (.int .i64 (ord x.natAbs y.natAbs)) ∧ Ext w w' := by
  obtain ⟨A, n, c, h1, h2, h3⟩ := hx.ex
  obtain ⟨B, m, d, k1, k2, k3⟩ := hy.ex
  go_enter Tryz.func115, Tryz.ntmps115
  go_wp2
  go_region_held3 (fun w' => w'.cell? ⟨xb, xo + 1, none⟩ = some (.slice A n c) ∧ w'.cell? ⟨yb, yo + 1, none⟩ = some (.slice B m d)) (first | exact ⟨h2, k2⟩ | exact ⟨hx1.cell h2, hx1.cell k2⟩)
    (first | (go_at_call 185; refine (cmp_calls _ _ _ _ _ _ x.natAbs y.natAbs _ (h3.ext (Ext.drew _)) (k3.ext (Ext.drew _))).mono ?_; rintro e w1 ⟨rfl, hx1⟩))
  go_wp2
  go_ret
  exact ⟨rfl, Ext.trans (Ext.drew _) hx1⟩

set_option maxHeartbeats 1000000 in
set_option maxRecDepth 100000 in
/-- Cmp of two numbers from 0 on. -/
theorem cmp_pos_calls (xb xo yb yo : Nat) (x y : Nat) (w : World) (hx : IsInt w xb xo x) (hy : IsInt w yb yo y) :
    Calls Tryz.prog 165 #[.pointer (some ⟨xb, xo, none⟩), .pointer (some ⟨yb, yo, none⟩)] w fun e w' => e = .returned (.int .i64 (ord x y)) ∧ Ext w w' := by
  obtain ⟨A, n, c, h1, h2, h3⟩ := hx.ex
  obtain ⟨B, m, d, k1, k2, k3⟩ := hy.ex
  have d1 : decide ((x : Int) < 0) = false := decide_eq_false (by omega)
  have d2 : decide ((y : Int) < 0) = false := decide_eq_false (by omega)
  rw [d1] at h1
  rw [d2] at k1
  rw [Int.natAbs_natCast] at h3 k3
  clear d1 d2
  go_enter Tryz.func165, Tryz.ntmps165
  go_wp2
  go_quiet (fail)
  go_wp2
  go_region_held3 (fun w' => w'.cell? ⟨xb, xo + 1, none⟩ = some (.slice A n c) ∧ w'.cell? ⟨yb, yo + 1, none⟩ = some (.slice B m d)) (first | exact ⟨h2, k2⟩ | exact ⟨hx1.cell h2, hx1.cell k2⟩)
    (first | (go_at_call 185; refine (cmp_calls _ _ _ _ _ _ x y _ (h3.ext (Ext.trans (Ext.drewN _ _) (Ext.drew _))) (k3.ext (Ext.trans (Ext.drewN _ _) (Ext.drew _)))).mono ?_; rintro e w1 ⟨rfl, hx1⟩))
  go_wp2
  go_ret
  exact ⟨rfl, Ext.trans (Ext.trans (Ext.drewN _ _) (Ext.drew _)) hx1⟩

set_option maxHeartbeats 1000000 in
set_option maxRecDepth 100000 in
theorem intBitLen_calls (xb xo : Nat) (x : Int) (w : World) (hx : IsInt w xb xo x) (hl : (wd x.natAbs).length ≤ 1000000000) :
    Calls Tryz.prog 72 #[.pointer (some ⟨xb, xo, none⟩)] w fun e w' => e = .returned (.int .i64 (bl x.natAbs : Int)) ∧ Ext w w' := by
  obtain ⟨A, n, c, h1, h2, h3⟩ := hx.ex
  rw [h3.len] at hl
  go_enter Tryz.func72, Tryz.ntmps72
  go_wp2_with fail
  refine (bitLen_calls _ _ _ _ _ h3 hl).mono ?_
  rintro e w1 ⟨rfl, hx1⟩
  go_wp2
  go_ret
  exact ⟨rfl, hx1⟩

set_option maxHeartbeats 1000000 in
set_option maxRecDepth 100000 in
theorem words_calls (xb xo : Nat) (x : Int) (w : World) (hx : IsInt w xb xo x) (hl : (wd x.natAbs).length ≤ 1000000000) :
    Calls Tryz.prog 234 #[.pointer (some ⟨xb, xo, none⟩)] w fun e w' => ∃ A n c, e = .returned (.slice A n c) ∧ Nt w' A n c x.natAbs ∧ Ext w w' := by
  obtain ⟨A, n, c, h1, h2, h3⟩ := hx.ex
  rw [h3.len] at hl
  go_enter Tryz.func234, Tryz.ntmps234
  go_wp2_with fail
  refine (clone_calls _ _ _ _ _ h3 hl).mono ?_
  rintro e w1 ⟨v, rfl, hO, hx1⟩
  obtain ⟨A1, n1, c1, rfl, hn⟩ := hO.nt rfl
  go_wp2
  go_ret
  exact ⟨_, _, _, rfl, hn, hx1⟩

set_option maxHeartbeats 1000000 in
set_option maxRecDepth 100000 in
theorem setWords_calls (zb zo : Nat) (z : Int) (A : Option Addr) (n c a : Nat) (l : List Int) (w : World) (hz : IsInt w zb zo z) (h : Rd w .u32 A n c l) (hl : Words l) (ha : lv l = a) (hn : n ≤ 1000000000) :
    Calls Tryz.prog 285 #[.pointer (some ⟨zb, zo, none⟩), .slice A n c] w fun e w' => e = .returned (.pointer (some ⟨zb, zo, none⟩)) ∧ IsInt w' zb zo (a : Int) ∧ Wr zb zo w w' := by
  have hlt := hz.lt
  go_enter Tryz.func285, Tryz.ntmps285
  go_wp2_with fail
  refine (cloneU_calls _ _ _ _ _ h hn).mono ?_
  rintro e w1 ⟨v, rfl, hO, hx1⟩
  obtain ⟨A1, n1, c1, rfl, hr⟩ := hO.formN
  go_wp2_with fail
  refine (trim_nt _ _ _ a l _ hr hl ha).mono ?_
  rintro e w2 ⟨m, hm, rfl, hn2, hx2⟩
  go_wp2_with fail
  refine (put_calls zb zo z _ ((hz.ext hx1).ext hx2) false _ _ _ _ hn2 (a : Int) rfl).mono ?_
  rintro e w3 ⟨rfl, hI3, hW3⟩
  go_wp2
  go_ret
  exact ⟨rfl, hI3, Wr.ext_left (hx1.trans hx2) hlt hW3⟩

set_option maxHeartbeats 1000000 in
set_option maxRecDepth 100000 in
theorem tzb_calls (xb xo : Nat) (x : Int) (w : World) (hx : IsInt w xb xo x) (hl : (wd x.natAbs).length ≤ 1000000000) {B : Nat} (hG : Glob B w) :
    Calls Tryz.prog 314 #[.pointer (some ⟨xb, xo, none⟩)] w fun e w' => ∃ k : Nat, e = .returned (.int .u64 (k : Int)) ∧ w' = w ∧ k < 32 * (wd x.natAbs).length + 1 ∧ (x.natAbs ≠ 0 → ∃ m, x.natAbs = 2 ^ k * (2 * m + 1)) := by
  obtain ⟨A, n, c, h1, h2, h3⟩ := hx.ex
  have hl' := hl
  rw [h3.len] at hl'
  go_enter Tryz.func314, Tryz.ntmps314
  go_wp2_with fail
  refine (zeros_calls _ _ _ _ _ h3 hl' hG).mono ?_
  rintro e w1 ⟨k, rfl, rfl, hk, hm⟩
  go_wp2
  go_ret
  exact ⟨k, rfl, rfl, by rw [h3.len]; exact hk, hm⟩

set_option maxHeartbeats 1000000 in
set_option maxRecDepth 100000 in
/-- Rsh of a number from 0 on. -/
theorem rsh_calls (zb zo xb xo : Nat) (z : Int) (x : Nat) (K : Nat) (w : World) (hz : IsInt w zb zo z) (hx : IsInt w xb xo x) (hl : (wd x).length ≤ 1000000000) (hK : K ≤ 10000000000) :
    Calls Tryz.prog 315 #[.pointer (some ⟨zb, zo, none⟩), .pointer (some ⟨xb, xo, none⟩), .int .u64 (K : Int)] w fun e w' => e = .returned (.pointer (some ⟨zb, zo, none⟩)) ∧ IsInt w' zb zo ((x / 2 ^ K : Nat) : Int) ∧ Wr zb zo w w' := by
  obtain ⟨A, n, c, h1, h2, h3⟩ := hx.ex
  have d1 : decide ((x : Int) < 0) = false := decide_eq_false (by omega)
  rw [d1] at h1
  rw [Int.natAbs_natCast] at h3
  clear d1
  rw [h3.len] at hl
  have hlt := hz.lt
  go_enter Tryz.func315, Tryz.ntmps315
  go_wp2_with fail
  refine (shr_calls _ _ _ x K _ h3 hl hK).mono ?_
  rintro e w1 ⟨A1, n1, c1, rfl, hn1, hx1⟩
  have g1 := hx1.cell h1
  go_wp2
  go_quiet (fail)
  go_wp2_with fail
  refine (put_calls zb zo z _ ((hz.ext hx1).ext (Ext.drewN _ _)) false _ _ _ _ (hn1.ext (Ext.drewN _ _)) _ rfl).mono ?_
  rintro e w2 ⟨rfl, hI2, hW2⟩
  go_wp2
  go_ret
  exact ⟨rfl, hI2, Wr.ext_left (hx1.trans (Ext.drewN _ _)) hlt hW2⟩
end Go.Proofs.YtkljejejabikiaaGreatDoor
