/- Contracts of the program's functions, and plain laws on numbers and texts (joined: HolD). -/
import Derived.Test.YtkljejejabikiaaGreatDoorV12
import Derived.Test.YtkljejejabikiaaGreatDoorV09
import Derived.Test.YtkljejejabikiaaGreatDoorV10
import Derived.Deep.DeepCutAuto
import Derived.Deep.RegionHeld3

/- DecimHolds. -/
namespace Go.Proofs.YtkljejejabikiaaGreatDoor
open Go Go.RowKit Cusp

theorem eqz_any {b : Nat} (hb : b < 18446744073709551616) (hf : b % 9223372036854775808 < 9218868437227405312) : (FloatKind.f64.format.order b 0 == some .eq) = decide (b % 9223372036854775808 = 0) := by
  show (Ieee.double.order b 0 == some .eq) = _
  have h := order_fin (b / 9223372036854775808 == 1) false hf (show 0 < 9218868437227405312 by omega)
  rw [← word_split hb, word_false] at h
  rw [h]
  generalize (b / 9223372036854775808 == 1) = s
  generalize b % 9223372036854775808 = c
  rcases Nat.eq_zero_or_pos c with h0 | h0
  · subst h0
    unfold sv
    rw [V_zero]
    cases s <;> rfl
  · have hp := V_pos h0
    rw [decide_eq_false (by omega : ¬ c = 0)]
    unfold sv
    rw [V_zero, if_neg (by simp : ¬ (false = true))]
    cases s with
    | true => rw [if_pos rfl, show compare (-(V c : Int)) ((0 : Nat) : Int) = Ordering.lt from Int.compare_eq_lt.2 (by omega)]; rfl
    | false => rw [if_neg (by simp), show compare ((V c : Int)) ((0 : Nat) : Int) = Ordering.gt from Int.compare_eq_gt.2 (by omega)]; rfl
theorem leK {c : Nat} (hc : c < 9223372036854775808) : (FloatKind.f64.format.order c 4831355200913801216 == some .lt) = decide (c < 4831355200913801216) ∧ (FloatKind.f64.format.order c 4831355200913801216 == some .eq) = decide (c = 4831355200913801216) := by
  show (Ieee.double.order c _ == _) = _ ∧ (Ieee.double.order c _ == _) = _
  by_cases h : c ≤ 9218868437227405312
  · rw [order_pos h (by omega)]
    rcases Nat.lt_trichotomy c 4831355200913801216 with h1 | h1 | h1
    · rw [Nat.compare_eq_lt.2 h1, decide_eq_true h1, decide_eq_false (by omega)]; exact ⟨rfl, rfl⟩
    · rw [Nat.compare_eq_eq.2 h1, decide_eq_false (by omega : ¬ c < 4831355200913801216), decide_eq_true h1]; exact ⟨rfl, rfl⟩
    · rw [Nat.compare_eq_gt.2 h1, decide_eq_false (by omega : ¬ c < 4831355200913801216), decide_eq_false (by omega)]; exact ⟨rfl, rfl⟩
  · rw [order_nan (by omega) hc, decide_eq_false (by omega : ¬ c < 4831355200913801216), decide_eq_false (by omega)]; exact ⟨rfl, rfl⟩

theorem V_bl {c : Nat} (h : c ≤ 4831355200913801216) : bl (V c) ≤ 1200 := by
  obtain ⟨t, ht⟩ : ∃ t, t = 1074 := ⟨_, rfl⟩
  have h1 := V_le h
  rw [V_15 ht] at h1
  have h2 := bl_mono h1
  rw [bl_mul_pow (by omega)] at h2
  have : bl 1000000000000000 = 50 := by decide
  omega
set_option exponentiation.threshold 2000 in
theorem ten_bl {p : Nat} (h : p ≤ 400) : bl (10 ^ p) ≤ 1600 := by
  apply bl_le_of_lt
  have h1 : (10 : Nat) ^ p ≤ 10 ^ 400 := Nat.pow_le_pow_right (by omega) h
  exact Nat.lt_of_le_of_lt h1 (by decide)
theorem natAbs_ten (p : Nat) : ((10 : Int) ^ p).natAbs = 10 ^ p := by rw [Int.natAbs_pow]; rfl
theorem sN_ten (s : Bool) (v p : Nat) : sN s v * (10 : Int) ^ p = sN s (v * 10 ^ p) := by
  have h : ((v * 10 ^ p : Nat) : Int) = (v : Int) * (10 : Int) ^ p := by rw [Int.natCast_mul, Int.natCast_pow]; rfl
  unfold sN
  cases s with
  | true => rw [if_pos rfl, if_pos rfl, h, Int.neg_mul]
  | false => rw [if_neg (by simp), if_neg (by simp), h]
theorem holds_o {c a j p t : Nat} {sg : Bool} (ht : t = 1074) (hF : FracOf c a j) : HoldsSay (sN sg (roundN (a * 10 ^ p) (2 ^ j) sg 1)) (sN sg (roundN (a * 10 ^ p) (2 ^ j) sg 3)) (sN sg (V c * 10 ^ p)) (2 ^ t) :=
  holds_say (Nat.two_pow_pos j) (Nat.two_pow_pos t) (hF.1 t ht) sg
theorem sgn_le {x : Int} (h : x ≤ 0) : sgn x ≤ 0 := by unfold sgn; split; omega; split <;> omega
theorem sgn_ge (x : Int) : -1 ≤ sgn x := by unfold sgn; split; omega; split <;> omega
theorem sgn_zero {x : Int} : sgn x = 0 ↔ x = 0 := by unfold sgn; split; omega; split <;> omega
theorem hold_signs {X Y W : Int} {T : Nat} (h : HoldsSay X Y W T) : sgn (X * T - W) ≤ 0 ∧ sgn (W - Y * T) ≤ 0 ∧ sgn (Y - X - 1) ≤ 0 ∧ (sgn (Y - X) = 0 ↔ (sgn (X * T - W) = 0 ∧ sgn (Y * T - W) = 0)) := by
  refine ⟨sgn_le h.lo, sgn_le h.hi, sgn_le h.one, ?_⟩
  rw [sgn_zero, sgn_zero, sgn_zero]
  exact h.eq
set_option exponentiation.threshold 2000 in
theorem ten416 {N : Nat} (h : N < 10 ^ 416) : N < 2 ^ 1664 := Nat.lt_of_lt_of_le h (by decide)
theorem sN_bl (sg : Bool) {N : Nat} (h : N < 10 ^ 416) : bl (sN sg N).natAbs ≤ 1664 := by rw [sN_abs]; exact bl_le_of_lt (ten416 h)
theorem sN_blm (sg : Bool) {N t : Nat} (ht : t = 1074) (h : N < 10 ^ 416) : bl (sN sg N * ((2 ^ t : Nat) : Int)).natAbs ≤ 4000000 := by
  rw [Int.natAbs_mul, sN_abs, Int.natAbs_natCast]
  rcases Nat.eq_zero_or_pos N with h0 | h0
  · subst h0; rw [Nat.zero_mul, bl_zero]; omega
  · rw [bl_mul_pow (by omega)]
    have := bl_le_of_lt (ten416 h)
    omega
set_option exponentiation.threshold 2000 in
theorem sub_bl (sg : Bool) {N M : Nat} (h : N < 10 ^ 416) (k : M < 10 ^ 416) : bl (sN sg N - sN sg M).natAbs ≤ 4000000 := by
  have h1 := ten416 h
  have h2 := ten416 k
  have h3 : (sN sg N - sN sg M).natAbs < 2 ^ 1665 := by
    have e1 := sN_abs sg N
    have e2 := sN_abs sg M
    have e : (2 : Nat) ^ 1665 = 2 ^ 1664 * 2 := Nat.pow_succ (n := 2) (m := 1664)
    generalize (2 : Nat) ^ 1664 = Z at h1 h2 e
    rw [e]
    omega
  have := bl_le_of_lt h3
  omega
theorem V_ten_bl {c p : Nat} (h : c ≤ 4831355200913801216) (hp : p ≤ 400) : bl (V c * 10 ^ p) ≤ 4000000 := by
  have h1 := lt_bl (V c)
  have h2 := lt_bl (10 ^ p)
  have h3 := Nat.mul_lt_mul'' h1 h2
  rw [← Nat.pow_add] at h3
  have h4 := bl_le_of_lt h3
  have h5 := V_bl h
  have h6 := ten_bl hp
  omega

set_option linter.unusedSimpArgs false in
set_option maxHeartbeats 16000000 in
set_option maxRecDepth 1000000 in
theorem holds_calls (b : Nat) (hb : b < 18446744073709551616) (n : Int) (w : World) {B : Nat} (hG : Glib B w) :
    Calls Tryz.prog 6 #[.float .f64 b, .int .i64 n] w fun v w' => v = .returned (.bool true) ∧ Ext w w' := by
  obtain ⟨p, hp⟩ : ∃ p : Nat, max 0 (min n 400) = (p : Int) := ⟨(max 0 (min n 400)).toNat, by omega⟩
  have hp4 : p ≤ 400 := by omega
  have HP := Lib.hid hp4
  clear hp4
  go_enter Tryz.func6, Tryz.ntmps6
  go_upto_region 2 with (fail)
  clear hp
  have HB := Lib.hid hb
  obtain ⟨c, hc⟩ : ∃ c, c = b % 9223372036854775808 := ⟨_, rfl⟩
  have hc63 : c < 9223372036854775808 := by omega
  have hK := leK hc63
  have hZ := fun h => eqz_any (b := b) hb h
  rw [← hc] at hZ
  have HC := Lib.hid hc
  clear hc hb
  go_cut [24] (fun v wx => v = .bool (!(decide (0 < c ∧ c ≤ 4831355200913801216))) ∧ wx = w)
  case first =>
    go_wp2_with fail
    refine (abs_f_calls b HB.out _).mono ?_
    rintro r w1 ⟨rfl, rfl⟩
    rw [← HC.out]
    obtain ⟨k1, k2⟩ := hK
    by_cases h1 : c ≤ 4831355200913801216
    · replace hZ := hZ (by omega)
      by_cases h2 : c = 4831355200913801216
      · rw [decide_eq_false (by omega)] at k1
        rw [decide_eq_true h2] at k2
        rw [decide_eq_false (by omega)] at hZ
        have hr := decide_eq_true (show 0 < c ∧ c ≤ 4831355200913801216 by omega)
        clear h1 h2
        go_wp2
        go_meet
        case rel => exact ⟨by rw [hr]; rfl, rfl⟩
      · rw [decide_eq_true (by omega)] at k1
        rw [decide_eq_false (by omega)] at k2
        by_cases h3 : c = 0
        · rw [decide_eq_true h3] at hZ
          have hr := decide_eq_false (show ¬ (0 < c ∧ c ≤ 4831355200913801216) by omega)
          clear h1 h2 h3
          go_wp2
          go_meet
          case rel => exact ⟨by rw [hr]; rfl, rfl⟩
        · rw [decide_eq_false h3] at hZ
          have hr := decide_eq_true (show 0 < c ∧ c ≤ 4831355200913801216 by omega)
          clear h1 h2 h3
          go_wp2
          go_meet
          case rel => exact ⟨by rw [hr]; rfl, rfl⟩
    · rw [decide_eq_false (by omega)] at k1 k2
      have hr := decide_eq_false (show ¬ (0 < c ∧ c ≤ 4831355200913801216) by omega)
      clear hZ h1
      go_wp2
      go_meet
      case rel => exact ⟨by rw [hr]; rfl, rfl⟩
  case rest =>
    obtain ⟨rfl, rfl⟩ := hcut
    by_cases hin : 0 < c ∧ c ≤ 4831355200913801216
    · rw [decide_eq_true hin]
      clear hK hZ
      have hf : b % 9223372036854775808 < 9218868437227405312 := by have := HC.out; omega
      have HF := Lib.hid hf
      have HI := Lib.hid hin
      clear hf hin hc63
      have hp11 : p ≤ 1100 := by have := HP.out; omega
      have HP11 := Lib.hid hp11
      clear hp11
      obtain ⟨sg, hsg⟩ : ∃ sg, sg = decide (9223372036854775808 ≤ b) := ⟨_, rfl⟩
      have HSG := Lib.hid hsg
      clear hsg
      go_wp2_with fail
      refine (fixed_calls b HB.out HF.out p HP11.out 1 (by omega) _).mono ?_
      rintro v w1 ⟨a, j, hF, rfl, x1⟩
      rw [← HSG.out]
      rw [← HC.out] at hF
      have HFR := Lib.hid hF
      obtain ⟨N1, hN1⟩ : ∃ N, N = roundN (a * 10 ^ p) (2 ^ j) sg 1 := ⟨_, rfl⟩
      have hb1 := holds_small hF HI.out.2 HP.out sg 1
      rw [← hN1] at hb1 ⊢
      have hv1 := value_fixed sg N1 p hb1 HP.out
      have hG1 := hG.ext x1
      obtain ⟨S1, hS1⟩ : ∃ S, S = strOfNums (minusB sg ++ pointL (dec N1) p) := ⟨_, rfl⟩
      rw [← hS1] at hv1 ⊢
      have HN1 := Lib.hid hN1
      have HB1 := Lib.hid hb1
      clear hN1 hb1 hS1 hF
      go_wp2_with fail
      refine (fixed_calls b HB.out HF.out p HP11.out 3 (by omega) _).mono ?_
      rintro v w2 ⟨a2, j2, hF2, rfl, x2⟩
      rw [← HSG.out]
      rw [← HC.out] at hF2
      obtain ⟨rfl, rfl⟩ := frac_uniq hF2 HFR.out.1 HFR.out.2.1
      clear hF2
      obtain ⟨N3, hN3⟩ : ∃ N, N = roundN (a2 * 10 ^ p) (2 ^ j2) sg 3 := ⟨_, rfl⟩
      have hb3 := holds_small HFR.out HI.out.2 HP.out sg 3
      rw [← hN3] at hb3 ⊢
      have hv3 := value_fixed sg N3 p hb3 HP.out
      have hG2 := hG1.ext x2
      obtain ⟨S3, hS3⟩ : ∃ S, S = strOfNums (minusB sg ++ pointL (dec N3) p) := ⟨_, rfl⟩
      rw [← hS3] at hv3 ⊢
      have HN3 := Lib.hid hN3
      have HB3 := Lib.hid hb3
      clear hN3 hb3 hS3 hG hG1
      go_wp2_with fail
      refine (hv1 _).mono ?_
      rintro r w3 ⟨sx, Ax, nx, cx, ex, rfl, hX, x3⟩
      have hG3 := hG2.ext x3
      clear hv1 hG2
      unfold dyn
      go_wp2_with fail
      refine (hv3 _).mono ?_
      rintro r w4 ⟨sy, Ay, ny, cy, ey, rfl, hY, x4⟩
      have hG4 := hG3.ext x4
      have hX4 := hX.ext x4
      have X4 := ((x1.trans x2).trans x3).trans x4
      clear hv3 hG3 hX x1 x2 x3 x4
      unfold dyn
      go_upto_region 7 with (fail)
      have e4 : Ext w4 (w4.alloc (.cells #[.bool sx, .slice Ax nx cx, .int .i64 ex] 44)) := (Ext.refl w4).alloc _
      have hTx := nmAt_new w4 44 sx Ax nx cx ex
      obtain ⟨w5, hw5⟩ : ∃ w, w = w4.alloc (.cells #[.bool sx, .slice Ax nx cx, .int .i64 ex] 44) := ⟨_, rfl⟩
      rw [← hw5] at e4 hTx ⊢
      have hs5 : w5.heap.size = w4.heap.size + 1 := by rw [hw5]; simp
      clear hw5
      have e5 : Ext w5 (w5.alloc (.cells #[.bool sy, .slice Ay ny cy, .int .i64 ey] 44)) := (Ext.refl w5).alloc _
      have hTy := nmAt_new w5 44 sy Ay ny cy ey
      obtain ⟨w6, hw6⟩ : ∃ w, w = w5.alloc (.cells #[.bool sy, .slice Ay ny cy, .int .i64 ey] 44) := ⟨_, rfl⟩
      rw [← hw6] at e5 hTy ⊢
      clear hw6
      rw [hs5] at hTy
      obtain ⟨gx, hgx⟩ : ∃ g, g = w4.heap.size := ⟨_, rfl⟩
      rw [← hgx] at hTx hTy ⊢
      have hx6 := hX4.ext (e4.trans e5)
      have hy6 := hY.ext (e4.trans e5)
      have hTx6 := hTx.ext e5
      have hG6 := hG4.ext (e4.trans e5)
      have X6 := X4.trans (e4.trans e5)
      clear hs5 hgx e4 e5 hX4 hY hTx hG4 X4
      have hVb := V_bl HI.out.2
      have hTb := ten_bl HP.out
      go_wp2_with fail
      refine (rfloat_calls b HB.out HF.out _).mono ?_
      rintro r w7 ⟨sf, Af, nf, cf, ef, rfl, hf7, x7⟩
      rw [← HSG.out, ← HC.out] at hf7
      unfold dyn
      go_wp2_with fail
      refine (rten_calls p _ (by have := HP.out; omega)).mono ?_
      rintro r w8 ⟨st, At, nt, ct, et, rfl, ht8, x8⟩
      unfold dyn
      go_wp2_with fail
      refine (rtimes_calls _ _ _ _ ef et sf st Af At nf cf nt ct _ (hf7.ext x8) ht8 (by rw [sN_abs]; exact Nat.le_trans hVb (by omega)) (by rw [natAbs_ten]; exact Nat.le_trans hTb (by omega)) (by omega) (by omega)).mono ?_
      rintro r w9 ⟨sv, Av, nv, cv, ev, rfl, hv9, x9⟩
      rw [sN_ten] at hv9
      unfold dyn
      have x69 := (x7.trans x8).trans x9
      have hx9 := hx6.ext x69
      have hy9 := hy6.ext x69
      have hTx9 := hTx6.ext x69
      have hTy9 := hTy.ext x69
      have hG9 := hG6.ext x69
      have X9 := X6.trans x69
      clear x7 x8 x9 x69 hx6 hy6 hTx6 hTy hG6 X6 hf7 ht8
      go_upto_region 8 with (fail)
      have e9 : Ext w9 (w9.alloc (.cells #[.bool sv, .slice Av nv cv, .int .i64 ev] 44)) := (Ext.refl w9).alloc _
      have hTv := nmAt_new w9 44 sv Av nv cv ev
      obtain ⟨w10, hw10⟩ : ∃ w, w = w9.alloc (.cells #[.bool sv, .slice Av nv cv, .int .i64 ev] 44) := ⟨_, rfl⟩
      rw [← hw10] at e9 hTv ⊢
      clear hw10
      obtain ⟨gv, hgv⟩ : ∃ g, g = w9.heap.size := ⟨_, rfl⟩
      rw [← hgv] at hTv ⊢
      have hx10 := hx9.ext e9
      have hy10 := hy9.ext e9
      have hv10 := hv9.ext e9
      have hTx10 := hTx9.ext e9
      have hTy10 := hTy9.ext e9
      have hG10 := hG9.ext e9
      have X10 := X9.trans e9
      clear hgv e9 hx9 hy9 hv9 hTx9 hTy9 hG9 X9
      have a0 := hTx10.c0
      have a1 := hTx10.c1
      have a2 := hTx10.c2
      have b0 := hTy10.c0
      have b1 := hTy10.c1
      have b2 := hTy10.c2
      have bX := sN_bl sg HB1.out
      have bY := sN_bl sg HB3.out
      go_wp2_with fail
      refine (rless_num _ _ 0 ey ex sy sx Ay Ax ny cy nx cx _ hy10 hx10 (Nat.le_trans bY (by omega)) (Nat.le_trans bX (by omega)) (by omega)).mono ?_
      rintro r w11 ⟨sd, Ad, nd, cd, ed, rfl, hd11, x11⟩
      unfold dyn
      have hx11 := hx10.ext x11
      have hy11 := hy10.ext x11
      have hv11 := hv10.ext x11
      have hTx11 := hTx10.ext x11
      have hTy11 := hTy10.ext x11
      have hTv11 := hTv.ext x11
      have hG11 := hG10.ext x11
      have X11 := X10.trans x11
      clear x11 hx10 hy10 hv10 hTx10 hTy10 hTv hG10 X10 a0 a1 a2 b0 b1 b2
      go_upto_region 9 with (fail)
      have e11 : Ext w11 (w11.alloc (.cells #[.bool sd, .slice Ad nd cd, .int .i64 ed] 44)) := (Ext.refl w11).alloc _
      have HD := nmAt_new w11 44 sd Ad nd cd ed
      obtain ⟨w12, hw12⟩ : ∃ w, w = w11.alloc (.cells #[.bool sd, .slice Ad nd cd, .int .i64 ed] 44) := ⟨_, rfl⟩
      rw [← hw12] at e11 HD ⊢
      clear hw12
      obtain ⟨gd, hgd⟩ : ∃ g, g = w11.heap.size := ⟨_, rfl⟩
      rw [← hgd] at HD ⊢
      have hx12 := hx11.ext e11
      have hy12 := hy11.ext e11
      have hv12 := hv11.ext e11
      have hd12 := hd11.ext e11
      have HX := hTx11.ext e11
      have HY := hTy11.ext e11
      have HV := hTv11.ext e11
      have hG12 := hG11.ext e11
      have X12 := X11.trans e11
      clear hgd e11 hx11 hy11 hv11 hd11 hTx11 hTy11 hTv11 hG11 X11
      obtain ⟨t, ht⟩ : ∃ t : Nat, t = 1074 := ⟨_, rfl⟩
      have hsay := hold_signs (holds_o (p := p) (sg := sg) ht HFR.out)
      rw [← HN1.out, ← HN3.out] at hsay
      have bXs := sN_blm sg ht HB1.out
      have bYs := sN_blm sg ht HB3.out
      have bW : bl (sN sg (V c * 10 ^ p)).natAbs ≤ 4000000 := by
        rw [sN_abs]
        exact V_ten_bl HI.out.2 HP.out
      have bD := sub_bl sg HB3.out HB1.out
      have hxs := (hx12.scale t).cast (x' := sN sg N1 * (2 ^ t : Nat)) (k' := -1074 + 0) (by rw [Int.natCast_pow]; rfl) (by omega)
      have hys := (hy12.scale t).cast (x' := sN sg N3 * (2 ^ t : Nat)) (k' := -1074 + 0) (by rw [Int.natCast_pow]; rfl) (by omega)
      clear hx12 hy12 ht bX bY hVb hTb
      obtain ⟨o1, ho1⟩ : ∃ o, o = sgn (sN sg N1 * (2 ^ t : Nat) - sN sg (V c * 10 ^ p)) := ⟨_, rfl⟩
      obtain ⟨o2, ho2⟩ : ∃ o, o = sgn (sN sg (V c * 10 ^ p) - sN sg N3 * (2 ^ t : Nat)) := ⟨_, rfl⟩
      obtain ⟨o3, ho3⟩ : ∃ o, o = sgn (sN sg N3 - sN sg N1 - 1) := ⟨_, rfl⟩
      obtain ⟨o4, ho4⟩ : ∃ o, o = sgn (sN sg N3 - sN sg N1) := ⟨_, rfl⟩
      obtain ⟨o5, ho5⟩ : ∃ o, o = sgn (sN sg N3 * (2 ^ t : Nat) - sN sg (V c * 10 ^ p)) := ⟨_, rfl⟩
      rw [← ho1, ← ho2, ← ho3, ← ho4, ← ho5] at hsay
      have C1 : ∀ w', Ext w12 w' → Calls Tryz.prog 32 #[.agg #[.bool sx, .slice Ax nx cx, .int .i64 ex], .agg #[.bool sv, .slice Av nv cv, .int .i64 ev]] w' fun r w'' => r = .returned (.int .i64 o1) ∧ Ext w' w'' := fun w' e => by
        rw [ho1]
        exact rorderN_calls _ _ _ ex ev sx sv Ax Av nx cx nv cv w' (hxs.ext e) (hv12.ext e) bXs bW (by omega)
      have C2 : ∀ w', Ext w12 w' → Calls Tryz.prog 32 #[.agg #[.bool sv, .slice Av nv cv, .int .i64 ev], .agg #[.bool sy, .slice Ay ny cy, .int .i64 ey]] w' fun r w'' => r = .returned (.int .i64 o2) ∧ Ext w' w'' := fun w' e => by
        rw [ho2]
        exact rorderN_calls _ _ _ ev ey sv sy Av Ay nv cv ny cy w' (hv12.ext e) (hys.ext e) bW bYs (by omega)
      have C5 : ∀ w', Ext w12 w' → Calls Tryz.prog 32 #[.agg #[.bool sy, .slice Ay ny cy, .int .i64 ey], .agg #[.bool sv, .slice Av nv cv, .int .i64 ev]] w' fun r w'' => r = .returned (.int .i64 o5) ∧ Ext w' w'' := fun w' e => by
        rw [ho5]
        exact rorderN_calls _ _ _ ey ev sy sv Ay Av ny cy nv cv w' (hys.ext e) (hv12.ext e) bYs bW (by omega)
      have C3 : ∀ w' so Ao no co eo, Ext w12 w' → Nm w' 1 0 so Ao no co eo → Calls Tryz.prog 32 #[.agg #[.bool sd, .slice Ad nd cd, .int .i64 ed], .agg #[.bool so, .slice Ao no co, .int .i64 eo]] w' fun r w'' => r = .returned (.int .i64 o3) ∧ Ext w' w'' := fun w' so Ao no co eo e h1 => by
        rw [ho3]
        exact rorderN_calls _ _ _ ed eo sd so Ad Ao nd cd no co w' (hd12.ext e) h1 bD (by decide) (by omega)
      have C4 : ∀ w', Ext w12 w' → Calls Tryz.prog 34 #[.agg #[.bool sd, .slice Ad nd cd, .int .i64 ed]] w' fun r w'' => r = .returned (.int .i64 o4) ∧ Ext w' w'' := fun w' e => by
        rw [ho4]
        exact rsgn_calls _ _ ed sd Ad nd cd w' (hd12.ext e)
      have CW : ∀ w', Calls Tryz.prog 33 #[.int .i64 1] w' fun r w'' => ∃ s' A' n' c' e', r = .returned (dyn s' A' n' c' e') ∧ Nm w'' 1 0 s' A' n' c' e' ∧ Ext w' w'' := fun w' => rwhole_calls 1 w' (by omega)
      have l0 : -1 ≤ o1 := by rw [ho1]; exact sgn_ge _
      clear ho1 ho2 ho3 ho4 ho5 hxs hys hd12 hv12 bXs bYs bW bD
      obtain ⟨l1, l2, l3, l4⟩ := hsay
      have EE : Ext w12 w12.drew := Ext.drew _
      have hG12' := hG12.ext EE
      go_region_held3 (fun w' => w'.cell? ⟨gx, 0, none⟩ = some (.bool sx) ∧ w'.cell? ⟨gx, 1, none⟩ = some (.slice Ax nx cx) ∧ w'.cell? ⟨gx, 2, none⟩ = some (.int .i64 ex) ∧ w'.cell? ⟨gx + 1, 0, none⟩ = some (.bool sy) ∧ w'.cell? ⟨gx + 1, 1, none⟩ = some (.slice Ay ny cy) ∧ w'.cell? ⟨gx + 1, 2, none⟩ = some (.int .i64 ey) ∧ w'.cell? ⟨gv, 0, none⟩ = some (.bool sv) ∧ w'.cell? ⟨gv, 1, none⟩ = some (.slice Av nv cv) ∧ w'.cell? ⟨gv, 2, none⟩ = some (.int .i64 ev) ∧ w'.cell? ⟨gd, 0, none⟩ = some (.bool sd) ∧ w'.cell? ⟨gd, 1, none⟩ = some (.slice Ad nd cd) ∧ w'.cell? ⟨gd, 2, none⟩ = some (.int .i64 ed))
        (first | (with_reducible exact ⟨(HX.ext EE).c0, (HX.ext EE).c1, (HX.ext EE).c2, (HY.ext EE).c0, (HY.ext EE).c1, (HY.ext EE).c2, (HV.ext EE).c0, (HV.ext EE).c1, (HV.ext EE).c2, (HD.ext EE).c0, (HD.ext EE).c1, (HD.ext EE).c2⟩) | fail)
        (first | (go_at_call 32; (with_reducible refine (C1 _ EE).mono ?_); rintro v w4 ⟨rfl, x4⟩; have EE := EE.trans x4) | (go_at_call 32; (with_reducible refine (C2 _ EE).mono ?_); rintro v w4 ⟨rfl, x4⟩; have EE := EE.trans x4) | (go_at_call 33; (with_reducible refine (CW _).mono ?_); rintro v w4 ⟨so, Ao, no, co, eo, rfl, hOne, x4⟩; have EE := EE.trans x4; unfold dyn) | (go_at_call 32; (with_reducible refine (C3 _ so Ao no co eo EE hOne).mono ?_); rintro v w4 ⟨rfl, x4⟩; have EE := EE.trans x4) | fail)
      all_goals
        by_cases h1 : o1 = 0
        · by_cases h5 : o5 = 0
          · have h4 := l4.2 ⟨h1, h5⟩
            clear l0 l1 l2 l3 l4
            subst h1 h5 h4
            go_upto_region 10 with (fail)
            have EE := EE.trans (Ext.drew _)
            go_region_held3 (fun w' => w'.cell? ⟨gx, 0, none⟩ = some (.bool sx) ∧ w'.cell? ⟨gx, 1, none⟩ = some (.slice Ax nx cx) ∧ w'.cell? ⟨gx, 2, none⟩ = some (.int .i64 ex) ∧ w'.cell? ⟨gx + 1, 0, none⟩ = some (.bool sy) ∧ w'.cell? ⟨gx + 1, 1, none⟩ = some (.slice Ay ny cy) ∧ w'.cell? ⟨gx + 1, 2, none⟩ = some (.int .i64 ey) ∧ w'.cell? ⟨gv, 0, none⟩ = some (.bool sv) ∧ w'.cell? ⟨gv, 1, none⟩ = some (.slice Av nv cv) ∧ w'.cell? ⟨gv, 2, none⟩ = some (.int .i64 ev) ∧ w'.cell? ⟨gd, 0, none⟩ = some (.bool sd) ∧ w'.cell? ⟨gd, 1, none⟩ = some (.slice Ad nd cd) ∧ w'.cell? ⟨gd, 2, none⟩ = some (.int .i64 ed))
              (first | (with_reducible exact ⟨(HX.ext EE).c0, (HX.ext EE).c1, (HX.ext EE).c2, (HY.ext EE).c0, (HY.ext EE).c1, (HY.ext EE).c2, (HV.ext EE).c0, (HV.ext EE).c1, (HV.ext EE).c2, (HD.ext EE).c0, (HD.ext EE).c1, (HD.ext EE).c2⟩) | fail)
              (first | (go_at_call 32; (with_reducible refine (C1 _ EE).mono ?_); rintro v w4 ⟨rfl, x4⟩; have EE := EE.trans x4) | (go_at_call 32; (with_reducible refine (C5 _ EE).mono ?_); rintro v w4 ⟨rfl, x4⟩; have EE := EE.trans x4) | (go_at_call 34; (with_reducible refine (C4 _ EE).mono ?_); rintro v w4 ⟨rfl, x4⟩; have EE := EE.trans x4) | (go_at_call 18; (with_reducible refine (works_calls _ (hG12.ext EE)).mono ?_); rintro v w4 ⟨rfl, x4⟩; have EE := EE.trans x4) | fail)
            all_goals
              go_wp2
              go_ret
              exact ⟨rfl, X12.trans EE⟩
          · have h4 : ¬ o4 = 0 := fun h => h5 (l4.1 h).2
            have t5 : (o5 == 0) = false := by simp [h5]
            have t4 : (o4 == 0) = false := by simp [h4]
            clear l0 l1 l2 l3 l4 h5 h4
            subst h1
            go_upto_region 10 with (fail)
            have EE := EE.trans (Ext.drew _)
            go_region_held3 (fun w' => w'.cell? ⟨gx, 0, none⟩ = some (.bool sx) ∧ w'.cell? ⟨gx, 1, none⟩ = some (.slice Ax nx cx) ∧ w'.cell? ⟨gx, 2, none⟩ = some (.int .i64 ex) ∧ w'.cell? ⟨gx + 1, 0, none⟩ = some (.bool sy) ∧ w'.cell? ⟨gx + 1, 1, none⟩ = some (.slice Ay ny cy) ∧ w'.cell? ⟨gx + 1, 2, none⟩ = some (.int .i64 ey) ∧ w'.cell? ⟨gv, 0, none⟩ = some (.bool sv) ∧ w'.cell? ⟨gv, 1, none⟩ = some (.slice Av nv cv) ∧ w'.cell? ⟨gv, 2, none⟩ = some (.int .i64 ev) ∧ w'.cell? ⟨gd, 0, none⟩ = some (.bool sd) ∧ w'.cell? ⟨gd, 1, none⟩ = some (.slice Ad nd cd) ∧ w'.cell? ⟨gd, 2, none⟩ = some (.int .i64 ed))
              (first | (with_reducible exact ⟨(HX.ext EE).c0, (HX.ext EE).c1, (HX.ext EE).c2, (HY.ext EE).c0, (HY.ext EE).c1, (HY.ext EE).c2, (HV.ext EE).c0, (HV.ext EE).c1, (HV.ext EE).c2, (HD.ext EE).c0, (HD.ext EE).c1, (HD.ext EE).c2⟩) | fail)
              (first | (go_at_call 32; (with_reducible refine (C1 _ EE).mono ?_); rintro v w4 ⟨rfl, x4⟩; have EE := EE.trans x4) | (go_at_call 32; (with_reducible refine (C5 _ EE).mono ?_); rintro v w4 ⟨rfl, x4⟩; have EE := EE.trans x4) | (go_at_call 34; (with_reducible refine (C4 _ EE).mono ?_); rintro v w4 ⟨rfl, x4⟩; have EE := EE.trans x4) | (go_at_call 18; (with_reducible refine (works_calls _ (hG12.ext EE)).mono ?_); rintro v w4 ⟨rfl, x4⟩; have EE := EE.trans x4) | fail)
            all_goals
              go_wp2
              go_ret
              exact ⟨rfl, X12.trans EE⟩
        · have h4 : ¬ o4 = 0 := fun h => h1 (l4.1 h).1
          obtain rfl : o1 = -1 := by omega
          have t4 : (o4 == 0) = false := by simp [h4]
          clear l0 l1 l2 l3 l4 h1 h4
          go_upto_region 10 with (fail)
          have EE := EE.trans (Ext.drew _)
          refine wp_region_noPanic ?_
          refine wp_region_held_drew (S := (fun w' => w'.cell? ⟨gx, 0, none⟩ = some (.bool sx) ∧ w'.cell? ⟨gx, 1, none⟩ = some (.slice Ax nx cx) ∧ w'.cell? ⟨gx, 2, none⟩ = some (.int .i64 ex) ∧ w'.cell? ⟨gx + 1, 0, none⟩ = some (.bool sy) ∧ w'.cell? ⟨gx + 1, 1, none⟩ = some (.slice Ay ny cy) ∧ w'.cell? ⟨gx + 1, 2, none⟩ = some (.int .i64 ey) ∧ w'.cell? ⟨gv, 0, none⟩ = some (.bool sv) ∧ w'.cell? ⟨gv, 1, none⟩ = some (.slice Av nv cv) ∧ w'.cell? ⟨gv, 2, none⟩ = some (.int .i64 ev) ∧ w'.cell? ⟨gd, 0, none⟩ = some (.bool sd) ∧ w'.cell? ⟨gd, 1, none⟩ = some (.slice Ad nd cd) ∧ w'.cell? ⟨gd, 2, none⟩ = some (.int .i64 ed))) (by kernel_rfl) ⟨(HX.ext EE).c0, (HX.ext EE).c1, (HX.ext EE).c2, (HY.ext EE).c0, (HY.ext EE).c1, (HY.ext EE).c2, (HV.ext EE).c0, (HV.ext EE).c1, (HV.ext EE).c2, (HD.ext EE).c0, (HD.ext EE).c1, (HD.ext EE).c2⟩ (fun hHeld => ?_)
          refine wpAnyH_take (i := 0) (v := ?vn0) rfl (by kernel_rfl) (by kernel_rfl) (by kernel_rfl) (fun _ _ _ h => h) (Or.inl ⟨by rfl, ?hyn0⟩) (by assumption) ?_
          case hyn0 => (intro w hSw; (try dsimp only at hSw); go_simp; try with_reducible rfl)
          try simp only [Act.put, List.getElem_toArray, List.getElem_cons_succ, List.getElem_cons_zero, List.setIfInBounds_toArray, List.set_cons_zero, List.set_cons_succ]
          refine wpAnyH_take (i := 1) (v := ?vn1) rfl (by kernel_rfl) (by kernel_rfl) (by kernel_rfl) (fun _ _ _ h => h) (Or.inl ⟨by rfl, ?hyn1⟩) (by assumption) ?_
          case hyn1 => (intro w hSw; (try dsimp only at hSw); go_simp; try with_reducible rfl)
          try simp only [Act.put, List.getElem_toArray, List.getElem_cons_succ, List.getElem_cons_zero, List.setIfInBounds_toArray, List.set_cons_zero, List.set_cons_succ]
          refine wpAnyH_take (i := 2) (v := ?vn2) rfl (by kernel_rfl) (by kernel_rfl) (by kernel_rfl) (fun _ _ _ h => h) (Or.inl ⟨by rfl, ?hyn2⟩) (by assumption) ?_
          case hyn2 => (intro w hSw; (try dsimp only at hSw); go_simp; try with_reducible rfl)
          try simp only [Act.put, List.getElem_toArray, List.getElem_cons_succ, List.getElem_cons_zero, List.setIfInBounds_toArray, List.set_cons_zero, List.set_cons_succ]
          refine wpAnyH_take (i := 3) (v := ?vn3) rfl (by kernel_rfl) (by kernel_rfl) (by kernel_rfl) (fun _ _ _ h => h) (Or.inl ⟨by rfl, ?hyn3⟩) (by assumption) ?_
          case hyn3 => (intro w hSw; (try dsimp only at hSw); go_simp; try with_reducible rfl)
          try simp only [Act.put, List.getElem_toArray, List.getElem_cons_succ, List.getElem_cons_zero, List.setIfInBounds_toArray, List.set_cons_zero, List.set_cons_succ]
          refine wpAnyH_take (i := 4) (v := ?vn4) rfl (by kernel_rfl) (by kernel_rfl) (by kernel_rfl) (fun _ _ _ h => h) (Or.inl ⟨by rfl, ?hyn4⟩) (by assumption) ?_
          case hyn4 => (intro w hSw; (try dsimp only at hSw); go_simp; try with_reducible rfl)
          try simp only [Act.put, List.getElem_toArray, List.getElem_cons_succ, List.getElem_cons_zero, List.setIfInBounds_toArray, List.set_cons_zero, List.set_cons_succ]
          refine wpAnyH_take (i := 5) (v := ?vn5) rfl (by kernel_rfl) (by kernel_rfl) (by kernel_rfl) (fun _ _ _ h => h) (Or.inl ⟨by rfl, ?hyn5⟩) (by assumption) ?_
          case hyn5 => (intro w hSw; (try dsimp only at hSw); go_simp; try with_reducible rfl)
          try simp only [Act.put, List.getElem_toArray, List.getElem_cons_succ, List.getElem_cons_zero, List.setIfInBounds_toArray, List.set_cons_zero, List.set_cons_succ]
          refine wpAnyH_take (i := 6) (v := ?vn6) rfl (by kernel_rfl) (by kernel_rfl) (by kernel_rfl) (fun _ _ _ h => h) (Or.inl ⟨by rfl, ?hyn6⟩) (by assumption) ?_
          case hyn6 => (intro w hSw; (try dsimp only at hSw); go_simp; try with_reducible rfl)
          try simp only [Act.put, List.getElem_toArray, List.getElem_cons_succ, List.getElem_cons_zero, List.setIfInBounds_toArray, List.set_cons_zero, List.set_cons_succ]
          refine wpAnyH_take (i := 7) (v := ?vn7) rfl (by kernel_rfl) (by kernel_rfl) (by kernel_rfl) (fun _ _ _ h => h) (Or.inl ⟨by rfl, ?hyn7⟩) (by assumption) ?_
          case hyn7 => (intro w hSw; (try dsimp only at hSw); go_simp; try with_reducible rfl)
          try simp only [Act.put, List.getElem_toArray, List.getElem_cons_succ, List.getElem_cons_zero, List.setIfInBounds_toArray, List.set_cons_zero, List.set_cons_succ]
          refine wpAnyH_take (i := 8) (v := ?vn8) rfl (by kernel_rfl) (by kernel_rfl) (by kernel_rfl) (fun _ _ _ h => h) (Or.inl ⟨by rfl, ?hyn8⟩) (by assumption) ?_
          case hyn8 => (intro w hSw; (try dsimp only at hSw); go_simp; try with_reducible rfl)
          try simp only [Act.put, List.getElem_toArray, List.getElem_cons_succ, List.getElem_cons_zero, List.setIfInBounds_toArray, List.set_cons_zero, List.set_cons_succ]
          refine wpAnyH_take (i := 9) (v := ?vn9) rfl (by kernel_rfl) (by kernel_rfl) (by kernel_rfl) (fun _ _ _ h => h) (Or.inl ⟨by rfl, ?hyn9⟩) (by assumption) ?_
          case hyn9 => (intro w hSw; (try dsimp only at hSw); go_simp; try with_reducible rfl)
          try simp only [Act.put, List.getElem_toArray, List.getElem_cons_succ, List.getElem_cons_zero, List.setIfInBounds_toArray, List.set_cons_zero, List.set_cons_succ]
          refine wpAnyH_take (i := 10) (v := ?vn10) rfl (by kernel_rfl) (by kernel_rfl) (by kernel_rfl) (fun _ _ _ h => h) (Or.inl ⟨by rfl, ?hyn10⟩) (by assumption) ?_
          case hyn10 => (intro w hSw; (try dsimp only at hSw); go_simp; try with_reducible rfl)
          try simp only [Act.put, List.getElem_toArray, List.getElem_cons_succ, List.getElem_cons_zero, List.setIfInBounds_toArray, List.set_cons_zero, List.set_cons_succ]
          refine wpAnyH_take (i := 13) (v := ?vn13) rfl (by kernel_rfl) (by kernel_rfl) (by kernel_rfl) (fun _ _ _ h => h) (Or.inl ⟨by rfl, ?hyn13⟩) (by assumption) ?_
          case hyn13 => (intro w hSw; (try dsimp only at hSw); go_simp; try with_reducible rfl)
          try simp only [Act.put, List.getElem_toArray, List.getElem_cons_succ, List.getElem_cons_zero, List.setIfInBounds_toArray, List.set_cons_zero, List.set_cons_succ]
          refine wpAnyH_take (i := 14) (v := ?vn14) rfl (by kernel_rfl) (by kernel_rfl) (by kernel_rfl) (fun _ _ _ h => h) (Or.inl ⟨by rfl, ?hyn14⟩) (by assumption) ?_
          case hyn14 => (intro w hSw; (try dsimp only at hSw); go_simp; try with_reducible rfl)
          try simp only [Act.put, List.getElem_toArray, List.getElem_cons_succ, List.getElem_cons_zero, List.setIfInBounds_toArray, List.set_cons_zero, List.set_cons_succ]
          refine wpAnyH_ready (rs := [11]) (by kernel_rfl) (by simp) ?_
          refine AllReadyH.cons (o := _) rfl (fun K hK => ?_) AllReadyH.nil
          go_simp
          refine (C4 _ EE).mono ?_
          rintro v w4 ⟨rfl, x4⟩
          have EE := EE.trans x4
          try go_wp2_with fail
          refine hK.out _ _ ⟨(HX.ext EE).c0, (HX.ext EE).c1, (HX.ext EE).c2, (HY.ext EE).c0, (HY.ext EE).c1, (HY.ext EE).c2, (HV.ext EE).c0, (HV.ext EE).c1, (HV.ext EE).c2, (HD.ext EE).c0, (HD.ext EE).c1, (HD.ext EE).c2⟩ (fun hHeld => ?_)
          clear hK K
          try simp only [Act.put, List.getElem_toArray, List.getElem_cons_succ, List.getElem_cons_zero, List.setIfInBounds_toArray, List.set_cons_zero, List.set_cons_succ]
          refine wpAnyH_take (i := 12) (v := ?vn12) rfl (by kernel_rfl) (by kernel_rfl) (by kernel_rfl) (fun _ _ _ h => h) (Or.inl ⟨by rfl, ?hyn12⟩) (by assumption) ?_
          case hyn12 => (intro w hSw; (try dsimp only at hSw); go_simp; try with_reducible rfl)
          try simp only [Act.put, List.getElem_toArray, List.getElem_cons_succ, List.getElem_cons_zero, List.setIfInBounds_toArray, List.set_cons_zero, List.set_cons_succ]
          refine wpAnyH_ready (rs := [15]) (by kernel_rfl) (by simp) ?_
          refine AllReadyH.cons (o := _) rfl (fun K hK => ?_) AllReadyH.nil
          go_simp
          refine (C1 _ EE).mono ?_
          rintro v w4 ⟨rfl, x4⟩
          have EE := EE.trans x4
          try go_wp2_with fail
          refine hK.out _ _ ⟨(HX.ext EE).c0, (HX.ext EE).c1, (HX.ext EE).c2, (HY.ext EE).c0, (HY.ext EE).c1, (HY.ext EE).c2, (HV.ext EE).c0, (HV.ext EE).c1, (HV.ext EE).c2, (HD.ext EE).c0, (HD.ext EE).c1, (HD.ext EE).c2⟩ (fun hHeld => ?_)
          clear hK K
          try simp only [Act.put, List.getElem_toArray, List.getElem_cons_succ, List.getElem_cons_zero, List.setIfInBounds_toArray, List.set_cons_zero, List.set_cons_succ]
          refine wpAnyH_take (i := 16) (v := ?vn16) rfl (by kernel_rfl) (by kernel_rfl) (by kernel_rfl) (fun _ _ _ h => h) (Or.inl ⟨by rfl, ?hyn16⟩) (by assumption) ?_
          case hyn16 => (intro w hSw; (try dsimp only at hSw); go_simp; try with_reducible rfl)
          try simp only [Act.put, List.getElem_toArray, List.getElem_cons_succ, List.getElem_cons_zero, List.setIfInBounds_toArray, List.set_cons_zero, List.set_cons_succ]
          refine wpAnyH_take (i := 17) (v := ?vn17) rfl (by kernel_rfl) (by kernel_rfl) (by kernel_rfl) (fun _ _ _ h => h) (Or.inl ⟨by rfl, ?hyn17⟩) (by assumption) ?_
          case hyn17 => (intro w hSw; (try dsimp only at hSw); go_simp; try with_reducible rfl)
          try simp only [Act.put, List.getElem_toArray, List.getElem_cons_succ, List.getElem_cons_zero, List.setIfInBounds_toArray, List.set_cons_zero, List.set_cons_succ]
          refine wpAnyH_take (i := 18) (v := undef) rfl (by kernel_rfl) (by kernel_rfl) (by kernel_rfl) (fun _ _ _ h => h) (Or.inr ⟨by rfl, rfl⟩) (by assumption) ?_
          try simp only [Act.put, List.getElem_toArray, List.getElem_cons_succ, List.getElem_cons_zero, List.setIfInBounds_toArray, List.set_cons_zero, List.set_cons_succ]
          refine wpAnyH_take (i := 19) (v := undef) rfl (by kernel_rfl) (by kernel_rfl) (by kernel_rfl) (fun _ _ _ h => h) (Or.inr ⟨by rfl, rfl⟩) (by assumption) ?_
          try simp only [Act.put, List.getElem_toArray, List.getElem_cons_succ, List.getElem_cons_zero, List.setIfInBounds_toArray, List.set_cons_zero, List.set_cons_succ]
          refine wpAnyH_take (i := 20) (v := undef) rfl (by kernel_rfl) (by kernel_rfl) (by kernel_rfl) (fun _ _ _ h => h) (Or.inr ⟨by rfl, rfl⟩) (by assumption) ?_
          try simp only [Act.put, List.getElem_toArray, List.getElem_cons_succ, List.getElem_cons_zero, List.setIfInBounds_toArray, List.set_cons_zero, List.set_cons_succ]
          refine wpAnyH_take (i := 21) (v := undef) rfl (by kernel_rfl) (by kernel_rfl) (by kernel_rfl) (fun _ _ _ h => h) (Or.inr ⟨by rfl, rfl⟩) (by assumption) ?_
          try simp only [Act.put, List.getElem_toArray, List.getElem_cons_succ, List.getElem_cons_zero, List.setIfInBounds_toArray, List.set_cons_zero, List.set_cons_succ]
          refine wpAnyH_take (i := 22) (v := ?vn22) rfl (by kernel_rfl) (by kernel_rfl) (by kernel_rfl) (fun _ _ _ h => h) (Or.inl ⟨by rfl, ?hyn22⟩) (by assumption) ?_
          case hyn22 => (intro w hSw; (try dsimp only at hSw); go_simp; try with_reducible rfl)
          try simp only [Act.put, List.getElem_toArray, List.getElem_cons_succ, List.getElem_cons_zero, List.setIfInBounds_toArray, List.set_cons_zero, List.set_cons_succ]
          refine wpAnyH_take (i := 23) (v := ?vn23) rfl (by kernel_rfl) (by kernel_rfl) (by kernel_rfl) (fun _ _ _ h => h) (Or.inl ⟨by rfl, ?hyn23⟩) (by assumption) ?_
          case hyn23 => (intro w hSw; (try dsimp only at hSw); go_simp; try with_reducible rfl)
          try simp only [Act.put, List.getElem_toArray, List.getElem_cons_succ, List.getElem_cons_zero, List.setIfInBounds_toArray, List.set_cons_zero, List.set_cons_succ]
          refine wpAnyH_take (i := 24) (v := ?vn24) rfl (by kernel_rfl) (by kernel_rfl) (by kernel_rfl) (fun _ _ _ h => h) (Or.inl ⟨by rfl, ?hyn24⟩) (by assumption) ?_
          case hyn24 => (intro w hSw; (try dsimp only at hSw); go_simp; try with_reducible rfl)
          try simp only [Act.put, List.getElem_toArray, List.getElem_cons_succ, List.getElem_cons_zero, List.setIfInBounds_toArray, List.set_cons_zero, List.set_cons_succ]
          refine wpAnyH_take (i := 25) (v := ?vn25) rfl (by kernel_rfl) (by kernel_rfl) (by kernel_rfl) (fun _ _ _ h => h) (Or.inl ⟨by rfl, ?hyn25⟩) (by assumption) ?_
          case hyn25 => (intro w hSw; (try dsimp only at hSw); go_simp; try with_reducible rfl)
          try simp only [Act.put, List.getElem_toArray, List.getElem_cons_succ, List.getElem_cons_zero, List.setIfInBounds_toArray, List.set_cons_zero, List.set_cons_succ]
          refine wpAnyH_ready (rs := [26]) (by kernel_rfl) (by simp) ?_
          refine AllReadyH.cons (o := _) rfl (fun K hK => ?_) AllReadyH.nil
          go_simp
          refine (works_calls _ (hG12.ext EE)).mono ?_
          rintro v w4 ⟨rfl, x4⟩
          have EE := EE.trans x4
          try go_wp2_with fail
          refine hK.out _ _ ⟨(HX.ext EE).c0, (HX.ext EE).c1, (HX.ext EE).c2, (HY.ext EE).c0, (HY.ext EE).c1, (HY.ext EE).c2, (HV.ext EE).c0, (HV.ext EE).c1, (HV.ext EE).c2, (HD.ext EE).c0, (HD.ext EE).c1, (HD.ext EE).c2⟩ (fun hHeld => ?_)
          clear hK K
          try simp only [Act.put, List.getElem_toArray, List.getElem_cons_succ, List.getElem_cons_zero, List.setIfInBounds_toArray, List.set_cons_zero, List.set_cons_succ]
          refine wpAnyH_take (i := 27) (v := ?vn27) rfl (by kernel_rfl) (by kernel_rfl) (by kernel_rfl) (fun _ _ _ h => h) (Or.inl ⟨by rfl, ?hyn27⟩) (by assumption) ?_
          case hyn27 => (intro w hSw; (try dsimp only at hSw); go_simp; try with_reducible rfl)
          try simp only [Act.put, List.getElem_toArray, List.getElem_cons_succ, List.getElem_cons_zero, List.setIfInBounds_toArray, List.set_cons_zero, List.set_cons_succ]
          refine wpAnyH_take (i := 28) (v := ?vn28) rfl (by kernel_rfl) (by kernel_rfl) (by kernel_rfl) (fun _ _ _ h => h) (Or.inl ⟨by rfl, ?hyn28⟩) (by assumption) ?_
          case hyn28 => (intro w hSw; (try dsimp only at hSw); go_simp; try with_reducible rfl)
          try simp only [Act.put, List.getElem_toArray, List.getElem_cons_succ, List.getElem_cons_zero, List.setIfInBounds_toArray, List.set_cons_zero, List.set_cons_succ]
          refine wpAnyH_done (by kernel_rfl) ?_ _
          refine NoPanic.normal ?_
          go_wp2
          go_ret
          exact ⟨rfl, X12.trans EE⟩
    · rw [decide_eq_false hin]
      clear hK hZ hin
      go_wp2_with fail
      refine (works_calls _ hG).mono ?_
      rintro v w1 ⟨rfl, x1⟩
      go_wp2
      go_ret
      exact ⟨rfl, x1⟩
end Go.Proofs.YtkljejejabikiaaGreatDoor
