/- Contracts of the program's functions, and plain laws on numbers and texts (joined: RndE, DimB, DimE, DimF, DecC, DimG). -/
import Derived.Test.YtkljejejabikiaaGreatDoorV06
import Derived.Deep.RegionHeld3
import Derived.Lib.IndexMore
import Derived.Lib.Strings
import Derived.Deep.CutBlock

/- What a decimal's digits and exponent say, as a quotient. Plain. -/
namespace Cusp
open Go

theorem rnds_zero {up near : Bool} {D : Nat} (hD : 0 < D) : Rnds up near 0 D 0 := by
  refine ⟨0, ⟨by omega, by rw [V_zero]; omega, .inl ?_⟩, .inr ⟨?_, rfl⟩⟩
  · have := V_lt (show 0 < 0 + 1 by omega)
    exact Nat.mul_pos (by omega) hD
  · rintro (⟨_, h⟩ | ⟨_, h⟩)
    · rw [V_zero] at h; omega
    · have h1 := V_lt (show 0 < 0 + 1 by omega)
      have := Nat.mul_pos (show 0 < V 0 + V (0 + 1) by omega) hD
      omega
/-- -1, 0 or 1. -/
def sg3 (x : Int) : Int := if x = 0 then 0 else if x < 0 then -1 else 1
/-- The power: beyond 10000 it is that. -/
def clampK (e : Int) : Int := if 10000 < e.natAbs then sg3 e * 10000 else e
def kOf (hex : Bool) (ev : Int) (beh : Nat) : Int := clampK (ev - ((if hex = true then 4 * beh else beh : Nat) : Int))
theorem clampK_le (e : Int) : -10000 ≤ clampK e ∧ clampK e ≤ 10000 := by
  unfold clampK sg3
  split
  · split
    · omega
    · split <;> omega
  · omega
def nOf (hex : Bool) (n : Nat) (k : Int) : Nat := if hex = true then n * un k else n * 10 ^ k.toNat * un 0
def dOf (hex : Bool) (k : Int) : Nat := if hex = true then 1 * dn k else 10 ^ (-k).toNat * dn 0
theorem dOf_pos (hex : Bool) (k : Int) : 0 < dOf hex k := by
  unfold dOf
  split
  · exact Nat.mul_pos (by omega) (dn_pos k)
  · exact Nat.mul_pos (Nat.pow_pos (by omega)) (dn_pos 0)
theorem nOf_zero (hex : Bool) (k : Int) : nOf hex 0 k = 0 := by unfold nOf; split <;> simp
theorem ten_pow_le (Y : Nat) : 10 ^ Y ≤ 2 ^ (10 * (Y / 3 + 1)) := by
  have h1 : 10 ^ Y ≤ 10 ^ (3 * (Y / 3 + 1)) := Nat.pow_le_pow_right (by omega) (by omega)
  refine Nat.le_trans h1 ?_
  rw [Nat.pow_mul, Nat.pow_mul]
  exact Nat.pow_le_pow_left (by decide) _
theorem bl_ten (Y : Nat) (h : Y ≤ 10000) : bl (10 ^ Y) ≤ 33350 := by
  have h1 : 10 ^ Y < 2 ^ (10 * (Y / 3 + 1) + 1) := Nat.lt_of_le_of_lt (ten_pow_le Y) (Nat.pow_lt_pow_right (by omega) (by omega))
  exact Nat.le_trans (bl_le_of_lt h1) (by omega)
theorem bl_digits (hex : Bool) (l : List UInt8) (h : ∀ b ∈ l, isDig (base hex) b = true) (hl : l.length ≤ 1100) : bl (numV (base hex) l) ≤ 4400 := by
  have h1 := numV_lt (base hex) (by cases hex <;> simp [base]) l h l.length (Nat.le_refl _)
  rw [List.take_length] at h1
  have h2 : base hex ^ l.length ≤ 2 ^ (4 * l.length) := by
    rw [Nat.pow_mul]
    exact Nat.pow_le_pow_left (show base hex ≤ 2 ^ 4 by cases hex <;> simp [base]) _
  exact Nat.le_trans (bl_le_of_lt (Nat.lt_of_lt_of_le h1 h2)) (by omega)
theorem bl_prod (a b : Nat) : bl (a * b) ≤ bl a + bl b := by
  rcases Nat.eq_zero_or_pos b with h | h
  · rw [h, Nat.mul_zero]; exact Nat.zero_le _
  · apply bl_le_of_lt
    rw [Nat.pow_add]
    exact Nat.lt_of_lt_of_le (Nat.mul_lt_mul_of_pos_right (lt_bl a) h) (Nat.mul_le_mul_left _ (Nat.le_of_lt (lt_bl b)))
end Cusp

/- Package decim: a text's value. -/
namespace Go.Proofs.YtkljejejabikiaaGreatDoor
open Go Go.RowKit Cusp

set_option maxHeartbeats 2000000 in
set_option maxRecDepth 100000 in
theorem signed_calls (neg : Bool) (r : Nat) (hr : r < 9223372036854775808) (w : World) : Calls Tryz.prog 53 #[.bool neg, .float .f64 r] w fun v w' => v = .returned (.float .f64 (sg neg r)) ∧ w' = w := by
  cases neg with
  | false =>
    go_enter Tryz.func53, Tryz.ntmps53
    go_wp2
    go_ret
    exact ⟨rfl, rfl⟩
  | true =>
    go_enter Tryz.func53, Tryz.ntmps53
    go_wp2_with fail
    refine (copysign_calls r 13830554455654793216 (by omega) (by omega) _).mono ?_
    rintro v w3 ⟨rfl, rfl⟩
    have hs : 13830554455654793216 / 9223372036854775808 * 9223372036854775808 + r % 9223372036854775808 = sg true r := by unfold sg; rw [if_pos rfl]; omega
    rw [hs]
    clear hs
    go_wp2
    go_ret
    exact ⟨rfl, rfl⟩
theorem sgn_sg3 (x : Int) : sgn x = sg3 x := rfl
/-- A text as a value. -/
def txv (neg hex : Bool) (D : ByteArray) (beh : Nat) (E : Value) (wrd : ByteArray) : Value := .agg #[.bool neg, .bool hex, .string D, .int .i64 (beh : Int), E, .string wrd]
theorem neg_iff {n : Nat} (hn : n ≠ 0) (neg : Bool) : decide ((if neg = true then -(n : Int) else (n : Int)) < 0) = neg := by
  cases neg with
  | false => simp
  | true => simp; omega

set_option maxHeartbeats 4000000 in
set_option maxRecDepth 100000 in
theorem tvalue10 (neg : Bool) (D wrd : ByteArray) (beh be : Nat) (ev : Int) (mode : Nat) (hm : mode = 1 ∨ mode = 2 ∨ mode = 3) (w : World) (hexp : IsInt w be 0 ev) (hd : ∀ b ∈ D.data.toList, isDig 10 b = true) (h0 : 0 < D.size) (hs : D.size ≤ 1100) (hb : beh ≤ D.size) (hel : (wd ev.natAbs).length ≤ 1000000) {B : Nat} (hG : Glob B w) :
    Calls Tryz.prog 54 #[txv neg false D beh (.pointer (some ⟨be, 0, none⟩)) wrd, .int .i64 (mode : Int)] w fun v w' => ∃ r, v = .returned (.float .f64 (sg neg r)) ∧ Rnds (upM neg mode) (mode == 2) (nOf false (numV 10 D.data.toList) (kOf false ev beh)) (dOf false (kOf false ev beh)) r ∧ Ext w w' := by
  have hNb := bl_digits false D.data.toList hd hs
  rw [show base false = 10 from rfl] at hNb
  obtain ⟨N, hN⟩ : ∃ N, N = numV 10 D.data.toList := ⟨_, rfl⟩
  rw [← hN] at hNb ⊢
  obtain ⟨k, hk⟩ : ∃ k, k = kOf false ev beh := ⟨_, rfl⟩
  have hk0 : -10000 ≤ k := by rw [hk]; exact (clampK_le _).1
  have hk1 : k ≤ 10000 := by rw [hk]; exact (clampK_le _).2
  rw [← hk]
  have HN := Lib.hid hN
  have HK := Lib.hid hk
  clear hN hk
  have e1 : Ext w (w.alloc (.cells #[.bool neg, .bool false, .string D, .int .i64 (beh : Int), .pointer (some ⟨be, 0, none⟩), .string wrd] 77)) := (Ext.refl w).alloc _
  obtain ⟨w1, hw1⟩ : ∃ w1, w1 = w.alloc (.cells #[.bool neg, .bool false, .string D, .int .i64 (beh : Int), .pointer (some ⟨be, 0, none⟩), .string wrd] 77) := ⟨_, rfl⟩
  have c0 : w1.cell? ⟨w.heap.size, 0, none⟩ = some (.bool neg) := by rw [hw1]; exact cell_new w _ _ 0 _ rfl
  have c1 : w1.cell? ⟨w.heap.size, 1, none⟩ = some (.bool false) := by rw [hw1]; exact cell_new w _ _ 1 _ rfl
  have c2 : w1.cell? ⟨w.heap.size, 2, none⟩ = some (.string D) := by rw [hw1]; exact cell_new w _ _ 2 _ rfl
  have c3 : w1.cell? ⟨w.heap.size, 3, none⟩ = some (.int .i64 (beh : Int)) := by rw [hw1]; exact cell_new w _ _ 3 _ rfl
  have c4 : w1.cell? ⟨w.heap.size, 4, none⟩ = some (.pointer (some ⟨be, 0, none⟩)) := by rw [hw1]; exact cell_new w _ _ 4 _ rfl
  have hs1 : w1.heap.size = w.heap.size + 1 := by rw [hw1]; simp
  have hs1' : w.heap.size < w1.heap.size := by omega
  have HW1 : RowKit.Hid (w.alloc (.cells #[.bool neg, .bool false, .string D, .int .i64 (beh : Int), .pointer (some ⟨be, 0, none⟩), .string wrd] 77) = w1) := Lib.hid hw1.symm
  rw [← hw1] at e1
  clear hw1 hs1
  unfold txv
  go_enter Tryz.func54, Tryz.ntmps54
  go_upto_region 4 with (fail)
  rw [HW1.out]
  have f1 : Ext w1 (w1.alloc (.cells #[.bool false, .slice none 0 0] 105)) := (Ext.refl w1).alloc _
  have d2 := f1.cell c2
  have hI1 := int_new w1 105
  have E1 := e1.trans f1
  have hexp1 := hexp.ext E1
  have hG1 := hG.ext E1
  have hG0 := hG.ext e1
  have hGk := hG
  have hbe := hexp.lt
  have hbe1 : be ≠ w1.heap.size := by omega
  clear hexp
  go_wp2_with fail
  refine (setString_calls w1.heap.size 0 0 10 (by omega) D _ hI1 hd h0 (by omega)).mono ?_
  rintro v w2 ⟨rfl, hN2, hW2⟩
  have hexp2 := hW2.int hI1 hexp1 (.inl hbe1)
  have E12 : Ext w1 w2 := Wr.own_ext f1 (Nat.le_refl _) hW2
  have E2 := e1.trans E12
  have hG2 := hG.ext E2
  rw [← HN.out] at hN2
  have b1 := c1
  have c0 := E12.cell c0
  have c1 := E12.cell c1
  have c3 := E12.cell c3
  have c4 := E12.cell c4
  clear f1 d2 hI1 hexp1 hG1 E1 hW2 c2 hG
  rcases Nat.eq_zero_or_pos N with hN0 | hN0
  · subst hN0
    have hs0 : sgn ((0 : Nat) : Int) = 0 := rfl
    go_wp2_with fail
    refine (sign_calls _ _ _ _ hN2).mono ?_
    rintro v w3 ⟨rfl, rfl⟩
    rw [hs0]
    go_wp2_with fail
    refine (signed_calls neg 0 (by omega) _).mono ?_
    rintro v w4 ⟨rfl, rfl⟩
    go_wp2
    go_ret
    exact ⟨0, rfl, by rw [nOf_zero]; exact rnds_zero (dOf_pos _ _), E2⟩
  · have hs0 : sgn (N : Int) = 1 := by unfold sgn; rw [if_neg (by omega), if_neg (by omega)]
    go_wp2_with fail
    refine (sign_calls _ _ _ _ hN2).mono ?_
    rintro v w3 ⟨rfl, rfl⟩
    rw [hs0]
    clear hs0
    have f2 : Ext w3 (w3.alloc (.cells #[.bool false, .slice none 0 0] 105)) := (Ext.refl w3).alloc _
    have d4 := f2.cell c4
    have hI3 := int_new w3 105
    have hN3 := hN2.ext f2
    have hexp3 := hexp2.ext f2
    have hN2l := hN2.lt
    go_wp2_with fail
    refine (set_calls w3.heap.size 0 be 0 0 ev _ hI3 hexp3).mono ?_
    rintro v w4 ⟨rfl, hE4, hW4⟩
    have hN4 := hW4.int hI3 hN3 (.inl (by omega))
    have E34 : Ext w3 w4 := Wr.own_ext f2 (Nat.le_refl _) hW4
    have E4 := E2.trans E34
    have b0 := c0
    have c0 := E34.cell c0
    have c1 := E34.cell c1
    have c3 := E34.cell c3
    have hG4 := hG2.ext E34
    clear f2 d4 hI3 hN3 hexp3 hW4 hexp2 hN2 c4
    have hbl : (wd ((N : Int)).natAbs).length ≤ 1000000000 := by rw [Int.natAbs_natCast]; exact Nat.le_trans (len_of_bl (n := 138) (by omega)) (by omega)
    -- the exponent less the places behind the point
    obtain ⟨bh, hbh⟩ : ∃ bh : Nat, bh = beh := ⟨_, rfl⟩
    have hbhb : bh ≤ 4400 := by omega
    have hkk : k = clampK (ev - (bh : Int)) := by rw [HK.out, hbh]; rfl
    have hcast : (beh : Int) = (bh : Int) := by rw [hbh]
    obtain ⟨d, hdd⟩ : ∃ d, d = ev - (bh : Int) := ⟨_, rfl⟩
    have hbl2 : (wd ((bh : Int)).natAbs).length ≤ 1000000000 := by rw [Int.natAbs_natCast]; exact Nat.le_trans (len_wd_small (by omega)) (by omega)
    have hel2 : (wd ev.natAbs).length ≤ 1000000000 := by omega
    rw [← hdd] at hkk
    have HCAST := Lib.hid hcast
    have HD := Lib.hid hdd
    have HKK := Lib.hid hkk
    clear hkk hcast hbh hdd
    go_wp2_with fail
    rw [HCAST.out]
    refine (newInt_calls (bh : Int) _ (by omega) (by omega)).mono ?_
    rintro v w5 ⟨rfl, hB5, e5⟩
    go_wp2_with fail
    refine (intSub_calls w3.heap.size 0 w3.heap.size 0 w4.heap.size 0 ev ev (bh : Int) _ (hE4.ext e5) (hE4.ext e5) hB5 hel2 hbl2).mono ?_
    rintro v w6 ⟨rfl, hE6, hW6⟩
    rw [← HD.out] at hE6
    have hs4 := hE4.lt
    have hN6 := hW6.int (hE4.ext e5) (hN4.ext e5) (.inl (by omega))
    have E36 : Ext w3 w6 := Wr.own_ext (E34.trans e5) (Nat.le_refl _) hW6
    clear hE4 hN4 hB5 e5 hW6 E34 hel2 hbl2
    go_wp2_with fail
    refine (newInt_calls 10000 _ (by omega) (by omega)).mono ?_
    rintro v w7 ⟨rfl, hF7, e7⟩
    go_wp2_with fail
    refine (cmpAbs_calls _ _ _ _ d 10000 _ (hE6.ext e7) hF7).mono ?_
    rintro v w8 ⟨rfl, e8⟩
    have E38 := E36.trans (e7.trans e8)
    have hE8 := hE6.ext (e7.trans e8)
    have hN8 := hN6.ext (e7.trans e8)
    obtain ⟨oo, hoo⟩ : ∃ oo, oo = ord d.natAbs (10000 : Int).natAbs := ⟨_, rfl⟩
    rw [← hoo]
    have HOO := Lib.hid hoo
    clear hoo hE6 hN6 hF7 e7 e8 E36
    have hs6 := hE8.lt
    go_upto_if 50 with (fail)
    go_cut [] (fun wx => IsInt wx w1.heap.size 0 (N : Int) ∧ IsInt wx w3.heap.size 0 k ∧ Ext w3 wx)
    case first =>
      by_cases hfar : 10000 < d.natAbs
      · have ho : oo = 1 := by rw [HOO.out]; unfold ord; rw [if_neg (by omega), if_neg (by omega)]
        subst ho
        obtain ⟨sd, hsd⟩ : ∃ sd, sd = sgn d := ⟨_, rfl⟩
        have hsd1 : -1 ≤ sd ∧ sd ≤ 1 := by rw [hsd]; unfold sgn; split; omega; split <;> omega
        obtain ⟨hsd0, hsd2⟩ := hsd1
        have hk3 : k = sd * 10000 := by rw [HKK.out, hsd]; unfold clampK; rw [if_pos hfar]; rfl
        have HSD := Lib.hid hsd
        have HK3 := Lib.hid hk3
        clear hsd hk3
        go_wp2_with fail
        refine (sign_calls _ _ _ _ hE8).mono ?_
        rintro v w9 ⟨rfl, rfl⟩
        rw [← HSD.out]
        go_wp2_with fail
        rw [← HK3.out]
        refine (setInt64_calls w3.heap.size 0 d k _ hE8 (by omega) (by omega)).mono ?_
        rintro v w10 ⟨rfl, hE10, hW10⟩
        go_wp2_with fail
        go_meet
        case rel => exact ⟨hW10.int hE8 hN8 (.inl (by omega)), hE10, Wr.own_ext E38 (Nat.le_refl _) hW10⟩
      · have ho : oo ≤ 0 := by rw [HOO.out]; unfold ord; split; omega; split <;> omega
        have hk3 : k = d := by rw [HKK.out]; unfold clampK; rw [if_neg hfar]
        have HK3 := Lib.hid hk3
        clear hk3
        have t1 : decide (0 < oo) = false := decide_eq_false (by omega)
        go_wp2_with fail
        go_meet
        case rel => exact ⟨hN8, by rw [HK3.out]; exact hE8, E38⟩
    case rest =>
      obtain ⟨hN9, hE9, E39⟩ := hcut
      clear hN8 hE8 E38 HOO HKK HD HCAST hs6
      have c0 := E39.cell (show w3.cell? _ = some (.bool neg) from b0)
      have hG9 := hG2.ext E39
      have E19 := E12.trans E39
      clear hG2 E2 E39
      go_wp2_with fail
      refine (int64_calls _ _ k _ hE9 (by omega)).mono ?_
      rintro v w11 ⟨rfl, rfl⟩
      obtain ⟨x, hx⟩ : ∃ x : Int, x = if neg = true then -(N : Int) else (N : Int) := ⟨_, rfl⟩
      have hx0 : x ≠ 0 := by rw [hx]; split <;> omega
      have hxa : x.natAbs = N := by rw [hx]; exact sgn_if neg N
      have hxd : decide (x < 0) = neg := by rw [hx]; exact neg_iff (by omega) neg
      have HX := Lib.hid hx
      have HXA := Lib.hid hxa
      have HXD := Lib.hid hxd
      clear hx hxa hxd hE9
      go_upto_if 59 with (fail)
      go_cut [] (fun wx => IsInt wx w1.heap.size 0 x ∧ Ext w1 wx)
      case first =>
        cases neg with
        | false =>
          go_wp2_with fail
          go_meet
          case rel => exact ⟨by rw [HX.out, if_neg (by simp)]; exact hN9, E19⟩
        | true =>
          go_wp2_with fail
          refine (neg_calls _ _ _ _ _ _ _ hN9 hN9).mono ?_
          rintro v w12 ⟨rfl, hN12, hW12⟩
          go_wp2_with fail
          go_meet
          case rel => exact ⟨by rw [HX.out, if_pos trivial]; exact hN12, Wr.own_ext E19 (Nat.le_refl _) hW12⟩
      case rest =>
        obtain ⟨hX1, E1c⟩ := hcut
        have c1 := E1c.cell b1
        have hGc := hG0.ext E1c
        have hbx : bl x.natAbs ≤ 4400 := by rw [HXA.out]; exact hNb
        clear hN9 E19 c0 hG9 hs4
        go_wp2_with fail
        refine (newInt_calls 1 _ (by omega) (by omega)).mono ?_
        rintro v w13 ⟨rfl, hO13, e13⟩
        have hX13 := hX1.ext e13
        have c1 := e13.cell c1
        have hG13 := hGc.ext e13
        have E13 := e1.trans (E1c.trans e13)
        have hs1c := hX1.lt
        clear hX1 hGc
        obtain ⟨K, hKK⟩ : ∃ K : Nat, max k (-k) = (K : Int) := ⟨k.natAbs, by omega⟩
        have hKb : K ≤ 10000 := by omega
        have hKl : (wd (10 ^ K)).length ≤ 100000000 := Nat.le_trans (len_of_bl (n := 1100) (Nat.le_trans (bl_ten K hKb) (by omega))) (by omega)
        have hTl : (wd ((10 ^ K : Nat) : Int).natAbs).length ≤ 1000000000 := by rw [Int.natAbs_natCast]; omega
        have hxl : (wd x.natAbs).length ≤ 1000000000 := by rw [HXA.out]; rw [Int.natAbs_natCast] at hbl; exact hbl
        obtain ⟨T, hT⟩ : ∃ T, T = 10 ^ K := ⟨_, rfl⟩
        have hTb : bl T ≤ 33350 := by rw [hT]; exact bl_ten K hKb
        have hT0 : 0 < T := by rw [hT]; exact Nat.pow_pos (by omega)
        rw [← hT] at hKl hTl
        have HT := Lib.hid hT
        have HKK2 := Lib.hid hKK
        clear hT hKK
        have f3 : Ext w13 (w13.alloc (.cells #[.bool false, .slice none 0 0] 105)) := (Ext.refl w13).alloc _
        have hI13 := int_new w13 105
        have hX14 := hX13.ext f3
        have hO14 := hO13.ext f3
        have hG14 := hG13.ext f3
        have hsx := hX13.lt
        have hso := hO13.lt
        have hz14 : (w13.alloc (.cells #[.bool false, .slice none 0 0] 105)).heap.size = w13.heap.size + 1 := by simp
        go_wp2_with fail
        refine (newInt_calls 10 _ (by omega) (by omega)).mono ?_
        rintro v w15 ⟨rfl, hT15, e15⟩
        rw [hz14] at hT15 ⊢
        have hI15 := hI13.ext e15
        have hX15 := hX14.ext e15
        have hO15 := hO14.ext e15
        have E15 := (f3.trans e15)
        have hG15 := hG14.ext e15
        clear hI13 hX14 hO14 hG14 e15 f3 hX13 hO13 hG13
        go_wp2_with fail
        rw [HKK2.out]
        refine (newInt_calls (K : Int) _ (by omega) (by omega)).mono ?_
        rintro v w16 ⟨rfl, hK16, e16⟩
        have hs15 := hT15.lt
        have hI16 := hI15.ext e16
        have hT16 := hT15.ext e16
        have hX16 := hX15.ext e16
        have hO16 := hO15.ext e16
        have hG16 := hG15.ext e16
        have E16 := E15.trans e16
        clear hI15 hX15 hO15 hG15 e16 hT15 E15
        go_wp2_with fail
        refine (exp_calls w13.heap.size 0 (w13.heap.size + 1) 0 w15.heap.size 0 0 10 K _ hI16 hT16 hK16 (by omega) (by omega) (by rw [← HT.out]; exact hKl) (Nat.le_trans (len_wd_small (by omega)) (by omega))).mono ?_
        rintro v w17 ⟨rfl, hT17, hW17⟩
        rw [← HT.out] at hT17
        have hX17 := hW17.int hI16 hX16 (.inl (by omega))
        have hO17 := hW17.int hI16 hO16 (.inl (by omega))
        have E17 : Ext w13 w17 := Wr.own_ext E16 (Nat.le_refl _) hW17
        have hG17 : Glob B w17 := hGk.ext (e1.trans (E1c.trans (e13.trans E17)))
        clear hI16 hT16 hK16 hX16 hO16 hG16 hW17 E16
        by_cases hkp : 0 ≤ k
        · have t1 : decide (k ≥ 0) = true := decide_eq_true hkp
          have hkT : T = 10 ^ k.toNat := by rw [HT.out, show K = k.toNat by have := HKK2.out; omega]
          have hk0 : (-k).toNat = 0 := by omega
          have hk4 : nOf false N k = N * T * un 0 := by unfold nOf; rw [if_neg (by simp), ← hkT]
          have hk5 : dOf false k = 1 * dn 0 := by unfold dOf; rw [if_neg (by simp), hk0, Nat.pow_zero]
          have HK4 := Lib.hid hk4
          have HK5 := Lib.hid hk5
          clear hkT hk0 hk4 hk5
          go_wp2_with fail
          refine (intMul_calls _ _ _ _ _ _ x x (T : Int) _ hX17 hX17 hT17 hxl hTl).mono ?_
          rintro v w18 ⟨rfl, hX18, hW18⟩
          have hO18 := hW18.int hX17 hO17 (.inl (by omega))
          have hpa : (x * (T : Int)).natAbs = N * T := by rw [Int.natAbs_mul, HXA.out, Int.natAbs_natCast]
          have hpd : decide (x * (T : Int) < 0) = neg := by
            rw [← HXD.out]
            congr 1
            exact propext ⟨fun h => by
              by_cases h1 : x < 0
              · exact h1
              · have := Int.mul_nonneg (show 0 ≤ x by omega) (show (0 : Int) ≤ T by omega); omega, fun h => Int.mul_neg_of_neg_of_pos h (by omega)⟩
          have hp0 : x * (T : Int) ≠ 0 := Int.mul_ne_zero hx0 (by omega)
          have hpb : bl (x * (T : Int)).natAbs ≤ 40000 := by rw [hpa]; exact Nat.le_trans (bl_prod N T) (by omega)
          obtain ⟨y, hy⟩ : ∃ y, y = x * (T : Int) := ⟨_, rfl⟩
          rw [← hy] at hX18 hpa hpd hp0 hpb
          have HPA := Lib.hid hpa
          have HPD := Lib.hid hpd
          have E18 : Ext w1 w18 := Wr.own_ext (E1c.trans (e13.trans E17)) (Nat.le_refl _) hW18
          clear hy hpa hpd hX17 hO17 hT17 hW18
          go_wp2_with fail
          refine (dratio_calls _ _ _ _ y 1 0 mode hm _ hX18 hO18 hp0 (by omega) hpb (by decide) (by omega) (by omega) (hGk.ext (e1.trans E18))).mono ?_
          rintro v w19 ⟨r, rfl, hr, e19⟩
          rw [HPD.out] at hr ⊢
          rw [HPA.out] at hr
          have HR := Lib.hid hr
          clear hr
          go_wp2
          go_ret
          exact ⟨r, rfl, by rw [HK4.out, HK5.out]; exact HR.out, e1.trans (E18.trans e19)⟩
        · have t1 : decide (k ≥ 0) = false := decide_eq_false hkp
          have hkT : T = 10 ^ (-k).toNat := by rw [HT.out, show K = (-k).toNat by have := HKK2.out; omega]
          have hk0 : k.toNat = 0 := by omega
          have hk4 : nOf false N k = N * un 0 := by unfold nOf; rw [if_neg (by simp), hk0, Nat.pow_zero, Nat.mul_one]
          have hk5 : dOf false k = T * dn 0 := by unfold dOf; rw [if_neg (by simp), ← hkT]
          have HK4 := Lib.hid hk4
          have HK5 := Lib.hid hk5
          clear hkT hk0 hk4 hk5
          go_wp2_with fail
          refine (dratio_calls _ _ _ _ x (T : Int) 0 mode hm _ hX17 hT17 hx0 (by omega) (by omega) (by rw [Int.natAbs_natCast]; omega) (by omega) (by omega) hG17).mono ?_
          rintro v w19 ⟨r, rfl, hr, e19⟩
          rw [HXD.out] at hr ⊢
          rw [HXA.out, Int.natAbs_natCast] at hr
          have HR := Lib.hid hr
          clear hr
          go_wp2
          go_ret
          exact ⟨r, rfl, by rw [HK4.out, HK5.out]; exact HR.out, E13.trans (E17.trans e19)⟩

set_option maxHeartbeats 4000000 in
set_option maxRecDepth 100000 in
theorem tvalue16 (neg : Bool) (D wrd : ByteArray) (beh be : Nat) (ev : Int) (mode : Nat) (hm : mode = 1 ∨ mode = 2 ∨ mode = 3) (w : World) (hexp : IsInt w be 0 ev) (hd : ∀ b ∈ D.data.toList, isDig 16 b = true) (h0 : 0 < D.size) (hs : D.size ≤ 1100) (hb : beh ≤ D.size) (hel : (wd ev.natAbs).length ≤ 1000000) {B : Nat} (hG : Glob B w) :
    Calls Tryz.prog 54 #[txv neg true D beh (.pointer (some ⟨be, 0, none⟩)) wrd, .int .i64 (mode : Int)] w fun v w' => ∃ r, v = .returned (.float .f64 (sg neg r)) ∧ Rnds (upM neg mode) (mode == 2) (nOf true (numV 16 D.data.toList) (kOf true ev beh)) (dOf true (kOf true ev beh)) r ∧ Ext w w' := by
  have hNb := bl_digits true D.data.toList hd hs
  rw [show base true = 16 from rfl] at hNb
  obtain ⟨N, hN⟩ : ∃ N, N = numV 16 D.data.toList := ⟨_, rfl⟩
  rw [← hN] at hNb ⊢
  obtain ⟨k, hk⟩ : ∃ k, k = kOf true ev beh := ⟨_, rfl⟩
  have hk0 : -10000 ≤ k := by rw [hk]; exact (clampK_le _).1
  have hk1 : k ≤ 10000 := by rw [hk]; exact (clampK_le _).2
  rw [← hk]
  have HN := Lib.hid hN
  have HK := Lib.hid hk
  clear hN hk
  have e1 : Ext w (w.alloc (.cells #[.bool neg, .bool true, .string D, .int .i64 (beh : Int), .pointer (some ⟨be, 0, none⟩), .string wrd] 77)) := (Ext.refl w).alloc _
  obtain ⟨w1, hw1⟩ : ∃ w1, w1 = w.alloc (.cells #[.bool neg, .bool true, .string D, .int .i64 (beh : Int), .pointer (some ⟨be, 0, none⟩), .string wrd] 77) := ⟨_, rfl⟩
  have c0 : w1.cell? ⟨w.heap.size, 0, none⟩ = some (.bool neg) := by rw [hw1]; exact cell_new w _ _ 0 _ rfl
  have c1 : w1.cell? ⟨w.heap.size, 1, none⟩ = some (.bool true) := by rw [hw1]; exact cell_new w _ _ 1 _ rfl
  have c2 : w1.cell? ⟨w.heap.size, 2, none⟩ = some (.string D) := by rw [hw1]; exact cell_new w _ _ 2 _ rfl
  have c3 : w1.cell? ⟨w.heap.size, 3, none⟩ = some (.int .i64 (beh : Int)) := by rw [hw1]; exact cell_new w _ _ 3 _ rfl
  have c4 : w1.cell? ⟨w.heap.size, 4, none⟩ = some (.pointer (some ⟨be, 0, none⟩)) := by rw [hw1]; exact cell_new w _ _ 4 _ rfl
  have hs1 : w1.heap.size = w.heap.size + 1 := by rw [hw1]; simp
  have hs1' : w.heap.size < w1.heap.size := by omega
  have HW1 : RowKit.Hid (w.alloc (.cells #[.bool neg, .bool true, .string D, .int .i64 (beh : Int), .pointer (some ⟨be, 0, none⟩), .string wrd] 77) = w1) := Lib.hid hw1.symm
  rw [← hw1] at e1
  clear hw1 hs1
  unfold txv
  go_enter Tryz.func54, Tryz.ntmps54
  go_upto_region 4 with (fail)
  rw [HW1.out]
  have f1 : Ext w1 (w1.alloc (.cells #[.bool false, .slice none 0 0] 105)) := (Ext.refl w1).alloc _
  have d2 := f1.cell c2
  have hI1 := int_new w1 105
  have E1 := e1.trans f1
  have hexp1 := hexp.ext E1
  have hG1 := hG.ext E1
  have hG0 := hG.ext e1
  have hGk := hG
  have hbe := hexp.lt
  have hbe1 : be ≠ w1.heap.size := by omega
  clear hexp
  go_wp2_with fail
  refine (setString_calls w1.heap.size 0 0 16 (by omega) D _ hI1 hd h0 (by omega)).mono ?_
  rintro v w2 ⟨rfl, hN2, hW2⟩
  have hexp2 := hW2.int hI1 hexp1 (.inl hbe1)
  have E12 : Ext w1 w2 := Wr.own_ext f1 (Nat.le_refl _) hW2
  have E2 := e1.trans E12
  have hG2 := hG.ext E2
  rw [← HN.out] at hN2
  have b1 := c1
  have c0 := E12.cell c0
  have c1 := E12.cell c1
  have c3 := E12.cell c3
  have c4 := E12.cell c4
  clear f1 d2 hI1 hexp1 hG1 E1 hW2 c2 hG
  rcases Nat.eq_zero_or_pos N with hN0 | hN0
  · subst hN0
    have hs0 : sgn ((0 : Nat) : Int) = 0 := rfl
    go_wp2_with fail
    refine (sign_calls _ _ _ _ hN2).mono ?_
    rintro v w3 ⟨rfl, rfl⟩
    rw [hs0]
    go_wp2_with fail
    refine (signed_calls neg 0 (by omega) _).mono ?_
    rintro v w4 ⟨rfl, rfl⟩
    go_wp2
    go_ret
    exact ⟨0, rfl, by rw [nOf_zero]; exact rnds_zero (dOf_pos _ _), E2⟩
  · have hs0 : sgn (N : Int) = 1 := by unfold sgn; rw [if_neg (by omega), if_neg (by omega)]
    go_wp2_with fail
    refine (sign_calls _ _ _ _ hN2).mono ?_
    rintro v w3 ⟨rfl, rfl⟩
    rw [hs0]
    clear hs0
    have f2 : Ext w3 (w3.alloc (.cells #[.bool false, .slice none 0 0] 105)) := (Ext.refl w3).alloc _
    have d4 := f2.cell c4
    have hI3 := int_new w3 105
    have hN3 := hN2.ext f2
    have hexp3 := hexp2.ext f2
    have hN2l := hN2.lt
    go_wp2_with fail
    refine (set_calls w3.heap.size 0 be 0 0 ev _ hI3 hexp3).mono ?_
    rintro v w4 ⟨rfl, hE4, hW4⟩
    have hN4 := hW4.int hI3 hN3 (.inl (by omega))
    have E34 : Ext w3 w4 := Wr.own_ext f2 (Nat.le_refl _) hW4
    have E4 := E2.trans E34
    have b0 := c0
    have c0 := E34.cell c0
    have c1 := E34.cell c1
    have c3 := E34.cell c3
    have hG4 := hG2.ext E34
    clear f2 d4 hI3 hN3 hexp3 hW4 hexp2 hN2 c4
    have hbl : (wd ((N : Int)).natAbs).length ≤ 1000000000 := by rw [Int.natAbs_natCast]; exact Nat.le_trans (len_of_bl (n := 138) (by omega)) (by omega)
    -- the exponent less the places behind the point
    obtain ⟨bh, hbh⟩ : ∃ bh : Nat, bh = 4 * beh := ⟨_, rfl⟩
    have hbhb : bh ≤ 4400 := by omega
    have hkk : k = clampK (ev - (bh : Int)) := by rw [HK.out, hbh]; rfl
    have hcast : 4 * (beh : Int) = (bh : Int) := by rw [hbh]; omega
    obtain ⟨d, hdd⟩ : ∃ d, d = ev - (bh : Int) := ⟨_, rfl⟩
    have hbl2 : (wd ((bh : Int)).natAbs).length ≤ 1000000000 := by rw [Int.natAbs_natCast]; exact Nat.le_trans (len_wd_small (by omega)) (by omega)
    have hel2 : (wd ev.natAbs).length ≤ 1000000000 := by omega
    rw [← hdd] at hkk
    have HCAST := Lib.hid hcast
    have HD := Lib.hid hdd
    have HKK := Lib.hid hkk
    clear hkk hcast hbh hdd
    go_wp2_with fail
    rw [HCAST.out]
    refine (newInt_calls (bh : Int) _ (by omega) (by omega)).mono ?_
    rintro v w5 ⟨rfl, hB5, e5⟩
    go_wp2_with fail
    refine (intSub_calls w3.heap.size 0 w3.heap.size 0 w4.heap.size 0 ev ev (bh : Int) _ (hE4.ext e5) (hE4.ext e5) hB5 hel2 hbl2).mono ?_
    rintro v w6 ⟨rfl, hE6, hW6⟩
    rw [← HD.out] at hE6
    have hs4 := hE4.lt
    have hN6 := hW6.int (hE4.ext e5) (hN4.ext e5) (.inl (by omega))
    have E36 : Ext w3 w6 := Wr.own_ext (E34.trans e5) (Nat.le_refl _) hW6
    clear hE4 hN4 hB5 e5 hW6 E34 hel2 hbl2
    go_wp2_with fail
    refine (newInt_calls 10000 _ (by omega) (by omega)).mono ?_
    rintro v w7 ⟨rfl, hF7, e7⟩
    go_wp2_with fail
    refine (cmpAbs_calls _ _ _ _ d 10000 _ (hE6.ext e7) hF7).mono ?_
    rintro v w8 ⟨rfl, e8⟩
    have E38 := E36.trans (e7.trans e8)
    have hE8 := hE6.ext (e7.trans e8)
    have hN8 := hN6.ext (e7.trans e8)
    obtain ⟨oo, hoo⟩ : ∃ oo, oo = ord d.natAbs (10000 : Int).natAbs := ⟨_, rfl⟩
    rw [← hoo]
    have HOO := Lib.hid hoo
    clear hoo hE6 hN6 hF7 e7 e8 E36
    have hs6 := hE8.lt
    go_upto_if 50 with (fail)
    go_cut [] (fun wx => IsInt wx w1.heap.size 0 (N : Int) ∧ IsInt wx w3.heap.size 0 k ∧ Ext w3 wx)
    case first =>
      by_cases hfar : 10000 < d.natAbs
      · have ho : oo = 1 := by rw [HOO.out]; unfold ord; rw [if_neg (by omega), if_neg (by omega)]
        subst ho
        obtain ⟨sd, hsd⟩ : ∃ sd, sd = sgn d := ⟨_, rfl⟩
        have hsd1 : -1 ≤ sd ∧ sd ≤ 1 := by rw [hsd]; unfold sgn; split; omega; split <;> omega
        obtain ⟨hsd0, hsd2⟩ := hsd1
        have hk3 : k = sd * 10000 := by rw [HKK.out, hsd]; unfold clampK; rw [if_pos hfar]; rfl
        have HSD := Lib.hid hsd
        have HK3 := Lib.hid hk3
        clear hsd hk3
        go_wp2_with fail
        refine (sign_calls _ _ _ _ hE8).mono ?_
        rintro v w9 ⟨rfl, rfl⟩
        rw [← HSD.out]
        go_wp2_with fail
        rw [← HK3.out]
        refine (setInt64_calls w3.heap.size 0 d k _ hE8 (by omega) (by omega)).mono ?_
        rintro v w10 ⟨rfl, hE10, hW10⟩
        go_wp2_with fail
        go_meet
        case rel => exact ⟨hW10.int hE8 hN8 (.inl (by omega)), hE10, Wr.own_ext E38 (Nat.le_refl _) hW10⟩
      · have ho : oo ≤ 0 := by rw [HOO.out]; unfold ord; split; omega; split <;> omega
        have hk3 : k = d := by rw [HKK.out]; unfold clampK; rw [if_neg hfar]
        have HK3 := Lib.hid hk3
        clear hk3
        have t1 : decide (0 < oo) = false := decide_eq_false (by omega)
        go_wp2_with fail
        go_meet
        case rel => exact ⟨hN8, by rw [HK3.out]; exact hE8, E38⟩
    case rest =>
      obtain ⟨hN9, hE9, E39⟩ := hcut
      clear hN8 hE8 E38 HOO HKK HD HCAST hs6
      have c0 := E39.cell (show w3.cell? _ = some (.bool neg) from b0)
      have hG9 := hG2.ext E39
      have E19 := E12.trans E39
      clear hG2 E2 E39
      go_wp2_with fail
      refine (int64_calls _ _ k _ hE9 (by omega)).mono ?_
      rintro v w11 ⟨rfl, rfl⟩
      obtain ⟨x, hx⟩ : ∃ x : Int, x = if neg = true then -(N : Int) else (N : Int) := ⟨_, rfl⟩
      have hx0 : x ≠ 0 := by rw [hx]; split <;> omega
      have hxa : x.natAbs = N := by rw [hx]; exact sgn_if neg N
      have hxd : decide (x < 0) = neg := by rw [hx]; exact neg_iff (by omega) neg
      have HX := Lib.hid hx
      have HXA := Lib.hid hxa
      have HXD := Lib.hid hxd
      clear hx hxa hxd hE9
      go_upto_if 59 with (fail)
      go_cut [] (fun wx => IsInt wx w1.heap.size 0 x ∧ Ext w1 wx)
      case first =>
        cases neg with
        | false =>
          go_wp2_with fail
          go_meet
          case rel => exact ⟨by rw [HX.out, if_neg (by simp)]; exact hN9, E19⟩
        | true =>
          go_wp2_with fail
          refine (neg_calls _ _ _ _ _ _ _ hN9 hN9).mono ?_
          rintro v w12 ⟨rfl, hN12, hW12⟩
          go_wp2_with fail
          go_meet
          case rel => exact ⟨by rw [HX.out, if_pos trivial]; exact hN12, Wr.own_ext E19 (Nat.le_refl _) hW12⟩
      case rest =>
        obtain ⟨hX1, E1c⟩ := hcut
        have c1 := E1c.cell b1
        have hGc := hG0.ext E1c
        have hbx : bl x.natAbs ≤ 4400 := by rw [HXA.out]; exact hNb
        clear hN9 E19 c0 hG9 hs4
        go_wp2_with fail
        refine (newInt_calls 1 _ (by omega) (by omega)).mono ?_
        rintro v w13 ⟨rfl, hO13, e13⟩
        have hX13 := hX1.ext e13
        have c1 := e13.cell c1
        have hG13 := hGc.ext e13
        have E13 := e1.trans (E1c.trans e13)
        have hs1c := hX1.lt
        clear hX1 hGc
        go_wp2_with fail
        refine (dratio_calls _ _ _ _ x 1 k mode hm _ hX13 hO13 hx0 (by omega) (by omega) (by decide) (by omega) (by omega) hG13).mono ?_
        rintro v w14 ⟨r, rfl, hr, e14⟩
        rw [HXD.out] at hr ⊢
        rw [HXA.out] at hr
        have HR := Lib.hid hr
        clear hr
        go_wp2
        go_ret
        exact ⟨r, rfl, HR.out, E13.trans e14⟩
end Go.Proofs.YtkljejejabikiaaGreatDoor

/- Package decim: exponent. -/
namespace Go.Proofs.YtkljejejabikiaaGreatDoor
open Go Go.RowKit Cusp

theorem emp_false {s : ByteArray} (h : 0 < s.size) : s.toList.isEmpty = false := by
  rw [ByteArray.toList_eq]
  cases hl : s.data.toList with
  | nil => rw [Lib.size_eq, hl] at h; simp at h
  | cons _ _ => rfl
theorem emp_true {s : ByteArray} (h : s.size = 0) : s.toList.isEmpty = true := by
  rw [ByteArray.toList_eq]
  cases hl : s.data.toList with
  | nil => rfl
  | cons _ _ => rw [Lib.size_eq, hl] at h; simp at h
theorem head_at {s : ByteArray} (h : 0 < s.size) : s.data.toList.head? = some (s[0]'h) := by
  rw [← at_list s 0 h, List.head?_eq_getElem?]
def tens : List UInt8 := [48, 49, 50, 51, 52, 53, 54, 55, 56, 57]
theorem dig_tens (b : UInt8) : tens.contains b = isDig 10 b := all_bytes (fun b => tens.contains b = isDig 10 b) (by decide +kernel) b
theorem dropWhile_nil_iff {α : Type} (p : α → Bool) (l : List α) : l.dropWhile p = [] ↔ ∀ x ∈ l, p x = true := by
  induction l with
  | nil => simp
  | cons a t ih =>
    rw [List.dropWhile_cons]
    split
    · rename_i h
      rw [ih]
      simp [h]
    · rename_i h
      simp [h]
theorem trim_tens (l : List UInt8) : Lib.trimS l tens = [] ↔ ∀ b ∈ l, isDig 10 b = true := by
  unfold Lib.trimS Lib.trimLeftS Lib.trimRightS
  rw [dropWhile_nil_iff]
  have h1 : (l.reverse.dropWhile (tens.contains ·)).reverse = [] ↔ ∀ b ∈ l, tens.contains b = true := by
    rw [List.reverse_eq_nil_iff, dropWhile_nil_iff]
    simp
  constructor
  · intro h
    have h2 : l.reverse.dropWhile (tens.contains ·) = [] := by
      cases hd : l.reverse.dropWhile (tens.contains ·) with
      | nil => rfl
      | cons x t =>
        exfalso
        have h4 := h x (by rw [hd]; simp)
        have h3 : ∀ (m : List UInt8), m.dropWhile (tens.contains ·) = x :: t → tens.contains x = false := by
          intro m
          induction m with
          | nil => intro h; cases h
          | cons a u ih =>
            rw [List.dropWhile_cons]
            split
            · exact ih
            · rename_i hn
              intro he
              injection he with he _
              rw [← he]
              simpa using hn
        have h5 := h3 _ hd
        rw [h4] at h5
        cases h5
    intro b hb
    rw [← dig_tens]
    exact h1.1 (by rw [h2]; rfl) b hb
  · intro h
    have h2 := h1.2 (fun b hb => by rw [dig_tens]; exact h b hb)
    rw [h2]
    intro x hx
    cases hx

set_option maxHeartbeats 4000000 in
set_option maxRecDepth 1000000 in
theorem exponent_calls (b o : Nat) (z : Int) (s : ByteArray) (w : World) (hz : IsInt w b o z) (hs : s.size ≤ 1048576) :
    Calls Tryz.prog 108 #[.pointer (some ⟨b, o, none⟩), .string s] w fun v w' => v = .returned (.bool (expV s.data.toList).isSome) ∧ (expV s.data.toList = none → Ext w w') ∧ (∀ e, expV s.data.toList = some e → IsInt w' b o e ∧ Wr b o w w') := by
  go_enter Tryz.func108, Tryz.ntmps108
  go_upto_region 2 with (fail)
  go_cut [18] (fun v wx => v = .bool (signed s.data.toList) ∧ wx = w)
  case first =>
    rcases Nat.eq_zero_or_pos s.size with h0 | h0
    · have he := emp_true h0
      have hsg : signed s.data.toList = false := by
        have : s.data.toList = [] := List.eq_nil_of_length_eq_zero (by rw [← Lib.size_eq]; exact h0)
        rw [this]; rfl
      go_wp2
      go_meet
      case rel => exact ⟨by rw [hsg], rfl⟩
    · have he := emp_false h0
      have hd := head_at h0
      obtain ⟨x, hx⟩ : ∃ x, x = s[0]'h0 := ⟨_, rfl⟩
      rw [← hx] at hd
      have HX := Lib.hid hx
      have HD := Lib.hid hd
      clear hd
      by_cases h43 : x = 43
      · have t1 : ((s[0]'h0).toNat : Int) = 43 := by rw [← hx, h43]; rfl
        clear hx
        go_wp2
        go_meet
        case rel => exact ⟨by unfold signed; rw [HD.out, h43]; rfl, rfl⟩
      · by_cases h45 : x = 45
        · have t1 : ((s[0]'h0).toNat : Int) = 45 := by rw [← hx, h45]; rfl
          clear hx
          go_wp2
          go_meet
          case rel => exact ⟨by unfold signed; rw [HD.out, h45]; rfl, rfl⟩
        · have hn : ∀ n : UInt8, x ≠ n → (((s[0]'h0).toNat : Int) == (n.toNat : Int)) = false := fun n h => by
            rw [beq_eq_false_iff_ne, ← hx]
            intro he
            exact h (UInt8.toNat_inj.1 (by omega))
          have t1 : (((s[0]'h0).toNat : Int) == 43) = false := hn 43 h43
          have t2 : (((s[0]'h0).toNat : Int) == 45) = false := hn 45 h45
          clear hx hn
          go_wp2
          go_meet
          case rel => exact ⟨by unfold signed; rw [HD.out]; simp [h43, h45], rfl⟩
  case rest =>
    obtain ⟨rfl, rfl⟩ := hcut
    obtain ⟨sg, hsg⟩ : ∃ sg, sg = signed s.data.toList := ⟨_, rfl⟩
    rw [← hsg]
    have HSG := Lib.hid hsg
    clear hsg
    go_upto_if 18 with (fail)
    go_cut [5] (fun v wx => ∃ D : ByteArray, v = .string D ∧ RowKit.Hid (D.data.toList = expD s.data.toList) ∧ D.size ≤ s.size ∧ wx = wc)
    case first =>
      cases sg with
      | false =>
        have hD : s.data.toList = expD s.data.toList := by
          unfold expD
          have h := HSG.out
          unfold signed at h
          rw [if_neg]
          intro h2
          rcases h2 with h2 | h2 <;> rw [h2] at h <;> simp at h
        have HD := Lib.hid hD
        clear hD
        go_wp2
        go_meet
        case rel => exact ⟨s, rfl, HD, Nat.le_refl _, rfl⟩
      | true =>
        have hD : (s.extract 1 s.size).data.toList = expD s.data.toList := by
          rw [ext_drop]
          unfold expD
          have h := HSG.out
          unfold signed at h
          rw [if_pos]
          cases hh : s.data.toList.head? with
          | none => rw [hh] at h; simp at h
          | some x => rw [hh] at h; simpa using h.symm
        have h0 : 0 < s.size := by
          rcases Nat.eq_zero_or_pos s.size with h | h
          · have h2 := HSG.out
            rw [show s.data.toList = [] from List.eq_nil_of_length_eq_zero (by rw [← Lib.size_eq]; exact h)] at h2
            cases h2
          · exact h
        have HD := Lib.hid hD
        have hsz : (s.extract 1 s.size).size ≤ s.size := by rw [ByteArray.size_extract]; omega
        have HSZ := Lib.hid hsz
        clear hD hsz
        go_wp2
        go_meet
        case rel => exact ⟨_, rfl, HD, HSZ.out, rfl⟩
    case rest =>
      obtain ⟨D, rfl, hD, hDs, rfl⟩ := hcut
      rcases Nat.eq_zero_or_pos D.size with hd0 | hd0
      · have he := emp_true hd0
        have hn : expV s.data.toList = none := by
          unfold expV
          rw [if_neg]
          rintro ⟨h, _⟩
          apply h
          rw [← hD.out]
          exact List.eq_nil_of_length_eq_zero (by rw [← Lib.size_eq]; exact hd0)
        have HN := Lib.hid hn
        clear hn
        go_wp2
        go_ret
        exact ⟨(by rw [HN.out]; rfl), fun _ => Ext.refl _, fun e he => by rw [HN.out] at he; cases he⟩
      · have he := emp_false hd0
        have hDn : expD s.data.toList ≠ [] := by
          rw [← hD.out]
          intro h
          rw [Lib.size_eq, h] at hd0
          simp at hd0
        go_wp2_with fail
        refine (Any.strings_Trim_laid Tryz.lays160 (by kernel_rfl) D ⟨tens.toArray⟩ _ (by omega) (by decide) (ascii_of_all (by decide))).mono ?_
        rintro v w1 ⟨rfl, e1⟩
        obtain ⟨T, hT⟩ : ∃ T : ByteArray, T = ⟨(Lib.trimS D.data.toList (ByteArray.mk tens.toArray).data.toList).toArray⟩ := ⟨_, rfl⟩
        rw [← hT]
        have hTl : T.data.toList = Lib.trimS D.data.toList tens := by rw [hT]
        have HT := Lib.hid hTl
        clear hT hTl
        rcases Nat.eq_zero_or_pos T.size with ht0 | ht0
        · have he2 := emp_true ht0
          have hdig : ∀ b ∈ D.data.toList, isDig 10 b = true := by
            rw [← trim_tens, ← HT.out]
            exact List.eq_nil_of_length_eq_zero (by rw [← Lib.size_eq]; exact ht0)
          have hv : expV s.data.toList = some (if s.data.toList.head? = some 45 then -((numV 10 D.data.toList : Nat) : Int) else ((numV 10 D.data.toList : Nat) : Int)) := by
            unfold expV
            rw [← hD.out] at hDn ⊢
            rw [if_pos ⟨hDn, hdig⟩]
          have hs0 : 0 < s.size := by omega
          have hz1 := hz.ext e1
          have hzl := hz.lt
          have HV := Lib.hid hv
          clear hv
          go_wp2_with fail
          refine (setString_calls b o z 10 (by omega) D _ hz1 hdig hd0 (by omega)).mono ?_
          rintro v w2 ⟨rfl, hz2, hW2⟩
          have hd := head_at hs0
          obtain ⟨x, hx⟩ : ∃ x, x = s[0]'hs0 := ⟨_, rfl⟩
          rw [← hx] at hd
          have HD := Lib.hid hd
          clear hd hdig
          by_cases h45 : x = 45
          · have t1 : ((s[0]'hs0).toNat : Int) = 45 := by rw [← hx, h45]; rfl
            clear hx
            go_wp2_with fail
            refine (neg_calls b o b o _ _ _ hz2 hz2).mono ?_
            rintro v w3 ⟨rfl, hz3, hW3⟩
            go_wp2
            go_ret
            refine ⟨(by rw [HV.out]; rfl), fun h => (by rw [HV.out] at h; cases h), fun e he => ⟨?_, Wr.ext_left e1 hzl (hW2.trans hW3)⟩⟩
            rw [HV.out, HD.out, h45, if_pos rfl] at he
            injection he with he
            rw [← he]
            exact hz3
          · have t1 : (((s[0]'hs0).toNat : Int) == 45) = false := by
              rw [beq_eq_false_iff_ne, ← hx]
              intro he
              exact h45 (UInt8.toNat_inj.1 (by show x.toNat = 45; omega))
            clear hx
            go_wp2
            go_ret
            refine ⟨(by rw [HV.out]; rfl), fun h => (by rw [HV.out] at h; cases h), fun e he => ⟨?_, Wr.ext_left e1 hzl hW2⟩⟩
            rw [HV.out, HD.out, if_neg (by intro h; injection h with h; exact h45 h)] at he
            injection he with he
            rw [← he]
            exact hz2
        · have he2 := emp_false ht0
          have hn : expV s.data.toList = none := by
            unfold expV
            rw [if_neg]
            rintro ⟨_, h⟩
            rw [← hD.out, ← trim_tens, ← HT.out] at h
            rw [Lib.size_eq, h] at ht0
            simp at ht0
          have HN := Lib.hid hn
          clear hn
          go_wp2
          go_ret
          exact ⟨(by rw [HN.out]; rfl), fun _ => e1, fun e he => by rw [HN.out] at he; cases he⟩
end Go.Proofs.YtkljejejabikiaaGreatDoor

/- Package decim: cut. -/
namespace Go.Proofs.YtkljejejabikiaaGreatDoor
open Go Go.RowKit Cusp

/-- At block g: a text's six cells. -/
structure TxAt (w : World) (g : Nat) (neg hex : Bool) (D : ByteArray) (beh : Int) (E : Value) (wrd : ByteArray) : Prop where
  c0 : w.cell? ⟨g, 0, none⟩ = some (.bool neg)
  c1 : w.cell? ⟨g, 1, none⟩ = some (.bool hex)
  c2 : w.cell? ⟨g, 2, none⟩ = some (.string D)
  c3 : w.cell? ⟨g, 3, none⟩ = some (.int .i64 beh)
  c4 : w.cell? ⟨g, 4, none⟩ = some E
  c5 : w.cell? ⟨g, 5, none⟩ = some (.string wrd)
  f0 : w.frozen? ⟨g, 0, none⟩ = false
  f1 : w.frozen? ⟨g, 1, none⟩ = false
  f2 : w.frozen? ⟨g, 2, none⟩ = false
  f3 : w.frozen? ⟨g, 3, none⟩ = false
  f4 : w.frozen? ⟨g, 4, none⟩ = false
  f5 : w.frozen? ⟨g, 5, none⟩ = false

theorem TxAt.ext {w w' : World} {g : Nat} {neg hex : Bool} {D : ByteArray} {beh : Int} {E : Value} {wrd : ByteArray} (h : TxAt w g neg hex D beh E wrd) (e : Ext w w') : TxAt w' g neg hex D beh E wrd :=
  ⟨e.cell h.c0, e.cell h.c1, e.cell h.c2, e.cell h.c3, e.cell h.c4, e.cell h.c5, (e.frozen h.c0).trans h.f0, (e.frozen h.c1).trans h.f1, (e.frozen h.c2).trans h.f2, (e.frozen h.c3).trans h.f3, (e.frozen h.c4).trans h.f4, (e.frozen h.c5).trans h.f5⟩
theorem TxAt.lt {w : World} {g : Nat} {neg hex : Bool} {D : ByteArray} {beh : Int} {E : Value} {wrd : ByteArray} (h : TxAt w g neg hex D beh E wrd) : g < w.heap.size := World.block_lt_of_cell? _ _ h.c0
theorem ad_ne (g i j : Nat) (h : i ≠ j) : (⟨g, i, none⟩ : Addr) ≠ ⟨g, j, none⟩ := by intro e; injection e with _ e; exact h e
theorem TxAt.far {w : World} {g : Nat} {neg hex : Bool} {D : ByteArray} {beh : Int} {E : Value} {wrd : ByteArray} (h : TxAt w g neg hex D beh E wrd) (p : Addr) (v : Value) (hp : p.block ≠ g) : TxAt (w.setCell p v) g neg hex D beh E wrd := by
  have hn : ∀ i, p ≠ (⟨g, i, none⟩ : Addr) := fun i e => hp (by rw [e])
  refine ⟨?_, ?_, ?_, ?_, ?_, ?_, ?_, ?_, ?_, ?_, ?_, ?_⟩
  all_goals first | (rw [World.cell?_setCell_other _ _ _ _ (hn _)]) | (rw [World.frozen?_setCell])
  all_goals first | exact h.c0 | exact h.c1 | exact h.c2 | exact h.c3 | exact h.c4 | exact h.c5 | exact h.f0 | exact h.f1 | exact h.f2 | exact h.f3 | exact h.f4 | exact h.f5
theorem TxAt.set0 {w : World} {g : Nat} {neg hex : Bool} {D : ByteArray} {beh : Int} {E : Value} {wrd : ByteArray} (h : TxAt w g neg hex D beh E wrd) (v : Bool) : TxAt (w.setCell ⟨g, 0, none⟩ (.bool v)) g v hex D beh E wrd := by
  refine ⟨World.cell?_setCell_same _ _ _ h.c0, ?_, ?_, ?_, ?_, ?_, ?_, ?_, ?_, ?_, ?_, ?_⟩
  all_goals first | (rw [World.cell?_setCell_other _ _ _ _ (ad_ne _ _ _ (by decide))]) | (rw [World.frozen?_setCell])
  all_goals first | exact h.c0 | exact h.c1 | exact h.c2 | exact h.c3 | exact h.c4 | exact h.c5 | exact h.f0 | exact h.f1 | exact h.f2 | exact h.f3 | exact h.f4 | exact h.f5
theorem TxAt.set1 {w : World} {g : Nat} {neg hex : Bool} {D : ByteArray} {beh : Int} {E : Value} {wrd : ByteArray} (h : TxAt w g neg hex D beh E wrd) (v : Bool) : TxAt (w.setCell ⟨g, 1, none⟩ (.bool v)) g neg v D beh E wrd := by
  refine ⟨?_, World.cell?_setCell_same _ _ _ h.c1, ?_, ?_, ?_, ?_, ?_, ?_, ?_, ?_, ?_, ?_⟩
  all_goals first | (rw [World.cell?_setCell_other _ _ _ _ (ad_ne _ _ _ (by decide))]) | (rw [World.frozen?_setCell])
  all_goals first | exact h.c0 | exact h.c1 | exact h.c2 | exact h.c3 | exact h.c4 | exact h.c5 | exact h.f0 | exact h.f1 | exact h.f2 | exact h.f3 | exact h.f4 | exact h.f5
theorem TxAt.set2 {w : World} {g : Nat} {neg hex : Bool} {D : ByteArray} {beh : Int} {E : Value} {wrd : ByteArray} (h : TxAt w g neg hex D beh E wrd) (v : ByteArray) : TxAt (w.setCell ⟨g, 2, none⟩ (.string v)) g neg hex v beh E wrd := by
  refine ⟨?_, ?_, World.cell?_setCell_same _ _ _ h.c2, ?_, ?_, ?_, ?_, ?_, ?_, ?_, ?_, ?_⟩
  all_goals first | (rw [World.cell?_setCell_other _ _ _ _ (ad_ne _ _ _ (by decide))]) | (rw [World.frozen?_setCell])
  all_goals first | exact h.c0 | exact h.c1 | exact h.c2 | exact h.c3 | exact h.c4 | exact h.c5 | exact h.f0 | exact h.f1 | exact h.f2 | exact h.f3 | exact h.f4 | exact h.f5
theorem TxAt.set3 {w : World} {g : Nat} {neg hex : Bool} {D : ByteArray} {beh : Int} {E : Value} {wrd : ByteArray} (h : TxAt w g neg hex D beh E wrd) (v : Int) : TxAt (w.setCell ⟨g, 3, none⟩ (.int .i64 v)) g neg hex D v E wrd := by
  refine ⟨?_, ?_, ?_, World.cell?_setCell_same _ _ _ h.c3, ?_, ?_, ?_, ?_, ?_, ?_, ?_, ?_⟩
  all_goals first | (rw [World.cell?_setCell_other _ _ _ _ (ad_ne _ _ _ (by decide))]) | (rw [World.frozen?_setCell])
  all_goals first | exact h.c0 | exact h.c1 | exact h.c2 | exact h.c3 | exact h.c4 | exact h.c5 | exact h.f0 | exact h.f1 | exact h.f2 | exact h.f3 | exact h.f4 | exact h.f5
theorem TxAt.set4 {w : World} {g : Nat} {neg hex : Bool} {D : ByteArray} {beh : Int} {E : Value} {wrd : ByteArray} (h : TxAt w g neg hex D beh E wrd) (v : Value) : TxAt (w.setCell ⟨g, 4, none⟩ v) g neg hex D beh v wrd := by
  refine ⟨?_, ?_, ?_, ?_, World.cell?_setCell_same _ _ _ h.c4, ?_, ?_, ?_, ?_, ?_, ?_, ?_⟩
  all_goals first | (rw [World.cell?_setCell_other _ _ _ _ (ad_ne _ _ _ (by decide))]) | (rw [World.frozen?_setCell])
  all_goals first | exact h.c0 | exact h.c1 | exact h.c2 | exact h.c3 | exact h.c4 | exact h.c5 | exact h.f0 | exact h.f1 | exact h.f2 | exact h.f3 | exact h.f4 | exact h.f5
theorem TxAt.set5 {w : World} {g : Nat} {neg hex : Bool} {D : ByteArray} {beh : Int} {E : Value} {wrd : ByteArray} (h : TxAt w g neg hex D beh E wrd) (v : ByteArray) : TxAt (w.setCell ⟨g, 5, none⟩ (.string v)) g neg hex D beh E v := by
  refine ⟨?_, ?_, ?_, ?_, ?_, World.cell?_setCell_same _ _ _ h.c5, ?_, ?_, ?_, ?_, ?_, ?_⟩
  all_goals first | (rw [World.cell?_setCell_other _ _ _ _ (ad_ne _ _ _ (by decide))]) | (rw [World.frozen?_setCell])
  all_goals first | exact h.c0 | exact h.c1 | exact h.c2 | exact h.c3 | exact h.c4 | exact h.c5 | exact h.f0 | exact h.f1 | exact h.f2 | exact h.f3 | exact h.f4 | exact h.f5
theorem txAt_new (w : World) (t : TypeId) (neg hex : Bool) (D : ByteArray) (beh : Int) (E : Value) (wrd : ByteArray) : TxAt (w.alloc (.cells #[.bool neg, .bool hex, .string D, .int .i64 beh, E, .string wrd] t)) w.heap.size neg hex D beh E wrd := by
  refine ⟨cell_new w _ _ 0 _ rfl, cell_new w _ _ 1 _ rfl, cell_new w _ _ 2 _ rfl, cell_new w _ _ 3 _ rfl, cell_new w _ _ 4 _ rfl, cell_new w _ _ 5 _ rfl, ?_, ?_, ?_, ?_, ?_, ?_⟩
  all_goals (simp only [World.frozen?, heap_alloc_new]; rfl)

set_option maxRecDepth 100000 in
theorem load_tx (w : World) (g : Nat) (neg hex : Bool) (D : ByteArray) (beh : Int) (E : Value) (wrd : ByteArray) (h : TxAt w g neg hex D beh E wrd) :
    (loadVar 77 ⟨g, 0, none⟩).run Tryz.prog w = .ok (.agg #[.bool neg, .bool hex, .string D, .int .i64 beh, E, .string wrd]) w := by
  have hu := Tryz.underlying77
  have c0 := h.c0
  have c1 := h.c1
  have c2 := h.c2
  have c3 := h.c3
  have c4 := h.c4
  have c5 := h.c5
  go_simp
theorem results_tx {fn : Func} {p u : Tmp} (h : fn.results = #[.cell p 77, .tmp u]) (tmps : Array Value) (w : World) (g : Nat) (neg hex : Bool) (D : ByteArray) (beh : Int) (E : Value) (wrd : ByteArray) (hp : tmps.getD p undef = .pointer (some ⟨g, 0, none⟩))
    (ht : TxAt w g neg hex D beh E wrd) :
    (results fn tmps).run Tryz.prog w = .ok (.tuple #[.agg #[.bool neg, .bool hex, .string D, .int .i64 beh, E, .string wrd], tmps.getD u undef]) w := by
  rw [results_cell_tmp h, hp]
  simp [asAddr, Result.andThen, load_tx w g neg hex D beh E wrd ht]
/-- All six cells stored. -/
theorem TxAt.all {w : World} {g : Nat} {neg hex : Bool} {D : ByteArray} {beh : Int} {E : Value} {wrd : ByteArray} (h : TxAt w g neg hex D beh E wrd) (neg' hex' : Bool) (D' : ByteArray) (beh' : Int) (E' : Value) (wrd' : ByteArray) :
    TxAt ((((((w.setCell ⟨g, 0, none⟩ (.bool neg')).setCell ⟨g, 1, none⟩ (.bool hex')).setCell ⟨g, 2, none⟩ (.string D')).setCell ⟨g, 3, none⟩ (.int .i64 beh')).setCell ⟨g, 4, none⟩ E').setCell ⟨g, 5, none⟩ (.string wrd')) g neg' hex' D' beh' E' wrd' :=
  (((((h.set0 neg').set1 hex').set2 D').set3 beh').set4 E').set5 wrd'
end Go.Proofs.YtkljejejabikiaaGreatDoor

/- A text before and behind its point; what its exponent's size is. Plain. -/
namespace Cusp
open Go

theorem index_dot (l : List UInt8) : (Lib.index l [46] = -1 ∧ ahead l = l ∧ behind l = []) ∨ (∃ k : Nat, Lib.index l [46] = (k : Int) ∧ ahead l = l.take k ∧ behind l = l.drop (k + 1)) := by
  induction l with
  | nil => left; exact ⟨rfl, rfl, rfl⟩
  | cons b l ih =>
    by_cases hb : b = 46
    · right
      subst hb
      exact ⟨0, by simp [Lib.index, List.isPrefixOf], by simp [ahead], by simp [behind]⟩
    · have h1 : List.isPrefixOf [46] (b :: l) = false := by simp [List.isPrefixOf]; exact fun h => hb h.symm
      have h2 : ahead (b :: l) = b :: ahead l := by unfold ahead; rw [List.takeWhile_cons, if_pos (by simpa using hb)]
      have h3 : behind (b :: l) = behind l := by unfold behind; rw [List.dropWhile_cons, if_pos (by simpa using hb)]
      rcases ih with ⟨i1, i2, i3⟩ | ⟨k, i1, i2, i3⟩
      · left
        refine ⟨?_, by rw [h2, i2], by rw [h3, i3]⟩
        unfold Lib.index
        rw [if_neg (by rw [h1]; simp), i1]
        rfl
      · right
        refine ⟨k + 1, ?_, by rw [h2, i2]; rfl, by rw [h3, i3]; rfl⟩
        unfold Lib.index
        rw [if_neg (by rw [h1]; simp), i1, if_neg (by rw [beq_iff_eq]; omega)]
        rfl
theorem cut_dot (l : List UInt8) : (Lib.cut l [46]).1 = ahead l ∧ (Lib.cut l [46]).2.1 = behind l := by
  unfold Lib.cut
  rcases index_dot l with ⟨i1, i2, i3⟩ | ⟨k, i1, i2, i3⟩
  · rw [i1, i2, i3]; exact ⟨rfl, rfl⟩
  · rw [i1, if_pos (by omega), i2, i3]
    exact ⟨by simp, by simp⟩
theorem pre_two (l : List UInt8) (a b : UInt8) : Lib.hasPrefix l [a, b] = decide (l.take 2 = [a, b]) := by
  unfold Lib.hasPrefix
  cases h : List.isPrefixOf [a, b] l with
  | true =>
    rw [List.isPrefixOf_iff_prefix, List.prefix_iff_eq_take] at h
    have h2 : l.take 2 = [a, b] := h.symm
    rw [decide_eq_true h2]
  | false =>
    rw [decide_eq_false]
    intro he
    have : List.isPrefixOf [a, b] l = true := by rw [List.isPrefixOf_iff_prefix, List.prefix_iff_eq_take]; exact he.symm
    rw [h] at this
    cases this
theorem expD_len (l : List UInt8) : (expD l).length ≤ l.length := by
  unfold expD
  split
  · rw [List.length_drop]; omega
  · exact Nat.le_refl _
theorem expV_len {l : List UInt8} {e : Int} (h : expV l = some e) : bl e.natAbs ≤ 4 * l.length := by
  unfold expV at h
  split at h
  · rename_i hc
    injection h with h
    have h1 : e.natAbs = numV 10 (expD l) := by rw [← h]; split <;> omega
    rw [h1]
    have h2 := numV_lt 10 (.inl rfl) (expD l) hc.2 (expD l).length (Nat.le_refl _)
    rw [List.take_length] at h2
    have h3 : 10 ^ (expD l).length ≤ 2 ^ (4 * l.length) := by
      rw [Nat.pow_mul]
      exact Nat.le_trans (Nat.pow_le_pow_left (show 10 ≤ 2 ^ 4 by decide) _) (Nat.pow_le_pow_right (by decide) (expD_len l))
    exact bl_le_of_lt (Nat.lt_of_lt_of_le h2 h3)
  · cases h
theorem leftCut_head (l set : List UInt8) (b : UInt8) (h : (leftCut l set)[0]? = some b) : set.contains b = false := by
  unfold leftCut at h
  induction l with
  | nil => cases h
  | cons a t ih =>
    rw [List.dropWhile_cons] at h
    split at h
    · exact ih h
    · rename_i hn
      simp only [List.getElem?_cons_zero] at h
      injection h with h
      rw [← h]
      simpa using hn
theorem leftCut_nil_iff (l set : List UInt8) : leftCut l set = [] ↔ ∀ b ∈ l, set.contains b = true := by
  unfold leftCut
  induction l with
  | nil => simp
  | cons a t ih =>
    rw [List.dropWhile_cons]
    split
    · rename_i h
      rw [ih]
      simp at h
      simp [h]
    · rename_i h
      simp at h
      simp [h]
end Cusp

/- Package decim: cut. -/
namespace Go.Proofs.YtkljejejabikiaaGreatDoor
open Go Go.RowKit Cusp

def wordB (n : Nat) : ByteArray := if n = 1 then ⟨#[105, 110, 102]⟩ else if n = 2 then ⟨#[110, 97, 110]⟩ else ⟨#[]⟩
/-- A text's value tells what was cut. -/
structure Tells (w : World) (v : Value) (t : Txt) : Prop where
  ex : ∃ (D : ByteArray) (P : Option Addr), v = txv t.neg t.hex D t.behind (.pointer P) (wordB t.word) ∧ D.data.toList = t.digits ∧ (t.word = 0 → ∃ be, P = some ⟨be, 0, none⟩ ∧ IsInt w be 0 t.exp ∧ bl t.exp.natAbs ≤ 8388608)

def setOf (hex : Bool) : List UInt8 := if hex = true then [48, 49, 50, 51, 52, 53, 54, 55, 56, 57, 97, 98, 99, 100, 101, 102, 65, 66, 67, 68, 69, 70] else [48, 49, 50, 51, 52, 53, 54, 55, 56, 57]
def IsTx (v : Value) : Prop := ∃ (neg hex : Bool) (D : ByteArray) (beh : Int) (P : Option Addr) (wrd : ByteArray), v = .agg #[.bool neg, .bool hex, .string D, .int .i64 beh, .pointer P, .string wrd]
theorem dig_set (hex : Bool) (b : UInt8) : (setOf hex).contains b = isDig (base hex) b := by
  cases hex with
  | false => exact all_bytes (fun b => (setOf false).contains b = isDig (base false) b) (by decide +kernel) b
  | true => exact all_bytes (fun b => (setOf true).contains b = isDig (base true) b) (by decide +kernel) b
theorem _root_.Cusp.IsInt.far {w : World} {b o : Nat} {x : Int} (h : IsInt w b o x) {p : Addr} {u : Value} (hc : w.cell? p = some u) (hu : ∀ y, u ≠ .int .u32 y) (hp : p.block ≠ b) (v : Value) : IsInt (w.setCell p v) b o x := by
  obtain ⟨⟨A, n, c, h1, h2, h3⟩, f0, f1⟩ := h
  have hn : ∀ i, p ≠ (⟨b, i, none⟩ : Addr) := fun i e => hp (by rw [e])
  exact ⟨⟨A, n, c, by rw [World.cell?_setCell_other _ _ _ _ (hn _)]; exact h1, by rw [World.cell?_setCell_other _ _ _ _ (hn _)]; exact h2, h3.set hc hu⟩, by rw [World.frozen?_setCell]; exact f0, by rw [World.frozen?_setCell]; exact f1⟩
theorem _root_.Cusp.IsInt.all {w : World} {b o : Nat} {x : Int} (h : IsInt w b o x) {g : Nat} {neg hex : Bool} {D : ByteArray} {beh : Int} {wrd : ByteArray} (t : TxAt w g neg hex D beh (.pointer none) wrd) (hg : g ≠ b) (neg' hex' : Bool) (D' : ByteArray) (beh' : Int) (E' : Value) (wrd' : ByteArray) :
    IsInt ((((((w.setCell ⟨g, 0, none⟩ (.bool neg')).setCell ⟨g, 1, none⟩ (.bool hex')).setCell ⟨g, 2, none⟩ (.string D')).setCell ⟨g, 3, none⟩ (.int .i64 beh')).setCell ⟨g, 4, none⟩ E').setCell ⟨g, 5, none⟩ (.string wrd')) b o x := by
  have i1 := h.far t.c0 (by intro y h; cases h) hg (.bool neg')
  have i2 := i1.far (t.set0 neg').c1 (by intro y h; cases h) hg (.bool hex')
  have i3 := i2.far ((t.set0 neg').set1 hex').c2 (by intro y h; cases h) hg (.string D')
  have i4 := i3.far (((t.set0 neg').set1 hex').set2 D').c3 (by intro y h; cases h) hg (.int .i64 beh')
  have i5 := i4.far ((((t.set0 neg').set1 hex').set2 D').set3 beh').c4 (by intro y h; cases h) hg E'
  exact i5.far (((((t.set0 neg').set1 hex').set2 D').set3 beh').set4 E').c5 (by intro y h; cases h) hg (.string wrd')
theorem TxAt.wr {w w' : World} {g b o : Nat} {neg hex : Bool} {D : ByteArray} {beh : Int} {E : Value} {wrd : ByteArray} (h : TxAt w g neg hex D beh E wrd) (k : Wr b o w w') (hne : g ≠ b) : TxAt w' g neg hex D beh E wrd :=
  ⟨(k.other rfl h.c0 (.inl hne)).1, (k.other rfl h.c1 (.inl hne)).1, (k.other rfl h.c2 (.inl hne)).1, (k.other rfl h.c3 (.inl hne)).1, (k.other rfl h.c4 (.inl hne)).1, (k.other rfl h.c5 (.inl hne)).1,
    (k.other rfl h.c0 (.inl hne)).2.trans h.f0, (k.other rfl h.c1 (.inl hne)).2.trans h.f1, (k.other rfl h.c2 (.inl hne)).2.trans h.f2, (k.other rfl h.c3 (.inl hne)).2.trans h.f3, (k.other rfl h.c4 (.inl hne)).2.trans h.f4, (k.other rfl h.c5 (.inl hne)).2.trans h.f5⟩
theorem signed_head {l : List UInt8} (h : signed l = true) : ∃ x t, l = x :: t ∧ (x = 43 ∨ x = 45) := by
  cases l with
  | nil => cases h
  | cons x t =>
    refine ⟨x, t, rfl, ?_⟩
    unfold signed at h
    simpa using h

set_option linter.unusedSimpArgs false in
set_option maxHeartbeats 3000000 in
set_option maxRecDepth 1000000 in
theorem cut_calls (s : ByteArray) (w : World) (hs : s.size ≤ 1048576) {B : Nat} (hG : Glib B w) :
    Calls Tryz.prog 52 #[.string s] w fun r w' => ∃ v, r = .returned (.tuple #[v, .bool (cutT s.data.toList).isSome]) ∧ IsTx v ∧ Ext w w' ∧ (∀ t, cutT s.data.toList = some t → Tells w' v t) := by
  have E1 : Ext w (w.alloc (.cells #[.bool false, .bool false, .string ⟨#[]⟩, .int .i64 0, .pointer none, .string ⟨#[]⟩] 77)) := (Ext.refl w).alloc _
  obtain ⟨W1, hW1⟩ : ∃ W1, W1 = w.alloc (.cells #[.bool false, .bool false, .string ⟨#[]⟩, .int .i64 0, .pointer none, .string ⟨#[]⟩] 77) := ⟨_, rfl⟩
  obtain ⟨W2, hW2⟩ : ∃ W2, W2 = W1.alloc (.cells #[.bool false, .bool false, .string ⟨#[]⟩, .int .i64 0, .pointer none, .string ⟨#[]⟩] 77) := ⟨_, rfl⟩
  have hz1 : W1.heap.size = w.heap.size + 1 := by rw [hW1]; simp
  have e2 : Ext W1 W2 := by rw [hW2]; exact (Ext.refl W1).alloc _
  have hR2 : TxAt W2 w.heap.size false false ⟨#[]⟩ 0 (.pointer none) ⟨#[]⟩ := by
    have := txAt_new w 77 false false ⟨#[]⟩ 0 (.pointer none) ⟨#[]⟩
    rw [← hW1] at this
    exact this.ext e2
  have hT2 : TxAt W2 (w.heap.size + 1) false false ⟨#[]⟩ 0 (.pointer none) ⟨#[]⟩ := by
    have := txAt_new W1 77 false false ⟨#[]⟩ 0 (.pointer none) ⟨#[]⟩
    rw [← hW2, hz1] at this
    exact this
  rw [← hW1] at E1
  have E2 := E1.trans e2
  have HW : RowKit.Hid ((w.alloc (.cells #[.bool false, .bool false, .string ⟨#[]⟩, .int .i64 0, .pointer none, .string ⟨#[]⟩] 77)).alloc (.cells #[.bool false, .bool false, .string ⟨#[]⟩, .int .i64 0, .pointer none, .string ⟨#[]⟩] 77) = W2) := Lib.hid (by rw [hW2, hW1])
  clear hW1 hW2 hz1 E1 e2
  go_enter Tryz.func52, Tryz.ntmps52
  go_upto_region 2 with (fail)
  rw [HW.out]
  go_cut [22] (fun v wx => v = .bool (signed s.data.toList) ∧ wx = W2)
  case first =>
    clear hR2 hT2 HW
    rcases Nat.eq_zero_or_pos s.size with h0 | h0
    · have he := emp_true h0
      have hsg : signed s.data.toList = false := by
        have : s.data.toList = [] := List.eq_nil_of_length_eq_zero (by rw [← Lib.size_eq]; exact h0)
        rw [this]; rfl
      go_wp2
      go_meet
      case rel => exact ⟨by rw [hsg], rfl⟩
    · have he := emp_false h0
      have hd := head_at h0
      obtain ⟨x, hx⟩ : ∃ x, x = s[0]'h0 := ⟨_, rfl⟩
      rw [← hx] at hd
      have HX := Lib.hid hx
      have HD := Lib.hid hd
      clear hd
      by_cases h43 : x = 43
      · have t1 : ((s[0]'h0).toNat : Int) = 43 := by rw [← hx, h43]; rfl
        clear hx
        go_wp2
        go_meet
        case rel => exact ⟨by unfold signed; rw [HD.out, h43]; rfl, rfl⟩
      · by_cases h45 : x = 45
        · have t1 : ((s[0]'h0).toNat : Int) = 45 := by rw [← hx, h45]; rfl
          clear hx
          go_wp2
          go_meet
          case rel => exact ⟨by unfold signed; rw [HD.out, h45]; rfl, rfl⟩
        · have hn : ∀ n : UInt8, x ≠ n → (((s[0]'h0).toNat : Int) == (n.toNat : Int)) = false := fun n h => by
            rw [beq_eq_false_iff_ne, ← hx]
            intro he
            exact h (UInt8.toNat_inj.1 (by omega))
          have t1 : (((s[0]'h0).toNat : Int) == 43) = false := hn 43 h43
          have t2 : (((s[0]'h0).toNat : Int) == 45) = false := hn 45 h45
          clear hx hn
          go_wp2
          go_meet
          case rel => exact ⟨by unfold signed; rw [HD.out]; simp [h43, h45], rfl⟩
  case rest =>
    obtain ⟨rfl, rfl⟩ := hcut
    obtain ⟨sgn', hsg⟩ : ∃ sg, sg = signed s.data.toList := ⟨_, rfl⟩
    rw [← hsg]
    have HSG := Lib.hid hsg
    clear hsg
    go_upto_if 22 with (fail)
    go_cut [0] (fun v wx => ∃ (S : ByteArray) (neg : Bool), v = .string S ∧ S.size ≤ s.size ∧ RowKit.Hid (cutT s.data.toList = restT neg S.data.toList) ∧ TxAt wx (w.heap.size + 1) neg false ⟨#[]⟩ 0 (.pointer none) ⟨#[]⟩ ∧ TxAt wx w.heap.size false false ⟨#[]⟩ 0 (.pointer none) ⟨#[]⟩ ∧ Ext w wx)
    case first =>
      cases sgn' with
      | false =>
        have hct : cutT s.data.toList = restT false s.data.toList := cutT_plain HSG.out.symm
        have HC := Lib.hid hct
        clear hct
        go_wp2
        go_meet
        case rel => exact ⟨s, false, rfl, Nat.le_refl _, HC, hT2, hR2, E2⟩
      | true =>
        obtain ⟨x, t, hl, hxx⟩ := signed_head HSG.out.symm
        have h0 : 0 < s.size := by rw [Lib.size_eq, hl]; simp
        have hd := head_at h0
        rw [hl] at hd
        have hx : x = s[0]'h0 := by injection hd
        have hS : (s.extract 1 s.size).data.toList = t := by rw [ext_drop, hl]; rfl
        have hct : cutT s.data.toList = restT (x == 45) t := by
          unfold cutT
          rw [← HSG.out, hl]
          simp
        have hsz : (s.extract 1 s.size).size ≤ s.size := by rw [ByteArray.size_extract]; omega
        have HS := Lib.hid hS
        have HC := Lib.hid hct
        have HSZ := Lib.hid hsz
        clear hl hd hS hct hsz
        have c0 := hT2.c0
        have f0 := hT2.f0
        rcases hxx with h43 | h45
        · have t1 : ((s[0]'h0).toNat : Int) = 43 := by rw [← hx, h43]; rfl
          have HX := Lib.hid h43
          clear hx h43
          go_wp2
          go_meet
          case rel => exact ⟨_, false, rfl, HSZ.out, Lib.hid (by rw [HC.out, HX.out, HS.out]; rfl), hT2.set0 false, hR2.far _ _ (by show w.heap.size + 1 ≠ w.heap.size; omega), E2.setCell (by show w.heap.size ≤ w.heap.size + 1; omega) _⟩
        · have t1 : ((s[0]'h0).toNat : Int) = 45 := by rw [← hx, h45]; rfl
          have HX := Lib.hid h45
          clear hx h45
          go_wp2
          go_meet
          case rel => exact ⟨_, true, rfl, HSZ.out, Lib.hid (by rw [HC.out, HX.out, HS.out]; rfl), hT2.set0 true, hR2.far _ _ (by show w.heap.size + 1 ≠ w.heap.size; omega), E2.setCell (by show w.heap.size ≤ w.heap.size + 1; omega) _⟩
    case rest =>
      obtain ⟨S, neg, rfl, hSs, HCT, hT3, hR3, E3⟩ := hcut
      clear hT2 hR2 E2
      have hsl : ∀ {l : List UInt8}, S.data.toList = l → S = ⟨l.toArray⟩ := fun h => by
        apply ByteArray.ext
        rw [← h]
      by_cases hinf : S.data.toList = infB
      · obtain rfl : S = ⟨#[105, 110, 102]⟩ := hsl hinf
        have hrt : cutT s.data.toList = some ⟨neg, false, [], 0, 0, 1⟩ := by rw [HCT.out]; rfl
        have HRT := Lib.hid hrt
        have t1 : ((ByteArray.mk #[105, 110, 102]).toList == [105, 110, 102]) = true := by rw [ByteArray.toList_eq]; rfl
        have c5 := hT3.c5
        have f5 := hT3.f5
        clear hsl hrt hinf
        go_upto_region 7 with (fail)
        have hT4 := hT3.set5 ⟨#[105, 110, 102]⟩
        have hR4 := hR3.far ⟨w.heap.size + 1, 5, none⟩ (.string ⟨#[105, 110, 102]⟩) (by show w.heap.size + 1 ≠ w.heap.size; omega)
        have E4 := E3.setCell (p := ⟨w.heap.size + 1, 5, none⟩) (by show w.heap.size ≤ w.heap.size + 1; omega) (.string ⟨#[105, 110, 102]⟩)
        obtain ⟨w4, hw4⟩ : ∃ w4, w4 = wc.setCell ⟨w.heap.size + 1, 5, none⟩ (.string ⟨#[105, 110, 102]⟩) := ⟨_, rfl⟩
        rw [← hw4] at hT4 hR4 E4 ⊢
        clear hw4 c5 f5 hT3 hR3 E3
        have hR5 := hR4.all neg false ⟨#[]⟩ 0 (.pointer none) ⟨#[105, 110, 102]⟩
        have b0 := hT4.c0
        have b1 := hT4.c1
        have b2 := hT4.c2
        have b3 := hT4.c3
        have b4 := hT4.c4
        have b5 := hT4.c5
        have r0 := hR4.c0
        have r1 := hR4.c1
        have r2 := hR4.c2
        have r3 := hR4.c3
        have r4 := hR4.c4
        have r5 := hR4.c5
        have f0 := hR4.f0
        have f1 := hR4.f1
        have f2 := hR4.f2
        have f3 := hR4.f3
        have f4 := hR4.f4
        have f5 := hR4.f5
        go_wp2_with fail
        refine bodyPost_ret (results_tx rfl _ _ w.heap.size neg false ⟨#[]⟩ 0 (.pointer none) ⟨#[105, 110, 102]⟩ rfl hR5) rfl ?_
        exact ⟨_, (by rw [HRT.out]; rfl), ⟨_, _, _, _, _, _, rfl⟩, (((((E4.setCell (Nat.le_refl _) _).setCell (Nat.le_refl _) _).setCell (Nat.le_refl _) _).setCell (Nat.le_refl _) _).setCell (Nat.le_refl _) _).setCell (Nat.le_refl _) _, fun t ht => (by rw [HRT.out] at ht; injection ht with ht; rw [← ht]; exact ⟨⟨#[]⟩, none, rfl, rfl, fun h => (by cases h)⟩)⟩
      by_cases hnan : S.data.toList = nanB
      · obtain rfl : S = ⟨#[110, 97, 110]⟩ := hsl hnan
        have hrt : cutT s.data.toList = some ⟨neg, false, [], 0, 0, 2⟩ := by rw [HCT.out]; rfl
        have HRT := Lib.hid hrt
        have t1 : ((ByteArray.mk #[110, 97, 110]).toList == [105, 110, 102]) = false := by rw [ByteArray.toList_eq]; rfl
        have t2 : ((ByteArray.mk #[110, 97, 110]).toList == [110, 97, 110]) = true := by rw [ByteArray.toList_eq]; rfl
        have c5 := hT3.c5
        have f5 := hT3.f5
        clear hsl hrt hnan
        go_upto_region 7 with (fail)
        have hT4 := hT3.set5 ⟨#[110, 97, 110]⟩
        have hR4 := hR3.far ⟨w.heap.size + 1, 5, none⟩ (.string ⟨#[110, 97, 110]⟩) (by show w.heap.size + 1 ≠ w.heap.size; omega)
        have E4 := E3.setCell (p := ⟨w.heap.size + 1, 5, none⟩) (by show w.heap.size ≤ w.heap.size + 1; omega) (.string ⟨#[110, 97, 110]⟩)
        obtain ⟨w4, hw4⟩ : ∃ w4, w4 = wc.setCell ⟨w.heap.size + 1, 5, none⟩ (.string ⟨#[110, 97, 110]⟩) := ⟨_, rfl⟩
        rw [← hw4] at hT4 hR4 E4 ⊢
        clear hw4 c5 f5 hT3 hR3 E3
        have hR5 := hR4.all neg false ⟨#[]⟩ 0 (.pointer none) ⟨#[110, 97, 110]⟩
        have b0 := hT4.c0
        have b1 := hT4.c1
        have b2 := hT4.c2
        have b3 := hT4.c3
        have b4 := hT4.c4
        have b5 := hT4.c5
        have r0 := hR4.c0
        have r1 := hR4.c1
        have r2 := hR4.c2
        have r3 := hR4.c3
        have r4 := hR4.c4
        have r5 := hR4.c5
        have f0 := hR4.f0
        have f1 := hR4.f1
        have f2 := hR4.f2
        have f3 := hR4.f3
        have f4 := hR4.f4
        have f5 := hR4.f5
        go_wp2_with fail
        refine bodyPost_ret (results_tx rfl _ _ w.heap.size neg false ⟨#[]⟩ 0 (.pointer none) ⟨#[110, 97, 110]⟩ rfl hR5) rfl ?_
        exact ⟨_, (by rw [HRT.out]; rfl), ⟨_, _, _, _, _, _, rfl⟩, (((((E4.setCell (Nat.le_refl _) _).setCell (Nat.le_refl _) _).setCell (Nat.le_refl _) _).setCell (Nat.le_refl _) _).setCell (Nat.le_refl _) _).setCell (Nat.le_refl _) _, fun t ht => (by rw [HRT.out] at ht; injection ht with ht; rw [← ht]; exact ⟨⟨#[]⟩, none, rfl, rfl, fun h => (by cases h)⟩)⟩
      have t1 : (S.toList == [105, 110, 102]) = false := by rw [beq_eq_false_iff_ne, ByteArray.toList_eq]; exact hinf
      have t2 : (S.toList == [110, 97, 110]) = false := by rw [beq_eq_false_iff_ne, ByteArray.toList_eq]; exact hnan
      have hrt : cutT s.data.toList = if S.data.toList.take 2 = [48, 120] ∨ S.data.toList.take 2 = [48, 88] then bodyT neg true (S.data.toList.drop 2) else bodyT neg false S.data.toList := by
        rw [HCT.out]; unfold restT; rw [if_neg hinf, if_neg hnan]
      have HRT := Lib.hid hrt
      clear hrt hinf hnan hsl HCT
      have hp1 := pre_two S.data.toList 48 120
      have hp2 := pre_two S.data.toList 48 88
      have HP1 := Lib.hid hp1
      have HP2 := Lib.hid hp2
      clear hp1 hp2
      go_upto_region 9 with (fail)
      go_cut [43] (fun v wx => v = .bool (decide (S.data.toList.take 2 = [48, 120] ∨ S.data.toList.take 2 = [48, 88])) ∧ wx = wc)
      case first =>
        go_wp2_with fail
        refine (Tryz.strings_HasPrefix S ⟨#[48, 120]⟩ _).mono ?_
        rintro v wd ⟨rfl, rfl⟩
        rw [show (ByteArray.mk #[48, 120]).data.toList = [48, 120] from rfl, HP1.out]
        by_cases hx1 : S.data.toList.take 2 = [48, 120]
        · rw [decide_eq_true hx1]
          go_wp2
          go_meet
          case rel => exact ⟨by rw [decide_eq_true (Or.inl hx1)], rfl⟩
        · rw [decide_eq_false hx1]
          go_wp2_with fail
          refine (Tryz.strings_HasPrefix S ⟨#[48, 88]⟩ _).mono ?_
          rintro v wd ⟨rfl, rfl⟩
          rw [show (ByteArray.mk #[48, 88]).data.toList = [48, 88] from rfl, HP2.out]
          by_cases hx2 : S.data.toList.take 2 = [48, 88]
          · rw [decide_eq_true hx2]
            go_wp2
            go_meet
            case rel => exact ⟨by rw [decide_eq_true (Or.inr hx2)], rfl⟩
          · rw [decide_eq_false hx2]
            go_wp2
            go_meet
            case rel => exact ⟨by rw [decide_eq_false (by rintro (h | h); exact hx1 h; exact hx2 h)], rfl⟩
      case rest =>
        obtain ⟨rfl, rfl⟩ := hcut
        obtain ⟨hex, hhex⟩ : ∃ hex, hex = decide (S.data.toList.take 2 = [48, 120] ∨ S.data.toList.take 2 = [48, 88]) := ⟨_, rfl⟩
        rw [← hhex]
        have hrt : cutT s.data.toList = bodyT neg hex (if hex = true then S.data.toList.drop 2 else S.data.toList) := by
          rw [HRT.out, hhex]
          by_cases h : S.data.toList.take 2 = [48, 120] ∨ S.data.toList.take 2 = [48, 88]
          · rw [if_pos h, decide_eq_true h]; rfl
          · rw [if_neg h, decide_eq_false h]; rfl
        have hlen : hex = true → 2 ≤ S.size := fun h => by
          rw [hhex, decide_eq_true_iff] at h
          rw [Lib.size_eq]
          rcases h with h | h <;> (have h2 := congrArg List.length h; rw [List.length_take] at h2; simp only [List.length_cons, List.length_nil] at h2; omega)
        have HR := Lib.hid hrt
        have HL := Lib.hid hlen
        clear hrt hlen hhex HRT HP1 HP2
        go_upto_if 43 with (fail)
        go_cut [0, 5, 6] (fun v m b wx => ∃ S2 : ByteArray, v = .string S2 ∧ m = .string ⟨(marks hex).toArray⟩ ∧ b = .string ⟨(setOf hex).toArray⟩ ∧ S2.size ≤ s.size ∧ RowKit.Hid (cutT s.data.toList = bodyT neg hex S2.data.toList) ∧ TxAt wx (w.heap.size + 1) neg hex ⟨#[]⟩ 0 (.pointer none) ⟨#[]⟩ ∧ TxAt wx w.heap.size false false ⟨#[]⟩ 0 (.pointer none) ⟨#[]⟩ ∧ Ext w wx)
        case first =>
          cases hex with
          | false =>
            go_wp2
            go_meet
            case rel => exact ⟨S, rfl, rfl, rfl, hSs, HR, hT3, hR3, E3⟩
          | true =>
            have h2 := HL.out rfl
            have c1 := hT3.c1
            have f1 := hT3.f1
            have hS2 : (S.extract 2 S.size).data.toList = S.data.toList.drop 2 := by rw [ext_drop]
            have hsz : (S.extract 2 S.size).size ≤ s.size := by rw [ByteArray.size_extract]; omega
            have HSZ := Lib.hid hsz
            have HS2 := Lib.hid hS2
            clear hsz hS2
            go_wp2
            go_meet
            case rel => exact ⟨_, rfl, rfl, rfl, HSZ.out, Lib.hid (by rw [HR.out, HS2.out]; rfl), hT3.set1 true, hR3.far _ _ (by show w.heap.size + 1 ≠ w.heap.size; omega), E3.setCell (by show w.heap.size ≤ w.heap.size + 1; omega) _⟩
        case rest =>
          obtain ⟨S2, rfl, rfl, rfl, hS2s, HB, hT4, hR4, E4⟩ := hcut
          clear hT3 hR3 E3 HR HL hSs t1 t2
          have hset : ∀ b ∈ (ByteArray.mk (marks hex).toArray).data.toList, b.toNat < 128 := by
            show ∀ b ∈ marks hex, b.toNat < 128
            cases hex <;> decide
          go_upto_if 52 with (fail)
          refine (anyAt_calls S2 ⟨(marks hex).toArray⟩ _ hset).mono ?_
          rintro v w5 ⟨rfl, e5⟩
          rw [show (ByteArray.mk (marks hex).toArray).data.toList = marks hex from rfl]
          have hT5 := hT4.ext e5
          have hR5 := hR4.ext e5
          have E5 := E4.trans e5
          have hs5 := hT5.lt
          clear hT4 hR4 E4 e5 hset
          have a4 := hT5.c4
          have f4 := hT5.f4
          go_upto_block 0 with (fail)
          have hT5a := hT5.set4 (.pointer (some ⟨w5.heap.size, 0, none⟩))
          have hR5a := hR5.far ⟨w.heap.size + 1, 4, none⟩ (.pointer (some ⟨w5.heap.size, 0, none⟩)) (by show w.heap.size + 1 ≠ w.heap.size; omega)
          have E5a := E5.setCell (p := ⟨w.heap.size + 1, 4, none⟩) (by show w.heap.size ≤ w.heap.size + 1; omega) (.pointer (some ⟨w5.heap.size, 0, none⟩))
          have hz5 : (w5.setCell ⟨w.heap.size + 1, 4, none⟩ (.pointer (some ⟨w5.heap.size, 0, none⟩))).heap.size = w5.heap.size := by simp
          obtain ⟨w6, hw6⟩ : ∃ w6, w6 = w5.setCell ⟨w.heap.size + 1, 4, none⟩ (.pointer (some ⟨w5.heap.size, 0, none⟩)) := ⟨_, rfl⟩
          rw [← hw6] at hT5a hR5a E5a hz5 ⊢
          have hI6 := int_new w6 105
          rw [hz5] at hI6
          have e6 : Ext w6 (w6.alloc (.cells #[.bool false, .slice none 0 0] 105)) := (Ext.refl w6).alloc _
          obtain ⟨w7, hw7⟩ : ∃ w7, w7 = w6.alloc (.cells #[.bool false, .slice none 0 0] 105) := ⟨_, rfl⟩
          rw [← hw7] at hI6 e6 ⊢
          have hT7 := hT5a.ext e6
          have hR7 := hR5a.ext e6
          have E7 := E5a.trans e6
          obtain ⟨be, hbe⟩ : ∃ be, be = w5.heap.size := ⟨_, rfl⟩
          rw [← hbe] at hI6 hT7 hs5 ⊢
          have hI7 : IsInt w7 be 0 0 := hI6
          have hbe2 : w.heap.size + 1 < be := hs5
          clear a4 f4 hT5a hR5a E5a hz5 hw6 hw7 e6 hI6 hT5 hR5 E5 hbe hs5
          go_cut [0, 7] (fun v _ wx => ∃ (S3 : ByteArray) (e : Int), v = .string S3 ∧ S3.size ≤ s.size ∧ RowKit.Hid (cutT s.data.toList = fin neg hex S3.data.toList e) ∧ RowKit.Hid (bl e.natAbs ≤ 8388608) ∧ TxAt wx (w.heap.size + 1) neg hex ⟨#[]⟩ 0 (.pointer (some ⟨be, 0, none⟩)) ⟨#[]⟩ ∧ TxAt wx w.heap.size false false ⟨#[]⟩ 0 (.pointer none) ⟨#[]⟩ ∧ IsInt wx be 0 e ∧ Ext w wx)
          case first =>
            have b0 := hT7.c0
            have b1 := hT7.c1
            have b2 := hT7.c2
            have b3 := hT7.c3
            have b4 := hT7.c4
            have b5 := hT7.c5
            cases hfi : firstIn (marks hex) S2.data.toList with
            | none =>
              cases hex with
              | true =>
                have hct : cutT s.data.toList = none := by rw [HB.out]; unfold bodyT; rw [hfi]; rfl
                have HC := Lib.hid hct
                have hR9 := hR7.all neg true ⟨#[]⟩ 0 (.pointer (some ⟨be, 0, none⟩)) ⟨#[]⟩
                have r0 := hR7.c0
                have r1 := hR7.c1
                have r2 := hR7.c2
                have r3 := hR7.c3
                have r4 := hR7.c4
                have r5 := hR7.c5
                have f0 := hR7.f0
                have f1 := hR7.f1
                have f2 := hR7.f2
                have f3 := hR7.f3
                have f4 := hR7.f4
                have f5 := hR7.f5
                unfold atOf
                clear hct hfi
                go_wp2_with fail
                refine bodyPost_ret (results_tx rfl _ _ w.heap.size neg true ⟨#[]⟩ 0 (.pointer (some ⟨be, 0, none⟩)) ⟨#[]⟩ rfl hR9) rfl ?_
                exact ⟨_, (by rw [HC.out]; rfl), ⟨_, _, _, _, _, _, rfl⟩, (((((E7.setCell (Nat.le_refl _) _).setCell (Nat.le_refl _) _).setCell (Nat.le_refl _) _).setCell (Nat.le_refl _) _).setCell (Nat.le_refl _) _).setCell (Nat.le_refl _) _, fun t ht => (by rw [HC.out] at ht; cases ht)⟩
              | false =>
                have hct : cutT s.data.toList = fin neg false S2.data.toList 0 := by rw [HB.out]; unfold bodyT; rw [hfi]; rfl
                have HC := Lib.hid hct
                unfold atOf
                clear hct hfi
                go_wp2
                go_meet
                case rel => exact ⟨S2, 0, rfl, hS2s, HC, Lib.hid (by decide), hT7, hR7, hI7, E7⟩
            | some i =>
              have hil : i < S2.size := by
                unfold firstIn at hfi
                rw [List.findIdx?_eq_some_iff_getElem] at hfi
                obtain ⟨h, _⟩ := hfi
                rw [Lib.size_eq]; exact h
              have hat : atOf (some i) = (i : Int) := rfl
              rw [hat]
              have hX : (S2.extract (i + 1) S2.size).data.toList = S2.data.toList.drop (i + 1) := by rw [ext_drop]
              have hXs : (S2.extract (i + 1) S2.size).size ≤ 1048576 := by rw [ByteArray.size_extract]; omega
              obtain ⟨X, hXX⟩ : ∃ X, X = S2.extract (i + 1) S2.size := ⟨_, rfl⟩
              rw [← hXX] at hX hXs
              have HXX : RowKit.Hid (S2.extract (i + 1) S2.size = X) := Lib.hid hXX.symm
              have HX := Lib.hid hX
              have i1 : ((i : Int) + 1).toNat = i + 1 := by omega
              have i2 : IntKind.i64.wrap ((i : Int) + 1) = (i : Int) + 1 := by rw [IntKind.wrap_i64]; omega
              have i3 : (0 : Int) ≤ (i : Int) + 1 := by omega
              have i4 : (i : Int) + 1 ≤ (S2.size : Int) := by omega
              have i5 : ¬ ((i : Int) + 1 < 0) := by omega
              have i6 : ¬ ((S2.size : Int) < (i : Int) + 1) := by omega
              have hY : (S2.extract 0 i).data.toList = S2.data.toList.take i := by rw [ext_take]
              have hYs : (S2.extract 0 i).size ≤ s.size := by rw [ByteArray.size_extract]; omega
              have HY := Lib.hid hY
              have HYS := Lib.hid hYs
              have HFI := Lib.hid hfi
              clear hfi hat hX hXX hY hYs
              cases hev : expV X.data.toList with
              | none =>
                have hct : cutT s.data.toList = none := by rw [HB.out]; unfold bodyT; rw [HFI.out]; simp only; rw [← HX.out, hev]; rfl
                have HC := Lib.hid hct
                clear hct
                go_upto_region 16 with (fail)
                go_region_with (go_at_call 108; rw [HXX.out]; refine (exponent_calls be 0 0 X _ (hI7.ext (Ext.drew _)) hXs).mono ?_; rintro v w8 ⟨rfl, hno, _⟩; rw [hev]; have e8 := hno hev)
                have e78 : Ext w7 w8 := Ext.trans (Ext.drew _) e8
                have hT8 := hT7.ext e78
                have hR8 := hR7.ext e78
                have E8 := E7.trans e78
                have hR9 := hR8.all neg hex ⟨#[]⟩ 0 (.pointer (some ⟨be, 0, none⟩)) ⟨#[]⟩
                have b0 := hT8.c0
                have b1 := hT8.c1
                have b2 := hT8.c2
                have b3 := hT8.c3
                have b4 := hT8.c4
                have b5 := hT8.c5
                have r0 := hR8.c0
                have r1 := hR8.c1
                have r2 := hR8.c2
                have r3 := hR8.c3
                have r4 := hR8.c4
                have r5 := hR8.c5
                have f0 := hR8.f0
                have f1 := hR8.f1
                have f2 := hR8.f2
                have f3 := hR8.f3
                have f4 := hR8.f4
                have f5 := hR8.f5
                clear e8 e78 hT7 hR7 E7 hI7 hno hev
                go_wp2_with fail
                refine bodyPost_ret (results_tx rfl _ _ w.heap.size neg hex ⟨#[]⟩ 0 (.pointer (some ⟨be, 0, none⟩)) ⟨#[]⟩ rfl hR9) rfl ?_
                exact ⟨_, (by rw [HC.out]; rfl), ⟨_, _, _, _, _, _, rfl⟩, (((((E8.setCell (Nat.le_refl _) _).setCell (Nat.le_refl _) _).setCell (Nat.le_refl _) _).setCell (Nat.le_refl _) _).setCell (Nat.le_refl _) _).setCell (Nat.le_refl _) _, fun t ht => (by rw [HC.out] at ht; cases ht)⟩
              | some e =>
                have hct : cutT s.data.toList = fin neg hex (S2.extract 0 i).data.toList e := by rw [HB.out]; unfold bodyT; rw [HFI.out]; simp only; rw [← HX.out, hev, HY.out]; rfl
                have HC := Lib.hid hct
                have hlen : bl e.natAbs ≤ 8388608 := Nat.le_trans (expV_len hev) (by rw [← Lib.size_eq]; omega)
                have HLEN := Lib.hid hlen
                clear hct hlen
                go_upto_region 16 with (fail)
                go_region_with (go_at_call 108; rw [HXX.out]; refine (exponent_calls be 0 0 X _ (hI7.ext (Ext.drew _)) hXs).mono ?_; rintro v w8 ⟨rfl, _, hyes⟩; rw [hev]; have e8 := hyes e hev)
                obtain ⟨hI8, hW8⟩ := e8
                have hWW := Wr.ext_left (Ext.drew w7) hI7.lt hW8
                have hT8 := hT7.wr hWW (by omega)
                have hR8 := hR7.wr hWW (by omega)
                have E8 := Wr.own_ext E7 (by omega) hWW
                clear hW8 hWW hT7 hR7 E7 hI7 hyes hev b0 b1 b2 b3 b4 b5
                go_wp2_with fail
                go_meet
                case rel => exact ⟨_, e, rfl, HYS.out, HC, HLEN, hT8, hR8, hI8, E8⟩
          case rest =>
            obtain ⟨S3, e, rfl, hS3, HF, HLEN, hT8, hR8, hI8, E8⟩ := hcut
            clear hT7 hR7 hI7 E7 HB
            obtain ⟨m, hm⟩ := (hG.ext E8).ml
            go_upto_region 22 with (fail)
            refine (Tryz.strings_Cut S3 ⟨#[46]⟩ m _ (by omega) hm).mono ?_
            rintro v w9 ⟨rfl, k, hk⟩
            have e9 : Ext wc w9 := by rw [hk]; exact Ext.drewN _ _
            rw [show (ByteArray.mk #[46]).data.toList = [46] from rfl, (cut_dot _).1, (cut_dot _).2]
            have hT9 := hT8.ext e9
            have hR9 := hR8.ext e9
            have hI9 := hI8.ext e9
            have E9 := E8.trans e9
            clear hk hm hT8 hR8 hI8 E8 e9
            obtain ⟨fd, hfd⟩ : ∃ fd, fd = (Lib.cut S3.data.toList [46]).2.2 := ⟨_, rfl⟩
            rw [← hfd]
            obtain ⟨PA, hPA⟩ : ∃ PA : ByteArray, PA = ⟨(Cusp.ahead S3.data.toList).toArray⟩ := ⟨_, rfl⟩
            obtain ⟨PB, hPB⟩ : ∃ PB : ByteArray, PB = ⟨(Cusp.behind S3.data.toList).toArray⟩ := ⟨_, rfl⟩
            rw [← hPA, ← hPB]
            have hla : (Cusp.ahead S3.data.toList).length ≤ S3.size := by rw [Lib.size_eq]; unfold Cusp.ahead; exact (List.takeWhile_sublist _).length_le
            have hlb : (Cusp.behind S3.data.toList).length ≤ S3.size := by
              rw [Lib.size_eq]; unfold Cusp.behind; rw [List.length_drop]
              exact Nat.le_trans (Nat.sub_le _ _) (List.dropWhile_sublist _).length_le
            have hPAs : PA.size = (Cusp.ahead S3.data.toList).length := by rw [hPA, Lib.size_eq]
            have hPBs : PB.size = (Cusp.behind S3.data.toList).length := by rw [hPB, Lib.size_eq]
            have ha1 : PA.size ≤ 1048576 := by omega
            have hb1 : PB.size ≤ 1048576 := by omega
            have hDl : (PA ++ PB).data.toList = Cusp.ahead S3.data.toList ++ Cusp.behind S3.data.toList := by rw [hPA, hPB]; simp
            have HPB := Lib.hid hPBs
            have HDL := Lib.hid hDl
            clear hfd hPA hPB hla hlb hPAs hPBs hDl
            have a2 := hT9.c2
            have a3 := hT9.c3
            have f2 := hT9.f2
            have f3 := hT9.f3
            go_upto_region 23 with (fail)
            have hT10 := (hT9.set2 (PA ++ PB)).set3 (PB.size : Int)
            have hR10 := (hR9.far ⟨w.heap.size + 1, 2, none⟩ (.string (PA ++ PB)) (by show w.heap.size + 1 ≠ w.heap.size; omega)).far ⟨w.heap.size + 1, 3, none⟩ (.int .i64 (PB.size : Int)) (by show w.heap.size + 1 ≠ w.heap.size; omega)
            have hI10 := (hI9.far hT9.c2 (by intro y h; cases h) (show w.heap.size + 1 ≠ be by omega) (.string (PA ++ PB))).far (hT9.set2 (PA ++ PB)).c3 (by intro y h; cases h) (show w.heap.size + 1 ≠ be by omega) (.int .i64 (PB.size : Int))
            have E10 := (E9.setCell (p := ⟨w.heap.size + 1, 2, none⟩) (by show w.heap.size ≤ w.heap.size + 1; omega) (.string (PA ++ PB))).setCell (p := ⟨w.heap.size + 1, 3, none⟩) (by show w.heap.size ≤ w.heap.size + 1; omega) (.int .i64 (PB.size : Int))
            obtain ⟨w10, hw10⟩ : ∃ w10, w10 = (w9.setCell ⟨w.heap.size + 1, 2, none⟩ (.string (PA ++ PB))).setCell ⟨w.heap.size + 1, 3, none⟩ (.int .i64 (PB.size : Int)) := ⟨_, rfl⟩
            obtain ⟨D, hD⟩ : ∃ D, D = PA ++ PB := ⟨_, rfl⟩
            rw [← hw10] at hT10 hR10 hI10 E10 ⊢
            rw [← hD] at hT10 HDL ⊢
            clear hw10 hD a2 a3 f2 f3 hT9 hR9 hI9 E9
            have hdig : ∀ b, isDig (base hex) b = (setOf hex).contains b := fun b => (dig_set hex b).symm
            have hEd : Ext w10 w10.drew := Ext.drew _
            have hset : ∀ b ∈ (ByteArray.mk (setOf hex).toArray).data.toList, b.toNat < 128 := by
              show ∀ b ∈ setOf hex, b.toNat < 128
              cases hex <;> decide
            have hst : ∀ W, TxAt W (w.heap.size + 1) neg hex D (PB.size : Int) (.pointer (some ⟨be, 0, none⟩)) ⟨#[]⟩ → TxAt ((((((W.setCell ⟨w.heap.size, 0, none⟩ (.bool neg)).setCell ⟨w.heap.size, 1, none⟩ (.bool hex)).setCell ⟨w.heap.size, 2, none⟩ (.string D)).setCell ⟨w.heap.size, 3, none⟩ (.int .i64 (PB.size : Int))).setCell ⟨w.heap.size, 4, none⟩ (.pointer (some ⟨be, 0, none⟩))).setCell ⟨w.heap.size, 5, none⟩ (.string ⟨#[]⟩)) (w.heap.size + 1) neg hex D (PB.size : Int) (.pointer (some ⟨be, 0, none⟩)) ⟨#[]⟩ := fun W h => by
              have hh : w.heap.size ≠ w.heap.size + 1 := by omega
              exact (((((h.far _ _ hh).far _ _ hh).far _ _ hh).far _ _ hh).far _ _ hh).far _ _ hh
            have hstE : ∀ W, Ext w W → Ext w ((((((W.setCell ⟨w.heap.size, 0, none⟩ (.bool neg)).setCell ⟨w.heap.size, 1, none⟩ (.bool hex)).setCell ⟨w.heap.size, 2, none⟩ (.string D)).setCell ⟨w.heap.size, 3, none⟩ (.int .i64 (PB.size : Int))).setCell ⟨w.heap.size, 4, none⟩ (.pointer (some ⟨be, 0, none⟩))).setCell ⟨w.heap.size, 5, none⟩ (.string ⟨#[]⟩)) := fun W h =>
              (((((h.setCell (p := ⟨w.heap.size, 0, none⟩) (Nat.le_refl _) _).setCell (p := ⟨w.heap.size, 1, none⟩) (Nat.le_refl _) _).setCell (p := ⟨w.heap.size, 2, none⟩) (Nat.le_refl _) _).setCell (p := ⟨w.heap.size, 3, none⟩) (Nat.le_refl _) _).setCell (p := ⟨w.heap.size, 4, none⟩) (Nat.le_refl _) _).setCell (p := ⟨w.heap.size, 5, none⟩) (Nat.le_refl _) _
            have HSET := Lib.hid hset
            have HDIG := Lib.hid hdig
            clear hset hdig
            rcases Nat.eq_zero_or_pos D.size with hd0 | hd0
            · have he := emp_true hd0
              have hnil : D.toList = [] := by simpa using he
              have he2 : (D.toList != []) = false := by rw [hnil]; rfl
              have he3 : (D.toList == []) = true := by rw [hnil]; rfl
              have hct : cutT s.data.toList = none := by
                rw [HF.out]
                unfold fin
                rw [if_neg]
                rintro ⟨h, _⟩
                rw [← HDL.out] at h
                exact h (List.eq_nil_of_length_eq_zero (by rw [← Lib.size_eq]; exact hd0))
              have HC := Lib.hid hct
              clear hct
              have b0 := hT10.c0
              have b1 := hT10.c1
              have b2 := hT10.c2
              have b3 := hT10.c3
              have b4 := hT10.c4
              have b5 := hT10.c5
              have r0 := hR10.c0
              have r1 := hR10.c1
              have r2 := hR10.c2
              have r3 := hR10.c3
              have r4 := hR10.c4
              have r5 := hR10.c5
              have f0 := hR10.f0
              have f1 := hR10.f1
              have f2 := hR10.f2
              have f3 := hR10.f3
              have f4 := hR10.f4
              have f5 := hR10.f5
              refine wp_region_noPanic ?_
              refine wp_region_held_drew (S := (fun w' => w'.cell? ⟨w.heap.size + 1, 0, none⟩ = some (.bool neg) ∧ w'.cell? ⟨w.heap.size + 1, 1, none⟩ = some (.bool hex) ∧ w'.cell? ⟨w.heap.size + 1, 2, none⟩ = some (.string D) ∧ w'.cell? ⟨w.heap.size + 1, 3, none⟩ = some (.int .i64 (PB.size : Int)) ∧ w'.cell? ⟨w.heap.size + 1, 4, none⟩ = some (.pointer (some ⟨be, 0, none⟩)) ∧ w'.cell? ⟨w.heap.size + 1, 5, none⟩ = some (.string ⟨#[]⟩))) (by kernel_rfl) ⟨hT10.c0, hT10.c1, hT10.c2, hT10.c3, hT10.c4, hT10.c5⟩ (fun hHeld => ?_)
              refine wpAnyH_take (i := 0) (v := ?v0) rfl (by kernel_rfl) (by kernel_rfl) (by kernel_rfl) (fun _ _ _ h => h) (Or.inl ⟨by rfl, ?hy0⟩) (by assumption) ?_
              case hy0 => (intro w hSw; (try dsimp only at hSw); go_simp; try with_reducible rfl)
              try simp only [Act.put, List.getElem_toArray, List.getElem_cons_succ, List.getElem_cons_zero, List.setIfInBounds_toArray, List.set_cons_zero, List.set_cons_succ]
              refine wpAnyH_take (i := 1) (v := ?v1) rfl (by kernel_rfl) (by kernel_rfl) (by kernel_rfl) (fun _ _ _ h => h) (Or.inl ⟨by rfl, ?hy1⟩) (by assumption) ?_
              case hy1 => (intro w hSw; (try dsimp only at hSw); go_simp; try with_reducible rfl)
              try simp only [Act.put, List.getElem_toArray, List.getElem_cons_succ, List.getElem_cons_zero, List.setIfInBounds_toArray, List.set_cons_zero, List.set_cons_succ]
              refine wpAnyH_take (i := 2) (v := ?v2) rfl (by kernel_rfl) (by kernel_rfl) (by kernel_rfl) (fun _ _ _ h => h) (Or.inl ⟨by rfl, ?hy2⟩) (by assumption) ?_
              case hy2 => (intro w hSw; (try dsimp only at hSw); go_simp; try with_reducible rfl)
              try simp only [Act.put, List.getElem_toArray, List.getElem_cons_succ, List.getElem_cons_zero, List.setIfInBounds_toArray, List.set_cons_zero, List.set_cons_succ]
              refine wpAnyH_take (i := 3) (v := ?v3) rfl (by kernel_rfl) (by kernel_rfl) (by kernel_rfl) (fun _ _ _ h => h) (Or.inl ⟨by rfl, ?hy3⟩) (by assumption) ?_
              case hy3 => (intro w hSw; (try dsimp only at hSw); go_simp; try with_reducible rfl)
              try simp only [Act.put, List.getElem_toArray, List.getElem_cons_succ, List.getElem_cons_zero, List.setIfInBounds_toArray, List.set_cons_zero, List.set_cons_succ]
              refine wpAnyH_take (i := 4) (v := ?v4) rfl (by kernel_rfl) (by kernel_rfl) (by kernel_rfl) (fun _ _ _ h => h) (Or.inl ⟨by rfl, ?hy4⟩) (by assumption) ?_
              case hy4 => (intro w hSw; (try dsimp only at hSw); go_simp; try with_reducible rfl)
              try simp only [Act.put, List.getElem_toArray, List.getElem_cons_succ, List.getElem_cons_zero, List.setIfInBounds_toArray, List.set_cons_zero, List.set_cons_succ]
              refine wpAnyH_take (i := 5) (v := undef) rfl (by kernel_rfl) (by kernel_rfl) (by kernel_rfl) (fun _ _ _ h => h) (Or.inr ⟨by rfl, rfl⟩) (by assumption) ?_
              try simp only [Act.put, List.getElem_toArray, List.getElem_cons_succ, List.getElem_cons_zero, List.setIfInBounds_toArray, List.set_cons_zero, List.set_cons_succ]
              refine wpAnyH_take (i := 6) (v := undef) rfl (by kernel_rfl) (by kernel_rfl) (by kernel_rfl) (fun _ _ _ h => h) (Or.inr ⟨by rfl, rfl⟩) (by assumption) ?_
              try simp only [Act.put, List.getElem_toArray, List.getElem_cons_succ, List.getElem_cons_zero, List.setIfInBounds_toArray, List.set_cons_zero, List.set_cons_succ]
              refine wpAnyH_take (i := 7) (v := undef) rfl (by kernel_rfl) (by kernel_rfl) (by kernel_rfl) (fun _ _ _ h => h) (Or.inr ⟨by rfl, rfl⟩) (by assumption) ?_
              try simp only [Act.put, List.getElem_toArray, List.getElem_cons_succ, List.getElem_cons_zero, List.setIfInBounds_toArray, List.set_cons_zero, List.set_cons_succ]
              refine wpAnyH_take (i := 8) (v := undef) rfl (by kernel_rfl) (by kernel_rfl) (by kernel_rfl) (fun _ _ _ h => h) (Or.inr ⟨by rfl, rfl⟩) (by assumption) ?_
              try simp only [Act.put, List.getElem_toArray, List.getElem_cons_succ, List.getElem_cons_zero, List.setIfInBounds_toArray, List.set_cons_zero, List.set_cons_succ]
              refine wpAnyH_take (i := 9) (v := undef) rfl (by kernel_rfl) (by kernel_rfl) (by kernel_rfl) (fun _ _ _ h => h) (Or.inr ⟨by rfl, rfl⟩) (by assumption) ?_
              try simp only [Act.put, List.getElem_toArray, List.getElem_cons_succ, List.getElem_cons_zero, List.setIfInBounds_toArray, List.set_cons_zero, List.set_cons_succ]
              refine wpAnyH_take (i := 10) (v := undef) rfl (by kernel_rfl) (by kernel_rfl) (by kernel_rfl) (fun _ _ _ h => h) (Or.inr ⟨by rfl, rfl⟩) (by assumption) ?_
              try simp only [Act.put, List.getElem_toArray, List.getElem_cons_succ, List.getElem_cons_zero, List.setIfInBounds_toArray, List.set_cons_zero, List.set_cons_succ]
              refine wpAnyH_take (i := 11) (v := undef) rfl (by kernel_rfl) (by kernel_rfl) (by kernel_rfl) (fun _ _ _ h => h) (Or.inr ⟨by rfl, rfl⟩) (by assumption) ?_
              try simp only [Act.put, List.getElem_toArray, List.getElem_cons_succ, List.getElem_cons_zero, List.setIfInBounds_toArray, List.set_cons_zero, List.set_cons_succ]
              refine wpAnyH_take (i := 12) (v := ?v12) rfl (by kernel_rfl) (by kernel_rfl) (by kernel_rfl) (fun _ _ _ h => h) (Or.inl ⟨by rfl, ?hy12⟩) (by assumption) ?_
              case hy12 => (intro w hSw; (try dsimp only at hSw); go_simp; try with_reducible rfl)
              try simp only [Act.put, List.getElem_toArray, List.getElem_cons_succ, List.getElem_cons_zero, List.setIfInBounds_toArray, List.set_cons_zero, List.set_cons_succ]
              refine wpAnyH_ready (rs := [13]) (by kernel_rfl) (by simp) ?_
              refine AllReadyH.cons (o := _) rfl (fun K hK => ?_) AllReadyH.nil
              go_simp
              have hR11 := (hR10.all neg hex D (PB.size : Int) (.pointer (some ⟨be, 0, none⟩)) ⟨#[]⟩).ext (Ext.drew _)
              have E11 := Ext.trans (hstE _ E10) (Ext.drew _)
              have hX := (hst _ hT10).ext (Ext.drew _)
              refine hK.out _ _ ⟨(hX).c0, (hX).c1, (hX).c2, (hX).c3, (hX).c4, (hX).c5⟩ (fun hHeld => ?_)
              clear hK K
              try simp only [Act.put, List.getElem_toArray, List.getElem_cons_succ, List.getElem_cons_zero, List.setIfInBounds_toArray, List.set_cons_zero, List.set_cons_succ]
              refine wpAnyH_take (i := 14) (v := ?v14) rfl (by kernel_rfl) (by kernel_rfl) (by kernel_rfl) (fun _ _ _ h => h) (Or.inl ⟨by rfl, ?hy14⟩) (by assumption) ?_
              case hy14 => (intro w hSw; (try dsimp only at hSw); go_simp; try with_reducible rfl)
              try simp only [Act.put, List.getElem_toArray, List.getElem_cons_succ, List.getElem_cons_zero, List.setIfInBounds_toArray, List.set_cons_zero, List.set_cons_succ]
              refine wpAnyH_done (by kernel_rfl) ?_ _
              refine NoPanic.normal ?_
              go_wp2
              refine bodyPost_ret (results_tx rfl _ _ w.heap.size neg hex D (PB.size : Int) (.pointer (some ⟨be, 0, none⟩)) ⟨#[]⟩ rfl hR11) rfl ?_
              exact ⟨_, (by rw [HC.out]; rfl), ⟨_, _, _, _, _, _, rfl⟩, E11, fun t ht => (by rw [HC.out] at ht; cases ht)⟩
            · have he := emp_false hd0
              have he3 : (D.toList == []) = false := by
                rw [beq_eq_false_iff_ne]
                intro h
                rw [h] at he
                cases he
              have he2 : (D.toList != []) = true := by unfold bne; rw [he3]; rfl
              obtain ⟨ok, hok⟩ : ∃ ok, ok = (cutT s.data.toList).isSome := ⟨_, rfl⟩
              obtain ⟨LC, hLC⟩ : ∃ LC : ByteArray, LC = ⟨(leftCut D.data.toList (setOf hex)).toArray⟩ := ⟨_, rfl⟩
              have hLl : LC.data.toList = leftCut D.data.toList (setOf hex) := by rw [hLC]
              have hDn : D.data.toList ≠ [] := by
                intro h
                rw [Lib.size_eq, h] at hd0
                simp at hd0
              have hfin : cutT s.data.toList = if ∀ b ∈ D.data.toList, isDig (base hex) b = true then some ⟨neg, hex, D.data.toList, (Cusp.behind S3.data.toList).length, e, 0⟩ else none := by
                rw [HF.out]
                unfold fin
                rw [← HDL.out]
                by_cases h : ∀ b ∈ D.data.toList, isDig (base hex) b = true
                · rw [if_pos h, if_pos ⟨hDn, h⟩]
                · rw [if_neg h, if_neg (fun h2 => h h2.2)]
              have hokL : ok = decide (LC.size = 0) := by
                have h1 : LC.size = 0 ↔ ∀ b ∈ D.data.toList, isDig (base hex) b = true := by
                  rw [Lib.size_eq, hLl, List.length_eq_zero_iff, leftCut_nil_iff]
                  constructor
                  · intro h b hb; rw [HDIG.out]; exact h b hb
                  · intro h b hb; rw [← HDIG.out]; exact h b hb
                rw [hok, hfin]
                by_cases h : ∀ b ∈ D.data.toList, isDig (base hex) b = true
                · rw [if_pos h, decide_eq_true (h1.2 h)]; rfl
                · rw [if_neg h, decide_eq_false (fun h2 => h (h1.1 h2))]; rfl
              have hLhead : ∀ b, LC.data.toList[0]? = some b → (ByteArray.mk (setOf hex).toArray).data.toList.contains b = false := fun b hb => leftCut_head _ _ b (by rw [← hLl]; exact hb)
              have hLs : LC.size ≤ 4294967280 := by
                rw [Lib.size_eq, hLl]
                unfold leftCut
                refine Nat.le_trans (List.dropWhile_sublist _).length_le ?_
                rw [HDL.out, List.length_append]
                have h1 : (Cusp.ahead S3.data.toList).length ≤ S3.size := by rw [Lib.size_eq]; unfold Cusp.ahead; exact (List.takeWhile_sublist _).length_le
                have h2 : (Cusp.behind S3.data.toList).length ≤ S3.size := by
                  rw [Lib.size_eq]; unfold Cusp.behind; rw [List.length_drop]
                  exact Nat.le_trans (Nat.sub_le _ _) (List.dropWhile_sublist _).length_le
                omega
              have HOK := Lib.hid hok
              have HFIN := Lib.hid hfin
              have HOKL := Lib.hid hokL
              have HLC := Lib.hid hLC
              clear hok hfin hokL hLC hDn
              refine wp_region_noPanic ?_
              refine wp_region_held_drew (S := (fun w' => w'.cell? ⟨w.heap.size + 1, 0, none⟩ = some (.bool neg) ∧ w'.cell? ⟨w.heap.size + 1, 1, none⟩ = some (.bool hex) ∧ w'.cell? ⟨w.heap.size + 1, 2, none⟩ = some (.string D) ∧ w'.cell? ⟨w.heap.size + 1, 3, none⟩ = some (.int .i64 (PB.size : Int)) ∧ w'.cell? ⟨w.heap.size + 1, 4, none⟩ = some (.pointer (some ⟨be, 0, none⟩)) ∧ w'.cell? ⟨w.heap.size + 1, 5, none⟩ = some (.string ⟨#[]⟩))) (by kernel_rfl) ⟨hT10.c0, hT10.c1, hT10.c2, hT10.c3, hT10.c4, hT10.c5⟩ (fun hHeld => ?_)
              refine wpAnyH_take (i := 0) (v := ?vn0) rfl (by kernel_rfl) (by kernel_rfl) (by kernel_rfl) (fun _ _ _ h => h) (Or.inl ⟨by rfl, ?hyn0⟩) (by assumption) ?_
              case hyn0 => (intro w hSw; (try dsimp only at hSw); go_simp; try with_reducible rfl)
              try simp only [Act.put, List.getElem_toArray, List.getElem_cons_succ, List.getElem_cons_zero, List.setIfInBounds_toArray, List.set_cons_zero, List.set_cons_succ]
              refine wpAnyH_take (i := 1) (v := ?vn1) rfl (by kernel_rfl) (by kernel_rfl) (by kernel_rfl) (fun _ _ _ h => h) (Or.inl ⟨by rfl, ?hyn1⟩) (by assumption) ?_
              case hyn1 => (intro w hSw; (try dsimp only at hSw); go_simp; try with_reducible rfl)
              try simp only [Act.put, List.getElem_toArray, List.getElem_cons_succ, List.getElem_cons_zero, List.setIfInBounds_toArray, List.set_cons_zero, List.set_cons_succ]
              refine wpAnyH_take (i := 2) (v := ?vn2) rfl (by kernel_rfl) (by kernel_rfl) (by kernel_rfl) (fun _ _ _ h => h) (Or.inl ⟨by rfl, ?hyn2⟩) (by assumption) ?_
              case hyn2 => (intro w hSw; (try dsimp only at hSw); go_simp; try with_reducible rfl)
              try simp only [Act.put, List.getElem_toArray, List.getElem_cons_succ, List.getElem_cons_zero, List.setIfInBounds_toArray, List.set_cons_zero, List.set_cons_succ]
              refine wpAnyH_take (i := 3) (v := ?vn3) rfl (by kernel_rfl) (by kernel_rfl) (by kernel_rfl) (fun _ _ _ h => h) (Or.inl ⟨by rfl, ?hyn3⟩) (by assumption) ?_
              case hyn3 => (intro w hSw; (try dsimp only at hSw); go_simp; try with_reducible rfl)
              try simp only [Act.put, List.getElem_toArray, List.getElem_cons_succ, List.getElem_cons_zero, List.setIfInBounds_toArray, List.set_cons_zero, List.set_cons_succ]
              refine wpAnyH_take (i := 4) (v := ?vn4) rfl (by kernel_rfl) (by kernel_rfl) (by kernel_rfl) (fun _ _ _ h => h) (Or.inl ⟨by rfl, ?hyn4⟩) (by assumption) ?_
              case hyn4 => (intro w hSw; (try dsimp only at hSw); go_simp; try with_reducible rfl)
              try simp only [Act.put, List.getElem_toArray, List.getElem_cons_succ, List.getElem_cons_zero, List.setIfInBounds_toArray, List.set_cons_zero, List.set_cons_succ]
              refine wpAnyH_take (i := 5) (v := ?vn5) rfl (by kernel_rfl) (by kernel_rfl) (by kernel_rfl) (fun _ _ _ h => h) (Or.inl ⟨by rfl, ?hyn5⟩) (by assumption) ?_
              case hyn5 => (intro w hSw; (try dsimp only at hSw); go_simp; try with_reducible rfl)
              try simp only [Act.put, List.getElem_toArray, List.getElem_cons_succ, List.getElem_cons_zero, List.setIfInBounds_toArray, List.set_cons_zero, List.set_cons_succ]
              refine wpAnyH_take (i := 6) (v := ?vn6) rfl (by kernel_rfl) (by kernel_rfl) (by kernel_rfl) (fun _ _ _ h => h) (Or.inl ⟨by rfl, ?hyn6⟩) (by assumption) ?_
              case hyn6 => (intro w hSw; (try dsimp only at hSw); go_simp; try with_reducible rfl)
              try simp only [Act.put, List.getElem_toArray, List.getElem_cons_succ, List.getElem_cons_zero, List.setIfInBounds_toArray, List.set_cons_zero, List.set_cons_succ]
              refine wpAnyH_take (i := 7) (v := ?vn7) rfl (by kernel_rfl) (by kernel_rfl) (by kernel_rfl) (fun _ _ _ h => h) (Or.inl ⟨by rfl, ?hyn7⟩) (by assumption) ?_
              case hyn7 => (intro w hSw; (try dsimp only at hSw); go_simp; try with_reducible rfl)
              try simp only [Act.put, List.getElem_toArray, List.getElem_cons_succ, List.getElem_cons_zero, List.setIfInBounds_toArray, List.set_cons_zero, List.set_cons_succ]
              refine wpAnyH_take (i := 9) (v := ?vn9) rfl (by kernel_rfl) (by kernel_rfl) (by kernel_rfl) (fun _ _ _ h => h) (Or.inl ⟨by rfl, ?hyn9⟩) (by assumption) ?_
              case hyn9 => (intro w hSw; (try dsimp only at hSw); go_simp; try with_reducible rfl)
              try simp only [Act.put, List.getElem_toArray, List.getElem_cons_succ, List.getElem_cons_zero, List.setIfInBounds_toArray, List.set_cons_zero, List.set_cons_succ]
              refine wpAnyH_ready (rs := [8]) (by kernel_rfl) (by simp) ?_
              refine AllReadyH.cons (o := _) rfl (fun K hK => ?_) AllReadyH.nil
              go_simp
              refine (cutLeft_calls D ⟨(setOf hex).toArray⟩ _ HSET.out).mono ?_
              rintro v w11 ⟨rfl, e11⟩
              rw [show (ByteArray.mk (setOf hex).toArray).data.toList = setOf hex from rfl, ← HLC.out]
              have e11' : Ext w10 w11 := hEd.trans e11
              go_wp2_with fail
              have hX1 := hT10.ext e11'
              refine hK.out _ _ ⟨(hX1).c0, (hX1).c1, (hX1).c2, (hX1).c3, (hX1).c4, (hX1).c5⟩ (fun hHeld => ?_)
              clear hK K
              try simp only [Act.put, List.getElem_toArray, List.getElem_cons_succ, List.getElem_cons_zero, List.setIfInBounds_toArray, List.set_cons_zero, List.set_cons_succ]
              refine wpAnyH_ready (rs := [10]) (by kernel_rfl) (by simp) ?_
              refine AllReadyH.cons (o := _) rfl (fun K hK => ?_) AllReadyH.nil
              go_simp
              refine (cutRight_calls LC ⟨(setOf hex).toArray⟩ _ hLs HSET.out hLhead (hG.ext (E10.trans e11'))).mono ?_
              rintro v w12 ⟨t, rfl, ht, e12⟩
              have e12' := e11'.trans e12
              have hte : t.toList.isEmpty = ok := by
                rw [HOKL.out]
                rcases Nat.eq_zero_or_pos LC.size with h | h
                · rw [emp_true (ht.2 h), decide_eq_true h]
                · rw [emp_false (Nat.pos_of_ne_zero (fun h2 => by have := ht.1 h2; omega)), decide_eq_false (by omega)]
              go_wp2_with fail
              have hX2 := hT10.ext e12'
              refine hK.out _ _ ⟨(hX2).c0, (hX2).c1, (hX2).c2, (hX2).c3, (hX2).c4, (hX2).c5⟩ (fun hHeld => ?_)
              clear hK K
              try simp only [Act.put, List.getElem_toArray, List.getElem_cons_succ, List.getElem_cons_zero, List.setIfInBounds_toArray, List.set_cons_zero, List.set_cons_succ]
              have hR12 := hR10.ext e12'
              have r0 := hR12.c0
              have r1 := hR12.c1
              have r2 := hR12.c2
              have r3 := hR12.c3
              have r4 := hR12.c4
              have r5 := hR12.c5
              have f0 := hR12.f0
              have f1 := hR12.f1
              have f2 := hR12.f2
              have f3 := hR12.f3
              have f4 := hR12.f4
              have f5 := hR12.f5
              refine wpAnyH_take (i := 11) (v := ?vn11) rfl (by kernel_rfl) (by kernel_rfl) (by kernel_rfl) (fun _ _ _ h => h) (Or.inl ⟨by rfl, ?hyn11⟩) (by assumption) ?_
              case hyn11 => (intro w hSw; (try dsimp only at hSw); go_simp; try with_reducible rfl)
              try simp only [Act.put, List.getElem_toArray, List.getElem_cons_succ, List.getElem_cons_zero, List.setIfInBounds_toArray, List.set_cons_zero, List.set_cons_succ]
              refine wpAnyH_take (i := 12) (v := ?vn12) rfl (by kernel_rfl) (by kernel_rfl) (by kernel_rfl) (fun _ _ _ h => h) (Or.inl ⟨by rfl, ?hyn12⟩) (by assumption) ?_
              case hyn12 => (intro w hSw; (try dsimp only at hSw); go_simp; try with_reducible rfl)
              try simp only [Act.put, List.getElem_toArray, List.getElem_cons_succ, List.getElem_cons_zero, List.setIfInBounds_toArray, List.set_cons_zero, List.set_cons_succ]
              refine wpAnyH_ready (rs := [13]) (by kernel_rfl) (by simp) ?_
              refine AllReadyH.cons (o := _) rfl (fun K hK => ?_) AllReadyH.nil
              go_simp
              have hX := hst _ (hT10.ext e12')
              refine hK.out _ _ ⟨(hX).c0, (hX).c1, (hX).c2, (hX).c3, (hX).c4, (hX).c5⟩ (fun hHeld => ?_)
              clear hK K
              try simp only [Act.put, List.getElem_toArray, List.getElem_cons_succ, List.getElem_cons_zero, List.setIfInBounds_toArray, List.set_cons_zero, List.set_cons_succ]
              refine wpAnyH_take (i := 14) (v := ?vn14) rfl (by kernel_rfl) (by kernel_rfl) (by kernel_rfl) (fun _ _ _ h => h) (Or.inl ⟨by rfl, ?hyn14⟩) (by assumption) ?_
              case hyn14 => (intro w hSw; (try dsimp only at hSw); go_simp; try with_reducible rfl)
              try simp only [Act.put, List.getElem_toArray, List.getElem_cons_succ, List.getElem_cons_zero, List.setIfInBounds_toArray, List.set_cons_zero, List.set_cons_succ]
              have hR13 := hR12.all neg hex D (PB.size : Int) (.pointer (some ⟨be, 0, none⟩)) ⟨#[]⟩
              have hI13 := (hI10.ext e12').all hR12 (by omega) neg hex D (PB.size : Int) (.pointer (some ⟨be, 0, none⟩)) ⟨#[]⟩
              have E13 := hstE _ (E10.trans e12')
              refine wpAnyH_done (by kernel_rfl) ?_ _
              refine NoPanic.normal ?_
              go_wp2
              refine bodyPost_ret (results_tx rfl _ _ w.heap.size neg hex D (PB.size : Int) (.pointer (some ⟨be, 0, none⟩)) ⟨#[]⟩ rfl hR13) rfl ?_
              refine ⟨_, (by rw [← HOK.out]; rfl), ⟨_, _, _, _, _, _, rfl⟩, E13, fun t ht => ?_⟩
              rw [HFIN.out] at ht
              split at ht
              · injection ht with ht
                rw [← ht]
                exact ⟨⟨D, some ⟨be, 0, none⟩, (by rw [← HPB.out]; rfl), rfl, fun _ => ⟨be, rfl, hI13, HLEN.out⟩⟩⟩
              · cases ht
end Go.Proofs.YtkljejejabikiaaGreatDoor
