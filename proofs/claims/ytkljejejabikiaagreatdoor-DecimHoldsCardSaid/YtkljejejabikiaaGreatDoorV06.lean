/- Contracts of the program's functions, and plain laws on numbers and texts (joined: DyaD, RndC, RndD, DyaE, DyaF, DimA, Dec, DecB, DimC, DimD). -/
import Derived.Test.YtkljejejabikiaaGreatDoorV05
import Derived.Deep.DeepCutAuto
import Derived.Deep.CutBlock
import Derived.Deep.RegionHeld3
import Derived.Laws.RangeAny
import Derived.Lib.RuneCount
import Derived.Lib.SpaceU
import Derived.Lib.SlTrimSet
import Derived.Shelf.Unicode.DecodeLast
import Derived.Lib.OthersKept
import Derived.Test.YtkljejejabikiaaGreatDoorShelf
import Derived.Shelf.Strings.SlTrimAscii
import Derived.Shelf.Unicode.PredsPay
import GoSem.PinnedTables

/- Package dyad: magnitude. -/
namespace Go.Proofs.YtkljejejabikiaaGreatDoor
open Go Go.RowKit Cusp

set_option maxHeartbeats 2000000 in
set_option maxRecDepth 100000 in
theorem mag_over (b o n : Nat) (e : Int) (rest up near : Bool) (w : World) (N D S : Nat) (h : Near N D n e rest S) (hn : n ≠ 0) (ht : 1024 < (bl n : Int) + e) (hb : bl n ≤ 1000000) (he0 : -1000000 ≤ e) (he1 : e ≤ 1000000) :
    Calls Tryz.prog 286 #[.pointer (some ⟨b, o, none⟩), .int .i64 e, .int .i64 ((bl n : Int) + e), .bool rest, .bool up, .bool near] w fun v w' => ∃ r, v = .returned (.float .f64 r) ∧ Rnds up near N D r ∧ Ext w w' := by
  have hR := Lib.hid (rnds_over (up := up) (near := near) h hn ht)
  obtain ⟨t, htt⟩ : ∃ t, t = (bl n : Int) + e := ⟨_, rfl⟩
  have ht0 : 1024 < t := by omega
  have ht1 : t ≤ 3000000 := by omega
  rw [← htt]
  clear htt ht
  cases up with
  | true =>
    go_enter Tryz.func286, Tryz.ntmps286
    go_wp2_with fail
    refine (inf_pos_calls _).mono ?_
    rintro v w1 ⟨rfl, rfl⟩
    go_wp2
    go_ret
    exact ⟨_, rfl, hR.out, Ext.refl _⟩
  | false =>
    cases near with
    | true =>
      go_enter Tryz.func286, Tryz.ntmps286
      go_wp2_with fail
      refine (inf_pos_calls _).mono ?_
      rintro v w1 ⟨rfl, rfl⟩
      go_wp2
      go_ret
      exact ⟨_, rfl, hR.out, Ext.refl _⟩
    | false =>
      go_enter Tryz.func286, Tryz.ntmps286
      go_wp2
      go_ret
      exact ⟨_, rfl, hR.out, Ext.refl _⟩

set_option maxHeartbeats 2000000 in
set_option maxRecDepth 100000 in
theorem mag_under (b o n : Nat) (e : Int) (rest up near : Bool) (w : World) (N D S : Nat) (h : Near N D n e rest S) (hn : n ≠ 0) (ht : (bl n : Int) + e < -1075) (hb : bl n ≤ 1000000) (he0 : -1000000 ≤ e) (he1 : e ≤ 1000000) :
    Calls Tryz.prog 286 #[.pointer (some ⟨b, o, none⟩), .int .i64 e, .int .i64 ((bl n : Int) + e), .bool rest, .bool up, .bool near] w fun v w' => ∃ r, v = .returned (.float .f64 r) ∧ Rnds up near N D r ∧ Ext w w' := by
  have hR := Lib.hid (rnds_under (up := up) (near := near) h hn ht)
  obtain ⟨t, htt⟩ : ∃ t, t = (bl n : Int) + e := ⟨_, rfl⟩
  have ht0 : t < -1075 := by omega
  have ht1 : -3000000 ≤ t := by omega
  rw [← htt]
  clear htt ht
  cases up with
  | true =>
    go_enter Tryz.func286, Tryz.ntmps286
    go_wp2
    go_ret
    exact ⟨_, rfl, hR.out, Ext.refl _⟩
  | false =>
    go_enter Tryz.func286, Tryz.ntmps286
    go_wp2
    go_ret
    exact ⟨_, rfl, hR.out, Ext.refl _⟩

/-- A whole number below 2^53 as a float. -/
theorem float_nat {m : Nat} (h0 : 0 < m) (h : m < 9007199254740992) : ∃ r, 4503599627370496 ≤ r ∧ r < 9218868437227405312 ∧ (∀ e, e = 1074 → V r = m * 2 ^ e) ∧ floatOfInt .f64 (m : Int) = r := by
  obtain ⟨e, he⟩ : ∃ e : Nat, e = 1074 := ⟨_, rfl⟩
  obtain ⟨r, hr⟩ := V_rep e m h
  have hlt : r < 9218868437227405312 := by
    apply lt_inf
    rw [hr]
    calc m * 2 ^ e < 2 ^ 53 * 2 ^ e := Nat.mul_lt_mul_of_pos_right (by simpa using h) (Nat.pow_pos (by omega))
      _ = 2 ^ (53 + e) := by rw [← Nat.pow_add]
      _ ≤ 2 ^ top := pow_mono (by unfold top; omega)
  have hge : 4503599627370496 ≤ r := by
    rcases Nat.lt_or_ge r 4503599627370496 with h1 | h1
    · exfalso
      have h2 : V r = r := by unfold V; rw [if_pos h1]
      rw [h2] at hr
      have h3 : 2 ^ 52 ≤ 2 ^ e := pow_mono (by omega)
      have h4 : 2 ^ e ≤ m * 2 ^ e := Nat.le_mul_of_pos_left _ h0
      have h5 : (2 : Nat) ^ 52 = 4503599627370496 := by decide
      omega
    · exact h1
  refine ⟨r, hge, hlt, fun e' he' => by rw [he', ← he]; exact hr, ?_⟩
  have hne := nearest_exact false (mag := m) (r := r) (K := 0) (place := 0) (by omega) (by
    rw [Nat.pow_zero, Nat.mul_one, hr, show ((0 : Int) + 1074 + (0 : Nat)).toNat = e by omega]) hlt
  rw [word_false] at hne
  rw [← hne]
  show Ieee.double.nearest (decide ((m : Int) < 0)) (m : Int).natAbs 0 = _
  rw [Int.natAbs_natCast, decide_eq_false (by omega)]

/-- What the comparison with half a unit tells. -/
def Cutoff (rest rb : Bool) (hf : Int) (low h : Nat) : Prop := (rb = true ↔ (rest = true ∨ low ≠ 0)) ∧ (0 < hf ↔ (h < low ∨ (low = h ∧ rest = true))) ∧ (hf = 0 ↔ (low = h ∧ rest = false))
theorem due_iff {rest rb up near : Bool} {hf : Int} {m low h : Nat} (hC : Cutoff rest rb hf low h) : Due up near rest m low h ↔ ((up = true ∧ rb = true) ∨ (near = true ∧ (0 < hf ∨ (hf = 0 ∧ m % 2 = 1)))) := by
  obtain ⟨p1, p2, p3⟩ := hC
  unfold Due
  rw [p1, p2, p3]
  cases rest <;> cases up <;> cases near <;> simp <;> omega
theorem one_len : (wd (1 : Int).natAbs).length ≤ 1000000000 := Nat.le_trans (len_wd_small (by decide)) (by omega)

set_option maxHeartbeats 4000000 in
set_option maxRecDepth 100000 in
theorem mag_mid (b o n : Nat) (e : Int) (rest up near : Bool) (w : World) (N D S : Nat) (h : Near N D n e rest S) (hx : IsInt w b o n) (hn : 55 ≤ bl n) (ht1 : (bl n : Int) + e ≤ 1024) (ht0 : -1075 ≤ (bl n : Int) + e) (hb : bl n ≤ 1000000) :
    Calls Tryz.prog 286 #[.pointer (some ⟨b, o, none⟩), .int .i64 e, .int .i64 ((bl n : Int) + e), .bool rest, .bool up, .bool near] w fun v w' => ∃ r, v = .returned (.float .f64 r) ∧ Rnds up near N D r ∧ Ext w w' := by
  obtain ⟨u, hu⟩ : ∃ u : Nat, max ((bl n : Int) + e - 53) (-1074) = (u : Int) - 1074 := ⟨(max ((bl n : Int) + e - 53) (-1074) + 1074).toNat, by omega⟩
  obtain ⟨k, hk⟩ : ∃ k : Nat, (u : Int) - 1074 - e = k := ⟨((u : Int) - 1074 - e).toNat, by omega⟩
  obtain ⟨m, hm⟩ : ∃ m, m = n / 2 ^ k := ⟨_, rfl⟩
  obtain ⟨hm53, hmu, hu45, hk1, hfin⟩ := rnds_mid (up := up) (near := near) h hn ht1 ht0 hu hk hm
  obtain ⟨t, htt⟩ : ∃ t, t = (bl n : Int) + e := ⟨_, rfl⟩
  rw [← htt] at hu ht1 ht0 ⊢
  have hkb : k ≤ 1010000 := by omega
  have hml : m * 2 ^ k ≤ n := by rw [hm]; exact Nat.div_mul_le_self _ _
  obtain ⟨low, hlow⟩ : ∃ low, low = n - m * 2 ^ k := ⟨_, rfl⟩
  have hlow' : (n : Int) - (m : Int) * (2 ^ k : Nat) = (low : Int) := by rw [hlow]; omega
  have hlown : low ≤ n := by omega
  obtain ⟨k1, hkk⟩ : ∃ k1, k1 = k - 1 := ⟨_, rfl⟩
  have hk1' : ((k : Int) - 1) = (k1 : Int) := by omega
  have hkb1 : k1 ≤ 1010000 := by omega
  obtain ⟨h2, hh2⟩ : ∃ h2, h2 = 2 ^ k1 := ⟨_, rfl⟩
  rw [← hlow, ← hkk, ← hh2] at hfin
  have HF := Lib.hid hfin
  have HT := Lib.hid htt
  have HLOW := Lib.hid hlow'
  have HH2 := Lib.hid hh2
  have HML := Lib.hid hml
  have HM := Lib.hid hm
  clear hfin htt hlow hlow' hkk hh2 hml hm
  go_enter Tryz.func286, Tryz.ntmps286
  go_upto_block 0 with (fail)
  go_cut [3, 16] (fun rs hf wx => ∃ (rb : Bool) (hf' : Int), rs = .bool rb ∧ hf = .int .i64 hf' ∧ Cutoff rest rb hf' low h2 ∧ IsInt wx w.heap.size 0 (m : Int) ∧ Ext w wx)
  case first =>
    go_wp2_with fail
    have hnl : (wd n).length ≤ 31250 := len_of_bl hb
    have hml := HML.out
    have e0 : Ext w (w.alloc (.cells #[.bool false, .slice none 0 0] 105)) := (Ext.refl w).alloc _
    refine (rsh_calls _ _ _ _ _ n k _ (int_new w _) (hx.ext e0) (by omega) (by omega)).mono ?_
    rintro v w1 ⟨rfl, hM1, hW1⟩
    rw [← HM.out] at hM1
    have e1 : Ext w w1 := Wr.own_ext e0 (Nat.le_refl _) hW1
    have hx1 := hx.ext e1
    have hs01 : w.heap.size < w1.heap.size := hM1.lt
    clear hW1 e0 hx
    -- low
    go_wp2_with fail
    have e2 : Ext w1 (w1.alloc (.cells #[.bool false, .slice none 0 0] 105)) := (Ext.refl w1).alloc _
    obtain ⟨W1, hW1⟩ : ∃ W1, W1 = w1.alloc (.cells #[.bool false, .slice none 0 0] 105) := ⟨_, rfl⟩
    have hz1 : W1.heap.size = w1.heap.size + 1 := by rw [hW1]; simp
    have hL1 : IsInt W1 w1.heap.size 0 0 := by rw [hW1]; exact int_new w1 _
    rw [← hW1] at e2
    have e3 : Ext W1 (W1.alloc (.cells #[.bool false, .slice none 0 0] 105)) := (Ext.refl W1).alloc _
    have hT1 := int_new W1 105
    rw [hz1] at hT1
    rw [← hW1]
    refine (lsh_calls _ _ _ _ _ (m : Int) k _ hT1 ((hM1.ext e2).ext e3) (by rw [Int.natAbs_natCast]; exact Nat.le_trans (len_wd_mono (Nat.le_trans (Nat.le_mul_of_pos_right m (Nat.pow_pos (n := k) (show 0 < 2 by omega))) hml)) (by omega)) (by omega)).mono ?_
    rintro v w2 ⟨rfl, hT2, hW2⟩
    have e12 : Ext w1 w2 := Below.trans (e2.trans e3) (hW2.below (by omega) (e2.trans e3).size)
    have hL2 := hW2.int hT1 (hL1.ext e3) (.inl (by omega))
    clear hT1 hW2 e3 hL1 hW1 hz1 e2
    go_wp2_with fail
    refine (intSub_calls _ _ _ _ _ _ _ (n : Int) ((m : Int) * (2 ^ k : Nat)) _ hL2 (hx1.ext e12) hT2 (by rw [Int.natAbs_natCast]; omega) (by rw [← Int.natCast_mul, Int.natAbs_natCast]; exact Nat.le_trans (len_wd_mono hml) (by omega))).mono ?_
    rintro v w3 ⟨rfl, hL3, hW3⟩
    rw [HLOW.out] at hL3
    have e13 : Ext w1 w3 := Below.trans e12 (hW3.below (Nat.le_refl _) e12.size)
    have hM3 := hM1.ext e13
    have hs13 := hL3.lt
    clear hL2 hT2 hW3 e12 hM1
    go_wp2_with fail
    -- half
    obtain ⟨W3, hW3⟩ : ∃ W3, W3 = w3.alloc (.cells #[.bool false, .slice none 0 0] 105) := ⟨_, rfl⟩
    have e3 : Ext w3 W3 := by rw [hW3]; exact (Ext.refl w3).alloc _
    have hH3 : IsInt W3 w3.heap.size 0 0 := by rw [hW3]; exact int_new w3 _
    rw [← hW3]
    clear hW3
    refine (newInt_calls 1 _ (by omega) (by omega)).mono ?_
    rintro v w4 ⟨rfl, hO4, e4⟩
    have hhn : (wd (2 ^ k1)).length ≤ 31600 := by
      refine len_of_bl ?_
      have := bl_mul_pow (n := 1) (by omega) k1
      rw [Nat.one_mul] at this
      rw [this, show bl 1 = 1 from rfl]; omega
    have HH := Lib.hid hhn
    clear hhn
    go_wp2_with fail
    refine (lsh_calls _ _ _ _ _ 1 k1 _ (hH3.ext e4) hO4 one_len (by omega)).mono ?_
    rintro v w5 ⟨rfl, hH5, hW5⟩
    rw [Int.one_mul] at hH5
    have e35 : Ext w3 w5 := Below.trans (e3.trans e4) (hW5.below (Nat.le_refl _) (e3.trans e4).size)
    clear hW5 hO4 e4 hH3 e3
    go_wp2_with fail
    refine (cmp_pos_calls _ _ _ _ low (2 ^ k1) _ (hL3.ext e35) hH5).mono ?_
    rintro v w6 ⟨rfl, e56⟩
    rw [← HH2.out]
    have e36 := e35.trans e56
    have hM6 := hM3.ext e36
    have hL6 := hL3.ext e36
    have e06 : Ext w w6 := e1.trans (e13.trans e36)
    clear HH hH5 hM3 hL3 e35 e56 hs13 hml
    obtain ⟨oo, hoo⟩ : ∃ oo, oo = ord low h2 := ⟨_, rfl⟩
    rw [← hoo]
    have HOO := Lib.hid hoo
    clear hoo
    have hh2p : 0 < h2 := by rw [HH2.out]; exact Nat.pow_pos (by omega)
    rcases Nat.lt_trichotomy h2 low with hc | hc | hc
    · have ho : oo = 1 := by rw [HOO.out]; unfold ord; rw [if_neg (by omega), if_neg (by omega)]
      subst ho
      cases rest with
      | true =>
        go_wp2_with fail
        go_meet
        case rel => exact ⟨true, 1, rfl, rfl, by unfold Cutoff; simp; omega, hM6, e06⟩
      | false =>
        have hsg : sgn (low : Int) = 1 := by unfold sgn; rw [if_neg (by omega), if_neg (by omega)]
        go_wp2_with fail
        refine (sign_calls _ _ _ _ hL6).mono ?_
        rintro v w7 ⟨rfl, rfl⟩
        rw [hsg]
        go_wp2
        go_meet
        case rel => exact ⟨true, 1, rfl, rfl, by unfold Cutoff; simp; omega, hM6, e06⟩
    · have ho : oo = 0 := by rw [HOO.out]; unfold ord; rw [if_neg (by omega), if_pos hc.symm]
      subst ho
      cases rest with
      | true =>
        go_wp2_with fail
        go_meet
        case rel => exact ⟨true, 1, rfl, rfl, by unfold Cutoff; simp; omega, hM6, e06⟩
      | false =>
        have hsg : sgn (low : Int) = 1 := by unfold sgn; rw [if_neg (by omega), if_neg (by omega)]
        go_wp2_with fail
        refine (sign_calls _ _ _ _ hL6).mono ?_
        rintro v w7 ⟨rfl, rfl⟩
        rw [hsg]
        go_wp2
        go_meet
        case rel => exact ⟨true, 0, rfl, rfl, by unfold Cutoff; simp; omega, hM6, e06⟩
    · have ho : oo = -1 := by rw [HOO.out]; unfold ord; rw [if_pos hc]
      subst ho
      cases rest with
      | true =>
        go_wp2_with fail
        go_meet
        case rel => exact ⟨true, -1, rfl, rfl, by unfold Cutoff; simp; omega, hM6, e06⟩
      | false =>
        rcases Nat.eq_zero_or_pos low with h0 | h0
        · have hsg : sgn (low : Int) = 0 := by unfold sgn; rw [if_pos (by omega)]
          go_wp2_with fail
          refine (sign_calls _ _ _ _ hL6).mono ?_
          rintro v w7 ⟨rfl, rfl⟩
          rw [hsg]
          go_wp2
          go_meet
          case rel => exact ⟨false, -1, rfl, rfl, by unfold Cutoff; simp; omega, hM6, e06⟩
        · have hsg : sgn (low : Int) = 1 := by unfold sgn; rw [if_neg (by omega), if_neg (by omega)]
          go_wp2_with fail
          refine (sign_calls _ _ _ _ hL6).mono ?_
          rintro v w7 ⟨rfl, rfl⟩
          rw [hsg]
          go_wp2
          go_meet
          case rel => exact ⟨true, -1, rfl, rfl, by unfold Cutoff; simp; omega, hM6, e06⟩
  case rest =>
    obtain ⟨rb, hf, rfl, rfl, hC, hM1, hE⟩ := hcut
    go_upto_region 21 with (fail)
    go_cut [95] (fun cb wx => ∃ cc : Bool, cb = .bool cc ∧ (cc = true ↔ Due up near rest m low h2) ∧ IsInt wx w.heap.size 0 (m : Int) ∧ Ext w wx)
    case first =>
      have HC := Lib.hid hC
      have hwm : (wd (m : Int).natAbs).length ≤ 1000000000 := by rw [Int.natAbs_natCast]; exact Nat.le_trans (len_wd_small (by omega)) (by omega)
      clear hC
      cases up with
      | false =>
        cases near with
        | false =>
          go_wp2_with fail
          go_meet
          case rel => exact ⟨false, rfl, by rw [due_iff HC.out]; simp, hM1, hE⟩
        | true =>
          rcases Int.lt_trichotomy hf 0 with hc | hc | hc
          · have t1 : decide (0 < hf) = false := decide_eq_false (by omega)
            have t2 : (hf == 0) = false := by rw [beq_eq_false_iff_ne]; omega
            go_wp2_with fail
            go_meet
            case rel => exact ⟨false, rfl, by rw [due_iff HC.out]; simp; omega, hM1, hE⟩
          · subst hc
            go_wp2_with fail
            refine (bit_calls _ _ (m : Int) 0 _ hM1 hwm (by omega)).mono ?_
            rintro v w7 ⟨rfl, rfl⟩
            rw [Int.natAbs_natCast, Nat.pow_zero, Nat.div_one]
            rcases Nat.mod_two_eq_zero_or_one m with h0 | h0
            · rw [h0]
              go_wp2
              go_meet
              case rel => exact ⟨false, rfl, by rw [due_iff HC.out]; simp; omega, hM1, hE⟩
            · rw [h0]
              go_wp2
              go_meet
              case rel => exact ⟨true, rfl, by rw [due_iff HC.out]; simp; omega, hM1, hE⟩
          · have t1 : decide (0 < hf) = true := decide_eq_true hc
            go_wp2_with fail
            go_meet
            case rel => exact ⟨true, rfl, by rw [due_iff HC.out]; simp; omega, hM1, hE⟩
      | true =>
        cases rb with
        | true =>
          go_wp2_with fail
          go_meet
          case rel => exact ⟨true, rfl, by rw [due_iff HC.out]; simp, hM1, hE⟩
        | false =>
          cases near with
          | false =>
            go_wp2_with fail
            go_meet
            case rel => exact ⟨false, rfl, by rw [due_iff HC.out]; simp, hM1, hE⟩
          | true =>
            rcases Int.lt_trichotomy hf 0 with hc | hc | hc
            · have t1 : decide (0 < hf) = false := decide_eq_false (by omega)
              have t2 : (hf == 0) = false := by rw [beq_eq_false_iff_ne]; omega
              go_wp2_with fail
              go_meet
              case rel => exact ⟨false, rfl, by rw [due_iff HC.out]; simp; omega, hM1, hE⟩
            · subst hc
              go_wp2_with fail
              refine (bit_calls _ _ (m : Int) 0 _ hM1 hwm (by omega)).mono ?_
              rintro v w7 ⟨rfl, rfl⟩
              rw [Int.natAbs_natCast, Nat.pow_zero, Nat.div_one]
              rcases Nat.mod_two_eq_zero_or_one m with h0 | h0
              · rw [h0]
                go_wp2
                go_meet
                case rel => exact ⟨false, rfl, by rw [due_iff HC.out]; simp; omega, hM1, hE⟩
              · rw [h0]
                go_wp2
                go_meet
                case rel => exact ⟨true, rfl, by rw [due_iff HC.out]; simp; omega, hM1, hE⟩
            · have t1 : decide (0 < hf) = true := decide_eq_true hc
              go_wp2_with fail
              go_meet
              case rel => exact ⟨true, rfl, by rw [due_iff HC.out]; simp; omega, hM1, hE⟩
    case rest =>
      obtain ⟨cc, rfl, hcc, hM2, hE2⟩ := hcut
      have HCC := Lib.hid hcc
      clear hcc hM1 hE hC
      go_upto_if 95 with (fail)
      go_cut [13] (fun l wx => ∃ (m' : Nat) (lv : Int), l = .int .i64 lv ∧ lv = (u : Int) - 1074 ∧ m ≤ m' ∧ m' ≤ m + 1 ∧ Rnds up near N D (u * 4503599627370496 + m') ∧ IsInt wx w.heap.size 0 (m' : Int) ∧ Ext w wx)
      case first =>
        cases cc with
        | false =>
          have hnd : ¬ Due up near rest m low h2 := fun h => by have := HCC.out.2 h; cases this
          have hR := HF.out m (fun h => absurd h hnd) (fun _ => rfl)
          go_wp2_with fail
          go_meet
          case rel => exact ⟨m, _, rfl, rfl, by omega, by omega, hR, hM2, hE2⟩
        | true =>
          have hR := HF.out (m + 1) (fun _ => rfl) (fun h => absurd (HCC.out.1 rfl) h)
          have hwm : (wd (m : Int).natAbs).length ≤ 1000000000 := by rw [Int.natAbs_natCast]; exact Nat.le_trans (len_wd_small (by omega)) (by omega)
          go_wp2_with fail
          refine (newInt_calls 1 _ (by omega) (by omega)).mono ?_
          rintro v w8 ⟨rfl, hO8, e8⟩
          go_wp2_with fail
          refine (intAdd_calls _ _ _ _ _ _ _ (m : Int) 1 _ (hM2.ext e8) (hM2.ext e8) hO8 hwm one_len).mono ?_
          rintro v w9 ⟨rfl, hM9, hW9⟩
          go_wp2_with fail
          go_meet
          case rel => exact ⟨m + 1, _, rfl, rfl, by omega, by omega, hR, hM9, Wr.own_ext (hE2.trans e8) (Nat.le_refl _) hW9⟩
      case rest =>
        obtain ⟨m', lv, rfl, hlv, hm0, hm1, hR, hM3, hE3⟩ := hcut
        have hlv0 : -1074 ≤ lv := by omega
        have hlv1 : lv ≤ 971 := by omega
        have HLV := Lib.hid hlv
        clear hlv
        have hwm : (wd (m' : Int).natAbs).length ≤ 1000000000 := by rw [Int.natAbs_natCast]; exact Nat.le_trans (len_wd_small (by omega)) (by omega)
        have HR := Lib.hid hR
        clear hR hM2 hE2 HCC HF HT HLOW HH2 HML HM
        obtain ⟨L, hL⟩ : ∃ L, L = bl m' := ⟨_, rfl⟩
        have HL := Lib.hid hL
        clear hL
        go_upto_if 102 with (fail)
        refine (intBitLen_calls _ _ _ _ hM3 hwm).mono ?_
        rintro v w10 ⟨rfl, e10⟩
        rw [Int.natAbs_natCast, ← HL.out]
        go_upto_if 102 with (fail)
        go_cut [13] (fun l wx => ∃ (m2 u2 : Nat) (l2 : Int), l = .int .i64 l2 ∧ l2 = (u2 : Int) - 1074 ∧ u2 ≤ 2046 ∧ m2 < 9007199254740992 ∧ (∃ r, Rnds up near N D r ∧ V r = m2 * 2 ^ u2) ∧ IsInt wx w.heap.size 0 (m2 : Int) ∧ Ext w wx)
        case first =>
          rcases Nat.lt_or_ge m' 9007199254740992 with h53 | h53
          · have hbl : L ≤ 53 := by rw [HL.out]; exact bl_le_of_lt (by simpa using h53)
            have hV : V (u * 4503599627370496 + m') = m' * 2 ^ u := V_of h53 (by omega)
            have HV := Lib.hid hV
            clear hV
            go_wp2_with fail
            go_meet
            case rel => exact ⟨m', u, _, rfl, HLV.out, by omega, h53, ⟨_, HR.out, HV.out⟩, hM3.ext e10, hE3.trans e10⟩
          · have hmm : m' = 9007199254740992 := by omega
            have hL54 : L = 54 := by rw [HL.out, hmm]; decide
            subst hL54
            have hV : V (u * 4503599627370496 + m') = m' / 2 ^ 1 * 2 ^ (u + 1) := by
              have := V_of (q := u + 1) (k := 4503599627370496) (by omega) (.inl (by omega))
              rw [show (u + 1) * 4503599627370496 + 4503599627370496 = u * 4503599627370496 + 9007199254740992 by omega] at this
              rw [hmm]
              exact this
            obtain ⟨m3, hm3⟩ : ∃ m3, m3 = m' / 2 ^ 1 := ⟨_, rfl⟩
            have hm3b : m3 < 9007199254740992 := by rw [hm3, hmm]; decide
            have hM3' : ∀ W, IsInt W w.heap.size 0 ((m' / 2 ^ 1 : Nat) : Int) → IsInt W w.heap.size 0 (m3 : Int) := fun W h => by rw [hm3]; exact h
            rw [← hm3] at hV
            have HV := Lib.hid hV
            have HM3 := Lib.hid hM3'
            have hwm3 : (wd m').length ≤ 1000000000 := by rw [Int.natAbs_natCast] at hwm; exact hwm
            clear hV hM3' hm3 hmm hm0 hm1 h53
            go_wp2_with fail
            refine (rsh_calls _ _ _ _ _ m' 1 _ (hM3.ext e10) (hM3.ext e10) hwm3 (by omega)).mono ?_
            rintro v w11 ⟨rfl, hM11, hW11⟩
            have hE11 : Ext w w11 := Wr.own_ext (hE3.trans e10) (Nat.le_refl _) hW11
            have hM12 := HM3.out _ hM11
            clear hM11 hW11
            go_wp2_with fail
            go_meet
            case rel => exact ⟨m3, u + 1, lv + 1, rfl, by have := HLV.out; omega, by omega, hm3b, ⟨_, HR.out, HV.out⟩, hM12, hE11⟩
        case rest =>
          obtain ⟨m2, u2, l2, rfl, hl2, hu2, hm2, ⟨r, hr, hrv⟩, hM4, hE4⟩ := hcut
          have hl20 : -1074 ≤ l2 := by omega
          have hl21 : l2 ≤ 972 := by omega
          have hinf := hr.le_inf
          have hpar : ∀ {L : Nat}, L = bl m2 → (1024 < (L : Int) + l2 → r = 9218868437227405312) ∧ ((L : Int) + l2 ≤ 1024 → r < 9218868437227405312) := by
            rintro L rfl
            constructor
            · intro h
              have hm20 : m2 ≠ 0 := by rintro rfl; rw [show bl 0 = 0 from rfl] at h; omega
              rcases Nat.lt_or_ge r 9218868437227405312 with h1 | h1
              · exfalso
                have h2 := V_lt h1
                rw [V_inf, hrv] at h2
                have h3 := Nat.mul_le_mul_right (2 ^ u2) (bl_le hm20)
                rw [← Nat.pow_add] at h3
                have h4 : 2 ^ top ≤ 2 ^ (bl m2 - 1 + u2) := pow_mono (by unfold top; omega)
                omega
              · omega
            · intro h
              apply lt_inf
              rw [hrv]
              calc m2 * 2 ^ u2 < 2 ^ bl m2 * 2 ^ u2 := Nat.mul_lt_mul_of_pos_right (lt_bl m2) (Nat.pow_pos (by omega))
                _ = 2 ^ (bl m2 + u2) := by rw [← Nat.pow_add]
                _ ≤ 2 ^ top := pow_mono (by unfold top; omega)
          have hwm2 : (wd (m2 : Int).natAbs).length ≤ 1000000000 := by rw [Int.natAbs_natCast]; exact Nat.le_trans (len_wd_small (by omega)) (by omega)
          have HMOD : RowKit.Hid ((m2 : Int).natAbs % 18446744073709551616 = m2) := Lib.hid (by rw [Int.natAbs_natCast]; omega)
          have HRR := Lib.hid hr
          have HRV := Lib.hid hrv
          have HL2 := Lib.hid hl2
          clear hl2 hr hrv HR HL HLV hM3 hE3 hm0 hm1 hwm e10
          obtain ⟨L2, hL2⟩ : ∃ L, L = bl m2 := ⟨_, rfl⟩
          have hp := hpar hL2
          have hL2b : L2 ≤ 53 := by rw [hL2]; exact bl_le_of_lt (by simpa using hm2)
          have HBL := Lib.hid hL2
          clear hL2 hpar
          by_cases hov : 1024 < (L2 : Int) + l2
          · have hrinf := Lib.hid (hp.1 hov)
            clear hp
            go_wp2_with fail
            refine (intBitLen_calls _ _ _ _ hM4 hwm2).mono ?_
            rintro v w12 ⟨rfl, e12⟩
            rw [Int.natAbs_natCast, ← HBL.out]
            go_wp2_with fail
            refine (inf_pos_calls _).mono ?_
            rintro v w13 ⟨rfl, rfl⟩
            go_wp2
            go_ret
            exact ⟨_, rfl, by rw [← hrinf.out]; exact HRR.out, hE4.trans e12⟩
          · have hrfin := hp.2 (by omega)
            clear hp
            rcases Nat.eq_zero_or_pos m2 with h0 | h0
            · subst h0
              have hr0 : r = 0 := by
                have h1 := HRV.out
                rw [Nat.zero_mul] at h1
                rcases Nat.eq_zero_or_pos r with h2 | h2
                · exact h2
                · have := V_lt h2; omega
              have HR0 := Lib.hid hr0
              clear hr0
              have hf0 : floatOfInt .f64 0 = 0 := by decide
              go_wp2_with fail
              refine (intBitLen_calls _ _ _ _ hM4 hwm2).mono ?_
              rintro v w12 ⟨rfl, e12⟩
              rw [Int.natAbs_natCast, ← HBL.out]
              go_wp2_with fail
              refine (uint64_calls _ _ _ _ (hM4.ext e12) hwm2).mono ?_
              rintro v w13 ⟨rfl, rfl⟩
              rw [HMOD.out]
              go_wp2_with fail
              refine (ldexp_zero _ _).mono ?_
              rintro v w14 ⟨rfl, rfl⟩
              go_wp2
              go_ret
              exact ⟨_, rfl, by rw [← HR0.out]; exact HRR.out, hE4.trans e12⟩
            · obtain ⟨r1, hr1, hr2, hr3, hr4⟩ := float_nat h0 hm2
              have hld : ∀ w, Calls Tryz.prog 83 #[.float .f64 r1, .int .i64 l2] w fun v w' => v = .returned (.float .f64 r) ∧ w' = w := by
                intro w
                obtain ⟨q, hq⟩ : ∃ q : Nat, q = 1074 := ⟨_, rfl⟩
                have hlv := HL2.out
                exact ldexp_calls r1 _ _ u2 q hr1 hr2 (by omega) (by omega) (by omega) hrfin (by rw [HRV.out, hr3 q hq, Nat.mul_right_comm]) w
              have HLD := Lib.hid hld
              clear hr3 hld
              go_wp2_with fail
              refine (intBitLen_calls _ _ _ _ hM4 hwm2).mono ?_
              rintro v w12 ⟨rfl, e12⟩
              rw [Int.natAbs_natCast, ← HBL.out]
              go_wp2_with fail
              refine (uint64_calls _ _ _ _ (hM4.ext e12) hwm2).mono ?_
              rintro v w13 ⟨rfl, rfl⟩
              rw [HMOD.out]
              go_wp2_with fail
              refine (HLD.out _).mono ?_
              rintro v w14 ⟨rfl, rfl⟩
              go_wp2
              go_ret
              exact ⟨_, rfl, HRR.out, hE4.trans e12⟩

theorem magnitude_calls (b o n : Nat) (e : Int) (rest up near : Bool) (w : World) (N D S : Nat) (h : Near N D n e rest S) (hx : IsInt w b o n) (hn : 55 ≤ bl n) (hb : bl n ≤ 1000000) (he0 : -1000000 ≤ e) (he1 : e ≤ 1000000) :
    Calls Tryz.prog 286 #[.pointer (some ⟨b, o, none⟩), .int .i64 e, .int .i64 ((bl n : Int) + e), .bool rest, .bool up, .bool near] w fun v w' => ∃ r, v = .returned (.float .f64 r) ∧ Rnds up near N D r ∧ Ext w w' := by
  have hn0 : n ≠ 0 := by rintro rfl; rw [show bl 0 = 0 from rfl] at hn; omega
  by_cases h1 : 1024 < (bl n : Int) + e
  · exact mag_over b o n e rest up near w N D S h hn0 h1 hb he0 he1
  · by_cases h2 : (bl n : Int) + e < -1075
    · exact mag_under b o n e rest up near w N D S h hn0 h2 hb he0 he1
    · exact mag_mid b o n e rest up near w N D S h hx hn (by omega) (by omega) hb
end Go.Proofs.YtkljejejabikiaaGreatDoor

/- The three roundings of one quotient, side by side. Plain. -/
namespace Cusp
open Go

/-- Down, near and up: in this order; near is one of the two; they are alike or neighbours. -/
theorem rnds_order {N D d n u : Nat} (hD : 0 < D) (hd : Rnds false false N D d) (hn : Rnds false true N D n) (hu : Rnds true false N D u) :
    d ≤ n ∧ n ≤ u ∧ (n = d ∨ n = u) ∧ (u = d ∨ u = d + 1) ∧ d ≤ 9218868437227405311 ∧ u ≤ 9218868437227405312 := by
  obtain ⟨b, hb, hd⟩ := hd
  obtain ⟨b1, hb1, hn⟩ := hn
  obtain ⟨b2, hb2, hu⟩ := hu
  obtain rfl := hb.uniq hb1
  obtain rfl := hb.uniq hb2
  have hfin := hb.fin
  have hlt : V b * D < V (b + 1) * D := Nat.mul_lt_mul_of_pos_right (V_lt (by omega)) hD
  have key : More false true N D b → More true false N D b := by
    rintro (⟨h, _⟩ | ⟨_, h⟩)
    · cases h
    · refine .inl ⟨rfl, fun he => ?_⟩
      rw [Nat.add_mul] at h
      omega
  rcases hd with ⟨h, _⟩ | ⟨_, rfl⟩
  · rcases h with ⟨h, _⟩ | ⟨h, _⟩ <;> cases h
  · rcases hn with ⟨h1, rfl⟩ | ⟨h1, rfl⟩ <;> rcases hu with ⟨h2, rfl⟩ | ⟨h2, rfl⟩
    · refine ⟨by omega, by omega, .inr rfl, .inr rfl, hfin, by omega⟩
    · exact absurd (key h1) h2
    · refine ⟨by omega, by omega, .inl rfl, .inr rfl, hfin, by omega⟩
    · refine ⟨by omega, by omega, .inl rfl, .inl rfl, hfin, by omega⟩
end Cusp

/- A quotient of two whole numbers with some bits more: what it tells of the rounded quotient. Plain. -/
namespace Cusp
open Go

/-- 2^e in units of 2^-1074: a numerator's and a denominator's factor. -/
def un (e : Int) : Nat := 2 ^ (e + 1074).toNat
def dn (e : Int) : Nat := 2 ^ (-(e + 1074)).toNat
theorem un_pos (e : Int) : 0 < un e := Nat.pow_pos (by omega)
theorem dn_pos (e : Int) : 0 < dn e := Nat.pow_pos (by omega)
/-- e + a = f + b: the two pairs of factors are one. -/
theorem un_dn {e f : Int} {a b : Nat} (h : e + a = f + b) : un e * dn f * 2 ^ a = un f * dn e * 2 ^ b := by
  unfold un dn
  rw [← Nat.pow_add, ← Nat.pow_add, ← Nat.pow_add, ← Nat.pow_add]
  congr 1
  omega
theorem Rnds.cross {up near : Bool} {N D M E r : Nat} (hD : 0 < D) (hE : 0 < E) (h : N * E = M * D) : Rnds up near N D r ↔ Rnds up near M E r := by
  rw [← Rnds.scale (N := N) (D := D) hE, ← Rnds.scale (N := M) (D := E) hD, h, Nat.mul_comm D E]
theorem near_quo (x y k : Nat) (E : Int) (hy : 0 < y) : Near (x * un E) (y * dn E) (x * 2 ^ k / y) (E - k) (decide (x * 2 ^ k % y ≠ 0)) ((k : Int) - E - 1074).toNat := by
  obtain ⟨S, hS⟩ : ∃ S, S = ((k : Int) - E - 1074).toNat := ⟨_, rfl⟩
  rw [← hS]
  obtain ⟨q, hq⟩ : ∃ q, q = x * 2 ^ k / y := ⟨_, rfl⟩
  obtain ⟨m, hm⟩ : ∃ m, m = x * 2 ^ k % y := ⟨_, rfl⟩
  have h1 := Nat.div_add_mod (x * 2 ^ k) y
  have h2 := Nat.mod_lt (x * 2 ^ k) hy
  rw [← hq, ← hm] at h1
  rw [← hm] at h2
  rw [← hq, ← hm]
  clear hq hm
  obtain ⟨c, hc⟩ : ∃ c, c = (E - k + 1074 + S).toNat + (-(E + 1074)).toNat := ⟨_, rfl⟩
  have e1 : ∀ z, z * (2 ^ (E - k + 1074 + S).toNat * (y * dn E)) = (z * y) * 2 ^ c := fun z => by
    unfold dn
    rw [hc, Nat.pow_add]
    simp only [Nat.mul_assoc, Nat.mul_comm, Nat.mul_left_comm]
  have e2 : x * un E * 2 ^ S = (x * 2 ^ k) * 2 ^ c := by
    unfold un
    rw [Nat.mul_assoc, Nat.mul_assoc, ← Nat.pow_add, ← Nat.pow_add]
    congr 2
    omega
  have hp : 0 < 2 ^ c := Nat.pow_pos (by omega)
  have e3 : (q + 1) * y = y * q + y := by rw [Nat.succ_mul, Nat.mul_comm]
  refine ⟨by omega, Nat.mul_pos hy (dn_pos E), ?_, ?_, ?_⟩
  · rw [e1, e2]
    apply Nat.mul_le_mul_right
    rw [Nat.mul_comm q]; omega
  · rw [e1, e2]
    apply Nat.mul_lt_mul_of_pos_right _ hp
    rw [e3]; omega
  · rw [e1, e2, decide_eq_true_iff, Nat.mul_comm q]
    constructor
    · intro hne he
      have := Nat.eq_of_mul_eq_mul_right hp he
      omega
    · intro hne he
      apply hne
      rw [he] at h1
      rw [← h1, Nat.add_zero]
theorem quo_bits {x y k : Nat} (hx : x ≠ 0) (hy : y ≠ 0) (hk : (64 : Int) - ((bl x : Int) - bl y) ≤ k) : 64 ≤ bl (x * 2 ^ k / y) := by
  have h1 : 2 ^ 63 ≤ x * 2 ^ k / y := by
    rw [Nat.le_div_iff_mul_le (by omega)]
    have a1 := Nat.mul_le_mul_right (2 ^ k) (bl_le hx)
    have a2 : 2 ^ 63 * y ≤ 2 ^ 63 * 2 ^ bl y := Nat.mul_le_mul_left _ (Nat.le_of_lt (lt_bl y))
    refine Nat.le_trans a2 (Nat.le_trans ?_ a1)
    rw [← Nat.pow_add, ← Nat.pow_add]
    apply pow_mono
    have : 1 ≤ bl x := by
      rcases Nat.eq_zero_or_pos (bl x) with h | h
      · have := lt_bl x; rw [h] at this; omega
      · exact h
    omega
  rcases Nat.lt_or_ge (bl (x * 2 ^ k / y)) 64 with h2 | h2
  · exfalso
    have h3 := lt_bl (x * 2 ^ k / y)
    have h4 : 2 ^ bl (x * 2 ^ k / y) ≤ 2 ^ 63 := pow_mono (by omega)
    omega
  · exact h2
/-- Rounded alike: n / d times 2^e, n and d with their twos taken out. -/
theorem rnds_parts {up near : Bool} {n d x y a b r : Nat} {e : Int} (hn : n = 2 ^ a * x) (hd : d = 2 ^ b * y) (hd0 : 0 < d) : Rnds up near (x * un (a + e - b)) (y * dn (a + e - b)) r ↔ Rnds up near (n * un e) (d * dn e) r := by
  have hy : 0 < y := by
    rcases Nat.eq_zero_or_pos y with h | h
    · rw [h, Nat.mul_zero] at hd; omega
    · exact h
  apply Rnds.cross (Nat.mul_pos hy (dn_pos _)) (Nat.mul_pos hd0 (dn_pos _))
  have h := un_dn (e := (a : Int) + e - b) (f := e) (a := b) (b := a) (by omega)
  rw [hn, hd]
  have e1 : x * un (a + e - b) * (2 ^ b * y * dn e) = (x * y) * (un (a + e - b) * dn e * 2 ^ b) := by
    simp only [Nat.mul_assoc, Nat.mul_comm, Nat.mul_left_comm]
  have e2 : 2 ^ a * x * un e * (y * dn (a + e - b)) = (x * y) * (un e * dn (a + e - b) * 2 ^ a) := by
    simp only [Nat.mul_assoc, Nat.mul_comm, Nat.mul_left_comm]
  rw [e1, e2, h]
end Cusp

/- Package dyad: float, Ratio. -/
namespace Go.Proofs.YtkljejejabikiaaGreatDoor
open Go Go.RowKit Cusp

/-- A magnitude's bits with a sign. -/
def sg (neg : Bool) (r : Nat) : Nat := if neg = true then 9223372036854775808 + r else r
/-- Is the magnitude rounded away from nought? -/
def upM (neg : Bool) (mode : Nat) : Bool := if neg = true then mode == 1 else mode == 3

set_option maxHeartbeats 2000000 in
set_option maxRecDepth 100000 in
theorem known_calls (mode : Nat) (hm : mode = 1 ∨ mode = 2 ∨ mode = 3) (w : World) : Calls Tryz.prog 236 #[.int .i64 (mode : Int)] w fun v w' => v = .returned (.bool true) ∧ w' = w := by
  go_enter Tryz.func236, Tryz.ntmps236
  have t1 : decide ((1 : Int) ≤ mode) = true := decide_eq_true (by omega)
  have t2 : decide ((mode : Int) ≤ 3) = true := decide_eq_true (by omega)
  go_wp2
  go_ret
  exact ⟨rfl, rfl⟩

set_option maxHeartbeats 4000000 in
set_option maxRecDepth 100000 in
theorem float_calls (neg rest : Bool) (b o n : Nat) (e : Int) (mode : Nat) (hm : mode = 1 ∨ mode = 2 ∨ mode = 3) (w : World) (N D S : Nat) (h : Near N D n e rest S) (hx : IsInt w b o (n : Int)) (hn : 55 ≤ bl n) (hb : bl n ≤ 1000000) (he0 : -1000000 ≤ e) (he1 : e ≤ 1000000) :
    Calls Tryz.prog 239 #[.bool neg, .pointer (some ⟨b, o, none⟩), .int .i64 e, .bool rest, .int .i64 (mode : Int)] w fun v w' => ∃ r, v = .returned (.float .f64 (sg neg r)) ∧ Rnds (upM neg mode) (mode == 2) N D r ∧ Ext w w' := by
  have hnl : (wd (n : Int).natAbs).length ≤ 1000000000 := by rw [Int.natAbs_natCast]; exact Nat.le_trans (len_of_bl (n := 31250) hb) (by omega)
  obtain ⟨L, hL⟩ : ∃ L, L = bl n := ⟨_, rfl⟩
  have hmag := fun up near w (e1 : Ext _ w) => magnitude_calls b o n e rest up near w N D S h (hx.ext e1) hn hb he0 he1
  rw [← hL] at hb hmag
  have HL := Lib.hid hL
  have HM := Lib.hid hmag
  clear hL hmag h
  cases neg with
  | false =>
    have hfin : ∀ (up near : Bool), up = upM false mode → near = (mode == 2) → ∀ r, Rnds up near N D r → Rnds (upM false mode) (mode == 2) N D r := fun up near h1 h2 r hr => by rw [← h1, ← h2]; exact hr
    have HF := Lib.hid hfin
    clear hfin
    rcases hm with rfl | rfl | rfl
    all_goals
      go_enter Tryz.func239, Tryz.ntmps239
      go_wp2_with fail
      refine (intBitLen_calls _ _ _ _ hx hnl).mono ?_
      rintro v w1 ⟨rfl, e1⟩
      rw [Int.natAbs_natCast, ← HL.out]
      go_wp2_with fail
      refine (HM.out _ _ _ e1).mono ?_
      rintro v w2 ⟨r, rfl, hr, e2⟩
      go_wp2
      go_ret
      exact ⟨r, rfl, HF.out _ _ rfl rfl r hr, e1.trans e2⟩
  | true =>
    have hfin : ∀ (up near : Bool), up = upM true mode → near = (mode == 2) → ∀ r, Rnds up near N D r → Rnds (upM true mode) (mode == 2) N D r := fun up near h1 h2 r hr => by rw [← h1, ← h2]; exact hr
    have HF := Lib.hid hfin
    clear hfin
    rcases hm with rfl | rfl | rfl
    all_goals
      go_enter Tryz.func239, Tryz.ntmps239
      go_wp2_with fail
      refine (intBitLen_calls _ _ _ _ hx hnl).mono ?_
      rintro v w1 ⟨rfl, e1⟩
      rw [Int.natAbs_natCast, ← HL.out]
      go_wp2_with fail
      refine (HM.out _ _ _ e1).mono ?_
      rintro v w2 ⟨r, rfl, hr, e2⟩
      have hr2 := hr.le_inf
      have HR := Lib.hid hr
      clear hr
      go_wp2_with fail
      refine (copysign_calls r 13830554455654793216 (by omega) (by omega) _).mono ?_
      rintro v w3 ⟨rfl, rfl⟩
      have hs : 13830554455654793216 / 9223372036854775808 * 9223372036854775808 + r % 9223372036854775808 = sg true r := by unfold sg; rw [if_pos rfl]; omega
      rw [hs]
      clear hs
      go_wp2
      go_ret
      exact ⟨r, rfl, HF.out _ _ rfl rfl r HR.out, e1.trans e2⟩
end Go.Proofs.YtkljejejabikiaaGreatDoor

/- Package dyad: Ratio. -/
namespace Go.Proofs.YtkljejejabikiaaGreatDoor
open Go Go.RowKit Cusp

/-- Two Nums laid, and a slice of both. -/
theorem nums_laid (w W : World) (v0 v1 v2 u0 u1 u2 : Value) (t : TypeId) (h : W = ((w.alloc (.cells #[v0, v1, v2] t)).alloc (.cells #[u0, u1, u2] t)).alloc (.cells #[v0, v1, v2, u0, u1, u2] t)) :
    Ext w W ∧ W.heap.size = w.heap.size + 3 ∧ (W.cell? ⟨w.heap.size, 0, none⟩ = some v0 ∧ W.cell? ⟨w.heap.size, 1, none⟩ = some v1 ∧ W.cell? ⟨w.heap.size, 2, none⟩ = some v2) ∧
    (W.cell? ⟨w.heap.size + 1, 0, none⟩ = some u0 ∧ W.cell? ⟨w.heap.size + 1, 1, none⟩ = some u1 ∧ W.cell? ⟨w.heap.size + 1, 2, none⟩ = some u2) ∧
    (W.cell? ⟨w.heap.size + 1 + 1, 0, none⟩ = some v0 ∧ W.cell? ⟨w.heap.size + 1 + 1, 1, none⟩ = some v1 ∧ W.cell? ⟨w.heap.size + 1 + 1, 2, none⟩ = some v2 ∧ W.cell? ⟨w.heap.size + 1 + 1, 3, none⟩ = some u0 ∧ W.cell? ⟨w.heap.size + 1 + 1, 4, none⟩ = some u1 ∧ W.cell? ⟨w.heap.size + 1 + 1, 5, none⟩ = some u2) := by
  obtain ⟨W1, h1⟩ : ∃ W1, W1 = w.alloc (.cells #[v0, v1, v2] t) := ⟨_, rfl⟩
  obtain ⟨W2, h2⟩ : ∃ W2, W2 = W1.alloc (.cells #[u0, u1, u2] t) := ⟨_, rfl⟩
  rw [← h1, ← h2] at h
  have z1 : W1.heap.size = w.heap.size + 1 := by rw [h1]; simp
  have z2 : W2.heap.size = w.heap.size + 1 + 1 := by rw [h2]; simp [z1]
  have z3 : W.heap.size = w.heap.size + 3 := by rw [h]; simp [z2]
  have e1 : Ext w W1 := by rw [h1]; exact (Ext.refl w).alloc _
  have e2 : Ext W1 W2 := by rw [h2]; exact (Ext.refl W1).alloc _
  have e3 : Ext W2 W := by rw [h]; exact (Ext.refl W2).alloc _
  have e23 : Ext W1 W := e2.trans e3
  have a0 := cell_new w #[v0, v1, v2] t 0 _ rfl
  have a1 := cell_new w #[v0, v1, v2] t 1 _ rfl
  have a2 := cell_new w #[v0, v1, v2] t 2 _ rfl
  have b0 := cell_new W1 #[u0, u1, u2] t 0 _ rfl
  have b1 := cell_new W1 #[u0, u1, u2] t 1 _ rfl
  have b2 := cell_new W1 #[u0, u1, u2] t 2 _ rfl
  have c0 := cell_new W2 #[v0, v1, v2, u0, u1, u2] t 0 _ rfl
  have c1 := cell_new W2 #[v0, v1, v2, u0, u1, u2] t 1 _ rfl
  have c2 := cell_new W2 #[v0, v1, v2, u0, u1, u2] t 2 _ rfl
  have c3 := cell_new W2 #[v0, v1, v2, u0, u1, u2] t 3 _ rfl
  have c4 := cell_new W2 #[v0, v1, v2, u0, u1, u2] t 4 _ rfl
  have c5 := cell_new W2 #[v0, v1, v2, u0, u1, u2] t 5 _ rfl
  rw [← h1] at a0 a1 a2
  rw [← h2, z1] at b0 b1 b2
  rw [← h, z2] at c0 c1 c2 c3 c4 c5
  exact ⟨e1.trans e23, z3, ⟨e23.cell a0, e23.cell a1, e23.cell a2⟩, ⟨e3.cell b0, e3.cell b1, e3.cell b2⟩, c0, c1, c2, c3, c4, c5⟩

set_option maxHeartbeats 4000000 in
set_option maxRecDepth 100000 in
theorem ratio_calls (sa sb : Bool) (A A' : Option Addr) (n n' c c' m m' : Nat) (ea eb : Int) (mode : Nat) (hm : mode = 1 ∨ mode = 2 ∨ mode = 3) (w : World) (ha : Nt w A n c (2 * m + 1)) (hb : Nt w A' n' c' (2 * m' + 1)) (hn : n ≤ 2048) (hn' : n' ≤ 2048) (he0 : -65536 ≤ ea) (he1 : ea ≤ 65536) (he0' : -65536 ≤ eb) (he1' : eb ≤ 65536) :
    Calls Tryz.prog 189 #[dyn sa A n c ea, dyn sb A' n' c' eb, .int .i64 (mode : Int)] w fun v w' => ∃ r, v = .returned (.tuple #[.float .f64 (sg (sa != sb) r), .int .i64 0]) ∧ Rnds (upM (sa != sb) mode) (mode == 2) ((2 * m + 1) * un (ea - eb)) ((2 * m' + 1) * dn (ea - eb)) r ∧ Ext w w' := by
  have hn0 : 0 < n := by
    rcases Nat.eq_zero_or_pos n with h | h
    · subst h; have := wd_eq_nil.1 (List.eq_nil_of_length_eq_zero ha.len); omega
    · exact h
  have hn0' : 0 < n' := by
    rcases Nat.eq_zero_or_pos n' with h | h
    · subst h; have := wd_eq_nil.1 (List.eq_nil_of_length_eq_zero hb.len); omega
    · exact h
  obtain ⟨W3, hW3⟩ : ∃ W3, W3 = ((w.alloc (.cells #[.bool sa, .slice A n c, .int .i64 ea] 186)).alloc (.cells #[.bool sb, .slice A' n' c', .int .i64 eb] 186)).alloc (.cells #[.bool sa, .slice A n c, .int .i64 ea, .bool sb, .slice A' n' c', .int .i64 eb] 186) := ⟨_, rfl⟩
  obtain ⟨e3, hz3, ⟨a0, a1, a2⟩, ⟨b0, b1, b2⟩, c0, c1, c2, c3, c4, c5⟩ := nums_laid w W3 _ _ _ _ _ _ _ hW3
  have hs3 : w.heap.size + 1 < W3.heap.size := by omega
  have hbx : bl (2 * m + 1) ≤ 65536 := Nat.le_trans (bl_len ha.len) (by omega)
  have hby : bl (2 * m' + 1) ≤ 65536 := Nat.le_trans (bl_len hb.len) (by omega)
  have ha3 := ha.ext e3
  have hb3 := hb.ext e3
  have HW3 := Lib.hid hW3
  have HZ3 := Lib.hid hz3
  obtain ⟨x, hx⟩ : ∃ x, x = 2 * m + 1 := ⟨_, rfl⟩
  obtain ⟨y, hy⟩ : ∃ y, y = 2 * m' + 1 := ⟨_, rfl⟩
  rw [← hx] at hbx
  rw [← hy] at hby
  have hx0 : x ≠ 0 := by omega
  have hy0 : y ≠ 0 := by omega
  have HXX := Lib.hid hx
  have HYY := Lib.hid hy
  have tn : ((n : Int) == 0) = false := by rw [beq_eq_false_iff_ne]; omega
  have tn' : ((n' : Int) == 0) = false := by rw [beq_eq_false_iff_ne]; omega
  rw [← hx, ← hy]
  have hres : ∀ r, Rnds (upM (sa != sb) mode) (mode == 2) (x * un (ea - eb)) (y * dn (ea - eb)) r → Rnds (upM (sa != sb) mode) (mode == 2) (x * un (ea - eb)) (y * dn (ea - eb)) r := fun r h => h
  clear hW3 hz3 hx hy hres
  unfold dyn
  go_enter Tryz.func189, Tryz.ntmps189
  go_wp2_with fail
  rw [← HW3.out]
  refine (valid2_calls _ 2 sa sb A A' n n' c c' m m' ea eb _ ha3 hb3 hn hn' he0 he1 he0' he1' c0 c1 c2 c3 c4 c5).mono ?_
  rintro v w4 ⟨rfl, e4⟩
  have hs4 := e4.size
  have a0 := e4.cell a0
  have a1 := e4.cell a1
  have a2 := e4.cell a2
  have b0 := e4.cell b0
  have b1 := e4.cell b1
  have b2 := e4.cell b2
  clear c0 c1 c2 c3 c4 c5
  go_wp2_with fail
  refine (known_calls mode hm _).mono ?_
  rintro v w5 ⟨rfl, rfl⟩
  have ha4 := ha3.ext e4
  have hb4 := hb3.ext e4
  have e34 := e3.trans e4
  clear ha hb ha3 hb3 e4 e3
  have hE0 : Ext w5 w5.drew := Ext.drew _
  go_wp2_with fail
  go_region_held3 (fun w' => (w'.cell? ⟨w.heap.size, 0, none⟩ = some (.bool sa) ∧ w'.cell? ⟨w.heap.size, 1, none⟩ = some (.slice A n c) ∧ w'.cell? ⟨w.heap.size, 2, none⟩ = some (.int .i64 ea)) ∧ w'.cell? ⟨w.heap.size + 1, 0, none⟩ = some (.bool sb) ∧ w'.cell? ⟨w.heap.size + 1, 1, none⟩ = some (.slice A' n' c') ∧ w'.cell? ⟨w.heap.size + 1, 2, none⟩ = some (.int .i64 eb)) (first | (with_reducible exact ⟨⟨a0, a1, a2⟩, b0, b1, b2⟩) | (with_reducible exact ⟨⟨hE0.cell a0, hE0.cell a1, hE0.cell a2⟩, hE0.cell b0, hE0.cell b1, hE0.cell b2⟩) | (with_reducible exact ⟨⟨hE7.cell a0, hE7.cell a1, hE7.cell a2⟩, hE7.cell b0, hE7.cell b1, hE7.cell b2⟩) | (with_reducible exact ⟨⟨hE6.cell a0, hE6.cell a1, hE6.cell a2⟩, hE6.cell b0, hE6.cell b1, hE6.cell b2⟩) | fail)
    (first | (have hE8 := hE6; go_at_call 237; refine (value_calls sb A' n' c' _ eb _ (hb4.ext hE8) (by omega)).mono ?_; rintro v w7 ⟨by7, hby7, rfl, hY7, e7⟩; have hE7 := Ext.trans hE8 e7) | (go_at_call 237; refine (value_calls sa A n c _ ea _ (ha4.ext hE0) (by omega)).mono ?_; rintro v w6 ⟨bx, hbx6, rfl, hX6, e6⟩; have hE6 := Ext.trans hE0 e6) | fail)
  rw [← HXX.out] at hX6 ha4
  rw [← HYY.out] at hY7 hb4
  obtain ⟨vx, hvx⟩ : ∃ vx : Int, vx = if sa = true then -(x : Int) else (x : Int) := ⟨_, rfl⟩
  obtain ⟨vy, hvy⟩ : ∃ vy : Int, vy = if sb = true then -(y : Int) else (y : Int) := ⟨_, rfl⟩
  rw [← hvx] at hX6
  rw [← hvy] at hY7
  have hxa : vx.natAbs = x := by rw [hvx]; exact sgn_if sa x
  have hya : vy.natAbs = y := by rw [hvy]; exact sgn_if sb y
  have HXA := Lib.hid hxa
  have HYA := Lib.hid hya
  have h5x : w5.heap.size ≤ bx := hbx6
  have hX7 := hX6.ext e7
  have h5y : w5.heap.size ≤ by7 := by have := hX6.lt; omega
  have hne : by7 ≠ bx := by have := hX6.lt; omega
  obtain ⟨Lx, hLx⟩ : ∃ L, L = bl x := ⟨_, rfl⟩
  obtain ⟨Ly, hLy⟩ : ∃ L, L = bl y := ⟨_, rfl⟩
  rw [← hLx] at hbx
  rw [← hLy] at hby
  have HLX := Lib.hid hLx
  have HLY := Lib.hid hLy
  clear hLx hLy hvx hvy hxa hya hbx6 hby7 hX6 e6 hE6 hE8 e7 ha4 hb4
  go_wp2_with fail
  refine (abs_calls bx 0 bx 0 vx vx _ hX7 hX7).mono ?_
  rintro v w8 ⟨rfl, hX8, hW8⟩
  rw [HXA.out] at hX8
  have hY8 := hW8.int hX7 hY7 (.inl hne)
  have hE8 := Wr.own_ext hE7 h5x hW8
  clear hW8 hX7 hY7
  go_wp2_with fail
  refine (abs_calls by7 0 by7 0 vy vy _ hY8 hY8).mono ?_
  rintro v w9 ⟨rfl, hY9, hW9⟩
  rw [HYA.out] at hY9
  have hX9 := hW9.int hY8 hX8 (.inl (Ne.symm hne))
  have hE9 := Wr.own_ext hE8 h5y hW9
  clear hW9 hX8 hY8
  have hlx : (wd (x : Int).natAbs).length ≤ 2048 := by rw [Int.natAbs_natCast]; exact len_of_bl (by rw [← HLX.out]; omega)
  have hly : (wd (y : Int).natAbs).length ≤ 2048 := by rw [Int.natAbs_natCast]; exact len_of_bl (by rw [← HLY.out]; omega)
  go_wp2_with fail
  refine (intBitLen_calls _ _ _ _ hX9 (by omega)).mono ?_
  rintro v w10 ⟨rfl, e10⟩
  rw [Int.natAbs_natCast, ← HLX.out]
  go_wp2_with fail
  refine (intBitLen_calls _ _ _ _ (hY9.ext e10) (by omega)).mono ?_
  rintro v w11 ⟨rfl, e11⟩
  rw [Int.natAbs_natCast, ← HLY.out]
  have hX11 := hX9.ext (e10.trans e11)
  have hY11 := hY9.ext (e10.trans e11)
  have hE11 := hE9.trans (e10.trans e11)
  clear hX9 hY9 e10 e11
  go_wp2_with fail
  obtain ⟨k, hk⟩ : ∃ k : Nat, max (64 - ((Lx : Int) - Ly)) 0 = (k : Int) := ⟨(max (64 - ((Lx : Int) - Ly)) 0).toNat, by omega⟩
  rw [hk]
  have hkb : k ≤ 65600 := by omega
  have hkg : (64 : Int) - ((Lx : Int) - Ly) ≤ k := by omega
  clear hk
  refine (lsh_calls bx 0 bx 0 x x k _ hX11 hX11 (by omega) (by omega)).mono ?_
  rintro v w12 ⟨rfl, hX12, hW12⟩
  rw [← Int.natCast_mul] at hX12
  have hY12 := hW12.int hX11 hY11 (.inl hne)
  have hE12 := Wr.own_ext hE11 h5x hW12
  obtain ⟨X, hX⟩ : ∃ X, X = x * 2 ^ k := ⟨_, rfl⟩
  rw [← hX] at hX12
  have hbX : bl X ≤ 131136 := by rw [hX, bl_mul_pow hx0, ← HLX.out]; omega
  have hlX : (wd (X : Int).natAbs).length ≤ 900000000 := by rw [Int.natAbs_natCast]; exact Nat.le_trans (len_of_bl (n := 4098) (by omega)) (by omega)
  have HX := Lib.hid hX
  clear hX hW12 hX11 hY11
  -- quotient and rest
  obtain ⟨W1, hW1⟩ : ∃ W1, W1 = w12.alloc (.cells #[.bool false, .slice none 0 0] 105) := ⟨_, rfl⟩
  obtain ⟨W2, hW2⟩ : ∃ W2, W2 = W1.alloc (.cells #[.bool false, .slice none 0 0] 105) := ⟨_, rfl⟩
  have hz1 : W1.heap.size = w12.heap.size + 1 := by rw [hW1]; simp
  have f1 : Ext w12 W1 := by rw [hW1]; exact (Ext.refl w12).alloc _
  have f2 : Ext W1 W2 := by rw [hW2]; exact (Ext.refl W1).alloc _
  have hQ2 : IsInt W2 w12.heap.size 0 0 := by
    have := int_new w12 105
    rw [← hW1] at this
    exact this.ext f2
  have hR2 : IsInt W2 (w12.heap.size + 1) 0 0 := by
    have := int_new W1 105
    rw [← hW2, hz1] at this
    exact this
  have HWW : RowKit.Hid ((w12.alloc (.cells #[.bool false, .slice none 0 0] 105)).alloc (.cells #[.bool false, .slice none 0 0] 105) = W2) := Lib.hid (by rw [hW2, hW1])
  have g12 := f1.trans f2
  clear hW1 hW2 hz1 f1 f2
  have hs12 := hX12.lt
  have h5w : w5.heap.size ≤ w12.heap.size := hE12.size
  go_wp2_with fail
  rw [HWW.out]
  refine (quoRem_calls w12.heap.size 0 bx 0 by7 0 (w12.heap.size + 1) 0 0 X y 0 _ hQ2 (hX12.ext g12) (hY12.ext g12) hR2 (.inl (by omega)) hlX (by omega)).mono ?_
  rintro v w13 ⟨rfl, hQ13, hR13, w', hWr1, hWr2⟩
  rw [← Int.ofNat_tdiv] at hQ13
  rw [← Int.ofNat_tmod] at hR13
  have hE13 : Ext w5 w13 := Wr.own_ext (Wr.own_ext (hE12.trans g12) (by omega) hWr1) h5w hWr2
  clear hWr1 hWr2 hQ2 hR2 g12 hX12 hY12 hs12
  obtain ⟨q, hq⟩ : ∃ q, q = X / y := ⟨_, rfl⟩
  obtain ⟨t, ht⟩ : ∃ t, t = X % y := ⟨_, rfl⟩
  obtain ⟨rest, hrest⟩ : ∃ rest, rest = decide (t ≠ 0) := ⟨_, rfl⟩
  obtain ⟨sv, hsv⟩ : ∃ sv, sv = sgn (t : Int) := ⟨_, rfl⟩
  have t3 : (sv != 0) = rest := by
    rw [hsv, hrest]
    unfold sgn
    rcases Nat.eq_zero_or_pos t with h | h
    · rw [if_pos (by omega), decide_eq_false (by omega)]; rfl
    · rw [if_neg (by omega), if_neg (by omega), decide_eq_true (by omega)]; rfl
  have hnear : Near (x * un (ea - eb)) (y * dn (ea - eb)) q (ea - eb - k) rest ((k : Int) - (ea - eb) - 1074).toNat := by
    rw [hq, hrest, ht, HX.out]; exact near_quo x y k (ea - eb) (by omega)
  have hqb : 64 ≤ bl q := by rw [hq, HX.out]; exact quo_bits hx0 hy0 (by rw [← HLX.out, ← HLY.out]; exact hkg)
  have hqb2 : bl q ≤ 1000000 := Nat.le_trans (bl_mono (by rw [hq]; exact Nat.div_le_self _ _)) (Nat.le_trans hbX (by omega))
  rw [← hq] at hQ13
  rw [← ht] at hR13
  have HSV := Lib.hid hsv
  have q0 := hE13.cell a0
  have q1 := hE13.cell a1
  have q2 := hE13.cell a2
  have r0 := hE13.cell b0
  have r1 := hE13.cell b1
  have r2 := hE13.cell b2
  have hEd : Ext w13 w13.drew := Ext.drew _
  obtain ⟨e', he'⟩ : ∃ e' : Int, e' = ea - eb - k := ⟨_, rfl⟩
  have hwr : IntKind.i64.wrap (IntKind.i64.wrap (ea - eb) - (k : Int)) = e' := by rw [IntKind.wrap_i64, IntKind.wrap_i64]; omega
  have HWR := Lib.hid hwr
  have he'0 : -1000000 ≤ e' := by omega
  have he'1 : e' ≤ 1000000 := by omega
  obtain ⟨ng, hng⟩ : ∃ ng, ng = (!(sa == sb)) := ⟨_, rfl⟩
  have HNG := Lib.hid hng
  rw [← he'] at hnear
  have HN := Lib.hid hnear
  clear he' hwr hng hnear
  clear hq ht hrest hsv a0 a1 a2 b0 b1 b2
  go_wp2
  go_region_held3 (fun w' => (w'.cell? ⟨w.heap.size, 0, none⟩ = some (.bool sa) ∧ w'.cell? ⟨w.heap.size, 2, none⟩ = some (.int .i64 ea)) ∧ w'.cell? ⟨w.heap.size + 1, 0, none⟩ = some (.bool sb) ∧ w'.cell? ⟨w.heap.size + 1, 2, none⟩ = some (.int .i64 eb)) (first | (with_reducible exact ⟨⟨q0, q2⟩, r0, r2⟩) | (with_reducible exact ⟨⟨hEd.cell q0, hEd.cell q2⟩, hEd.cell r0, hEd.cell r2⟩) | (with_reducible exact ⟨⟨hE14.cell q0, hE14.cell q2⟩, hE14.cell r0, hE14.cell r2⟩) | fail)
    (first | (go_at_call 112; refine (sign_calls _ _ _ _ (hR13.ext hEd)).mono ?_; rintro v w14 ⟨rfl, rfl⟩; rw [← HSV.out]) | (go_at_call 239; rw [HWR.out, ← HNG.out]; refine (float_calls ng rest w12.heap.size 0 q e' mode hm _ _ _ _ HN.out (hQ13.ext hEd) (by omega) hqb2 he'0 he'1).mono ?_; rintro v w14 ⟨r, rfl, hr, e14⟩; have hE14 := Ext.trans hEd e14) | fail)
  have hE := e34.trans (hE13.trans hE14)
  have hneg : (sa != sb) = ng := HNG.out.symm
  have HH := Lib.hid hneg
  have HR := Lib.hid hr
  clear hr hneg HN HSV HX
  go_wp2
  go_ret2
  exact ⟨r, by rw [HH.out]; rfl, by rw [HH.out]; exact HR.out, hE⟩
end Go.Proofs.YtkljejejabikiaaGreatDoor

/- Package decim: num, ratio, signed, known. -/
namespace Go.Proofs.YtkljejejabikiaaGreatDoor
open Go Go.RowKit Cusp

set_option maxRecDepth 100000 in
theorem results_num1 {fn : Func} {p : Tmp} (h : fn.results = #[.cell p 186]) (tmps : Array Value) (w : World) (g : Nat) (s : Bool) (A : Option Addr) (n c : Nat) (e : Int) (hp : tmps.getD p undef = .pointer (some ⟨g, 0, none⟩))
    (c0 : w.cell? ⟨g, 0, none⟩ = some (.bool s)) (c1 : w.cell? ⟨g, 1, none⟩ = some (.slice A n c)) (c2 : w.cell? ⟨g, 2, none⟩ = some (.int .i64 e)) :
    (results fn tmps).run Tryz.prog w = .ok (dyn s A n c e) w := by
  have hp' : tmps[p]?.getD undef = .pointer (some ⟨g, 0, none⟩) := by simpa using hp
  simp [results, h, hp', asAddr, load_num w g s A n c e c0 c1 c2]

theorem sgn_neg_iff (x : Int) : decide (sgn x < 0) = decide (x < 0) := by
  unfold sgn
  split
  · subst_vars; rfl
  · split
    · rename_i h; rw [decide_eq_true h]; rfl
    · rename_i h; rw [decide_eq_false h]; rfl

set_option maxHeartbeats 4000000 in
set_option maxRecDepth 100000 in
/-- decim's num: a whole number as a Num. -/
theorem dnum_calls (b o : Nat) (x : Int) (w : World) (h : IsInt w b o x) (hx0 : x ≠ 0) (hl : bl x.natAbs ≤ 65536) {B : Nat} (hG : Glob B w) :
    Calls Tryz.prog 188 #[.pointer (some ⟨b, o, none⟩)] w fun r w' => ∃ (A : Option Addr) (n c k m : Nat), r = .returned (dyn (decide (x < 0)) A n c (k : Int)) ∧ Nt w' A n c (2 * m + 1) ∧ x.natAbs = 2 ^ k * (2 * m + 1) ∧ Ext w w' := by
  have hwl : (wd x.natAbs).length ≤ 1000000000 := Nat.le_trans (len_of_bl (n := 2048) hl) (by omega)
  have hxn : x.natAbs ≠ 0 := by omega
  obtain ⟨sx, hsx⟩ : ∃ sx, sx = sgn x := ⟨_, rfl⟩
  have t1 : decide (sx < 0) = decide (x < 0) := by rw [hsx]; exact sgn_neg_iff x
  obtain ⟨s, hs⟩ : ∃ s, s = decide (x < 0) := ⟨_, rfl⟩
  rw [← hs] at t1 ⊢
  have HSX := Lib.hid hsx
  clear hsx hs
  go_enter Tryz.func188, Tryz.ntmps188
  go_wp2_with fail
  have e1 : Ext w (w.alloc (.cells #[.bool false, .slice none 0 0, .int .i64 0] 186)) := (Ext.refl w).alloc _
  obtain ⟨w1, hw1⟩ : ∃ w1, w1 = w.alloc (.cells #[.bool false, .slice none 0 0, .int .i64 0] 186) := ⟨_, rfl⟩
  rw [← hw1] at e1 ⊢
  have c0 : w1.cell? ⟨w.heap.size, 0, none⟩ = some (.bool false) := by rw [hw1]; exact cell_new w _ _ 0 _ rfl
  have c1 : w1.cell? ⟨w.heap.size, 1, none⟩ = some (.slice none 0 0) := by rw [hw1]; exact cell_new w _ _ 1 _ rfl
  have c2 : w1.cell? ⟨w.heap.size, 2, none⟩ = some (.int .i64 0) := by rw [hw1]; exact cell_new w _ _ 2 _ rfl
  have f0 : w1.frozen? ⟨w.heap.size, 0, none⟩ = false := by rw [hw1]; simp only [World.frozen?, heap_alloc_new]; rfl
  have f1 : w1.frozen? ⟨w.heap.size, 1, none⟩ = false := by rw [hw1]; simp only [World.frozen?, heap_alloc_new]; rfl
  have f2 : w1.frozen? ⟨w.heap.size, 2, none⟩ = false := by rw [hw1]; simp only [World.frozen?, heap_alloc_new]; rfl
  have hs1 : w.heap.size < w1.heap.size := by rw [hw1]; simp
  clear hw1
  have h1 := h.ext e1
  refine (sign_calls _ _ _ _ h1).mono ?_
  rintro r w2 ⟨rfl, rfl⟩
  rw [← HSX.out]
  go_wp2_with fail
  refine (words_calls _ _ _ _ h1 hwl).mono ?_
  rintro r w3 ⟨A3, n3, c3, rfl, hn3, e3⟩
  go_wp2_with fail
  refine (make_calls s A3 n3 c3 _ _ hn3 hxn hl ((hG.ext e1).ext e3)).mono ?_
  rintro r w4 ⟨A4, n4, c4, k, m, rfl, hn4, hxk, e4⟩
  have HK := Lib.hid hxk
  have e24 := e3.trans e4
  have f0 : w4.frozen? ⟨w.heap.size, 0, none⟩ = false := (e24.frozen c0).trans f0
  have f1 : w4.frozen? ⟨w.heap.size, 1, none⟩ = false := (e24.frozen c1).trans f1
  have f2 : w4.frozen? ⟨w.heap.size, 2, none⟩ = false := (e24.frozen c2).trans f2
  have c0 := e24.cell c0
  have c1 := e24.cell c1
  have c2 := e24.cell c2
  clear hxk h1 hn3 e3 e4
  unfold dyn
  go_upto_region 2 with (fail)
  have e5 : Ext w4 (w4.alloc (.cells #[.bool s, .slice A4 n4 c4, .int .i64 (k : Int)] 186)) := (Ext.refl w4).alloc _
  obtain ⟨w5, hw5⟩ : ∃ w5, w5 = w4.alloc (.cells #[.bool s, .slice A4 n4 c4, .int .i64 (k : Int)] 186) := ⟨_, rfl⟩
  rw [← hw5] at e5 ⊢
  have f0 : w5.frozen? ⟨w.heap.size, 0, none⟩ = false := (e5.frozen c0).trans f0
  have f1 : w5.frozen? ⟨w.heap.size, 1, none⟩ = false := (e5.frozen c1).trans f1
  have f2 : w5.frozen? ⟨w.heap.size, 2, none⟩ = false := (e5.frozen c2).trans f2
  have d0 : w5.cell? ⟨w4.heap.size, 0, none⟩ = some (.bool s) := by rw [hw5]; exact cell_new w4 _ _ 0 _ rfl
  have d1 : w5.cell? ⟨w4.heap.size, 1, none⟩ = some (.slice A4 n4 c4) := by rw [hw5]; exact cell_new w4 _ _ 1 _ rfl
  have d2 : w5.cell? ⟨w4.heap.size, 2, none⟩ = some (.int .i64 (k : Int)) := by rw [hw5]; exact cell_new w4 _ _ 2 _ rfl
  have c0 := e5.cell c0
  have c1 := e5.cell c1
  have c2 := e5.cell c2
  have hn5 := hn4.ext e5
  clear hw5
  have HS := Lib.hid (set3 w5 w.heap.size (.bool s) (.slice A4 n4 c4) (.int .i64 (k : Int)) c0 c1 c2)
  have hn9 := set3_nt hn5 w.heap.size (.bool s) (.slice A4 n4 c4) (.int .i64 (k : Int)) c0 c1 c2 (by intro y h; cases h) (by intro y h; cases h) (by intro y h; cases h)
  go_wp2_with fail
  refine bodyPost_ret (results_num1 rfl _ _ w.heap.size s A4 n4 c4 (k : Int) rfl HS.out.1 HS.out.2.1 HS.out.2.2) rfl ?_
  exact ⟨A4, n4, c4, k, m, rfl, hn9, HK.out, (((e1.trans (e24.trans e5)).setCell (Nat.le_refl _) _).setCell (Nat.le_refl _) _).setCell (Nat.le_refl _) _⟩

set_option maxHeartbeats 4000000 in
set_option maxRecDepth 100000 in
/-- n / d times 2^e, rounded. -/
theorem dratio_calls (b o b' o' : Nat) (x y : Int) (e : Int) (mode : Nat) (hm : mode = 1 ∨ mode = 2 ∨ mode = 3) (w : World) (hx : IsInt w b o x) (hy : IsInt w b' o' y) (hx0 : x ≠ 0) (hy0 : 0 < y) (hlx : bl x.natAbs ≤ 40000) (hly : bl y.natAbs ≤ 40000) (he0 : -20000 ≤ e) (he1 : e ≤ 20000) {B : Nat} (hG : Glob B w) :
    Calls Tryz.prog 119 #[.pointer (some ⟨b, o, none⟩), .pointer (some ⟨b', o', none⟩), .int .i64 e, .int .i64 (mode : Int)] w fun v w' => ∃ r, v = .returned (.float .f64 (sg (decide (x < 0)) r)) ∧ Rnds (upM (decide (x < 0)) mode) (mode == 2) (x.natAbs * un e) (y.natAbs * dn e) r ∧ Ext w w' := by
  have hkb : ∀ {z k t : Nat}, bl z ≤ 40000 → z = 2 ^ k * (2 * t + 1) → k ≤ 40000 ∧ bl (2 * t + 1) ≤ 40000 := by
    intro z k t h1 h2
    rw [Nat.mul_comm] at h2
    have := bl_mul_pow (n := 2 * t + 1) (by omega) k
    rw [← h2] at this
    have := bl_pos (n := 2 * t + 1) (by omega)
    omega
  have hnn : ∀ {w : World} {A : Option Addr} {n c t : Nat}, Nt w A n c t → bl t ≤ 40000 → n ≤ 2048 := by
    intro w A n c t h1 h2
    rw [← h1.len]
    exact len_of_bl (by omega)
  obtain ⟨s, hs⟩ : ∃ s, s = decide (x < 0) := ⟨_, rfl⟩
  have hyd : decide (y < 0) = false := decide_eq_false (by omega)
  have HS := Lib.hid hs
  rw [← hs]
  clear hs
  go_enter Tryz.func119, Tryz.ntmps119
  go_wp2_with fail
  refine (dnum_calls _ _ _ _ hx hx0 (by omega) hG).mono ?_
  rintro v w1 ⟨A1, n1, c1, k1, m1, rfl, hn1, hk1, e1⟩
  rw [← HS.out]
  obtain ⟨hkb1, hlb1⟩ := hkb hlx hk1
  have HK1 := Lib.hid hk1
  clear hk1
  go_wp2_with fail
  refine (shift_calls s A1 n1 c1 m1 (k1 : Int) e _ hn1 (hnn hn1 hlb1) (by omega) (by omega) (by omega) (by omega)).mono ?_
  rintro v w2 ⟨A2, n2, c2, rfl, hn2, e2⟩
  have hE2 := e1.trans e2
  have hy2 := hy.ext hE2
  have hG2 := hG.ext hE2
  clear hn1 e1 e2
  unfold dyn
  go_upto_region 2 with (fail)
  have e3 : Ext w2 (w2.alloc (.cells #[.bool s, .slice A2 n2 c2, .int .i64 ((k1 : Int) + e)] 186)) := (Ext.refl w2).alloc _
  obtain ⟨w3, hw3⟩ : ∃ w3, w3 = w2.alloc (.cells #[.bool s, .slice A2 n2 c2, .int .i64 ((k1 : Int) + e)] 186) := ⟨_, rfl⟩
  rw [← hw3] at e3 ⊢
  have d0 : w3.cell? ⟨w2.heap.size, 0, none⟩ = some (.bool s) := by rw [hw3]; exact cell_new w2 _ _ 0 _ rfl
  have d1 : w3.cell? ⟨w2.heap.size, 1, none⟩ = some (.slice A2 n2 c2) := by rw [hw3]; exact cell_new w2 _ _ 1 _ rfl
  have d2 : w3.cell? ⟨w2.heap.size, 2, none⟩ = some (.int .i64 ((k1 : Int) + e)) := by rw [hw3]; exact cell_new w2 _ _ 2 _ rfl
  have hn3 := hn2.ext e3
  have hy3 := hy2.ext e3
  have hG3 := hG2.ext e3
  have hE3 := hE2.trans e3
  have hEd : Ext w3 w3.drew := Ext.drew _
  obtain ⟨ee, hee⟩ : ∃ ee, ee = (k1 : Int) + e := ⟨_, rfl⟩
  rw [← hee] at d2
  have hee0 : -65536 ≤ ee := by omega
  have hee1 : ee ≤ 65536 := by omega
  have HEE := Lib.hid hee
  clear hw3 hn2 hy2 hG2 hE2 e3 hee
  go_region_held3 (fun w' => w'.cell? ⟨w2.heap.size, 0, none⟩ = some (.bool s) ∧ w'.cell? ⟨w2.heap.size, 1, none⟩ = some (.slice A2 n2 c2) ∧ w'.cell? ⟨w2.heap.size, 2, none⟩ = some (.int .i64 ee)) (first | (with_reducible exact ⟨d0, d1, d2⟩) | (with_reducible exact ⟨hEd.cell d0, hEd.cell d1, hEd.cell d2⟩) | (with_reducible exact ⟨hE4.cell d0, hE4.cell d1, hE4.cell d2⟩) | (with_reducible exact ⟨hE5.cell d0, hE5.cell d1, hE5.cell d2⟩) | fail)
    (first | (go_at_call 188; refine (dnum_calls _ _ _ _ (hy3.ext hEd) (by omega) (by omega) (hG3.ext hEd)).mono ?_; rintro v w4 ⟨A4, n4, c4, k4, m4, rfl, hn4, hk4, e4⟩; rw [hyd]; have hE4 := Ext.trans hEd e4) | (go_at_call 189; refine (ratio_calls s false A2 A4 n2 n4 c2 c4 m1 m4 ee (k4 : Int) mode hm _ (hn3.ext hE4) hn4 (hnn hn3 hlb1) (hnn hn4 (hkb hly hk4).2) (by omega) (by omega) (by omega) (by have := (hkb hly hk4).1; omega)).mono ?_; rintro v w5 ⟨r, rfl, hr, e5⟩; have hE5 := Ext.trans hE4 e5) | fail)
  have hEE := hE3.trans hE5
  have hs2 : (s != false) = s := by cases s <;> rfl
  have hY : y.natAbs ≠ 0 := by omega
  rw [hs2, HEE.out] at hr
  have hr2 := (rnds_parts HK1.out hk4 (Nat.pos_of_ne_zero hY)).1 hr
  have HR := Lib.hid hr2
  clear hr hr2 hk4 HK1
  go_wp2
  go_ret
  exact ⟨r, rfl, HR.out, hEE⟩
end Go.Proofs.YtkljejejabikiaaGreatDoor

/- A decimal's text, cut: what the program's cut makes of a text's bytes; bytes beyond 127 in a rune. Plain. -/
namespace Cusp
open Go

/-- What a decimal's text says. word: 0, or 1 for inf, 2 for nan. -/
structure Txt where
  neg : Bool
  hex : Bool
  digits : List UInt8
  behind : Nat
  exp : Int
  word : Nat

def base (hex : Bool) : Nat := if hex then 16 else 10
def marks (hex : Bool) : List UInt8 := if hex then [112, 80] else [101, 69]
/-- The exponent: a sign or none, and digits. -/
def expD (l : List UInt8) : List UInt8 := if l.head? = some 43 ∨ l.head? = some 45 then l.drop 1 else l
def expV (l : List UInt8) : Option Int :=
  if expD l ≠ [] ∧ (∀ b ∈ expD l, isDig 10 b = true) then some (if l.head? = some 45 then -((numV 10 (expD l) : Nat) : Int) else ((numV 10 (expD l) : Nat) : Int)) else none
/-- Digits with a point or none. -/
def ahead (l : List UInt8) : List UInt8 := l.takeWhile (· != 46)
def behind (l : List UInt8) : List UInt8 := (l.dropWhile (· != 46)).drop 1
def fin (neg hex : Bool) (l : List UInt8) (e : Int) : Option Txt :=
  if ahead l ++ behind l ≠ [] ∧ (∀ b ∈ ahead l ++ behind l, isDig (base hex) b = true) then some ⟨neg, hex, ahead l ++ behind l, (behind l).length, e, 0⟩ else none
/-- Where one of some bytes first stands. -/
def firstIn (set l : List UInt8) : Option Nat := l.findIdx? (fun b => set.contains b)
def bodyT (neg hex : Bool) (l : List UInt8) : Option Txt :=
  match firstIn (marks hex) l with
  | some i => (expV (l.drop (i + 1))).bind (fin neg hex (l.take i))
  | none => if hex then none else fin neg hex l 0
def infB : List UInt8 := [105, 110, 102]
def nanB : List UInt8 := [110, 97, 110]
def restT (neg : Bool) (l : List UInt8) : Option Txt :=
  if l = infB then some ⟨neg, false, [], 0, 0, 1⟩ else if l = nanB then some ⟨neg, false, [], 0, 0, 2⟩
  else if l.take 2 = [48, 120] ∨ l.take 2 = [48, 88] then bodyT neg true (l.drop 2) else bodyT neg false l
/-- Has a sign ahead? -/
def signed (l : List UInt8) : Bool := l.head? == some 43 || l.head? == some 45
def cutT (l : List UInt8) : Option Txt := if signed l = true then restT (l.head? == some 45) (l.drop 1) else restT false l

/-- With a minus ahead all is alike but the sign. -/
theorem restT_neg (l : List UInt8) (n : Bool) : restT n l = (restT false l).map (fun t => { t with neg := n }) := by
  unfold restT
  split
  · rfl
  split
  · rfl
  have hfin : ∀ h l e, fin n h l e = (fin false h l e).map (fun t => { t with neg := n }) := fun h l e => by
    unfold fin; split <;> rfl
  have hbody : ∀ h l, bodyT n h l = (bodyT false h l).map (fun t => { t with neg := n }) := fun h l => by
    unfold bodyT
    split
    · cases expV (l.drop (_ + 1)) with
      | none => rfl
      | some e => exact hfin _ _ _
    · split
      · rfl
      · exact hfin _ _ _
  split <;> exact hbody _ _
theorem restT_neg_of {l : List UInt8} {t : Txt} (h : restT false l = some t) : restT true l = some { t with neg := true } := by rw [restT_neg, h]; rfl
theorem restT_neg_none {l : List UInt8} (h : restT false l = none) : restT true l = none := by rw [restT_neg, h]; rfl
theorem cutT_minus (l : List UInt8) : cutT (45 :: l) = restT true l := by unfold cutT signed; simp
theorem cutT_plain {l : List UInt8} (h : signed l = false) : cutT l = restT false l := by unfold cutT; rw [h]; simp

theorem fin_digits {neg hex : Bool} {l : List UInt8} {e : Int} {t : Txt} (h : fin neg hex l e = some t) : t.neg = neg ∧ t.hex = hex ∧ t.word = 0 ∧ t.digits ≠ [] ∧ (∀ b ∈ t.digits, isDig (base t.hex) b = true) ∧ t.behind ≤ t.digits.length ∧ t.digits.length ≤ l.length ∧ t.exp = e := by
  unfold fin at h
  split at h
  · rename_i hc
    injection h with h
    subst h
    refine ⟨rfl, rfl, rfl, hc.1, hc.2, by simp, ?_, rfl⟩
    unfold ahead behind
    have h1 := congrArg List.length (List.takeWhile_append_dropWhile (p := (· != (46 : UInt8))) (l := l))
    rw [List.length_append] at h1
    simp only [List.length_append, List.length_drop]
    omega
  · cases h
theorem restT_digits {neg : Bool} {l : List UInt8} {t : Txt} (h : restT neg l = some t) : t.neg = neg ∧ (t.word = 0 → t.digits ≠ [] ∧ (∀ b ∈ t.digits, isDig (base t.hex) b = true) ∧ t.behind ≤ t.digits.length ∧ t.digits.length ≤ l.length) ∧ t.word ≤ 2 := by
  have hbody : ∀ {h l t}, bodyT neg h l = some t → t.neg = neg ∧ t.word = 0 ∧ t.digits ≠ [] ∧ (∀ b ∈ t.digits, isDig (base t.hex) b = true) ∧ t.behind ≤ t.digits.length ∧ t.digits.length ≤ l.length := by
    intro h l t ht
    unfold bodyT at ht
    split at ht
    · rename_i i hi
      cases he : expV (l.drop (i + 1)) with
      | none => rw [he] at ht; cases ht
      | some e =>
        rw [he] at ht
        obtain ⟨a, b, c, d, f, g, i, j⟩ := fin_digits ht
        refine ⟨a, c, d, f, g, Nat.le_trans i ?_⟩
        rw [List.length_take]; omega
    · split at ht
      · cases ht
      · obtain ⟨a, b, c, d, f, g, i, j⟩ := fin_digits ht
        exact ⟨a, c, d, f, g, i⟩
  unfold restT at h
  split at h
  · injection h with h; subst h; exact ⟨rfl, by simp, by simp⟩
  split at h
  · injection h with h; subst h; exact ⟨rfl, by simp, by simp⟩
  split at h
  · obtain ⟨a, b, c, d, f, g⟩ := hbody h
    rw [List.length_drop] at g
    exact ⟨a, fun _ => ⟨c, d, f, by omega⟩, by omega⟩
  · obtain ⟨a, b, c, d, f, g⟩ := hbody h
    exact ⟨a, fun _ => ⟨c, d, f, g⟩, by omega⟩

/-- A rune of more than one byte: every byte of it is beyond 127. -/
theorem decode_cont (s : ByteArray) (i : Nat) (h : i < s.size) (ha : 128 ≤ (s[i]'h).toNat) : ∀ j, i ≤ j → j < i + (Utf8.decode s i).2 → 128 ≤ (s.get! j).toNat := by
  have e0 : (s.get! i).toNat = (s[i]'h).toNat := by simp [ByteArray.get!, ByteArray.getElem_eq_getElem_data, h]
  intro j h1 h2
  rw [← e0] at ha
  unfold Utf8.decode at h2
  simp only [Nat.add_zero] at h2
  obtain ⟨k, rfl⟩ : ∃ k, j = i + k := ⟨j - i, by omega⟩
  have key : ∀ k, k = 0 → 128 ≤ (s.get! (i + k)).toNat := fun k hk => by rw [hk]; exact ha
  have cont : ∀ k, (decide (i + k < s.size) && (s.get! (i + k)).toNat / 64 == 2) = true → 128 ≤ (s.get! (i + k)).toNat := fun k hk => by
    simp at hk; omega
  split at h2
  · omega
  split at h2
  · rename_i _ hc
    simp only [Bool.and_eq_true] at hc
    have c1 := cont 1 (by simpa using hc.2)
    split at h2
    · simp only at h2
      rcases (show k = 0 ∨ k = 1 by omega) with rfl | rfl
      · exact ha
      · exact c1
    · exact key k (by simp only at h2; omega)
  split at h2
  · rename_i _ _ hc
    simp only [Bool.and_eq_true] at hc
    have c1 := cont 1 (by simpa using hc.1.2)
    have c2 := cont 2 (by simpa using hc.2)
    split at h2
    · simp only at h2
      rcases (show k = 0 ∨ k = 1 ∨ k = 2 by omega) with rfl | rfl | rfl
      · exact ha
      · exact c1
      · exact c2
    · exact key k (by simp only at h2; omega)
  split at h2
  · rename_i _ _ _ hc
    simp only [Bool.and_eq_true] at hc
    have c1 := cont 1 (by simpa using hc.1.1.2)
    have c2 := cont 2 (by simpa using hc.1.2)
    have c3 := cont 3 (by simpa using hc.2)
    split at h2
    · simp only at h2
      rcases (show k = 0 ∨ k = 1 ∨ k = 2 ∨ k = 3 by omega) with rfl | rfl | rfl | rfl
      · exact ha
      · exact c1
      · exact c2
      · exact c3
    · exact key k (by simp only at h2; omega)
  · exact key k (by simp only at h2; omega)
end Cusp

/- Runes of a text against a set of ASCII bytes. Plain. -/
namespace Cusp
open Go

theorem at_list (s : ByteArray) (i : Nat) (h : i < s.size) : s.data.toList[i]? = some (s[i]'h) := by
  rw [Array.getElem?_toList]
  simp [ByteArray.getElem_eq_getElem_data, h]
theorem get_list (s : ByteArray) (i : Nat) (b : UInt8) (h : s.data.toList[i]? = some b) : ∃ hi : i < s.size, s[i]'hi = b := by
  have hi : i < s.size := by
    have := (List.getElem?_eq_some_iff.1 h).1
    simpa using this
  refine ⟨hi, ?_⟩
  rw [at_list s i hi] at h
  exact Option.some.inj h
theorem get_bang (s : ByteArray) (i : Nat) (h : i < s.size) : s.get! i = s[i]'h := by simp [ByteArray.get!, ByteArray.getElem_eq_getElem_data, h]
/-- The rune at a place is a byte of an ASCII set: it is that byte. -/
theorem rune_byte (s : ByteArray) (pos : Nat) (h : pos < s.size) (b : UInt8) (hb : b.toNat < 128) (he : (Utf8.decode s pos).1 = b.toNat) : s[pos]'h = b := by
  rcases Nat.lt_or_ge (s[pos]'h).toNat 128 with h1 | h1
  · rw [decode_ascii s pos h h1] at he
    exact UInt8.toNat_inj.1 he
  · have := (decode_high s pos h h1).1
    omega
/-- No byte of the rune is in the set, if the rune is not. -/
theorem rune_none (s : ByteArray) (set : List UInt8) (hset : ∀ b ∈ set, b.toNat < 128) (pos : Nat) (h : pos < s.size) (hne : ∀ b ∈ set, (Utf8.decode s pos).1 ≠ b.toNat) (hbef : ∀ (j : Nat) (b : UInt8), j < pos → s.data.toList[j]? = some b → set.contains b = false) :
    ∀ (j : Nat) (b : UInt8), j < pos + (Utf8.decode s pos).2 → s.data.toList[j]? = some b → set.contains b = false := by
  intro j b hj hb
  rcases Nat.lt_or_ge j pos with h1 | h1
  · exact hbef j b h1 hb
  · obtain ⟨hi, hbe⟩ := get_list s j b hb
    cases hc : set.contains b with
    | false => rfl
    | true =>
      exfalso
      have hm : b ∈ set := by simpa using hc
      rcases Nat.lt_or_ge (s[pos]'h).toNat 128 with h2 | h2
      · rw [decode_ascii s pos h h2] at hj hne
        obtain rfl : j = pos := by simp only at hj; omega
        exact hne b hm (by simp only; rw [hbe])
      · have h3 := decode_cont s pos h h2 j h1 hj
        rw [get_bang s j hi, hbe] at h3
        have := hset b hm
        omega
theorem firstIn_some (set l : List UInt8) (i : Nat) (b : UInt8) (hb : l[i]? = some b) (hc : set.contains b = true) (hbef : ∀ (j : Nat) (b : UInt8), j < i → l[j]? = some b → set.contains b = false) : firstIn set l = some i := by
  obtain ⟨hi, rfl⟩ := List.getElem?_eq_some_iff.1 hb
  unfold firstIn
  rw [List.findIdx?_eq_some_iff_getElem]
  refine ⟨hi, hc, fun j hj => ?_⟩
  have hjl : j < l.length := by omega
  rw [hbef j l[j] hj (List.getElem?_eq_getElem hjl)]
  simp
theorem firstIn_none (set l : List UInt8) (h : ∀ (j : Nat) (b : UInt8), l[j]? = some b → set.contains b = false) : firstIn set l = none := by
  unfold firstIn
  rw [List.findIdx?_eq_none_iff]
  intro b hb
  obtain ⟨j, hj⟩ := List.getElem?_of_mem hb
  exact h j b hj
/-- A place as a number; -1: none. -/
def atOf : Option Nat → Int
  | none => -1
  | some i => i
/-- What is left behind the bytes of a set at the begin. -/
def leftCut (l set : List UInt8) : List UInt8 := l.dropWhile (set.contains ·)
theorem leftCut_drop (l set : List UInt8) (k : Nat) (b : UInt8) (hb : l[k]? = some b) (hc : set.contains b = false) (h1 : ∀ (j : Nat) b, j < k → l[j]? = some b → set.contains b = true) : leftCut l set = l.drop k := by
  have hk := (List.getElem?_eq_some_iff.1 hb).1
  exact Lib.dropWhile_drop (set.contains ·) l k h1 (fun b' hb' => by rw [hb] at hb'; injection hb' with hb'; rw [← hb']; exact hc) (Nat.le_of_lt hk)
theorem leftCut_nil (l set : List UInt8) (h1 : ∀ (j : Nat) b, l[j]? = some b → set.contains b = true) : leftCut l set = [] := by
  have := Lib.dropWhile_drop (set.contains ·) l l.length (fun j b _ hb => h1 j b hb) (fun b hb => by simp at hb) (Nat.le_refl _)
  unfold leftCut
  rw [this, List.drop_length]
/-- The last rune: beyond ASCII if the last byte is. -/
theorem lastL_high (l : List UInt8) (h0 : l ≠ []) (h : 128 ≤ (l.getD (l.length - 1) 0).toNat) : 128 ≤ (Lib.decodeLastL l).1 := by
  unfold Lib.decodeLastL
  rw [if_neg h0, if_neg (by omega)]
  simp only
  split
  · rename_i hd
    obtain ⟨st, hst⟩ : ∃ st, st = Lib.lastStart l := ⟨_, rfl⟩
    rw [← hst] at hd ⊢
    unfold Lib.decodeL at hd ⊢
    obtain ⟨S, hS⟩ : ∃ S : ByteArray, S = ⟨(l.drop st).toArray⟩ := ⟨_, rfl⟩
    rw [← hS] at hd ⊢
    have hsz : S.size = l.length - st := by rw [hS]; simp [ByteArray.size]
    have hll : 0 < l.length := List.length_pos_iff.2 h0
    rcases Nat.lt_or_ge st l.length with h1 | h1
    · have hp : 0 < S.size := by omega
      rcases Nat.lt_or_ge (S[0]'hp).toNat 128 with h2 | h2
      · exfalso
        rw [decode_ascii S 0 hp h2] at hd
        simp only at hd
        have e1 : l.length - 1 = st := by omega
        have e2 : S[0]'hp = l.getD st 0 := by
          have a1 := at_list S 0 hp
          have a2 : S.data.toList = l.drop st := by rw [hS]
          rw [a2, List.getElem?_drop, Nat.add_zero] at a1
          rw [List.getD_eq_getElem?_getD, a1]
          rfl
        rw [e1, ← e2] at h
        omega
      · exact (decode_high S 0 hp h2).1
    · exact absurd h1 (by have := Lib.lastStart_lt l h0; omega)
  · decide
/-- A rune is one of an ASCII set just if its first byte is; then it is that byte alone. -/
theorem rune_in (s : ByteArray) (set : List UInt8) (hset : ∀ b ∈ set, b.toNat < 128) (pos : Nat) (h : pos < s.size) :
    (set.contains (s[pos]'h) = true ↔ ∃ b ∈ set, (Utf8.decode s pos).1 = b.toNat) ∧ (set.contains (s[pos]'h) = true → (Utf8.decode s pos).2 = 1) := by
  have h1 : set.contains (s[pos]'h) = true → Utf8.decode s pos = ((s[pos]'h).toNat, 1) := fun hc => decode_ascii s pos h (hset _ (by simpa using hc))
  refine ⟨⟨fun hc => ⟨s[pos]'h, by simpa using hc, by rw [h1 hc]⟩, ?_⟩, fun hc => by rw [h1 hc]⟩
  rintro ⟨b, hb, he⟩
  rw [rune_byte s pos h b (hset b hb) he]
  simpa using hb
theorem last_in (l set : List UInt8) (hset : ∀ b ∈ set, b.toNat < 128) (h0 : l ≠ []) (b : UInt8) (hb : l.getD (l.length - 1) 0 = b) :
    (set.contains b = true ↔ ∃ x ∈ set, (Lib.decodeLastL l).1 = x.toNat) ∧ (set.contains b = true → (Lib.decodeLastL l).2 = 1) := by
  have low : b.toNat < 128 → Lib.decodeLastL l = (b.toNat, 1) := fun h => by
    unfold Lib.decodeLastL
    rw [if_neg h0, hb, if_pos h]
  have hc : set.contains b = true → b.toNat < 128 := fun h => hset b (by simpa using h)
  refine ⟨⟨fun h => ⟨b, by simpa using h, by rw [low (hc h)]⟩, ?_⟩, fun h => by rw [low (hc h)]⟩
  rintro ⟨x, hx, he⟩
  rcases Nat.lt_or_ge b.toNat 128 with h1 | h1
  · rw [low h1] at he
    rw [UInt8.toNat_inj.1 he]
    simpa using hx
  · exfalso
    have := lastL_high l h0 (by rw [hb]; exact h1)
    have := hset x hx
    omega
theorem ext_drop (s : ByteArray) (i : Nat) : s.extract i s.size = ⟨(s.data.toList.drop i).toArray⟩ := by
  apply ByteArray.ext
  rw [ByteArray.data_extract]
  apply Array.toList_inj.1
  simp
  rw [List.take_of_length_le]
  rw [List.length_drop, Array.length_toList]
  exact Nat.le_refl _
theorem ext_take (s : ByteArray) (i : Nat) : s.extract 0 i = ⟨(s.data.toList.take i).toArray⟩ := by
  apply ByteArray.ext
  rw [ByteArray.data_extract]
  apply Array.toList_inj.1
  simp
end Cusp

/- Package decim: anyAt, cutLeft, cutRight. -/
namespace Go.Proofs.YtkljejejabikiaaGreatDoor
open Go Go.RowKit Cusp

theorem iter_keep {w w' : World} {k pos : Nat} {s : ByteArray} (e : Ext w w') (h : w.heap[k]? = some (.stringIter s pos)) : w'.heap[k]? = some (.stringIter s pos) := by
  rw [Below.block e k ((Array.getElem?_eq_some_iff.1 h).1)]; exact h
theorem iter_lt {w : World} {k pos : Nat} {s : ByteArray} (h : w.heap[k]? = some (.stringIter s pos)) : k < w.heap.size := (Array.getElem?_eq_some_iff.1 h).1

set_option maxHeartbeats 4000000 in
set_option maxRecDepth 1000000 in
theorem anyAt_calls (s any : ByteArray) (w : World) (hset : ∀ b ∈ any.data.toList, b.toNat < 128) :
    Calls Tryz.prog 107 #[.string s, .string any] w fun v w' => v = .returned (.int .i64 (atOf (firstIn any.data.toList s.data.toList))) ∧ Ext w w' := by
  go_enter Tryz.func107, Tryz.ntmps107
  go_wp2
  go_loopw [] (fun wr => ∃ pos : Nat, wr.heap[w.heap.size]? = some (.stringIter s pos) ∧ Ext w wr ∧ RowKit.Hid (∀ (j : Nat) (b : UInt8), j < pos → s.data.toList[j]? = some b → any.data.toList.contains b = false)) (fun wr => s.size - wr.iterPos w.heap.size)
  case atStart => exact ⟨0, World.iter_heap w s 0, (Ext.refl w).alloc _, Lib.hid (fun j b hj => absurd hj (by omega))⟩
  case round =>
    obtain ⟨pos, hit, hE, hbef⟩ := hrel
    have hsz := iter_lt hit
    by_cases hp : pos < s.size
    · have hwd := Lib.decode_width_pos s pos hp
      have hd1 := decode_le s pos
      have hany := fun h1 => rune_none s any.data.toList hset pos hp h1 hbef.out
      obtain ⟨c, hc⟩ : ∃ c, c = (Utf8.decode s pos).1 := ⟨_, rfl⟩
      obtain ⟨n, hn⟩ : ∃ n, n = (Utf8.decode s pos).2 := ⟨_, rfl⟩
      obtain ⟨W1, hW1⟩ : ∃ W1, W1 = wr.iterAt w.heap.size s (pos + n) := ⟨_, rfl⟩
      have hnx : ∀ ty, (Instr.next (.pointer (some ⟨w.heap.size, 0, none⟩)) true ty).run Tryz.prog wr = .ok (.tuple #[.bool true, .int .i64 (pos : Int), .int .i32 (c : Int)]) W1 := fun ty => by
        rw [Lib.run_next_any_at wr w.heap.size s pos ty hit hp, hc, hW1, hn]
      have hit1 : W1.heap[w.heap.size]? = some (.stringIter s (pos + n)) := by rw [hW1]; exact Lib.iterAt_heap wr _ s pos (pos + n) hit
      have hE1 : Ext w W1 := by rw [hW1]; exact Lib.below_iterAt hE (Nat.le_refl _) s _
      have hlt1 := iter_lt hit1
      rw [← hc] at hd1 hany
      rw [← hn] at hwd hany
      have HC := Lib.hid hc
      have HANY := Lib.hid hany
      have HIT := Lib.hid hit
      clear hc hn hW1 hany hit
      go_wp2
      go_loopw [] (fun wi => ∃ q : Nat, wi.heap[W1.heap.size]? = some (.stringIter any q) ∧ wi.heap[w.heap.size]? = some (.stringIter s (pos + n)) ∧ Ext w wi ∧ RowKit.Hid (∀ (j : Nat) (b : UInt8), j < q → any.data.toList[j]? = some b → c ≠ b.toNat)) (fun wi => any.size - wi.iterPos W1.heap.size)
      case atStart => exact ⟨0, World.iter_heap W1 any 0, iter_keep ((Ext.refl W1).alloc _) hit1, hE1.alloc _, Lib.hid (fun j b hj => absurd hj (by omega))⟩
      case round =>
        obtain ⟨q, hiq, hio, hEi, hq⟩ := hrel
        have hszi := iter_lt hiq
        by_cases hqs : q < any.size
        · have hal := at_list any q hqs
          obtain ⟨b, hb⟩ : ∃ b, b = any[q]'hqs := ⟨_, rfl⟩
          rw [← hb] at hal
          have hb128 := hset b (List.mem_of_getElem? hal)
          obtain ⟨W2, hW2⟩ : ∃ W2, W2 = wr.iterAt W1.heap.size any (q + 1) := ⟨_, rfl⟩
          have hnx2 : ∀ ty, (Instr.next (.pointer (some ⟨W1.heap.size, 0, none⟩)) true ty).run Tryz.prog wr = .ok (.tuple #[.bool true, .int .i64 (q : Int), .int .i32 (b.toNat : Int)]) W2 := fun ty => by
            rw [Lib.run_next_ascii_at wr W1.heap.size any q ty hiq hqs (by rw [← hb]; exact hb128), ← hb, hW2]
          have hiq2 : W2.heap[W1.heap.size]? = some (.stringIter any (q + 1)) := by rw [hW2]; exact Lib.iterAt_heap wr _ any q (q + 1) hiq
          have hio2 : W2.heap[w.heap.size]? = some (.stringIter s (pos + n)) := by rw [hW2, Lib.iterAt_other _ _ _ _ _ (by omega)]; exact hio
          have hE2 : Ext w W2 := by rw [hW2]; exact Lib.below_iterAt hEi (by omega) any _
          have HAL := Lib.hid hal
          have HIQ := Lib.hid hiq
          clear hal hb hW2 hiq hio hEi
          by_cases hcb : c = b.toNat
          · have hres : firstIn any.data.toList s.data.toList = some pos := by
              have h1 := rune_byte s pos hp b hb128 (by rw [← HC.out]; exact hcb)
              have h2 := at_list s pos hp
              rw [h1] at h2
              exact firstIn_some _ _ _ _ h2 (by simpa using List.mem_of_getElem? HAL.out) hbef.out
            have HR := Lib.hid hres
            subst hcb
            clear hres
            go_wp2
            go_ret
            exact ⟨by rw [HR.out]; rfl, hE2⟩
          · have hne : ((c : Int) == (b.toNat : Int)) = false := by rw [beq_eq_false_iff_ne]; omega
            have hq2 : ∀ (j : Nat) (b' : UInt8), j < q + 1 → any.data.toList[j]? = some b' → c ≠ b'.toNat := by
              intro j b' hj hb'
              rcases Nat.lt_or_ge j q with h1 | h1
              · exact hq.out j b' h1 hb'
              · obtain rfl : j = q := by omega
                rw [HAL.out] at hb'
                injection hb' with hb'
                rw [← hb']; exact hcb
            have HQ2 := Lib.hid hq2
            clear hq2 hcb
            go_wp2
            go_roundw
            case rel => exact ⟨q + 1, hiq2, hio2, hE2, HQ2⟩
            case measure =>
              simp only [World.iterPos, hiq2, HIQ.out]
              omega
        · have hnx2 : ∀ ty, (Instr.next (.pointer (some ⟨W1.heap.size, 0, none⟩)) true ty).run Tryz.prog wr = _ := fun ty => Lib.run_next_end_at wr W1.heap.size any q ty hiq hqs
          have hall : ∀ b ∈ any.data.toList, c ≠ b.toNat := by
            intro b hb
            obtain ⟨j, hj⟩ := List.getElem?_of_mem hb
            exact hq.out j b (by have := (get_list any j b hj).1; omega) hj
          have HB := Lib.hid (HANY.out hall)
          clear hall
          go_wp2
          go_roundw
          case rel => exact ⟨pos + n, hio, hEi, HB⟩
          case measure =>
            simp only [World.iterPos, hio, HIT.out]
            omega
    · have hnx : ∀ ty, (Instr.next (.pointer (some ⟨w.heap.size, 0, none⟩)) true ty).run Tryz.prog wr = _ := fun ty => Lib.run_next_end_at wr w.heap.size s pos ty hit hp
      have hnone : firstIn any.data.toList s.data.toList = none := firstIn_none _ _ (fun j b hb => hbef.out j b (by have := (get_list s j b hb).1; omega) hb)
      have HN := Lib.hid hnone
      clear hnone
      go_wp2
      go_ret
      exact ⟨by rw [HN.out]; rfl, hE⟩

set_option maxHeartbeats 4000000 in
set_option maxRecDepth 1000000 in
theorem cutLeft_calls (s any : ByteArray) (w : World) (hset : ∀ b ∈ any.data.toList, b.toNat < 128) :
    Calls Tryz.prog 110 #[.string s, .string any] w fun v w' => v = .returned (.string ⟨(leftCut s.data.toList any.data.toList).toArray⟩) ∧ Ext w w' := by
  go_enter Tryz.func110, Tryz.ntmps110
  go_wp2
  go_loopw [] (fun wr => ∃ pos : Nat, wr.heap[w.heap.size]? = some (.stringIter s pos) ∧ Ext w wr ∧ RowKit.Hid (∀ (j : Nat) (b : UInt8), j < pos → s.data.toList[j]? = some b → any.data.toList.contains b = true)) (fun wr => s.size - wr.iterPos w.heap.size)
  case atStart => exact ⟨0, World.iter_heap w s 0, (Ext.refl w).alloc _, Lib.hid (fun j b hj => absurd hj (by omega))⟩
  case round =>
    obtain ⟨pos, hit, hE, hbef⟩ := hrel
    have hsz := iter_lt hit
    by_cases hp : pos < s.size
    · have hwd := Lib.decode_width_pos s pos hp
      have hd1 := decode_le s pos
      have hin := rune_in s any.data.toList hset pos hp
      have hsp := at_list s pos hp
      obtain ⟨x, hx⟩ : ∃ x, x = s[pos]'hp := ⟨_, rfl⟩
      rw [← hx] at hin hsp
      obtain ⟨c, hc⟩ : ∃ c, c = (Utf8.decode s pos).1 := ⟨_, rfl⟩
      obtain ⟨n, hn⟩ : ∃ n, n = (Utf8.decode s pos).2 := ⟨_, rfl⟩
      obtain ⟨W1, hW1⟩ : ∃ W1, W1 = wr.iterAt w.heap.size s (pos + n) := ⟨_, rfl⟩
      have hnx : ∀ ty, (Instr.next (.pointer (some ⟨w.heap.size, 0, none⟩)) true ty).run Tryz.prog wr = .ok (.tuple #[.bool true, .int .i64 (pos : Int), .int .i32 (c : Int)]) W1 := fun ty => by
        rw [Lib.run_next_any_at wr w.heap.size s pos ty hit hp, hc, hW1, hn]
      have hit1 : W1.heap[w.heap.size]? = some (.stringIter s (pos + n)) := by rw [hW1]; exact Lib.iterAt_heap wr _ s pos (pos + n) hit
      have hE1 : Ext w W1 := by rw [hW1]; exact Lib.below_iterAt hE (Nat.le_refl _) s _
      have hlt1 := iter_lt hit1
      rw [← hc] at hd1 hin
      rw [← hn] at hwd hin
      have HSP := Lib.hid hsp
      have HIN := Lib.hid hin
      have HIT := Lib.hid hit
      clear hc hn hW1 hin hit hx hsp
      go_wp2
      go_loopw [7] (fun iv wi => ∃ (q : Nat) (ib : Bool), iv = .bool ib ∧ wi.heap[W1.heap.size]? = some (.stringIter any q) ∧ wi.heap[w.heap.size]? = some (.stringIter s (pos + n)) ∧ Ext w wi ∧ RowKit.Hid (ib = true ↔ ∃ (j : Nat) (b : UInt8), j < q ∧ any.data.toList[j]? = some b ∧ c = b.toNat)) (fun _ wi => any.size - wi.iterPos W1.heap.size)
      case atStart => exact ⟨0, false, rfl, World.iter_heap W1 any 0, iter_keep ((Ext.refl W1).alloc _) hit1, hE1.alloc _, Lib.hid ⟨fun h => by simp at h, fun ⟨j, b, h, _⟩ => absurd h (by omega)⟩⟩
      case round =>
        obtain ⟨q, ib, rfl, hiq, hio, hEi, hq⟩ := hrel
        have hszi := iter_lt hiq
        by_cases hqs : q < any.size
        · have hal := at_list any q hqs
          obtain ⟨b, hb⟩ : ∃ b, b = any[q]'hqs := ⟨_, rfl⟩
          rw [← hb] at hal
          have hb128 := hset b (List.mem_of_getElem? hal)
          obtain ⟨W2, hW2⟩ : ∃ W2, W2 = wr.iterAt W1.heap.size any (q + 1) := ⟨_, rfl⟩
          have hnx2 : ∀ ty, (Instr.next (.pointer (some ⟨W1.heap.size, 0, none⟩)) true ty).run Tryz.prog wr = .ok (.tuple #[.bool true, .int .i64 (q : Int), .int .i32 (b.toNat : Int)]) W2 := fun ty => by
            rw [Lib.run_next_ascii_at wr W1.heap.size any q ty hiq hqs (by rw [← hb]; exact hb128), ← hb, hW2]
          have hiq2 : W2.heap[W1.heap.size]? = some (.stringIter any (q + 1)) := by rw [hW2]; exact Lib.iterAt_heap wr _ any q (q + 1) hiq
          have hio2 : W2.heap[w.heap.size]? = some (.stringIter s (pos + n)) := by rw [hW2, Lib.iterAt_other _ _ _ _ _ (by omega)]; exact hio
          have hE2 : Ext w W2 := by rw [hW2]; exact Lib.below_iterAt hEi (by omega) any _
          obtain ⟨e1, he1⟩ : ∃ e1 : Bool, e1 = ((c : Int) == (b.toNat : Int)) := ⟨_, rfl⟩
          have hq2 : (ib || e1) = true ↔ ∃ (j : Nat) (b : UInt8), j < q + 1 ∧ any.data.toList[j]? = some b ∧ c = b.toNat := by
            rw [Bool.or_eq_true, hq.out]
            constructor
            · rintro (⟨j, b', h1, h2, h3⟩ | h1)
              · exact ⟨j, b', by omega, h2, h3⟩
              · refine ⟨q, b, by omega, hal, ?_⟩
                rw [he1, beq_iff_eq] at h1
                omega
            · rintro ⟨j, b', h1, h2, h3⟩
              rcases Nat.lt_or_ge j q with h4 | h4
              · exact .inl ⟨j, b', h4, h2, h3⟩
              · obtain rfl : j = q := by omega
                rw [hal] at h2
                injection h2 with h2
                right
                rw [he1, beq_iff_eq, h3, h2]
          have he2 : ((c : Int) == (b.toNat : Int)) = e1 := he1.symm
          have HIQ := Lib.hid hiq
          have HQ2 := Lib.hid hq2
          clear hal hb hW2 hiq hio hEi hq2 he1
          cases ib with
          | true =>
            go_wp2
            go_roundw
            case rel => exact ⟨q + 1, true, rfl, hiq2, hio2, hE2, HQ2⟩
            case measure =>
              simp only [World.iterPos, hiq2, HIQ.out]
              omega
          | false =>
            go_wp2
            go_roundw
            case rel => exact ⟨q + 1, e1, rfl, hiq2, hio2, hE2, HQ2⟩
            case measure =>
              simp only [World.iterPos, hiq2, HIQ.out]
              omega
        · have hnx2 : ∀ ty, (Instr.next (.pointer (some ⟨W1.heap.size, 0, none⟩)) true ty).run Tryz.prog wr = _ := fun ty => Lib.run_next_end_at wr W1.heap.size any q ty hiq hqs
          have hall : ib = any.data.toList.contains x := by
            have h1 : ib = true ↔ any.data.toList.contains x = true := by
              rw [hq.out, HIN.out.1]
              constructor
              · rintro ⟨j, b, _, h2, h3⟩
                exact ⟨b, List.mem_of_getElem? h2, h3⟩
              · rintro ⟨b, h2, h3⟩
                obtain ⟨j, hj⟩ := List.getElem?_of_mem h2
                exact ⟨j, b, by have := (get_list any j b hj).1; omega, hj, h3⟩
            cases ib <;> cases h : any.data.toList.contains x <;> simp_all
          cases ib with
          | true =>
            have hn1 := HIN.out.2 hall.symm
            have hbef2 : ∀ (j : Nat) (b : UInt8), j < pos + n → s.data.toList[j]? = some b → any.data.toList.contains b = true := by
              intro j b hj hb
              rcases Nat.lt_or_ge j pos with h1 | h1
              · exact hbef.out j b h1 hb
              · obtain rfl : j = pos := by omega
                rw [HSP.out] at hb
                injection hb with hb
                rw [← hb]; exact hall.symm
            have HB := Lib.hid hbef2
            clear hbef2 hall hn1
            go_wp2
            go_roundw
            case rel => exact ⟨pos + n, hio, hEi, HB⟩
            case measure =>
              simp only [World.iterPos, hio, HIT.out]
              omega
          | false =>
            have hres := leftCut_drop s.data.toList any.data.toList pos x HSP.out hall.symm hbef.out
            have HR := Lib.hid hres
            clear hres hall
            go_wp2
            go_ret
            exact ⟨by rw [HR.out, ← ext_drop]; rfl, hEi⟩
    · have hnx : ∀ ty, (Instr.next (.pointer (some ⟨w.heap.size, 0, none⟩)) true ty).run Tryz.prog wr = _ := fun ty => Lib.run_next_end_at wr w.heap.size s pos ty hit hp
      have hnone : leftCut s.data.toList any.data.toList = [] := leftCut_nil _ _ (fun j b hb => hbef.out j b (by have := (get_list s j b hb).1; omega) hb)
      have HN := Lib.hid hnone
      clear hnone
      go_wp2
      go_ret
      exact ⟨by rw [HN.out]; rfl, hE⟩
end Go.Proofs.YtkljejejabikiaaGreatDoor

/- Package decim: cutRight, exponent. What the library's variables hold. -/
namespace Go.Proofs.YtkljejejabikiaaGreatDoor
open Go Go.RowKit Cusp

/-- What the library's variables hold (all below block B). -/
structure Glib (B : Nat) (w : World) : Prop where
  glob : Glob B w
  u8 : Lib.Utf8Tabs 5 6 w
  ml : ∃ m, w.cell? ⟨2, 0, none⟩ = some (.int .i64 m)
  p10 : Lib.TabIs Tryz.prog w "internal/strconv.uint64pow10" .u64 Lib.pow10Tab
  pt : ∀ (i : Nat) (r : Nat × Nat), Go.Pinned.pow10Rows[i]? = some r → w.cell? ⟨9, 2 * i, none⟩ = some (.int .u64 (r.1 : Int)) ∧ w.cell? ⟨9, 2 * i + 1, none⟩ = some (.int .u64 (r.2 : Int))
  opt : w.cell? ⟨1, 0, none⟩ = some (.bool true)
theorem tab_below {n : String} {g B : Nat} {k : IntKind} {zs : List Int} {w w' : World} (hg : Tryz.prog.globalNamed n = some g) (hgB : g < B) (h : Lib.TabIs Tryz.prog w n k zs) (e : Below B w w') : Lib.TabIs Tryz.prog w' n k zs := by
  unfold Lib.TabIs World.var? at h ⊢
  rw [hg] at h ⊢
  simp only [Option.bind_some] at h ⊢
  rw [e.block g hgB]
  exact h
theorem Glib.below {B : Nat} {w w' : World} (h : Glib B w) (e : Below B w w') : Glib B w' := by
  have hm := h.glob.min
  have c : ∀ {a : Addr} {v : Value}, a.block < 13 → w.cell? a = some v → w'.cell? a = some v := fun ha hv => by rw [Below.cell e (by omega)]; exact hv
  refine ⟨h.glob.below e, ⟨fun i hi => c (by show (5 : Nat) < 13; omega) (h.u8.1 i hi), fun i hi => ⟨c (by show (6 : Nat) < 13; omega) (h.u8.2 i hi).1, c (by show (6 : Nat) < 13; omega) (h.u8.2 i hi).2⟩⟩, ?_, ?_, ?_, ?_⟩
  · obtain ⟨m, hm⟩ := h.ml
    exact ⟨m, c (by show (2 : Nat) < 13; omega) hm⟩
  · exact tab_below (g := 7) (by kernel_rfl) (by show (7 : Nat) < B; omega) h.p10 e
  · intro i r hr
    obtain ⟨h1, h2⟩ := h.pt i r hr
    exact ⟨c (by show (9 : Nat) < 13; omega) h1, c (by show (9 : Nat) < 13; omega) h2⟩
  · exact c (by show (1 : Nat) < 13; omega) h.opt
theorem Glib.ext {B : Nat} {w w' : World} (h : Glib B w) (e : Ext w w') : Glib B w' := h.below (Below.mono e h.glob.size)

def strV : Value → ByteArray
  | .string s => s
  | _ => ByteArray.empty

theorem take_last {l : List UInt8} {k : Nat} (hk : 0 < k) (hl : k ≤ l.length) : ∃ b, l[k - 1]? = some b ∧ (l.take k).getD ((l.take k).length - 1) 0 = b := by
  have h1 : k - 1 < l.length := by omega
  refine ⟨l[k - 1], List.getElem?_eq_getElem h1, ?_⟩
  rw [List.length_take, Nat.min_eq_left hl, List.getD_eq_getElem?_getD, List.getElem?_take, if_pos (by omega), List.getElem?_eq_getElem h1]
  rfl

set_option maxHeartbeats 4000000 in
set_option maxRecDepth 1000000 in
/-- Of a text whose first byte is not in the set something is left. -/
theorem cutRight_calls (s any : ByteArray) (w : World) (hs : s.size ≤ 4294967280) (hset : ∀ b ∈ any.data.toList, b.toNat < 128) (h1 : ∀ b, s.data.toList[0]? = some b → any.data.toList.contains b = false) {B : Nat} (hG : Glib B w) :
    Calls Tryz.prog 109 #[.string s, .string any] w fun v w' => ∃ t : ByteArray, v = .returned (.string t) ∧ (t.size = 0 ↔ s.size = 0) ∧ Ext w w' := by
  have hll : s.data.toList.length = s.size := (Lib.size_eq s).symm
  have HG := Lib.hid hG
  go_enter Tryz.func109, Tryz.ntmps109
  go_wp2
  go_loopw [0] (fun sv wr => ∃ (t : ByteArray) (k : Nat), sv = .string t ∧ k ≤ s.size ∧ t.size = k ∧ (k = 0 ↔ s.size = 0) ∧ RowKit.Hid (t.data.toList = s.data.toList.take k) ∧ Ext w wr) (fun sv _ => (strV sv).size)
  case atStart => exact ⟨s, s.size, rfl, Nat.le_refl _, rfl, Iff.rfl, Lib.hid (by rw [← hll, List.take_length]), Ext.refl w⟩
  case round =>
    obtain ⟨t, k, rfl, hk, htk, hk0, htl, hE⟩ := hrel
    by_cases hpos : 0 < k
    · obtain ⟨b, hb, hbl⟩ := take_last hpos (by omega : k ≤ s.data.toList.length)
      rw [← htl.out] at hbl
      have htn : t.data.toList ≠ [] := by
        intro h; rw [Lib.size_eq, h] at htk; simp at htk; omega
      have t1 : decide ((t.size : Int) > 0) = true := decide_eq_true (by omega)
      have hin := last_in t.data.toList any.data.toList hset htn b hbl
      obtain ⟨R, hR⟩ : ∃ R, R = (Lib.decodeLastL t.data.toList).1 := ⟨_, rfl⟩
      obtain ⟨N, hN⟩ : ∃ N, N = (Lib.decodeLastL t.data.toList).2 := ⟨_, rfl⟩
      rw [← hR, ← hN] at hin
      have hbf : k = 1 → any.data.toList.contains b = false := fun h => h1 b (by rw [h] at hb; exact hb)
      have HIN := Lib.hid hin
      have HR := Lib.hid hR
      have HN := Lib.hid hN
      have HBF := Lib.hid hbf
      have HTK := Lib.hid htk
      clear hin hR hN hbf hbl hb htn
      go_wp2_with fail
      refine (Tryz.utf8_DecodeLastRuneInString t _ (by omega) (HG.out.ext hE).u8).mono ?_
      rintro v w1 ⟨rfl, e1⟩
      rw [← HR.out, ← HN.out]
      have hE1 : Ext w w1 := hE.trans e1
      clear htk
      go_wp2
      go_loopw [7] (fun iv wi => ∃ (q : Nat) (ib : Bool), iv = .bool ib ∧ wi.heap[w1.heap.size]? = some (.stringIter any q) ∧ Ext w wi ∧ RowKit.Hid (ib = true ↔ ∃ (j : Nat) (b : UInt8), j < q ∧ any.data.toList[j]? = some b ∧ R = b.toNat)) (fun _ wi => any.size - wi.iterPos w1.heap.size)
      case atStart => exact ⟨0, false, rfl, World.iter_heap w1 any 0, hE1.alloc _, Lib.hid ⟨fun h => by simp at h, fun ⟨j, b, h, _⟩ => absurd h (by omega)⟩⟩
      case round =>
        obtain ⟨q, ib, rfl, hiq, hEi, hq⟩ := hrel
        have hszi := iter_lt hiq
        have hs1 := hE1.size
        by_cases hqs : q < any.size
        · have hal := at_list any q hqs
          obtain ⟨x, hx⟩ : ∃ x, x = any[q]'hqs := ⟨_, rfl⟩
          rw [← hx] at hal
          have hb128 := hset x (List.mem_of_getElem? hal)
          obtain ⟨W2, hW2⟩ : ∃ W2, W2 = wr.iterAt w1.heap.size any (q + 1) := ⟨_, rfl⟩
          have hnx2 : ∀ ty, (Instr.next (.pointer (some ⟨w1.heap.size, 0, none⟩)) true ty).run Tryz.prog wr = .ok (.tuple #[.bool true, .int .i64 (q : Int), .int .i32 (x.toNat : Int)]) W2 := fun ty => by
            rw [Lib.run_next_ascii_at wr w1.heap.size any q ty hiq hqs (by rw [← hx]; exact hb128), ← hx, hW2]
          have hiq2 : W2.heap[w1.heap.size]? = some (.stringIter any (q + 1)) := by rw [hW2]; exact Lib.iterAt_heap wr _ any q (q + 1) hiq
          have hE2 : Ext w W2 := by rw [hW2]; exact Lib.below_iterAt hEi (by omega) any _
          obtain ⟨e1, he1⟩ : ∃ e1 : Bool, e1 = ((R : Int) == (x.toNat : Int)) := ⟨_, rfl⟩
          have hq2 : (ib || e1) = true ↔ ∃ (j : Nat) (b : UInt8), j < q + 1 ∧ any.data.toList[j]? = some b ∧ R = b.toNat := by
            rw [Bool.or_eq_true, hq.out]
            constructor
            · rintro (⟨j, b', h1, h2, h3⟩ | h1)
              · exact ⟨j, b', by omega, h2, h3⟩
              · refine ⟨q, x, by omega, hal, ?_⟩
                rw [he1, beq_iff_eq] at h1
                omega
            · rintro ⟨j, b', h1, h2, h3⟩
              rcases Nat.lt_or_ge j q with h4 | h4
              · exact .inl ⟨j, b', h4, h2, h3⟩
              · obtain rfl : j = q := by omega
                rw [hal] at h2
                injection h2 with h2
                right
                rw [he1, beq_iff_eq, h3, h2]
          have he2 : ((R : Int) == (x.toNat : Int)) = e1 := he1.symm
          have HIQ := Lib.hid hiq
          have HQ2 := Lib.hid hq2
          clear hal hx hW2 hiq hEi hq2 he1
          cases ib with
          | true =>
            go_wp2
            go_roundw
            case rel => exact ⟨q + 1, true, rfl, hiq2, hE2, HQ2⟩
            case measure =>
              simp only [World.iterPos, hiq2, HIQ.out]
              omega
          | false =>
            go_wp2
            go_roundw
            case rel => exact ⟨q + 1, e1, rfl, hiq2, hE2, HQ2⟩
            case measure =>
              simp only [World.iterPos, hiq2, HIQ.out]
              omega
        · have hnx2 : ∀ ty, (Instr.next (.pointer (some ⟨w1.heap.size, 0, none⟩)) true ty).run Tryz.prog wr = _ := fun ty => Lib.run_next_end_at wr w1.heap.size any q ty hiq hqs
          have hall : ib = any.data.toList.contains b := by
            have h1 : ib = true ↔ any.data.toList.contains b = true := by
              rw [hq.out, HIN.out.1]
              constructor
              · rintro ⟨j, b, _, h2, h3⟩
                exact ⟨b, List.mem_of_getElem? h2, h3⟩
              · rintro ⟨b, h2, h3⟩
                obtain ⟨j, hj⟩ := List.getElem?_of_mem h2
                exact ⟨j, b, by have := (get_list any j b hj).1; omega, hj, h3⟩
            cases ib <;> cases h : any.data.toList.contains b <;> simp_all
          cases ib with
          | true =>
            obtain rfl := HIN.out.2 hall.symm
            have hk2 : 2 ≤ k := by
              rcases Nat.lt_or_ge k 2 with h | h
              · have := HBF.out (by omega); rw [← hall] at this; cases this
              · exact h
            have i1 : ((k : Int) - 1).toNat = k - 1 := by omega
            have hts : t.size = k := HTK.out
            have htl2 : (t.extract 0 (k - 1)).data.toList = s.data.toList.take (k - 1) := by
              rw [ext_take, htl.out, List.take_take, Nat.min_eq_left (by omega)]
            have hsz2 : (t.extract 0 (k - 1)).size = k - 1 := by
              rw [ByteArray.size_extract]; omega
            have HT2 := Lib.hid htl2
            have HSZ := Lib.hid hsz2
            clear hall htl2 hsz2
            go_wp2
            go_roundw
            case rel => exact ⟨_, k - 1, rfl, by omega, HSZ.out, by omega, HT2, hEi⟩
            case measure =>
              show (t.extract 0 (k - 1)).size < t.size
              rw [HSZ.out]; omega
          | false =>
            clear hall
            go_wp2
            go_ret
            exact ⟨t, rfl, by have := HTK.out; omega, hEi⟩
    · have t1 : decide ((k : Int) > 0) = false := decide_eq_false (by omega)
      have hz : k = 0 := by omega
      have HTK := Lib.hid htk
      go_wp2
      go_ret
      exact ⟨t, rfl, by have := HTK.out; omega, hE⟩
end Go.Proofs.YtkljejejabikiaaGreatDoor
