/- Contracts of the program's functions, and plain laws on numbers and texts (joined: IntF). -/
import Derived.Test.YtkljejejabikiaaGreatDoorV02

/- Package big's Int: lowest words, one bit, decimal texts. -/
namespace Go.Proofs.YtkljejejabikiaaGreatDoor
open Go Go.RowKit Cusp

theorem low_zero' (a : Nat) : lv ((wd a).take 2) = a % 18446744073709551616 := by
  have h1 : a = lv ((wd a).take 2) + 4294967296 ^ 2 * lv ((wd a).drop 2) := by
    rcases Nat.lt_or_ge (wd a).length 2 with h | h
    · rw [List.take_of_length_le (by omega), List.drop_eq_nil_of_le (by omega), lv_wd]; simp [lv]
    · have := lv_drop (wd a) 2 h
      rwa [lv_wd] at this
  have h2 := lv_take_lt (words_wd a) 2
  have e : (4294967296 : Nat) ^ 2 = 18446744073709551616 := by decide
  rw [e] at h1 h2
  generalize lv ((wd a).take 2) = x at *
  generalize lv ((wd a).drop 2) = y at *
  omega

set_option maxHeartbeats 1000000 in
set_option maxRecDepth 100000 in
theorem uint64_calls (xb xo : Nat) (x : Int) (w : World) (hx : IsInt w xb xo x) (hl : (wd x.natAbs).length ≤ 1000000000) :
    Calls Tryz.prog 186 #[.pointer (some ⟨xb, xo, none⟩)] w fun e w' => e = .returned (.int .u64 ((x.natAbs % 18446744073709551616 : Nat) : Int)) ∧ w' = w := by
  obtain ⟨A, n, c, h1, h2, h3⟩ := hx.ex
  obtain ⟨a, ha⟩ : ∃ a, a = x.natAbs := ⟨_, rfl⟩
  rw [← ha] at h3 hl ⊢
  clear ha
  have LL := Lib.hid h3.len
  have hfin := Lib.hid (low_zero' a)
  have hn : n ≤ 1000000000 := by rw [← LL.out]; exact hl
  go_enter Tryz.func186, Tryz.ntmps186
  go_wp2
  go_loopw [3, 11] (fun v i w' => ∃ (k : Nat), k ≤ n ∧ i = .int .i64 k ∧ v = .int .u64 ((lv ((wd a).take (min k 2)) : Nat) : Int) ∧ w' = w) (fun _ i _ => n - (intOf i).toNat)
  case atStart => exact ⟨0, by omega, rfl, by simp [lv], rfl⟩
  case round =>
    obtain ⟨k, hk, rfl, rfl, rfl⟩ := hrel
    by_cases hlt : k < n
    · obtain ⟨b1, o1, rfl, x1⟩ := h3.at_ k hlt
      have r1 := ix_words (words_wd a) k
      have hs := lv_take_succ (wd a) k
      rcases Nat.lt_or_ge k 2 with h | h
      · have hk2 : min k 2 = k := by omega
        have hk3 : min (k + 1) 2 = k + 1 := by omega
        rw [hk2]
        obtain ⟨X, hX⟩ : ∃ X : Nat, ix (wd a) k = (X : Int) := ⟨(ix (wd a) k).toNat, by omega⟩
        rw [hX] at x1 r1 hs
        rw [Int.toNat_natCast] at hs
        have HS := Lib.hid hs
        clear hX hs hk2
        have HK := Lib.hid hk3; clear hk3
        rcases Nat.eq_zero_or_pos k with h0 | h0
        · subst h0
          have e0 : lv ((wd a).take 0) = 0 := by simp [lv]
          rw [e0]
          rw [Nat.add_zero] at x1
          have e1 : bits .or .u64 0 (X : Int) = (X : Int) := by
            have h := or_low (r := 0) (x := (X : Int)) (by omega) r1.1 r1.2
            simpa using h
          go_wp2
          go_roundw
          case rel => exact ⟨1, by omega, rfl, by show _ = Value.int .u64 ((lv ((wd a).take (0 + 1)) : Nat) : Int); rw [HS.out, e0]; simp, trivial⟩
          case measure => simp [intOf]; omega
        · obtain rfl : k = 1 := by omega
          obtain ⟨Y, hY⟩ : ∃ Y : Nat, Y = lv ((wd a).take 1) := ⟨_, rfl⟩
          have hYlt := lv_take_lt (words_wd a) 1
          rw [← hY] at hYlt HS ⊢
          clear hY
          have e1 : bits .or .u64 (Y : Int) ((X : Int) * 4294967296) = (Y : Int) + 4294967296 * (X : Int) := or_high (by omega) (by omega) r1.1 r1.2
          go_wp2
          go_roundw
          case rel => exact ⟨2, by omega, rfl, by show _ = Value.int .u64 ((lv ((wd a).take (1 + 1)) : Nat) : Int); rw [HS.out]; simp, trivial⟩
          case measure => simp [intOf]; omega
      · have hk2 : min k 2 = 2 := by omega
        have hk3 : min (k + 1) 2 = 2 := by omega
        rw [hk2]
        have t1 : ¬ (k : Int) < 2 := by omega
        go_wp2
        go_roundw
        case rel => exact ⟨k + 1, by omega, by simp, by rw [hk3], trivial⟩
        case measure => simp [intOf]; omega
    · obtain rfl : k = n := by omega
      have e : lv ((wd a).take (min k 2)) = a % 18446744073709551616 := by
        rw [← hfin.out]
        rcases Nat.lt_or_ge k 2 with h | h
        · rw [show min k 2 = k by omega, List.take_of_length_le (by rw [LL.out]; omega), List.take_of_length_le (by rw [LL.out]; omega)]
        · rw [show min k 2 = 2 by omega]
      rw [e]
      go_wp2
      go_ret
      exact ⟨rfl, rfl⟩

theorem bit_plain (a i : Nat) : (ix (wd a) (i / 32)).toNat / 2 ^ (i % 32) % 2 = a / 2 ^ i % 2 := by
  have h1 := lv_div (words_wd a) (i / 32)
  rw [lv_wd, lv_drop_step] at h1
  have e : 2 ^ i = 4294967296 ^ (i / 32) * 2 ^ (i % 32) := by
    have : (4294967296 : Nat) ^ (i / 32) = 2 ^ (32 * (i / 32)) := by rw [Nat.pow_mul]
    rw [this, ← Nat.pow_add, Nat.div_add_mod]
  rw [e, ← Nat.div_div_eq_div_mul, h1]
  have hr : i % 32 < 32 := Nat.mod_lt _ (by omega)
  generalize i % 32 = r at *
  have e2 : (4294967296 : Nat) = 2 ^ r * (2 * 2 ^ (31 - r)) := by
    rw [← Nat.pow_succ', ← Nat.pow_add]
    have : r + (31 - r).succ = 32 := by omega
    rw [this]
  generalize lv ((wd a).drop (i / 32 + 1)) = y
  generalize (ix (wd a) (i / 32)).toNat = x
  have hp : 0 < 2 ^ r := Nat.pow_pos (by omega)
  have e3 : (x + 4294967296 * y) / 2 ^ r = x / 2 ^ r + 2 * (2 ^ (31 - r) * y) := by
    have : x + 4294967296 * y = x + 2 ^ r * (2 * (2 ^ (31 - r) * y)) := by
      conv => lhs; rw [e2]
      simp only [Nat.mul_assoc]
    rw [this, Nat.add_mul_div_left _ _ hp]
  rw [e3, Nat.add_mul_mod_self_left]

theorem and_one (v : Nat) (h : v < 18446744073709551616) : bits .and .u64 (v : Int) 1 = ((v % 2 : Nat) : Int) := by
  have h1 := bits_and_u64_nat v 1 h (by omega)
  rw [show ((1 : Nat) : Int) = 1 from rfl] at h1
  rw [h1, Nat.and_one_is_mod]

set_option maxHeartbeats 1000000 in
set_option maxRecDepth 100000 in
theorem bit_calls (xb xo : Nat) (x : Int) (i : Nat) (w : World) (hx : IsInt w xb xo x) (hl : (wd x.natAbs).length ≤ 1000000000) (hi : i ≤ 100000000000) :
    Calls Tryz.prog 147 #[.pointer (some ⟨xb, xo, none⟩), .int .i64 (i : Int)] w fun e w' => e = .returned (.int .u64 ((x.natAbs / 2 ^ i % 2 : Nat) : Int)) ∧ w' = w := by
  obtain ⟨A, n, c, h1, h2, h3⟩ := hx.ex
  obtain ⟨a, ha⟩ : ∃ a, a = x.natAbs := ⟨_, rfl⟩
  rw [← ha] at h3 hl ⊢
  clear ha
  have LL := Lib.hid h3.len
  have hn : n ≤ 1000000000 := by rw [← LL.out]; exact hl
  have hb := bit_plain a i
  obtain ⟨q, hq⟩ : ∃ q, q = i / 32 := ⟨_, rfl⟩
  obtain ⟨r, hr⟩ : ∃ r, r = i % 32 := ⟨_, rfl⟩
  have e1 : (i : Int).tdiv 32 = (q : Int) := by rw [hq]; exact (Int.ofNat_tdiv i 32).symm
  have e2 : (i : Int).tmod 32 = (r : Int) := by rw [hr]; exact (Int.ofNat_tmod i 32).symm
  have hr32 : r < 32 := by omega
  have hqb : q ≤ 100000000000 := by omega
  rw [← hq, ← hr] at hb
  have HB := Lib.hid hb
  clear hb hq hr
  by_cases hlt : q < n
  · obtain ⟨b1, o1, rfl, x1⟩ := h3.at_ q hlt
    have r1 := ix_words (words_wd a) q
    obtain ⟨X, hX⟩ : ∃ X : Nat, ix (wd a) q = (X : Int) := ⟨(ix (wd a) q).toNat, by omega⟩
    rw [hX] at x1 r1 HB
    rw [Int.toNat_natCast] at HB
    clear hX
    have t1 : ¬ (n : Int) ≤ (q : Int) := by omega
    go_enter Tryz.func147, Tryz.ntmps147
    go_wp2
    go_ret
    refine ⟨?_, rfl⟩
    apply ret_int
    show bits .and .u64 (IntKind.u64.wrap ((X : Int) / 2 ^ r)) 1 = (a : Int) / 2 ^ i % 2
    have c1 : (X : Int) / 2 ^ r = ((X / 2 ^ r : Nat) : Int) := by rw [Int.natCast_ediv, Int.natCast_pow]; rfl
    have c2 : (a : Int) / 2 ^ i % 2 = ((a / 2 ^ i % 2 : Nat) : Int) := by rw [Int.natCast_emod, Int.natCast_ediv, Int.natCast_pow]; rfl
    have c3 : X / 2 ^ r ≤ X := Nat.div_le_self _ _
    rw [c1, c2, ← HB.out]
    generalize X / 2 ^ r = Z at *
    have c4 : IntKind.u64.wrap (Z : Int) = (Z : Int) := by rw [IntKind.wrap_u64]; omega
    rw [c4, and_one Z (by omega)]
  · have t1 : (n : Int) ≤ (q : Int) := by omega
    have h0 : a / 2 ^ i % 2 = 0 := by
      rw [← HB.out, ix_of_ge (by rw [LL.out]; omega)]; simp
    rw [h0]
    go_enter Tryz.func147, Tryz.ntmps147
    go_wp2
    go_ret
    exact ⟨rfl, rfl⟩
set_option maxHeartbeats 1000000 in
set_option maxRecDepth 100000 in
theorem int64_calls (xb xo : Nat) (x : Int) (w : World) (hx : IsInt w xb xo x) (h : x.natAbs < 9223372036854775808) :
    Calls Tryz.prog 117 #[.pointer (some ⟨xb, xo, none⟩)] w fun e w' => e = .returned (.int .i64 x) ∧ w' = w := by
  obtain ⟨A, n, c, h1, h2, h3⟩ := hx.ex
  have hl' : (wd x.natAbs).length ≤ 1000000000 := Nat.le_trans (len_wd_small (by omega)) (by omega)
  have hl := Lib.hid hl'
  have hm : x.natAbs % 18446744073709551616 = x.natAbs := by omega
  obtain ⟨u, hu⟩ : ∃ u, u = x.natAbs := ⟨_, rfl⟩
  have hu2 : u < 9223372036854775808 := by omega
  rw [← hu] at hm
  have HM := Lib.hid hm
  have HU := Lib.hid hu
  clear hm h hl' hu
  by_cases hneg : x < 0
  · have hd : decide (x < 0) = true := decide_eq_true hneg
    go_enter Tryz.func117, Tryz.ntmps117
    go_wp2_with fail
    refine (uint64_calls _ _ _ _ hx hl.out).mono ?_
    rintro e w1 ⟨rfl, rfl⟩
    rw [← HU.out, HM.out]
    go_wp2
    go_ret
    refine ⟨ret_int ?_, rfl⟩
    have := HU.out
    omega
  · have hd : decide (x < 0) = false := decide_eq_false hneg
    go_enter Tryz.func117, Tryz.ntmps117
    go_wp2_with fail
    refine (uint64_calls _ _ _ _ hx hl.out).mono ?_
    rintro e w1 ⟨rfl, rfl⟩
    rw [← HU.out, HM.out]
    go_wp2
    go_ret
    refine ⟨ret_int ?_, rfl⟩
    have := HU.out
    omega

theorem dec_len (a : Nat) : (dec a).length ≤ 32 * (wd a).length + 1 := by
  unfold dec
  split
  · simp
  · rw [List.length_reverse]
    have h1 := dg_len a
    have h2 := bl_len (a := a) rfl
    omega
/-- A number's decimal text. -/
def decI (x : Int) : List Int := if x < 0 then 45 :: dec x.natAbs else dec x.natAbs

set_option maxHeartbeats 1000000 in
set_option maxRecDepth 100000 in
theorem intText_calls (xb xo : Nat) (x : Int) (w : World) (hx : IsInt w xb xo x) (hl : (wd x.natAbs).length ≤ 100000000) :
    Calls Tryz.prog 148 #[.pointer (some ⟨xb, xo, none⟩), .int .i64 10] w fun e w' => e = .returned (.string (strOfNums (decI x))) ∧ Ext w w' := by
  obtain ⟨A, n, c, h1, h2, h3⟩ := hx.ex
  have hsz : (strOfNums (dec x.natAbs)).size ≤ 100000000000 := by rw [st_size]; have := dec_len x.natAbs; omega
  rw [h3.len] at hl
  by_cases hneg : x < 0
  · have hd : decide (x < 0) = true := decide_eq_true hneg
    go_enter Tryz.func148, Tryz.ntmps148
    go_wp2_with fail
    refine (text_calls _ _ _ _ _ h3 hl).mono ?_
    rintro e w1 ⟨rfl, hx1⟩
    go_wp2
    go_ret
    refine ⟨?_, hx1⟩
    unfold decI
    rw [if_pos hneg]
    show Ending.returned (.string (strOfNums [45] ++ strOfNums (dec x.natAbs))) = _
    rw [st_append]; rfl
  · have hd : decide (x < 0) = false := decide_eq_false hneg
    go_enter Tryz.func148, Tryz.ntmps148
    go_wp2_with fail
    refine (text_calls _ _ _ _ _ h3 hl).mono ?_
    rintro e w1 ⟨rfl, hx1⟩
    go_wp2
    go_ret
    refine ⟨?_, hx1⟩
    unfold decI
    rw [if_neg (by omega)]; rfl

set_option maxHeartbeats 1000000 in
set_option maxRecDepth 100000 in
theorem string_calls (xb xo : Nat) (x : Int) (w : World) (hx : IsInt w xb xo x) (hl : (wd x.natAbs).length ≤ 100000000) :
    Calls Tryz.prog 77 #[.pointer (some ⟨xb, xo, none⟩)] w fun e w' => e = .returned (.string (strOfNums (decI x))) ∧ Ext w w' := by
  go_enter Tryz.func77, Tryz.ntmps77
  go_wp2_with fail
  refine (intText_calls _ _ _ _ hx hl).mono ?_
  rintro e w1 ⟨rfl, hx1⟩
  go_wp2
  go_ret
  exact ⟨rfl, hx1⟩
end Go.Proofs.YtkljejejabikiaaGreatDoor
