/- Contracts of the program's functions, and plain laws on numbers and texts (joined: IntG, StrB, IntH, DyaA, DyaB, DyaC, Flo, FloB, MatA, FloC, MatB, Rnd, RndB). -/
import Derived.Test.YtkljejejabikiaaGreatDoorV03
import Derived.Test.YtkljejejabikiaaGreatDoorV04
import Derived.Test.YtkljejejabikiaaGreatDoorV02
import Derived.Lib.Case
import Derived.Lib.Bytealg
import Derived.Test.YtkljejejabikiaaGreatDoorV01
import Ieee.Arith
import Derived.Laws.Externs
import Derived.Laws.BitsAllLaws
import Derived.Laws.FloatArith

/- Package big's Exp: powers of a number from 1 on. -/
namespace Go.Proofs.YtkljejejabikiaaGreatDoor
open Go Go.RowKit Cusp

theorem pow_step (x Y k : Nat) : x ^ (Y / 2 ^ (k + 1)) * x ^ (Y / 2 ^ (k + 1)) * (if Y / 2 ^ k % 2 = 1 then x else 1) = x ^ (Y / 2 ^ k) := by
  have e : Y / 2 ^ (k + 1) = Y / 2 ^ k / 2 := by rw [Nat.pow_succ, Nat.div_div_eq_div_mul]
  rw [e]
  generalize Y / 2 ^ k = q
  have h : q = q / 2 + q / 2 + q % 2 := by omega
  conv => rhs; rw [h, Nat.pow_add, Nat.pow_add]
  split
  · rename_i h1; rw [h1, Nat.pow_one]
  · rename_i h1
    have : q % 2 = 0 := by omega
    rw [this, Nat.pow_zero]

theorem pow_len {x Y e : Nat} (hx : 0 < x) (he : e ≤ Y) {L : Nat} (h : (wd (x ^ Y)).length ≤ L) : (wd (x ^ e)).length ≤ L :=
  Nat.le_trans (len_wd_mono (Nat.pow_le_pow_right hx he)) h

set_option maxHeartbeats 4000000 in
set_option maxRecDepth 100000 in
theorem exp_calls (zb zo xb xo yb yo : Nat) (z : Int) (x Y : Nat) (w : World) (hz : IsInt w zb zo z) (hx : IsInt w xb xo (x : Int)) (hy : IsInt w yb yo (Y : Int)) (hx0 : 0 < x) (hY : Y ≤ 1000000000) (hL : (wd (x ^ Y)).length ≤ 100000000) (hLx : (wd x).length ≤ 100000000) :
    Calls Tryz.prog 74 #[.pointer (some ⟨zb, zo, none⟩), .pointer (some ⟨xb, xo, none⟩), .pointer (some ⟨yb, yo, none⟩), .pointer none] w fun e w' =>
      e = .returned (.pointer (some ⟨zb, zo, none⟩)) ∧ IsInt w' zb zo ((x ^ Y : Nat) : Int) ∧ Wr zb zo w w' := by
  have hlt := hz.lt
  have hxlt := hx.lt
  have hylt := hy.lt
  have hYl : (wd ((Y : Int)).natAbs).length ≤ 1000000000 := by rw [Int.natAbs_natCast]; exact Nat.le_trans (len_wd_small (by omega)) (by omega)
  have hYb : bl Y ≤ 64 := bl_le_of_lt (by simp only [show (2 : Nat) ^ 64 = 18446744073709551616 from by decide]; omega)
  have hYbits := Lib.hid (lt_bl Y)
  go_enter Tryz.func74, Tryz.ntmps74
  go_wp2_with fail
  refine (newInt_calls 1 _ (by omega) (by omega)).mono ?_
  rintro e w1 ⟨rfl, hI1, hx1⟩
  go_wp2_with fail
  refine (intBitLen_calls _ _ _ _ (hy.ext hx1) hYl).mono ?_
  rintro e w2 ⟨rfl, hx2⟩
  rw [Int.natAbs_natCast]
  go_wp2
  go_loopw [10] (fun i wr => ∃ k : Nat, k ≤ bl Y ∧ i = .int .i64 ((k : Int) - 1) ∧ IsInt wr w.heap.size 0 ((x ^ (Y / 2 ^ k) : Nat) : Int) ∧ Ext w wr) (fun i _ => (intOf i + 1).toNat)
  case atStart =>
    refine ⟨bl Y, Nat.le_refl _, rfl, ?_, hx1.trans hx2⟩
    rw [Nat.div_eq_of_lt hYbits.out, Nat.pow_zero]
    exact hI1.ext hx2
  case round =>
    obtain ⟨k, hk, rfl, hI, hE⟩ := hrel
    cases k with
    | zero =>
      rw [show ((0 : Nat) : Int) - 1 = -1 from rfl]
      rw [Nat.pow_zero, Nat.div_one] at hI
      go_wp2_with fail
      refine (set_calls _ _ _ _ _ _ _ (hz.ext hE) hI).mono ?_
      rintro e w3 ⟨rfl, hI3, hW3⟩
      go_wp2
      go_ret
      exact ⟨rfl, hI3, Wr.ext_left hE hlt hW3⟩
    | succ k =>
      rw [show ((k + 1 : Nat) : Int) - 1 = (k : Int) by omega]
      have hps := Lib.hid (pow_step x Y k)
      have hsz := hE.size
      have hl1 : (wd ((x ^ (Y / 2 ^ (k + 1)) : Nat) : Int).natAbs).length ≤ 1000000000 := by
        rw [Int.natAbs_natCast]; exact Nat.le_trans (pow_len hx0 (Nat.div_le_self _ _) hL) (by omega)
      obtain ⟨P, hP⟩ : ∃ P, P = x ^ (Y / 2 ^ (k + 1)) := ⟨_, rfl⟩
      rw [← hP] at hI hps hl1
      clear hP
      have HL1 := Lib.hid hl1
      clear hl1
      go_wp2_with fail
      refine (intMul_calls _ _ _ _ _ _ _ (P : Int) (P : Int) _ hI hI hI HL1.out HL1.out).mono ?_
      rintro e w3 ⟨rfl, hI3, hW3⟩
      have hE3 : Ext w w3 := Wr.own_ext hE (Nat.le_refl _) hW3
      go_wp2_with fail
      refine (bit_calls _ _ _ k _ (hy.ext hE3) hYl (by omega)).mono ?_
      rintro e w4 ⟨rfl, rfl⟩
      rw [Int.natAbs_natCast]
      by_cases hb : Y / 2 ^ k % 2 = 1
      · rw [if_pos hb] at hps
        rw [hb]
        have hl3 : (wd ((P : Int) * (P : Int)).natAbs).length ≤ 1000000000 := by
          rw [← Int.natCast_mul, Int.natAbs_natCast]
          refine Nat.le_trans (len_wd_mono ?_) (Nat.le_trans (pow_len hx0 (Nat.div_le_self Y (2 ^ k)) hL) (by omega))
          rw [← hps.out]
          exact Nat.le_mul_of_pos_right _ hx0
        have HL3 := Lib.hid hl3
        clear hl3
        go_wp2_with fail
        refine (intMul_calls _ _ _ _ _ _ _ ((P : Int) * (P : Int)) (x : Int) _ hI3 hI3 (hx.ext hE3) HL3.out (by rw [Int.natAbs_natCast]; omega)).mono ?_
        rintro e w5 ⟨rfl, hI5, hW5⟩
        have hE5 : Ext w w5 := Wr.own_ext hE3 (Nat.le_refl _) hW5
        go_wp2
        go_roundw
        case rel => exact ⟨k, by omega, rfl, by rw [← hps.out, Int.natCast_mul, Int.natCast_mul]; exact hI5, hE5⟩
        case measure => simp [intOf]
      · rw [if_neg hb, Nat.mul_one] at hps
        have hb0 : Y / 2 ^ k % 2 = 0 := by omega
        rw [hb0]
        go_wp2
        go_roundw
        case rel => exact ⟨k, by omega, rfl, by rw [← hps.out, Int.natCast_mul]; exact hI3, hE3⟩
        case measure => simp [intOf]
end Go.Proofs.YtkljejejabikiaaGreatDoor

/- Digits of a text and what number they tell. Plain. -/
namespace Cusp
open Go

/-- Is a byte a digit to the base (10 or 16)? -/
def isDig (base : Nat) (b : UInt8) : Bool := (48 ≤ b && b ≤ 57) || (base == 16 && ((65 ≤ b && b ≤ 70) || (97 ≤ b && b ≤ 102)))
/-- What a digit tells. -/
def digV (b : UInt8) : Nat := if b ≤ 57 then b.toNat - 48 else if b ≤ 70 then b.toNat - 55 else b.toNat - 87
/-- What digits tell. -/
def numV (base : Nat) (l : List UInt8) : Nat := l.foldl (fun n b => n * base + digV b) 0

def digs : List UInt8 := [48, 49, 50, 51, 52, 53, 54, 55, 56, 57, 97, 98, 99, 100, 101, 102, 103, 104, 105, 106, 107, 108, 109, 110, 111, 112, 113, 114, 115, 116, 117, 118, 119, 120, 121, 122]
theorem all_bytes (p : UInt8 → Prop) [∀ b, Decidable (p b)] (h : ∀ n : Fin 256, p (UInt8.ofNat n.val)) (b : UInt8) : p b := by
  have h1 := h ⟨b.toNat, b.toNat_lt⟩
  simpa using h1
theorem dig10 (b : UInt8) : isDig 10 b = true → Lib.indexByte (digs.take 10) (Lib.lowerB b) = (digV b : Int) ∧ digV b < 10 ∧ b.toNat < 128 ∧ b ≠ 45 ∧ b ≠ 43 :=
  all_bytes (fun b => isDig 10 b = true → Lib.indexByte (digs.take 10) (Lib.lowerB b) = (digV b : Int) ∧ digV b < 10 ∧ b.toNat < 128 ∧ b ≠ 45 ∧ b ≠ 43) (by decide +kernel) b
theorem dig16 (b : UInt8) : isDig 16 b = true → Lib.indexByte (digs.take 16) (Lib.lowerB b) = (digV b : Int) ∧ digV b < 16 ∧ b.toNat < 128 ∧ b ≠ 45 ∧ b ≠ 43 :=
  all_bytes (fun b => isDig 16 b = true → Lib.indexByte (digs.take 16) (Lib.lowerB b) = (digV b : Int) ∧ digV b < 16 ∧ b.toNat < 128 ∧ b ≠ 45 ∧ b ≠ 43) (by decide +kernel) b
theorem dig_any (base : Nat) (hb : base = 10 ∨ base = 16) (b : UInt8) (h : isDig base b = true) : Lib.indexByte (digs.take base) (Lib.lowerB b) = (digV b : Int) ∧ digV b < base ∧ b.toNat < 128 ∧ b ≠ 45 ∧ b ≠ 43 := by
  rcases hb with rfl | rfl
  · exact dig10 b h
  · exact dig16 b h
theorem numV_snoc (base : Nat) (l : List UInt8) (b : UInt8) : numV base (l ++ [b]) = numV base l * base + digV b := by
  unfold numV; rw [List.foldl_append]; rfl
theorem numV_take (base : Nat) (l : List UInt8) (k : Nat) (h : k < l.length) : numV base (l.take (k + 1)) = numV base (l.take k) * base + digV l[k] := by
  rw [List.take_succ_eq_append_getElem h, numV_snoc]
theorem numV_lt (base : Nat) (hb : base = 10 ∨ base = 16) (l : List UInt8) (h : ∀ b ∈ l, isDig base b = true) (k : Nat) (hk : k ≤ l.length) : numV base (l.take k) < base ^ k := by
  induction k with
  | zero => simp [numV]
  | succ k ih =>
    rw [numV_take _ _ _ (by omega), Nat.pow_succ]
    have h1 := ih (by omega)
    have h2 := (dig_any base hb l[k] (h _ (List.getElem_mem _))).2.1
    generalize numV base (l.take k) = x at *
    generalize digV l[k] = y at *
    generalize base ^ k = p at *
    have : (x + 1) * base ≤ p * base := Nat.mul_le_mul_right _ h1
    rw [Nat.add_mul, Nat.one_mul] at this
    omega
end Cusp

/- Package big's SetString at digits. -/
namespace Go.Proofs.YtkljejejabikiaaGreatDoor
open Go Go.RowKit Cusp

theorem no_prefix (l : List UInt8) (p : UInt8) (h : ∀ b ∈ l, b ≠ p) : Lib.hasPrefix l [p] = false := by
  unfold Lib.hasPrefix
  cases l with
  | nil => rfl
  | cons b l =>
    have := h b (List.mem_cons_self ..)
    simp [List.isPrefixOf]
    intro e; exact absurd e.symm this
theorem trim_none (l p : List UInt8) (h : Lib.hasPrefix l p = false) : Lib.trimPrefix l p = l := by
  unfold Lib.trimPrefix; rw [h]; rfl
theorem row_at (W : World) (s : ByteArray) (cap : Nat) (e : TypeId) (fr : Nat × Nat) (j : Nat) (hj : j < s.data.size) : (W.alloc (.cells (bytesRow s cap) e fr)).cell? ⟨W.heap.size, j, none⟩ = some (.int .u8 (s.data[j].toNat : Int)) := by
  simp only [World.cell?, heap_alloc_new]
  simpa using bytesRow_at s cap j hj

set_option maxHeartbeats 4000000 in
set_option maxRecDepth 100000 in
theorem setString_calls (zb zo : Nat) (z : Int) (base : Nat) (hb : base = 10 ∨ base = 16) (s : ByteArray) (w : World) (hz : IsInt w zb zo z) (hd : ∀ b ∈ s.data.toList, isDig base b = true) (h0 : 0 < s.size) (hs : s.size ≤ 100000000) :
    Calls Tryz.prog 111 #[.pointer (some ⟨zb, zo, none⟩), .string s, .int .i64 (base : Int)] w fun e w' =>
      e = .returned (.tuple #[.pointer (some ⟨zb, zo, none⟩), .bool true]) ∧ IsInt w' zb zo ((numV base s.data.toList : Nat) : Int) ∧ Wr zb zo w w' := by
  have hltz := hz.lt
  have p1 := no_prefix s.data.toList 45 (fun b hb' => (dig_any base hb b (hd b hb')).2.2.2.1)
  have p2 := no_prefix s.data.toList 43 (fun b hb' => (dig_any base hb b (hd b hb')).2.2.2.2)
  have q1 := trim_none _ _ p1
  have q2 := trim_none _ _ p2
  have hbb : base ≤ 36 := by omega
  have hasc : ∀ (j : Nat) (b : UInt8), s.data.toList[j]? = some b → b.toNat < 128 := fun j b hj => (dig_any base hb b (hd b (List.mem_of_getElem? hj))).2.2.1
  go_enter Tryz.func111, Tryz.ntmps111
  go_wp2_with fail
  refine (Tryz.strings_CutPrefix s ⟨#[45]⟩ _).mono ?_
  rintro e w1 ⟨rfl, rfl⟩
  rw [show (ByteArray.mk #[45]).data.toList = [45] from rfl, p1, q1]
  go_wp2_with fail
  refine (Tryz.strings_TrimPrefix s ⟨#[43]⟩ _).mono ?_
  rintro e w2 ⟨rfl, rfl⟩
  rw [show (ByteArray.mk #[43]).data.toList = [43] from rfl, q2]
  go_wp2_with fail
  refine (Tryz.strings_ToLower_ascii s _ (by omega) hasc).mono ?_
  rintro e w3 ⟨rfl, hx3⟩
  obtain ⟨D, hD⟩ : ∃ D : ByteArray, D = ⟨(Lib.toLowerA s.data.toList).toArray⟩ := ⟨_, rfl⟩
  have hDl : D.size = s.size := by rw [hD]; show (Lib.toLowerA s.data.toList).toArray.size = s.data.size; simp [Lib.toLowerA]
  have hDs : ∀ k (hk : k < s.data.toList.length), ∃ h : k < D.data.size, D.data[k] = Lib.lowerB s.data.toList[k] := by
    intro k hk
    subst hD
    exact ⟨by simpa [Lib.toLowerA] using hk, by simp [Lib.toLowerA]⟩
  rw [← hD]
  obtain ⟨N, hN⟩ : ∃ N, s.size = N := ⟨_, rfl⟩
  rw [hN] at hDl h0 hs
  have HN := Lib.hid hN
  have HDs := Lib.hid hDs
  clear hD hDs hN
  have hcv := run_bytes_of_string (P := Tryz.prog) w3 9 116 5 D Tryz.underlying9 Tryz.underlying116 Tryz.underlying5
  obtain ⟨cap, hcap⟩ : ∃ cap, cap = grownCap w3 D.size 0 5 := ⟨_, rfl⟩
  rw [← hcap, hDl] at hcv
  have HDl := Lib.hid hDl
  clear hcap hDl
  have hrow : ∀ (j : Nat) (hj : j < D.data.size), (w3.drew.alloc (.cells (bytesRow D cap) 5 ((bytesRow D cap).size, (bytesRow D cap).size + 1))).cell? ⟨w3.heap.size, j, none⟩ = some (.int .u8 (D.data[j].toNat : Int)) := fun j hj => row_at w3.drew D cap 5 ((bytesRow D cap).size, (bytesRow D cap).size + 1) j hj
  obtain ⟨W4, hW4⟩ : ∃ W4, W4 = w3.drew.alloc (.cells (bytesRow D cap) 5 ((bytesRow D cap).size, (bytesRow D cap).size + 1)) := ⟨_, rfl⟩
  have hx4 : Ext w3 W4 := by rw [hW4]; exact (Ext.drew w3).alloc _
  rw [← hW4] at hcv hrow
  clear hW4
  have HR := Lib.hid hrow
  clear hrow
  go_wp2_with fail
  go_loopw [10, 27] (fun nv i wr => ∃ (k : Nat) (A : Option Addr) (n c : Nat), k ≤ N ∧ i = .int .i64 k ∧ nv = .slice A n c ∧ Nt wr A n c (numV base (s.data.toList.take k)) ∧ Ext W4 wr) (fun _ i _ => N - (intOf i).toNat)
  case atStart => exact ⟨0, none, 0, 0, by omega, rfl, rfl, by unfold Nt; rw [show numV base (s.data.toList.take 0) = 0 from rfl, wd_zero]; exact Rd.nil _ _ _ _ (by omega), Ext.refl _⟩
  case round =>
    obtain ⟨k, A, n, c, hk, rfl, rfl, hn, hE⟩ := hrel
    by_cases hlt : k < N
    · have x1 := hE.cell (HR.out k (by have := HDl.out; show k < D.size; omega))
      obtain ⟨X, hX⟩ : ∃ X : Nat, X = (D.data[k]'(by have := HDl.out; show k < D.size; omega)).toNat := ⟨_, rfl⟩
      rw [← hX] at x1
      have HX := Lib.hid hX
      clear hX
      have hkl : k < s.data.toList.length := by rw [Array.length_toList]; have h : s.data.size = N := HN.out; omega
      obtain ⟨hkD, hDk⟩ := HDs.out k hkl
      have hb0 := dig_any base hb s.data.toList[k] (hd _ (List.getElem_mem _))
      have hnum := Lib.hid (numV_take base s.data.toList k hkl)
      have hidx : Lib.indexByte (((ByteArray.mk #[48, 49, 50, 51, 52, 53, 54, 55, 56, 57, 97, 98, 99, 100, 101, 102, 103, 104, 105, 106, 107, 108, 109, 110, 111, 112, 113, 114, 115, 116, 117, 118, 119, 120, 121, 122]).extract 0 base).data.toList) ((X : Int).toNat.toUInt8) = (digV s.data.toList[k] : Int) := by
        rw [← hb0.1]
        congr 1
        · rw [ByteArray.data_extract]; simp [digs]
        · rw [HX.out, hDk]; simp
      have hdv := hb0.2.1
      obtain ⟨V, hV⟩ : ∃ V, V = digV s.data.toList[k] := ⟨_, rfl⟩
      rw [← hV] at hidx hdv hnum
      clear hV hb0 hDk
      have hlen : n ≤ 100000000 := by
        rw [← hn.len]
        refine Nat.le_trans (len_wd_le (k := k) (Nat.lt_of_lt_of_le (numV_lt base hb _ hd k (by omega)) (Nat.pow_le_pow_left (by omega) k))) (by omega)
      have HI := Lib.hid hidx
      clear hidx
      go_wp2_with fail
      refine (Tryz.strings_IndexByte _ _ _).mono ?_
      rintro e w5 ⟨rfl, rfl⟩
      rw [HI.out]
      go_wp2_with fail
      refine (small_calls (base : Int) _ (by omega) (by omega)).mono ?_
      rintro e w6 ⟨A6, n6, c6, rfl, hn6, hx6⟩
      rw [Int.toNat_natCast] at hn6
      have hl6 : n6 ≤ 2 := by rw [← hn6.len]; exact len_wd_small (by omega)
      go_wp2_with fail
      refine (mul_calls _ _ _ _ _ _ _ base _ (hn.ext hx6) hn6 (by omega) (by omega)).mono ?_
      rintro e w7 ⟨A7, n7, c7, rfl, hn7, hx7⟩
      have hl7 : n7 ≤ 100000002 := by
        have h1 := len_wd_mul (numV base (s.data.toList.take k)) base
        have h2 := hn7.len
        have h3 := hn.len
        have h4 := hn6.len
        omega
      go_wp2_with fail
      refine (small_calls (V : Int) _ (by omega) (by omega)).mono ?_
      rintro e w8 ⟨A8, n8, c8, rfl, hn8, hx8⟩
      rw [Int.toNat_natCast] at hn8
      have hl8 : n8 ≤ 2 := by rw [← hn8.len]; exact len_wd_small (by omega)
      go_wp2_with fail
      refine (add_calls _ _ _ _ _ _ _ V _ (hn7.ext hx8) hn8 (by omega) (by omega)).mono ?_
      rintro e w9 ⟨A9, n9, c9, rfl, hn9, hx9⟩
      go_wp2
      go_roundw
      case rel => exact ⟨k + 1, A9, n9, c9, by omega, by simp, rfl, by rw [hnum.out]; exact hn9, hE.trans (hx6.trans (hx7.trans (hx8.trans hx9)))⟩
      case measure => simp [intOf]; omega
    · have hkN : k = N := by omega
      have htk : s.data.toList.take k = s.data.toList := List.take_of_length_le (by rw [Array.length_toList]; have := HN.out; rw [hkN, ← this]; exact Nat.le_refl _)
      rw [htk] at hn
      have hEE : Ext w2 wr := Ext.trans hx3 (hx4.trans hE)
      go_wp2_with fail
      refine (put_calls zb zo z _ (hz.ext hEE) false _ _ _ _ hn _ rfl).mono ?_
      rintro e w5 ⟨rfl, hI5, hW5⟩
      have hne : (!(ByteArray.mk s.data).toList.isEmpty) = true := by
        rw [ByteArray.toList_eq]
        have h : s.data.size = N := HN.out
        cases hl : s.data.toList with
        | nil => rw [← Array.length_toList, hl] at h; simp at h; omega
        | cons a b => rfl
      go_wp2
      go_ret2
      refine ⟨?_, hI5, Wr.ext_left hEE hltz hW5⟩
      rw [← hne]; rfl
end Go.Proofs.YtkljejejabikiaaGreatDoor

/- Package dyad: value, num, Make. -/
namespace Go.Proofs.YtkljejejabikiaaGreatDoor
open Go Go.RowKit Cusp

theorem len_of_bl {a n : Nat} (h : bl a ≤ 32 * n) : (wd a).length ≤ n := by
  refine len_wd_le ?_
  have h1 := lt_bl a
  have h2 : (4294967296 : Nat) ^ n = 2 ^ (32 * n) := by rw [Nat.pow_mul]
  rw [h2]
  exact Nat.lt_of_lt_of_le h1 (Nat.pow_le_pow_right (by omega) h)
/-- A Num as the program has it. -/
def dyn (s : Bool) (A : Option Addr) (n c : Nat) (e : Int) : Value := .agg #[.bool s, .slice A n c, .int .i64 e]

set_option maxRecDepth 100000 in
theorem load_num (w : World) (g : Nat) (s : Bool) (A : Option Addr) (n c : Nat) (e : Int) (c0 : w.cell? ⟨g, 0, none⟩ = some (.bool s)) (c1 : w.cell? ⟨g, 1, none⟩ = some (.slice A n c)) (c2 : w.cell? ⟨g, 2, none⟩ = some (.int .i64 e)) :
    (loadVar 186 ⟨g, 0, none⟩).run Tryz.prog w = .ok (dyn s A n c e) w := by
  have hu := Tryz.underlying186
  unfold dyn
  go_simp
theorem results_num {fn : Func} {p u : Tmp} (h : fn.results = #[.cell p 186, .tmp u]) (tmps : Array Value) (w : World) (g : Nat) (s : Bool) (A : Option Addr) (n c : Nat) (e : Int) (hp : tmps.getD p undef = .pointer (some ⟨g, 0, none⟩))
    (c0 : w.cell? ⟨g, 0, none⟩ = some (.bool s)) (c1 : w.cell? ⟨g, 1, none⟩ = some (.slice A n c)) (c2 : w.cell? ⟨g, 2, none⟩ = some (.int .i64 e)) :
    (results fn tmps).run Tryz.prog w = .ok (.tuple #[dyn s A n c e, tmps.getD u undef]) w := by
  rw [results_cell_tmp h, hp]
  simp [asAddr, Result.andThen, load_num w g s A n c e c0 c1 c2]

theorem sgn_if (s : Bool) (a : Nat) : (if s = true then -(a : Int) else a).natAbs = a := by cases s <;> simp

set_option maxHeartbeats 4000000 in
set_option maxRecDepth 100000 in
theorem value_calls (s : Bool) (A : Option Addr) (n c a : Nat) (e : Int) (w : World) (ha : Nt w A n c a) (hn : n ≤ 1000000000) :
    Calls Tryz.prog 237 #[dyn s A n c e] w fun r w' => ∃ b, w.heap.size ≤ b ∧ r = .returned (.pointer (some ⟨b, 0, none⟩)) ∧ IsInt w' b 0 (if s = true then -(a : Int) else a) ∧ Ext w w' := by
  unfold dyn
  go_enter Tryz.func237, Tryz.ntmps237
  go_wp2_with fail
  obtain ⟨W1, hW1⟩ : ∃ W1, W1 = w.alloc (.cells #[.bool s, .slice A n c, .int .i64 e] 186) := ⟨_, rfl⟩
  have e1 : Ext w W1 := by rw [hW1]; exact (Ext.refl w).alloc _
  have c0 : W1.cell? ⟨w.heap.size, 0, none⟩ = some (.bool s) := by rw [hW1]; exact cell_new w _ _ 0 _ rfl
  have e2 : Ext W1 (W1.alloc (.cells #[.bool false, .slice none 0 0] 105)) := (Ext.refl W1).alloc _
  have hs1 : W1.heap.size = w.heap.size + 1 := by rw [hW1]; simp
  refine (setWords_calls (w.heap.size + 1) 0 0 A n c a (wd a) _ ?hz (ha.ext ?he) (words_wd a) (lv_wd a) hn).mono ?_
  case hz => have h := int_new W1 105; rw [hs1] at h; rw [hW1] at h; exact h
  case he => rw [hW1] at e1 e2; exact e1.trans e2
  rintro r w2 ⟨rfl, hI, hW⟩
  rw [← hW1] at hW
  have hc : w2.cell? ⟨w.heap.size, 0, none⟩ = some (.bool s) := (hW.other rfl (e2.cell c0) (.inl (by show w.heap.size ≠ w.heap.size + 1; omega))).1
  have e3 : Ext w w2 := Below.trans (e1.trans e2) (hW.below (by omega) (e1.trans e2).size)
  clear hW1 c0
  cases s with
  | false =>
    go_wp2
    go_ret
    exact ⟨_, by omega, rfl, hI, e3⟩
  | true =>
    go_wp2_with fail
    refine (neg_calls _ _ _ _ _ _ _ hI hI).mono ?_
    rintro r w3 ⟨rfl, hI3, hW3⟩
    go_wp2
    go_ret
    exact ⟨_, by omega, rfl, hI3, Below.trans e3 (hW3.below (by omega) e3.size)⟩

set_option maxHeartbeats 4000000 in
set_option maxRecDepth 100000 in
theorem num_zero (b o : Nat) (e : Int) (w : World) (h : IsInt w b o 0) :
    Calls Tryz.prog 284 #[.pointer (some ⟨b, o, none⟩), .int .i64 e] w fun r w' => r = .returned (.tuple #[dyn false none 0 0 0, .int .i64 0]) ∧ Ext w w' := by
  unfold dyn
  go_enter Tryz.func284, Tryz.ntmps284
  go_wp2_with fail
  refine (sign_calls _ _ _ _ (h.ext ((Ext.refl w).alloc _))).mono ?_
  rintro r w1 ⟨rfl, rfl⟩
  rw [show sgn 0 = 0 from rfl]
  go_wp2
  refine bodyPost_ret (results_num rfl _ _ w.heap.size false none 0 0 0 rfl (cell_new w _ _ 0 _ rfl) (cell_new w _ _ 1 _ rfl) (cell_new w _ _ 2 _ rfl)) rfl ?_
  exact ⟨rfl, (Ext.refl w).alloc _⟩
theorem _root_.Go.Proofs.YtkljejejabikiaaGreatDoor.Nt.set {w : World} {A : Option Addr} {n c a : Nat} (h : Nt w A n c a) {p : Addr} {u v : Value} (hc : w.cell? p = some v) (hv : ∀ x, v ≠ .int .u32 x) : Nt (w.setCell p u) A n c a :=
  ⟨h.len, h.cap, h.big, fun h0 => by
    obtain ⟨b, o, hA, hcell⟩ := h.cell h0
    refine ⟨b, o, hA, fun j hj => ?_⟩
    rw [World.cell?_setCell_other _ _ _ _ (by rintro rfl; rw [hcell j hj] at hc; injection hc with hc; exact hv _ hc.symm)]
    exact hcell j hj⟩
theorem set3 (W : World) (g : Nat) (v0 v1 v2 : Value) {u0 u1 u2 : Value} (h0 : W.cell? ⟨g, 0, none⟩ = some u0) (h1 : W.cell? ⟨g, 1, none⟩ = some u1) (h2 : W.cell? ⟨g, 2, none⟩ = some u2) :
    (((W.setCell ⟨g, 0, none⟩ v0).setCell ⟨g, 1, none⟩ v1).setCell ⟨g, 2, none⟩ v2).cell? ⟨g, 0, none⟩ = some v0 ∧ (((W.setCell ⟨g, 0, none⟩ v0).setCell ⟨g, 1, none⟩ v1).setCell ⟨g, 2, none⟩ v2).cell? ⟨g, 1, none⟩ = some v1 ∧ (((W.setCell ⟨g, 0, none⟩ v0).setCell ⟨g, 1, none⟩ v1).setCell ⟨g, 2, none⟩ v2).cell? ⟨g, 2, none⟩ = some v2 := by
  have n20 : (⟨g, 2, none⟩ : Addr) ≠ ⟨g, 0, none⟩ := by intro h; injection h with _ h; omega
  have n10 : (⟨g, 1, none⟩ : Addr) ≠ ⟨g, 0, none⟩ := by intro h; injection h with _ h; omega
  have n21 : (⟨g, 2, none⟩ : Addr) ≠ ⟨g, 1, none⟩ := by intro h; injection h with _ h; omega
  have e1 : (W.setCell ⟨g, 0, none⟩ v0).cell? ⟨g, 1, none⟩ = some u1 := by rw [World.cell?_setCell_other _ _ _ _ (Ne.symm n10)]; exact h1
  have e2 : ((W.setCell ⟨g, 0, none⟩ v0).setCell ⟨g, 1, none⟩ v1).cell? ⟨g, 2, none⟩ = some u2 := by
    rw [World.cell?_setCell_other _ _ _ _ (Ne.symm n21), World.cell?_setCell_other _ _ _ _ (Ne.symm n20)]; exact h2
  refine ⟨?_, ?_, World.cell?_setCell_same _ _ _ e2⟩
  · rw [World.cell?_setCell_other _ _ _ _ n20, World.cell?_setCell_other _ _ _ _ n10]; exact World.cell?_setCell_same _ _ _ h0
  · rw [World.cell?_setCell_other _ _ _ _ n21]; exact World.cell?_setCell_same _ _ _ e1
theorem set3_nt {W : World} {A : Option Addr} {n c a : Nat} (h : Nt W A n c a) (g : Nat) (v0 v1 v2 : Value) {u0 u1 u2 : Value} (h0 : W.cell? ⟨g, 0, none⟩ = some u0) (h1 : W.cell? ⟨g, 1, none⟩ = some u1) (h2 : W.cell? ⟨g, 2, none⟩ = some u2)
    (hu0 : ∀ x, u0 ≠ .int .u32 x) (hu1 : ∀ x, u1 ≠ .int .u32 x) (hu2 : ∀ x, u2 ≠ .int .u32 x) : Nt (((W.setCell ⟨g, 0, none⟩ v0).setCell ⟨g, 1, none⟩ v1).setCell ⟨g, 2, none⟩ v2) A n c a := by
  have n20 : (⟨g, 2, none⟩ : Addr) ≠ ⟨g, 0, none⟩ := by intro h; injection h with _ h; omega
  have n10 : (⟨g, 1, none⟩ : Addr) ≠ ⟨g, 0, none⟩ := by intro h; injection h with _ h; omega
  have n21 : (⟨g, 2, none⟩ : Addr) ≠ ⟨g, 1, none⟩ := by intro h; injection h with _ h; omega
  have e1 : (W.setCell ⟨g, 0, none⟩ v0).cell? ⟨g, 1, none⟩ = some u1 := by rw [World.cell?_setCell_other _ _ _ _ (Ne.symm n10)]; exact h1
  have e2 : ((W.setCell ⟨g, 0, none⟩ v0).setCell ⟨g, 1, none⟩ v1).cell? ⟨g, 2, none⟩ = some u2 := by
    rw [World.cell?_setCell_other _ _ _ _ (Ne.symm n21), World.cell?_setCell_other _ _ _ _ (Ne.symm n20)]; exact h2
  exact ((h.set h0 hu0).set e1 hu1).set e2 hu2

set_option maxHeartbeats 4000000 in
set_option maxRecDepth 100000 in
/-- A number times 2^e as a Num, where it can be one. -/
theorem num_calls (b o : Nat) (x e : Int) (w : World) (h : IsInt w b o x) (hx0 : x ≠ 0) (hl : bl x.natAbs ≤ 65536) (he0 : -60000 ≤ e) (he1 : e ≤ 0) {B : Nat} (hG : Glob B w) :
    Calls Tryz.prog 284 #[.pointer (some ⟨b, o, none⟩), .int .i64 e] w fun r w' => ∃ (A : Option Addr) (n c k m : Nat), r = .returned (.tuple #[dyn (decide (x < 0)) A n c (e + (k : Int)), .int .i64 0]) ∧ Nt w' A n c (2 * m + 1) ∧ x.natAbs = 2 ^ k * (2 * m + 1) ∧ Ext w w' := by
  have hxn : x.natAbs ≠ 0 := by omega
  have hlen : (wd x.natAbs).length ≤ 2048 := len_of_bl hl
  have hsx : sgn x ≠ 0 := by unfold sgn; rw [if_neg hx0]; split <;> omega
  have hs0 : (sgn x == 0) = false := by rw [beq_eq_false_iff_ne]; exact hsx
  have hs1 : decide (sgn x < 0) = decide (x < 0) := by
    unfold sgn; rw [if_neg hx0]
    by_cases hn : x < 0
    · rw [if_pos hn, decide_eq_true hn]; rfl
    · rw [if_neg hn, decide_eq_false hn]; rfl
  go_enter Tryz.func284, Tryz.ntmps284
  go_wp2_with fail
  have e1 : Ext w (w.alloc (.cells #[.bool false, .slice none 0 0, .int .i64 0] 186)) := (Ext.refl w).alloc _
  refine (sign_calls _ _ _ _ (h.ext e1)).mono ?_
  rintro r w1 ⟨rfl, hw1⟩
  rw [← hw1] at e1
  have hlt := h.lt
  have hs1s : w.heap.size < w1.heap.size := by rw [hw1]; simp
  have c0 : w1.cell? ⟨w.heap.size, 0, none⟩ = some (.bool false) := by rw [hw1]; exact cell_new w _ _ 0 _ rfl
  have c1 : w1.cell? ⟨w.heap.size, 1, none⟩ = some (.slice none 0 0) := by rw [hw1]; exact cell_new w _ _ 1 _ rfl
  have c2 : w1.cell? ⟨w.heap.size, 2, none⟩ = some (.int .i64 0) := by rw [hw1]; exact cell_new w _ _ 2 _ rfl
  have f0 : w1.frozen? ⟨w.heap.size, 0, none⟩ = false := by rw [hw1]; simp only [World.frozen?, heap_alloc_new]; rfl
  have f1 : w1.frozen? ⟨w.heap.size, 1, none⟩ = false := by rw [hw1]; simp only [World.frozen?, heap_alloc_new]; rfl
  have f2 : w1.frozen? ⟨w.heap.size, 2, none⟩ = false := by rw [hw1]; simp only [World.frozen?, heap_alloc_new]; rfl
  clear hw1
  have h1 := h.ext e1
  clear h
  have e2 : Ext w1 (w1.alloc (.cells #[.bool false, .slice none 0 0] 105)) := (Ext.refl w1).alloc _
  go_wp2_with fail
  refine (abs_calls w1.heap.size 0 b o 0 x _ (int_new w1 _) (h1.ext e2)).mono ?_
  rintro r w2 ⟨rfl, hI2, hW2⟩
  have e12 : Ext w1 w2 := Wr.own_ext e2 (Nat.le_refl _) hW2
  have k0 := e12.cell c0
  have k1 := e12.cell c1
  have k2 := e12.cell c2
  have g0 := e12.frozen c0
  have g1 := e12.frozen c1
  have g2 := e12.frozen c2
  rw [f0] at g0
  rw [f1] at g1
  rw [f2] at g2
  go_wp2_with fail
  refine (tzb_calls _ _ _ _ hI2 (by rw [Int.natAbs_natCast]; omega) ((hG.ext e1).ext e12)).mono ?_
  rintro r w3 ⟨k, rfl, hw3, hk, hm⟩
  rw [Int.natAbs_natCast] at hk hm
  obtain ⟨m, hm⟩ := hm hxn
  subst hw3
  have hkb : k ≤ 65537 := by omega
  go_wp2_with fail
  refine (rsh_calls _ _ _ _ _ x.natAbs k _ hI2 hI2 (by omega) (by omega)).mono ?_
  rintro r w4 ⟨rfl, hI4, hW4⟩
  have hodd : x.natAbs / 2 ^ k = 2 * m + 1 := by
    conv => lhs; rw [hm]
    exact Nat.mul_div_cancel_left _ (Nat.pow_pos (by omega))
  rw [hodd] at hI4
  have e14 : Ext w1 w4 := Below.trans e12 (hW4.below (Nat.le_refl _) e12.size)
  have k0 := e14.cell c0
  have k1 := e14.cell c1
  have k2 := e14.cell c2
  have g0 := e14.frozen c0
  have g1 := e14.frozen c1
  have g2 := e14.frozen c2
  rw [f0] at g0
  rw [f1] at g1
  rw [f2] at g2
  have h4 := h1.ext e14
  have hle : 2 * m + 1 ≤ x.natAbs := by rw [← hodd]; exact Nat.div_le_self _ _
  have hbl : bl (2 * m + 1) ≤ 65536 := Nat.le_trans (bl_mono hle) hl
  have hwl : (wd ((2 * m + 1 : Nat) : Int).natAbs).length ≤ 1000000000 := by
    rw [Int.natAbs_natCast]; have := len_wd_mono hle; omega
  obtain ⟨M, hM⟩ : ∃ M, M = 2 * m + 1 := ⟨_, rfl⟩
  rw [← hM] at hI4 hbl hwl
  have HM := Lib.hid hM
  have HX := Lib.hid hm
  clear hm hodd hM hle e12 c0 c1 c2 f0 f1 f2 h1
  go_wp2_with fail
  refine (intBitLen_calls _ _ _ _ hI4 hwl).mono ?_
  rintro r w5 ⟨rfl, hx5⟩
  rw [Int.natAbs_natCast]
  have g0 : w5.frozen? ⟨w.heap.size, 0, none⟩ = false := (hx5.frozen k0).trans g0
  have g1 : w5.frozen? ⟨w.heap.size, 1, none⟩ = false := (hx5.frozen k1).trans g1
  have g2 : w5.frozen? ⟨w.heap.size, 2, none⟩ = false := (hx5.frozen k2).trans g2
  have k0 := hx5.cell k0
  have k1 := hx5.cell k1
  have k2 := hx5.cell k2
  have t1 : ¬ (bl M : Int) > 65536 := by omega
  have t2 : ¬ (e > 65536 - (k : Int)) := by omega
  have t3 : ¬ (e < -65536 - (k : Int)) := by omega
  go_wp2_with fail
  refine (sign_calls _ _ _ _ (h4.ext hx5)).mono ?_
  rintro r w6 ⟨rfl, hw6⟩
  subst hw6
  go_wp2_with fail
  have hsz6 : w.heap.size < w6.heap.size := Nat.lt_of_lt_of_le hs1s (Nat.le_trans e14.size hx5.size)
  have e6 : Ext w w6 := e1.trans (e14.trans hx5)
  obtain ⟨W6, hW6⟩ : ∃ W6, W6 = w6.alloc (.cells #[.bool (decide (x < 0)), .slice none 0 0, .int .i64 (e + (k : Int))] 186) := ⟨_, rfl⟩
  have e66 : Ext w6 W6 := by rw [hW6]; exact (Ext.refl w6).alloc _
  have d0 : W6.cell? ⟨w6.heap.size, 0, none⟩ = some (.bool (decide (x < 0))) := by rw [hW6]; exact cell_new w6 _ _ 0 _ rfl
  have d1 : W6.cell? ⟨w6.heap.size, 1, none⟩ = some (.slice none 0 0) := by rw [hW6]; exact cell_new w6 _ _ 1 _ rfl
  have d2 : W6.cell? ⟨w6.heap.size, 2, none⟩ = some (.int .i64 (e + (k : Int))) := by rw [hW6]; exact cell_new w6 _ _ 2 _ rfl
  have d3 : W6.frozen? ⟨w6.heap.size, 1, none⟩ = false := by rw [hW6]; simp only [World.frozen?, heap_alloc_new]; rfl
  rw [← hW6]
  clear hW6
  refine (words_calls _ _ _ _ ((hI4.ext hx5).ext e66) hwl).mono ?_
  rintro r w7 ⟨A7, n7, c7, rfl, hn7, hx7⟩
  rw [Int.natAbs_natCast] at hn7
  have q3 : w7.frozen? ⟨w6.heap.size, 1, none⟩ = false := (hx7.frozen d1).trans d3
  have q0 := hx7.cell d0
  have q1 := hx7.cell d1
  have q2 := hx7.cell d2
  have e67 := e66.trans hx7
  have g0 : w7.frozen? ⟨w.heap.size, 0, none⟩ = false := (e67.frozen k0).trans g0
  have g1 : w7.frozen? ⟨w.heap.size, 1, none⟩ = false := (e67.frozen k1).trans g1
  have g2 : w7.frozen? ⟨w.heap.size, 2, none⟩ = false := (e67.frozen k2).trans g2
  have k0 := e67.cell k0
  have k1 := e67.cell k1
  have k2 := e67.cell k2
  have hne : w.heap.size ≠ w6.heap.size := by omega
  have hne' : w6.heap.size ≠ w.heap.size := by omega
  clear d0 d1 d2 d3
  have hset := set3 (w7.setCell ⟨w6.heap.size, 1, none⟩ (.slice A7 n7 c7)) w.heap.size (.bool (decide (x < 0))) (.slice A7 n7 c7) (.int .i64 (e + (k : Int)))
    (by rw [World.cell?_setCell_other _ _ _ _ (by intro h; injection h with h; exact hne' h)]; exact k0) (by rw [World.cell?_setCell_other _ _ _ _ (by intro h; injection h with h; exact hne' h)]; exact k1) (by rw [World.cell?_setCell_other _ _ _ _ (by intro h; injection h with h; exact hne' h)]; exact k2)
  have hn8 : Nt (w7.setCell ⟨w6.heap.size, 1, none⟩ (.slice A7 n7 c7)) A7 n7 c7 M := hn7.set q1 (by intro y h; cases h)
  have hn9 := set3_nt hn8 w.heap.size (.bool (decide (x < 0))) (.slice A7 n7 c7) (.int .i64 (e + (k : Int)))
    (u0 := .bool false) (u1 := .slice none 0 0) (u2 := .int .i64 0)
    (by rw [World.cell?_setCell_other _ _ _ _ (by intro h; injection h with h; exact hne' h)]; exact k0) (by rw [World.cell?_setCell_other _ _ _ _ (by intro h; injection h with h; exact hne' h)]; exact k1) (by rw [World.cell?_setCell_other _ _ _ _ (by intro h; injection h with h; exact hne' h)]; exact k2)
    (by intro y h; cases h) (by intro y h; cases h) (by intro y h; cases h)
  have e7 : Ext w w7 := e6.trans e67
  have e9 : Ext w ((((w7.setCell ⟨w6.heap.size, 1, none⟩ (.slice A7 n7 c7)).setCell ⟨w.heap.size, 0, none⟩ (.bool (decide (x < 0)))).setCell ⟨w.heap.size, 1, none⟩ (.slice A7 n7 c7)).setCell ⟨w.heap.size, 2, none⟩ (.int .i64 (e + (k : Int)))) :=
    (((e7.setCell (show w.heap.size ≤ w6.heap.size by omega) _).setCell (Nat.le_refl _) _).setCell (Nat.le_refl _) _).setCell (Nat.le_refl _) _
  have HS := Lib.hid hset
  clear hset
  go_wp2_with fail
  refine bodyPost_ret (results_num rfl _ _ w.heap.size (decide (x < 0)) A7 n7 c7 (e + (k : Int)) rfl HS.out.1 HS.out.2.1 HS.out.2.2) rfl ?_
  exact ⟨A7, n7, c7, k, m, rfl, by rw [← HM.out]; exact hn9, HX.out, e9⟩

set_option maxHeartbeats 4000000 in
set_option maxRecDepth 100000 in
theorem make_calls (s : Bool) (A : Option Addr) (n c a : Nat) (w : World) (ha : Nt w A n c a) (ha0 : a ≠ 0) (hl : bl a ≤ 65536) {B : Nat} (hG : Glob B w) :
    Calls Tryz.prog 233 #[.bool s, .slice A n c, .int .i64 0] w fun r w' => ∃ (A : Option Addr) (n c k m : Nat), r = .returned (.tuple #[dyn s A n c (k : Int), .int .i64 0]) ∧ Nt w' A n c (2 * m + 1) ∧ a = 2 ^ k * (2 * m + 1) ∧ Ext w w' := by
  have hn : n ≤ 1000000000 := by rw [← ha.len]; exact Nat.le_trans (len_of_bl (n := 2048) hl) (by omega)
  go_enter Tryz.func233, Tryz.ntmps233
  go_wp2_with fail
  have e1 : Ext w (w.alloc (.cells #[.bool false, .slice none 0 0, .int .i64 0] 186)) := (Ext.refl w).alloc _
  obtain ⟨w1, hw1⟩ : ∃ w1, w1 = w.alloc (.cells #[.bool false, .slice none 0 0, .int .i64 0] 186) := ⟨_, rfl⟩
  rw [← hw1] at e1 ⊢
  have c0 : w1.cell? ⟨w.heap.size, 0, none⟩ = some (.bool false) := by rw [hw1]; exact cell_new w _ _ 0 _ rfl
  have c1 : w1.cell? ⟨w.heap.size, 1, none⟩ = some (.slice none 0 0) := by rw [hw1]; exact cell_new w _ _ 1 _ rfl
  have c2 : w1.cell? ⟨w.heap.size, 2, none⟩ = some (.int .i64 0) := by rw [hw1]; exact cell_new w _ _ 2 _ rfl
  have f0 : w1.frozen? ⟨w.heap.size, 0, none⟩ = false := by rw [hw1]; simp only [World.frozen?, heap_alloc_new]; rfl
  have f1 : w1.frozen? ⟨w.heap.size, 1, none⟩ = false := by rw [hw1]; simp only [World.frozen?, heap_alloc_new]; rfl
  have f2 : w1.frozen? ⟨w.heap.size, 2, none⟩ = false := by rw [hw1]; simp only [World.frozen?, heap_alloc_new]; rfl
  clear hw1
  refine (value_calls s A n c a 0 _ (ha.ext e1) hn).mono ?_
  rintro r w2 ⟨b, hb, rfl, hI, hx2⟩
  have hxd : decide ((if s = true then -(a : Int) else a) < 0) = s := by
    cases s with
    | false => simp
    | true => simp; omega
  have hxa := sgn_if s a
  have hx0 : (if s = true then -(a : Int) else a) ≠ 0 := by intro h; rw [h] at hxa; simp at hxa; omega
  go_wp2_with fail
  refine (num_calls b 0 _ 0 _ hI hx0 (by rw [hxa]; exact hl) (by omega) (by omega) ((hG.ext e1).ext hx2)).mono ?_
  rintro r w3 ⟨A3, n3, c3, k, m, rfl, hn3, hxk, hx3⟩
  rw [hxa] at hxk
  rw [hxd, Int.zero_add]
  have e3 := hx2.trans hx3
  have f0 : w3.frozen? ⟨w.heap.size, 0, none⟩ = false := (e3.frozen c0).trans f0
  have f1 : w3.frozen? ⟨w.heap.size, 1, none⟩ = false := (e3.frozen c1).trans f1
  have f2 : w3.frozen? ⟨w.heap.size, 2, none⟩ = false := (e3.frozen c2).trans f2
  have c0 := e3.cell c0
  have c1 := e3.cell c1
  have c2 := e3.cell c2
  have HS := Lib.hid (set3 w3 w.heap.size (.bool s) (.slice A3 n3 c3) (.int .i64 (k : Int)) c0 c1 c2)
  have hn9 := set3_nt hn3 w.heap.size (.bool s) (.slice A3 n3 c3) (.int .i64 (k : Int)) c0 c1 c2 (by intro y h; cases h) (by intro y h; cases h) (by intro y h; cases h)
  have HK := Lib.hid hxk
  clear hxk hxd hxa hx0 hI
  unfold dyn
  go_wp2_with fail
  refine bodyPost_ret (results_num rfl _ _ w.heap.size s A3 n3 c3 (k : Int) rfl HS.out.1 HS.out.2.1 HS.out.2.2) rfl ?_
  exact ⟨A3, n3, c3, k, m, rfl, hn9, HK.out, (((e1.trans e3).setCell (Nat.le_refl _) _).setCell (Nat.le_refl _) _).setCell (Nat.le_refl _) _⟩
end Go.Proofs.YtkljejejabikiaaGreatDoor

/- Package dyad: Valid, valid, Shift, known. -/
namespace Go.Proofs.YtkljejejabikiaaGreatDoor
open Go Go.RowKit Cusp

theorem odd_low (m : Nat) : ∃ X : Nat, ix (wd (2 * m + 1)) 0 = (X : Int) ∧ X < 4294967296 ∧ bits .and .u32 (X : Int) 1 = 1 := by
  rw [wd_pos (by omega)]
  refine ⟨(2 * m + 1) % 4294967296, by simp [ix], by omega, ?_⟩
  have h1 := bits_and_u32_nat ((2 * m + 1) % 4294967296) 1 (by omega) (by omega)
  rw [show ((1 : Nat) : Int) = 1 from rfl] at h1
  rw [h1, Nat.and_one_is_mod]
  omega

set_option maxHeartbeats 4000000 in
set_option maxRecDepth 100000 in
theorem valid_calls (s : Bool) (A : Option Addr) (n c m : Nat) (e : Int) (w : World) (ha : Nt w A n c (2 * m + 1)) (hn : n ≤ 2048) (he0 : -65536 ≤ e) (he1 : e ≤ 65536) :
    Calls Tryz.prog 232 #[dyn s A n c e] w fun r w' => r = .returned (.bool true) ∧ Ext w w' := by
  have hlast := last_of_trim (trim_wd (2 * m + 1))
  have hn0 : 0 < n := by
    rcases Nat.eq_zero_or_pos n with h | h
    · subst h; have := wd_eq_nil.1 (List.eq_nil_of_length_eq_zero ha.len); omega
    · exact h
  rw [ha.len] at hlast
  have hl := hlast hn0
  obtain ⟨X, hX, hXb, hXo⟩ := odd_low m
  obtain ⟨b1, o1, rfl, hcell⟩ := ha.cell hn0
  have e1 : Ext w (w.alloc (.cells #[.bool s, .slice (some ⟨b1, o1, none⟩) n c, .int .i64 e] 186)) := (Ext.refl w).alloc _
  have x0 := e1.cell (hcell 0 hn0)
  have x1 := e1.cell (hcell (n - 1) (by omega))
  rw [Nat.add_zero, hX] at x0
  have r1 := ix_words (words_wd (2 * m + 1)) (n - 1)
  obtain ⟨Y, hY⟩ : ∃ Y : Nat, ix (wd (2 * m + 1)) (n - 1) = (Y : Int) := ⟨(ix (wd (2 * m + 1)) (n - 1)).toNat, by omega⟩
  rw [hY] at x1 hl r1
  have i1 : ((n : Int) - 1).toNat = n - 1 := by omega
  have j0 : 1 ≤ (n : Int) := by omega
  have t1 : ((n : Int) == 0) = false := by rw [beq_eq_false_iff_ne]; omega
  have t2 : ((Y : Int) != 0) = true := by rw [bne_iff_ne]; exact hl
  clear hcell hlast hX hY ha
  unfold dyn
  go_enter Tryz.func232, Tryz.ntmps232
  go_wp2_with fail
  go_ret
  exact ⟨rfl, e1⟩

set_option maxHeartbeats 4000000 in
set_option maxRecDepth 100000 in
/-- valid of two Nums. -/
theorem valid2_calls (g c0 : Nat) (s s' : Bool) (A A' : Option Addr) (n n' c c' m m' : Nat) (e e' : Int) (w : World) (ha : Nt w A n c (2 * m + 1)) (hb : Nt w A' n' c' (2 * m' + 1)) (hn : n ≤ 2048) (hn' : n' ≤ 2048) (he0 : -65536 ≤ e) (he1 : e ≤ 65536) (he0' : -65536 ≤ e') (he1' : e' ≤ 65536)
    (h0 : w.cell? ⟨g, 0, none⟩ = some (.bool s)) (h1 : w.cell? ⟨g, 1, none⟩ = some (.slice A n c)) (h2 : w.cell? ⟨g, 2, none⟩ = some (.int .i64 e))
    (h3 : w.cell? ⟨g, 3, none⟩ = some (.bool s')) (h4 : w.cell? ⟨g, 4, none⟩ = some (.slice A' n' c')) (h5 : w.cell? ⟨g, 5, none⟩ = some (.int .i64 e')) :
    Calls Tryz.prog 235 #[.slice (some ⟨g, 0, none⟩) 2 c0] w fun r w' => r = .returned (.bool true) ∧ Ext w w' := by
  go_enter Tryz.func235, Tryz.ntmps235
  go_wp2
  go_loopw [7] (fun i wr => ∃ k : Nat, k ≤ 2 ∧ i = .int .i64 (k : Int) ∧ Ext w wr) (fun i _ => 2 - (intOf i).toNat)
  case atStart => exact ⟨0, by omega, rfl, Ext.refl _⟩
  case round =>
    obtain ⟨k, hk, rfl, hE⟩ := hrel
    have h0 := hE.cell h0
    have h1 := hE.cell h1
    have h2 := hE.cell h2
    have h3 := hE.cell h3
    have h4 := hE.cell h4
    have h5 := hE.cell h5
    have ha := ha.ext hE
    have hb := hb.ext hE
    rcases (show k = 0 ∨ k = 1 ∨ k = 2 by omega) with rfl | rfl | rfl
    · have e1 : Ext wr (wr.alloc (.cells #[.bool s, .slice A n c, .int .i64 e] 186)) := (Ext.refl wr).alloc _
      go_wp2_with fail
      refine (valid_calls s A n c m e _ (ha.ext e1) hn he0 he1).mono ?_
      rintro r w1 ⟨rfl, hx1⟩
      go_wp2
      go_roundw
      case rel => exact ⟨1, by omega, rfl, hE.trans (e1.trans hx1)⟩
      case measure => simp [intOf]
    · have e1 : Ext wr (wr.alloc (.cells #[.bool s', .slice A' n' c', .int .i64 e'] 186)) := (Ext.refl wr).alloc _
      go_wp2_with fail
      refine (valid_calls s' A' n' c' m' e' _ (hb.ext e1) hn' he0' he1').mono ?_
      rintro r w1 ⟨rfl, hx1⟩
      go_wp2
      go_roundw
      case rel => exact ⟨2, by omega, rfl, hE.trans (e1.trans hx1)⟩
      case measure => simp [intOf]
    · go_wp2
      go_ret
      exact ⟨rfl, hE⟩
end Go.Proofs.YtkljejejabikiaaGreatDoor

/- Package dyad: Shift. -/
namespace Cusp
open Go Go.RowKit
section
variable {P : Program} {ops : Array Oper} {o : Oper} {a : Act} {Q : Exit → Act → World → Prop} {K : Act → World → Prop} {E : Prop}
/-- append(v, ys...) within a region that draws its order. -/
theorem append_row_step {w0 W : World} {e : TypeId} {k : IntKind} (base : Nat) (hgd : o.guard = none) (s x : Operand) (t : TypeId) (bytes : Nat)
    (ho : o.op = .call { callee := .builtin .append, args := #[s, x], argTypes := #[t, t] })
    (ht : P.underlying t = some (.slice e)) (hinfo : (P.info? e).map (fun i => (i.zero, i.size, i.bytes)) = some (some (.int k 0), 1, bytes)) (hb0 : 0 < bytes)
    (v : Value) (xs ys : List Int) (A : Option Addr) (m c : Nat) (hs : a.eval s = v) (hx : a.eval x = .slice A m c)
    (HO : Own base W e k v xs) (HR : Rd W k A m c ys) (HB : Below base w0 W) (hbase : base ≤ W.heap.size) (hl : (xs.length + m) * bytes ≤ 140737488355328)
    (h : ∀ v1 w1, Own base w1 e k v1 (xs ++ ys) → Below base w0 w1 → base ≤ w1.heap.size → W.grownBy w1 v.ownBlock → (v1.ownBlock = v.ownBlock ∨ ∃ b, v1.ownBlock = some b ∧ W.heap.size ≤ b) → K (a.put o.dst v1) w1) :
    if Region.wanted o (yielded ops a.tmps) = true then Oper.wp P o a W K Q else E := by
  have hw : Region.wanted o (yielded ops a.tmps) = true := by simp [Region.wanted, hgd]
  rw [if_pos hw]
  obtain ⟨i0, hi, hzz⟩ := Option.map_eq_some_iff.1 hinfo
  simp only [Prod.mk.injEq] at hzz
  obtain ⟨hz0, hz1, hz2⟩ := hzz
  have hm : ys.length = m := HR.len
  have hlen : xs.length + m ≤ 140737488355328 := Nat.le_trans (Nat.le_mul_of_pos_right _ hb0) hl
  have hrun : ∃ v1 w1, (Builtin.append_ #[t, t] o.type #[v, .slice A m c]).run P W = .ok v1 w1 ∧ Own base w1 e k v1 (xs ++ ys) ∧ W.grownBy w1 v.ownBlock ∧ (v1.ownBlock = v.ownBlock ∨ v1.ownBlock = some W.heap.size) := by
    rcases A with _ | ad
    · have h0 : m = 0 := by
        rcases Nat.eq_zero_or_pos m with h0 | h0
        · exact h0
        · obtain ⟨b, off, h, _⟩ := HR.cell h0
          cases h
      subst h0
      obtain rfl : ys = [] := List.eq_nil_of_length_eq_zero hm
      refine ⟨v, W, ?_, by simpa using HO, World.grownBy.refl W _, .inl rfl⟩
      rcases HO.own.2 with ⟨rfl, hn⟩ | ⟨g, cap, cur, rfl, _, _, hnc, _⟩
      · simp [Builtin.append_, run_underlying ht, Go.sizeOf, typeInfo, hi, Builtin.lenOf, Builtin.firstCells]
      · simp [Builtin.append_, run_underlying ht, Go.sizeOf, typeInfo, hi, Builtin.lenOf, Builtin.firstCells, hnc, storeCells]
    · have hcells : ∀ j u, (nums k ys)[j]? = some u → W.cell? (ad.add j) = some u := by
        intro j u hu
        have hj : j < ys.length := by
          rcases Nat.lt_or_ge j ys.length with h | h
          · exact h
          · simp [nums, List.getElem?_eq_none h] at hu
        obtain ⟨b, off, h', hc⟩ := HR.cell (by omega)
        injection h' with h'
        subst h'
        have hc := hc j (by omega)
        rw [nums_at hj] at hu
        injection hu with hu
        subst hu
        rw [← hc]
        congr 1
        unfold Addr.add; split
        · rename_i h0; subst h0; rfl
        · rfl
      obtain ⟨v1, w1, hr, h2, h3, _, h5⟩ := run_append_own_at (P := P) W base t o.type e i0 (.int k 0) 1 bytes ht hi hz0 hz1 hz2 rfl (by omega) v xs.length (nums k xs) HO.own ad m c (nums k ys) (by simp [nums, hm]) hcells
        (by intro u hu; simp only [nums, List.mem_map] at hu; obtain ⟨q, _, rfl⟩ := hu; rfl) (by simp only [maxLen]; omega) hl hbase
      exact ⟨v1, w1, hr, ⟨by simpa [nums, hm] using h2⟩, h3, h5⟩
  obtain ⟨v1, w1, hr, hown, hg, hat⟩ := hrun
  unfold Oper.wp execOp
  simp only [ho, resolve, invoke, builtin, Sem.run_bind, Sem.run_pure, Result.andThen_ok, List.map_toArray, List.map_cons, List.map_nil, hs, hx, hr]
  have hsz := hg.size
  refine h v1 w1 hown (HB.grown hg hbase HO.base_le) (by omega) hg ?_
  rcases hat with hat | hat
  · exact .inl hat
  · exact .inr ⟨_, hat, Nat.le_refl _⟩
end
end Cusp
namespace Go.Proofs.YtkljejejabikiaaGreatDoor
open Go Go.RowKit Cusp

set_option maxHeartbeats 4000000 in
set_option maxRecDepth 100000 in
theorem shift_calls (s : Bool) (A : Option Addr) (n c m : Nat) (e k : Int) (w : World) (ha : Nt w A n c (2 * m + 1)) (hn : n ≤ 2048) (he0 : -20000 ≤ e) (he1 : e ≤ 40000) (hk0 : -20000 ≤ k) (hk1 : k ≤ 20000) :
    Calls Tryz.prog 187 #[dyn s A n c e, .int .i64 k] w fun r w' => ∃ (A' : Option Addr) (n' c' : Nat), r = .returned (.tuple #[dyn s A' n' c' (e + k), .int .i64 0]) ∧ Nt w' A' n' c' (2 * m + 1) ∧ Ext w w' := by
  have hn0 : 0 < n := by
    rcases Nat.eq_zero_or_pos n with h | h
    · subst h; have := wd_eq_nil.1 (List.eq_nil_of_length_eq_zero ha.len); omega
    · exact h
  have t1 : ((n : Int) == 0) = false := by rw [beq_eq_false_iff_ne]; omega
  have hva := fun W (h : Nt W A n c (2 * m + 1)) => valid_calls s A n c m e W h hn (by omega) (by omega)
  unfold dyn at hva ⊢
  go_enter Tryz.func187, Tryz.ntmps187
  go_wp2_with fail
  obtain ⟨w1, hw1⟩ : ∃ w1, w1 = w.alloc (.cells #[.bool s, .slice A n c, .int .i64 e] 186) := ⟨_, rfl⟩
  have e1 : Ext w w1 := by rw [hw1]; exact (Ext.refl w).alloc _
  have a0 : w1.cell? ⟨w.heap.size, 0, none⟩ = some (.bool s) := by rw [hw1]; exact cell_new w _ _ 0 _ rfl
  have a1 : w1.cell? ⟨w.heap.size, 1, none⟩ = some (.slice A n c) := by rw [hw1]; exact cell_new w _ _ 1 _ rfl
  have a2 : w1.cell? ⟨w.heap.size, 2, none⟩ = some (.int .i64 e) := by rw [hw1]; exact cell_new w _ _ 2 _ rfl
  obtain ⟨w2, hw2⟩ : ∃ w2, w2 = w1.alloc (.cells #[.bool false, .slice none 0 0, .int .i64 0] 186) := ⟨_, rfl⟩
  have hsz1 : w1.heap.size = w.heap.size + 1 := by rw [hw1]; simp
  have e2 : Ext w1 w2 := by rw [hw2]; exact (Ext.refl w1).alloc _
  have c0 : w2.cell? ⟨w.heap.size + 1, 0, none⟩ = some (.bool false) := by rw [hw2, ← hsz1]; exact cell_new w1 _ _ 0 _ rfl
  have c1 : w2.cell? ⟨w.heap.size + 1, 1, none⟩ = some (.slice none 0 0) := by rw [hw2, ← hsz1]; exact cell_new w1 _ _ 1 _ rfl
  have c2 : w2.cell? ⟨w.heap.size + 1, 2, none⟩ = some (.int .i64 0) := by rw [hw2, ← hsz1]; exact cell_new w1 _ _ 2 _ rfl
  have f0 : w2.frozen? ⟨w.heap.size + 1, 0, none⟩ = false := by rw [hw2, ← hsz1]; simp only [World.frozen?, heap_alloc_new]; rfl
  have f1 : w2.frozen? ⟨w.heap.size + 1, 1, none⟩ = false := by rw [hw2, ← hsz1]; simp only [World.frozen?, heap_alloc_new]; rfl
  have f2 : w2.frozen? ⟨w.heap.size + 1, 2, none⟩ = false := by rw [hw2, ← hsz1]; simp only [World.frozen?, heap_alloc_new]; rfl
  have hsz2 : w.heap.size + 2 ≤ w2.heap.size := by rw [hw2]; simp; omega
  rw [← hw1, ← hw2]
  clear hw1 hw2
  refine (hva _ (ha.ext (e1.trans e2))).mono ?_
  rintro r w3 ⟨rfl, hx3⟩
  have e3 := e2.trans hx3
  have a0 := e3.cell a0
  have a1 := e3.cell a1
  have a2 := e3.cell a2
  have f0 : w3.frozen? ⟨w.heap.size + 1, 0, none⟩ = false := (hx3.frozen c0).trans f0
  have f1 : w3.frozen? ⟨w.heap.size + 1, 1, none⟩ = false := (hx3.frozen c1).trans f1
  have f2 : w3.frozen? ⟨w.heap.size + 1, 2, none⟩ = false := (hx3.frozen c2).trans f2
  have c0 := hx3.cell c0
  have c1 := hx3.cell c1
  have c2 := hx3.cell c2
  have t2 : ¬ k > 65536 - e := by omega
  have t3 : ¬ k < -65536 - e := by omega
  have hsz3 := hx3.size
  have ha3 := (ha.ext e1).ext e3
  have hsum : IntKind.i64.wrap (e + k) = e + k := by rw [IntKind.wrap_i64]; omega
  have hn4 : (([] : List Int).length + n) * 4 ≤ 140737488355328 := by simp; omega
  have hlitA : Own w3.heap.size (w3.drew.alloc (.cells #[] 71)) 71 .u32 (.slice (some ⟨w3.heap.size, 0, none⟩) 0 0) [] := own_lit w3.drew w3.heap.size _ .u32 [] (Nat.le_refl _) (by simp)
  have hA : Ext w3 (w3.drew.alloc (.cells #[] 71)) := (Ext.drew w3).alloc _
  have hAs := hA.size
  have hlitB : Own w3.heap.size ((w3.alloc (.cells #[] 71)).alloc (.cells #[.bool false, .slice none 0 0, .int .i64 0] 186)).drew 71 .u32 (.slice (some ⟨w3.heap.size, 0, none⟩) 0 0) [] := ⟨(hlitA.alloc (.cells #[.bool false, .slice none 0 0, .int .i64 0] 186)).own⟩
  have hB : Ext w3 ((w3.alloc (.cells #[] 71)).alloc (.cells #[.bool false, .slice none 0 0, .int .i64 0] 186)).drew := Ext.trans (((Ext.refl w3).alloc _).alloc _) (Ext.drew _)
  have hBs := hB.size
  have hlitC : Own w3.heap.size ((w3.alloc (.cells #[.bool false, .slice none 0 0, .int .i64 0] 186)).alloc (.cells #[] 71)).drew 71 .u32 (.slice (some ⟨w3.heap.size + 1, 0, none⟩) 0 0) [] := by
    have h := own_lit (w3.alloc (.cells #[.bool false, .slice none 0 0, .int .i64 0] 186)) w3.heap.size 71 .u32 [] (by simp) (by simp)
    exact ⟨(show Own w3.heap.size ((w3.alloc (.cells #[.bool false, .slice none 0 0, .int .i64 0] 186)).alloc (.cells #[] 71)) 71 .u32 (.slice (some ⟨w3.heap.size + 1, 0, none⟩) 0 0) [] from ⟨by simpa [nums] using h.own⟩).own⟩
  have hC : Ext w3 ((w3.alloc (.cells #[.bool false, .slice none 0 0, .int .i64 0] 186)).alloc (.cells #[] 71)).drew := Ext.trans (((Ext.refl w3).alloc _).alloc _) (Ext.drew _)
  have hCs := hC.size
  have nB : (some (w3.heap.size + 1) : Option Nat) ≠ (Value.slice (some ⟨w3.heap.size, 0, none⟩) 0 0).ownBlock := by simp [Value.ownBlock]
  have nC : (some w3.heap.size : Option Nat) ≠ (Value.slice (some ⟨w3.heap.size + 1, 0, none⟩) 0 0).ownBlock := by simp [Value.ownBlock]
  have zB : (w3.alloc (.cells #[] 71)).heap.size = w3.heap.size + 1 := by simp
  have cB0 : ((w3.alloc (.cells #[] 71)).alloc (.cells #[.bool false, .slice none 0 0, .int .i64 0] 186)).drew.cell? ⟨w3.heap.size + 1, 0, none⟩ = some (.bool false) := by have h := cell_new (w3.alloc (.cells #[] 71)) #[.bool false, .slice none 0 0, .int .i64 0] 186 0 _ rfl; rw [zB] at h; exact h
  have fB0 : ((w3.alloc (.cells #[] 71)).alloc (.cells #[.bool false, .slice none 0 0, .int .i64 0] 186)).drew.frozen? ⟨w3.heap.size + 1, 0, none⟩ = false := by have h : ((w3.alloc (.cells #[] 71)).alloc (.cells #[.bool false, .slice none 0 0, .int .i64 0] 186)).frozen? ⟨(w3.alloc (.cells #[] 71)).heap.size, 0, none⟩ = false := (by simp only [World.frozen?, heap_alloc_new]; rfl); rw [zB] at h; exact h
  have cB1 : ((w3.alloc (.cells #[] 71)).alloc (.cells #[.bool false, .slice none 0 0, .int .i64 0] 186)).drew.cell? ⟨w3.heap.size + 1, 1, none⟩ = some (.slice none 0 0) := by have h := cell_new (w3.alloc (.cells #[] 71)) #[.bool false, .slice none 0 0, .int .i64 0] 186 1 _ rfl; rw [zB] at h; exact h
  have fB1 : ((w3.alloc (.cells #[] 71)).alloc (.cells #[.bool false, .slice none 0 0, .int .i64 0] 186)).drew.frozen? ⟨w3.heap.size + 1, 1, none⟩ = false := by have h : ((w3.alloc (.cells #[] 71)).alloc (.cells #[.bool false, .slice none 0 0, .int .i64 0] 186)).frozen? ⟨(w3.alloc (.cells #[] 71)).heap.size, 1, none⟩ = false := (by simp only [World.frozen?, heap_alloc_new]; rfl); rw [zB] at h; exact h
  have cB2 : ((w3.alloc (.cells #[] 71)).alloc (.cells #[.bool false, .slice none 0 0, .int .i64 0] 186)).drew.cell? ⟨w3.heap.size + 1, 2, none⟩ = some (.int .i64 0) := by have h := cell_new (w3.alloc (.cells #[] 71)) #[.bool false, .slice none 0 0, .int .i64 0] 186 2 _ rfl; rw [zB] at h; exact h
  have fB2 : ((w3.alloc (.cells #[] 71)).alloc (.cells #[.bool false, .slice none 0 0, .int .i64 0] 186)).drew.frozen? ⟨w3.heap.size + 1, 2, none⟩ = false := by have h : ((w3.alloc (.cells #[] 71)).alloc (.cells #[.bool false, .slice none 0 0, .int .i64 0] 186)).frozen? ⟨(w3.alloc (.cells #[] 71)).heap.size, 2, none⟩ = false := (by simp only [World.frozen?, heap_alloc_new]; rfl); rw [zB] at h; exact h
  have cC0 : ((w3.alloc (.cells #[.bool false, .slice none 0 0, .int .i64 0] 186)).alloc (.cells #[] 71)).drew.cell? ⟨w3.heap.size, 0, none⟩ = some (.bool false) := ((Ext.refl (w3.alloc (.cells #[.bool false, .slice none 0 0, .int .i64 0] 186))).alloc _).cell (cell_new w3 #[.bool false, .slice none 0 0, .int .i64 0] 186 0 _ rfl)
  have fC0 : ((w3.alloc (.cells #[.bool false, .slice none 0 0, .int .i64 0] 186)).alloc (.cells #[] 71)).drew.frozen? ⟨w3.heap.size, 0, none⟩ = false := (((Ext.refl (w3.alloc (.cells #[.bool false, .slice none 0 0, .int .i64 0] 186))).alloc _).frozen (cell_new w3 #[.bool false, .slice none 0 0, .int .i64 0] 186 0 _ rfl)).trans (by simp only [World.frozen?, heap_alloc_new]; rfl)
  have cC1 : ((w3.alloc (.cells #[.bool false, .slice none 0 0, .int .i64 0] 186)).alloc (.cells #[] 71)).drew.cell? ⟨w3.heap.size, 1, none⟩ = some (.slice none 0 0) := ((Ext.refl (w3.alloc (.cells #[.bool false, .slice none 0 0, .int .i64 0] 186))).alloc _).cell (cell_new w3 #[.bool false, .slice none 0 0, .int .i64 0] 186 1 _ rfl)
  have fC1 : ((w3.alloc (.cells #[.bool false, .slice none 0 0, .int .i64 0] 186)).alloc (.cells #[] 71)).drew.frozen? ⟨w3.heap.size, 1, none⟩ = false := (((Ext.refl (w3.alloc (.cells #[.bool false, .slice none 0 0, .int .i64 0] 186))).alloc _).frozen (cell_new w3 #[.bool false, .slice none 0 0, .int .i64 0] 186 1 _ rfl)).trans (by simp only [World.frozen?, heap_alloc_new]; rfl)
  have cC2 : ((w3.alloc (.cells #[.bool false, .slice none 0 0, .int .i64 0] 186)).alloc (.cells #[] 71)).drew.cell? ⟨w3.heap.size, 2, none⟩ = some (.int .i64 0) := ((Ext.refl (w3.alloc (.cells #[.bool false, .slice none 0 0, .int .i64 0] 186))).alloc _).cell (cell_new w3 #[.bool false, .slice none 0 0, .int .i64 0] 186 2 _ rfl)
  have fC2 : ((w3.alloc (.cells #[.bool false, .slice none 0 0, .int .i64 0] 186)).alloc (.cells #[] 71)).drew.frozen? ⟨w3.heap.size, 2, none⟩ = false := (((Ext.refl (w3.alloc (.cells #[.bool false, .slice none 0 0, .int .i64 0] 186))).alloc _).frozen (cell_new w3 #[.bool false, .slice none 0 0, .int .i64 0] 186 2 _ rfl)).trans (by simp only [World.frozen?, heap_alloc_new]; rfl)
  have hA2 : Ext w3 (w3.alloc (.cells #[] 71)).drew := Ext.trans ((Ext.refl w3).alloc _) (Ext.drew _)
  have hE0 : Ext w3 w3.drew := Ext.drew _
  have hD : Ext w3 (w3.drew.alloc (.cells #[.bool false, .slice none 0 0, .int .i64 0] 186)) := (Ext.drew w3).alloc _
  have hD2 : Ext w3 ((w3.alloc (.cells #[.bool false, .slice none 0 0, .int .i64 0] 186))).drew := Ext.trans ((Ext.refl w3).alloc _) (Ext.drew _)
  go_wp2_with fail
  go_region_held3 (fun w' => w'.cell? ⟨w.heap.size, 0, none⟩ = some (.bool s) ∧ w'.cell? ⟨w.heap.size, 1, none⟩ = some (.slice A n c) ∧ w'.cell? ⟨w.heap.size, 2, none⟩ = some (.int .i64 e)) (first | (with_reducible exact ⟨a0, a1, a2⟩) | (with_reducible exact ⟨hE0.cell a0, hE0.cell a1, hE0.cell a2⟩) | (with_reducible exact ⟨hA.cell a0, hA.cell a1, hA.cell a2⟩) | (with_reducible exact ⟨hA2.cell a0, hA2.cell a1, hA2.cell a2⟩) | (with_reducible exact ⟨hB.cell a0, hB.cell a1, hB.cell a2⟩) | (with_reducible exact ⟨hC.cell a0, hC.cell a1, hC.cell a2⟩) | (with_reducible exact ⟨hD.cell a0, hD.cell a1, hD.cell a2⟩) | (with_reducible exact ⟨hD2.cell a0, hD2.cell a1, hD2.cell a2⟩) | (with_reducible exact ⟨hE4.cell a0, hE4.cell a1, hE4.cell a2⟩) | (with_reducible exact ⟨(hE5 _ _ _).cell a0, (hE5 _ _ _).cell a1, (hE5 _ _ _).cell a2⟩) | (with_reducible exact ⟨(hE6 _).cell a0, (hE6 _).cell a1, (hE6 _).cell a2⟩) | fail)
    (first | (refine append_row_step (w0 := w3) w3.heap.size rfl _ _ 42 4 rfl Tryz.underlying42 info_u32 (by omega) (.slice (some ⟨w3.heap.size, 0, none⟩) 0 0) [] (wd (2 * m + 1)) A n c rfl rfl hlitA (ha3.ext hA) hA hAs hn4 ?_; intro v1 w4 hO4 hB4 hs5 hG4 _; have hE4 : Ext w3 w4 := hB4; have hE6 : ∀ o, Ext w3 (w4.alloc o) := fun o => hE4.alloc o; obtain ⟨A5, n5, c5, hv5, hr5⟩ := hO4.formN; rw [hv5]; clear hv5 hO4) | (refine append_row_step (w0 := w3) w3.heap.size rfl _ _ 42 4 rfl Tryz.underlying42 info_u32 (by omega) (.slice (some ⟨w3.heap.size, 0, none⟩) 0 0) [] (wd (2 * m + 1)) A n c rfl rfl hlitB (ha3.ext hB) hB hBs hn4 ?_; intro v1 w4 hO4 hB4 hs5 hG4 _; have hE4 : Ext w3 w4 := hB4; have hE6 : ∀ o, Ext w3 (w4.alloc o) := fun o => hE4.alloc o; have hE5 : ∀ u v x, Ext w3 (((w4.setCell ⟨w3.heap.size + 1, 0, none⟩ u).setCell ⟨w3.heap.size + 1, 1, none⟩ v).setCell ⟨w3.heap.size + 1, 2, none⟩ x) := fun u v x => ((hE4.setCell (by show w3.heap.size ≤ w3.heap.size + 1; omega) u).setCell (by show w3.heap.size ≤ w3.heap.size + 1; omega) v).setCell (by show w3.heap.size ≤ w3.heap.size + 1; omega) x; have q0 := hG4.cell cB0 nB; have q1 := hG4.cell cB1 nB; have q2 := hG4.cell cB2 nB; have p0 := (hG4.frozen_far _ (World.block_lt_of_cell? _ _ cB0) nB).trans fB0; have p1 := (hG4.frozen_far _ (World.block_lt_of_cell? _ _ cB1) nB).trans fB1; have p2 := (hG4.frozen_far _ (World.block_lt_of_cell? _ _ cB2) nB).trans fB2; obtain ⟨A5, n5, c5, hv5, hr5⟩ := hO4.formN; rw [hv5]; clear hv5 hO4) | (refine append_row_step (w0 := w3) w3.heap.size rfl _ _ 42 4 rfl Tryz.underlying42 info_u32 (by omega) (.slice (some ⟨w3.heap.size + 1, 0, none⟩) 0 0) [] (wd (2 * m + 1)) A n c rfl rfl hlitC (ha3.ext hC) hC hCs hn4 ?_; intro v1 w4 hO4 hB4 hs5 hG4 _; have hE4 : Ext w3 w4 := hB4; have hE6 : ∀ o, Ext w3 (w4.alloc o) := fun o => hE4.alloc o; have hE5 : ∀ u v x, Ext w3 (((w4.setCell ⟨w3.heap.size, 0, none⟩ u).setCell ⟨w3.heap.size, 1, none⟩ v).setCell ⟨w3.heap.size, 2, none⟩ x) := fun u v x => ((hE4.setCell (by show w3.heap.size ≤ w3.heap.size; omega) u).setCell (by show w3.heap.size ≤ w3.heap.size; omega) v).setCell (by show w3.heap.size ≤ w3.heap.size; omega) x; have q0 := hG4.cell cC0 nC; have q1 := hG4.cell cC1 nC; have q2 := hG4.cell cC2 nC; have p0 := (hG4.frozen_far _ (World.block_lt_of_cell? _ _ cC0) nC).trans fC0; have p1 := (hG4.frozen_far _ (World.block_lt_of_cell? _ _ cC1) nC).trans fC1; have p2 := (hG4.frozen_far _ (World.block_lt_of_cell? _ _ cC2) nC).trans fC2; obtain ⟨A5, n5, c5, hv5, hr5⟩ := hO4.formN; rw [hv5]; clear hv5 hO4))
  · have hr6 : Nt w4 A5 n5 c5 (2 * m + 1) := hr5
    have E5 := hE6 (.cells #[.bool s, .slice A5 n5 c5, .int .i64 (e + k)] 186)
    have S3 := (show _ ∧ _ ∧ _ from ⟨cell_new w4 #[.bool s, .slice A5 n5 c5, .int .i64 (e + k)] 186 0 _ rfl, cell_new w4 #[.bool s, .slice A5 n5 c5, .int .i64 (e + k)] 186 1 _ rfl, cell_new w4 #[.bool s, .slice A5 n5 c5, .int .i64 (e + k)] 186 2 _ rfl⟩)
    have N5 := hr6.ext ((Ext.refl w4).alloc (.cells #[.bool s, .slice A5 n5 c5, .int .i64 (e + k)] 186))
    generalize w4.alloc (.cells #[.bool s, .slice A5 n5 c5, .int .i64 (e + k)] 186) = W5 at *
    have E5s := E5.size
    have d0 := E5.cell c0
    have d1 := E5.cell c1
    have d2 := E5.cell c2
    have g0 : W5.frozen? ⟨w.heap.size + 1, 0, none⟩ = false := (E5.frozen c0).trans f0
    have g1 : W5.frozen? ⟨w.heap.size + 1, 1, none⟩ = false := (E5.frozen c1).trans f1
    have g2 : W5.frozen? ⟨w.heap.size + 1, 2, none⟩ = false := (E5.frozen c2).trans f2
    have R3 := Lib.hid (set3 W5 (w.heap.size + 1) (.bool s) (.slice A5 n5 c5) (.int .i64 (e + k)) d0 d1 d2)
    have N6 := set3_nt N5 (w.heap.size + 1) (.bool s) (.slice A5 n5 c5) (.int .i64 (e + k)) d0 d1 d2 (by intro y h; cases h) (by intro y h; cases h) (by intro y h; cases h)
    have eF := (((e1.trans (e3.trans E5)).setCell (p := ⟨w.heap.size + 1, 0, none⟩) (Nat.le_succ _) (.bool s)).setCell (p := ⟨w.heap.size + 1, 1, none⟩) (Nat.le_succ _) (.slice A5 n5 c5)).setCell (p := ⟨w.heap.size + 1, 2, none⟩) (Nat.le_succ _) (.int .i64 (e + k))
    obtain ⟨s0, s1, s2⟩ := S3
    go_wp2_with fail
    refine bodyPost_ret (results_num rfl _ _ (w.heap.size + 1) s A5 n5 c5 (e + k) rfl R3.out.1 R3.out.2.1 R3.out.2.2) rfl ?_
    exact ⟨A5, n5, c5, rfl, N6, eF⟩
  · have hr6 : Nt w4 A5 n5 c5 (2 * m + 1) := hr5
    have E5 := hE5 (.bool s) (.slice A5 n5 c5) (.int .i64 (e + k))
    have S3 := set3 w4 (w3.heap.size + 1) (.bool s) (.slice A5 n5 c5) (.int .i64 (e + k)) q0 q1 q2
    have N5 := set3_nt hr6 (w3.heap.size + 1) (.bool s) (.slice A5 n5 c5) (.int .i64 (e + k)) q0 q1 q2 (by intro y h; cases h) (by intro y h; cases h) (by intro y h; cases h)
    clear q0 q1 q2 p0 p1 p2 hE5
    generalize ((w4.setCell ⟨w3.heap.size + 1, 0, none⟩ (.bool s)).setCell ⟨w3.heap.size + 1, 1, none⟩ (.slice A5 n5 c5)).setCell ⟨w3.heap.size + 1, 2, none⟩ (.int .i64 (e + k)) = W5 at *
    have E5s := E5.size
    have d0 := E5.cell c0
    have d1 := E5.cell c1
    have d2 := E5.cell c2
    have g0 : W5.frozen? ⟨w.heap.size + 1, 0, none⟩ = false := (E5.frozen c0).trans f0
    have g1 : W5.frozen? ⟨w.heap.size + 1, 1, none⟩ = false := (E5.frozen c1).trans f1
    have g2 : W5.frozen? ⟨w.heap.size + 1, 2, none⟩ = false := (E5.frozen c2).trans f2
    have R3 := Lib.hid (set3 W5 (w.heap.size + 1) (.bool s) (.slice A5 n5 c5) (.int .i64 (e + k)) d0 d1 d2)
    have N6 := set3_nt N5 (w.heap.size + 1) (.bool s) (.slice A5 n5 c5) (.int .i64 (e + k)) d0 d1 d2 (by intro y h; cases h) (by intro y h; cases h) (by intro y h; cases h)
    have eF := (((e1.trans (e3.trans E5)).setCell (p := ⟨w.heap.size + 1, 0, none⟩) (Nat.le_succ _) (.bool s)).setCell (p := ⟨w.heap.size + 1, 1, none⟩) (Nat.le_succ _) (.slice A5 n5 c5)).setCell (p := ⟨w.heap.size + 1, 2, none⟩) (Nat.le_succ _) (.int .i64 (e + k))
    obtain ⟨s0, s1, s2⟩ := S3
    go_wp2_with fail
    refine bodyPost_ret (results_num rfl _ _ (w.heap.size + 1) s A5 n5 c5 (e + k) rfl R3.out.1 R3.out.2.1 R3.out.2.2) rfl ?_
    exact ⟨A5, n5, c5, rfl, N6, eF⟩
  · have hr6 : Nt w4 A5 n5 c5 (2 * m + 1) := hr5
    have E5 := hE5 (.bool s) (.slice A5 n5 c5) (.int .i64 (e + k))
    have S3 := set3 w4 (w3.heap.size) (.bool s) (.slice A5 n5 c5) (.int .i64 (e + k)) q0 q1 q2
    have N5 := set3_nt hr6 (w3.heap.size) (.bool s) (.slice A5 n5 c5) (.int .i64 (e + k)) q0 q1 q2 (by intro y h; cases h) (by intro y h; cases h) (by intro y h; cases h)
    clear q0 q1 q2 p0 p1 p2 hE5
    generalize ((w4.setCell ⟨w3.heap.size, 0, none⟩ (.bool s)).setCell ⟨w3.heap.size, 1, none⟩ (.slice A5 n5 c5)).setCell ⟨w3.heap.size, 2, none⟩ (.int .i64 (e + k)) = W5 at *
    have E5s := E5.size
    have d0 := E5.cell c0
    have d1 := E5.cell c1
    have d2 := E5.cell c2
    have g0 : W5.frozen? ⟨w.heap.size + 1, 0, none⟩ = false := (E5.frozen c0).trans f0
    have g1 : W5.frozen? ⟨w.heap.size + 1, 1, none⟩ = false := (E5.frozen c1).trans f1
    have g2 : W5.frozen? ⟨w.heap.size + 1, 2, none⟩ = false := (E5.frozen c2).trans f2
    have R3 := Lib.hid (set3 W5 (w.heap.size + 1) (.bool s) (.slice A5 n5 c5) (.int .i64 (e + k)) d0 d1 d2)
    have N6 := set3_nt N5 (w.heap.size + 1) (.bool s) (.slice A5 n5 c5) (.int .i64 (e + k)) d0 d1 d2 (by intro y h; cases h) (by intro y h; cases h) (by intro y h; cases h)
    have eF := (((e1.trans (e3.trans E5)).setCell (p := ⟨w.heap.size + 1, 0, none⟩) (Nat.le_succ _) (.bool s)).setCell (p := ⟨w.heap.size + 1, 1, none⟩) (Nat.le_succ _) (.slice A5 n5 c5)).setCell (p := ⟨w.heap.size + 1, 2, none⟩) (Nat.le_succ _) (.int .i64 (e + k))
    obtain ⟨s0, s1, s2⟩ := S3
    go_wp2_with fail
    refine bodyPost_ret (results_num rfl _ _ (w.heap.size + 1) s A5 n5 c5 (e + k) rfl R3.out.1 R3.out.2.1 R3.out.2.2) rfl ?_
    exact ⟨A5, n5, c5, rfl, N6, eF⟩
end Go.Proofs.YtkljejejabikiaaGreatDoor

/- Floats by their bits: what a float's bits tell, in units of 2^-1074. Plain. -/
namespace Cusp
open Go Ieee

/-- What the bits of a float from 0 on tell, in units of 2^-1074. -/
def V (b : Nat) : Nat := if b < 4503599627370496 then b else (4503599627370496 + b % 4503599627370496) * 2 ^ (b / 4503599627370496 - 1)

theorem V_of {q k : Nat} (hk : k < 9007199254740992) (h : 4503599627370496 ≤ k ∨ q = 0) : V (q * 4503599627370496 + k) = k * 2 ^ q := by
  unfold V
  rcases Nat.lt_or_ge k 4503599627370496 with h1 | h1
  · have hq : q = 0 := h.resolve_left (by omega)
    subst hq
    rw [Nat.zero_mul, Nat.zero_add, if_pos h1, Nat.pow_zero, Nat.mul_one]
  · have e1 : (q * 4503599627370496 + k) / 4503599627370496 = q + 1 := by omega
    have e2 : (q * 4503599627370496 + k) % 4503599627370496 = k - 4503599627370496 := by omega
    rw [if_neg (by omega), e1, e2, Nat.add_sub_cancel, show 4503599627370496 + (k - 4503599627370496) = k by omega]
/-- Every float from 0 on has this form. -/
theorem V_form (b : Nat) : ∃ q k : Nat, b = q * 4503599627370496 + k ∧ k < 9007199254740992 ∧ (4503599627370496 ≤ k ∨ q = 0) ∧ V b = k * 2 ^ q := by
  rcases Nat.lt_or_ge b 4503599627370496 with h | h
  · exact ⟨0, b, by omega, by omega, .inr rfl, by unfold V; rw [if_pos h, Nat.pow_zero, Nat.mul_one]⟩
  · refine ⟨b / 4503599627370496 - 1, 4503599627370496 + b % 4503599627370496, by omega, by omega, .inl (by omega), ?_⟩
    unfold V; rw [if_neg (by omega)]
theorem V_succ (b : Nat) : V b < V (b + 1) := by
  obtain ⟨q, k, rfl, hk, hq, hV⟩ := V_form b
  rw [hV]
  have hp : 0 < 2 ^ q := Nat.pow_pos (by omega)
  rcases Nat.lt_or_ge (k + 1) 9007199254740992 with h | h
  · rw [Nat.add_assoc, V_of h (by omega), Nat.add_mul]; omega
  · have hk1 : k = 9007199254740991 := by omega
    have e : q * 4503599627370496 + k + 1 = (q + 1) * 4503599627370496 + 4503599627370496 := by omega
    rw [e, V_of (by omega) (.inl (by omega)), Nat.pow_succ, hk1]
    omega
theorem V_lt {a b : Nat} (h : a < b) : V a < V b := by
  induction b with
  | zero => omega
  | succ b ih =>
    rcases Nat.lt_or_ge a b with h1 | h1
    · exact Nat.lt_trans (ih h1) (V_succ b)
    · rw [show a = b by omega]; exact V_succ b
theorem V_le {a b : Nat} (h : a ≤ b) : V a ≤ V b := by
  rcases Nat.lt_or_ge a b with h1 | h1
  · exact Nat.le_of_lt (V_lt h1)
  · rw [show a = b by omega]; exact Nat.le_refl _
theorem V_inj {a b : Nat} (h : V a = V b) : a = b := by
  rcases Nat.lt_trichotomy a b with h1 | h1 | h1
  · have := V_lt h1; omega
  · exact h1
  · have := V_lt h1; omega
theorem V_zero : V 0 = 0 := rfl
theorem V_pos {b : Nat} (h : 0 < b) : 0 < V b := by have := V_lt h; rw [V_zero] at this; exact this

theorem fb : double.binade = 4503599627370496 := rfl
theorem fi : double.infRung = 9218868437227405312 := by decide
theorem fs : double.signWeight = 9223372036854775808 := by decide
theorem fl : double.leastPlace = -1074 := by decide

/-- What finite bits are read as. -/
theorem read_fin {b : Nat} (h : b < 9218868437227405312) (s : Bool) : ∃ q k : Nat, double.read (double.word s b) = .number s k ((q : Int) - 1074) ∧ b = q * 4503599627370496 + k ∧ k < 9007199254740992 ∧ (4503599627370496 ≤ k ∨ q = 0) ∧ V b = k * 2 ^ q ∧ q ≤ 2045 := by
  have hneg : (double.word s b / double.signWeight % 2 == 1) = s := by
    unfold Format.word
    rw [fs]
    cases s with
    | false =>
      rw [if_neg (by simp), beq_eq_false_iff_ne]; omega
    | true => rw [if_pos rfl, beq_iff_eq]; omega
  have hmod : double.word s b % double.signWeight = b := by
    unfold Format.word
    rw [fs]
    cases s with
    | false => rw [if_neg (by simp)]; omega
    | true => rw [if_pos rfl]; omega
  unfold Format.read
  simp only [hneg, hmod, fb, fi, fl]
  rcases Nat.lt_or_ge b 4503599627370496 with h1 | h1
  · refine ⟨0, b, ?_, by omega, by omega, .inr rfl, ?_, by omega⟩
    · rw [if_pos h1]; rfl
    · unfold V; rw [if_pos h1, Nat.pow_zero, Nat.mul_one]
  · refine ⟨b / 4503599627370496 - 1, 4503599627370496 + b % 4503599627370496, ?_, by omega, by omega, .inl (by omega), ?_, by omega⟩
    · rw [if_neg (by omega), if_pos h, Int.add_comm]; rfl
    · unfold V; rw [if_neg (by omega)]

theorem cut_exact (neg : Bool) (n drop x : Nat) (h : n = x * 2 ^ drop) : Toward.even.cut neg n drop = x := by
  subst h
  unfold Toward.cut
  rcases Nat.eq_zero_or_pos x with h0 | h0
  · subst h0; simp
  · have hlog : drop ≤ (x * 2 ^ drop).log2 := by
      rw [Nat.le_log2 (Nat.pos_iff_ne_zero.1 (Nat.mul_pos h0 (Nat.pow_pos (by omega))))]
      exact Nat.le_mul_of_pos_left _ h0
    have hmin : min drop ((x * 2 ^ drop).log2 + 2) = drop := by omega
    rw [hmin, Nat.shiftLeft_eq, Nat.one_mul]
    have hp : 0 < 2 ^ drop := Nat.pow_pos (by omega)
    simp only [Nat.mul_div_cancel _ hp, Nat.mul_mod_left, Nat.mul_zero, Nat.not_lt_zero, decide_false, Bool.false_or]
    have : ((2 ^ drop : Nat) == 0) = false := by rw [beq_eq_false_iff_ne]; omega
    rw [this]; rfl

/-- A number that a float tells is written as that float. 'mag * 2 ^ place' is 'V r' units. -/
theorem nearest_ne (s : Bool) (mag : Nat) (place : Int) (hm : mag ≠ 0) : double.nearest s mag place = double.word s (min (((max (place + mag.log2 - (double.fractionBits : Nat)) double.leastPlace) - double.leastPlace).toNat * double.binade +
    Toward.even.cut s (mag <<< (place - (max (place + mag.log2 - (double.fractionBits : Nat)) double.leastPlace)).toNat) ((max (place + mag.log2 - (double.fractionBits : Nat)) double.leastPlace) - place).toNat) double.infRung) := by
  unfold Format.nearest
  rw [if_neg hm]
theorem nearest_exact (s : Bool) {mag r K : Nat} {place : Int} (hp : 0 ≤ place + 1074 + K) (h : mag * 2 ^ (place + 1074 + K).toNat = V r * 2 ^ K) (hr : r < 9218868437227405312) : double.nearest s mag place = double.word s r := by
  by_cases hm : mag = 0
  · subst hm
    unfold Format.nearest
    rw [if_pos rfl]
    congr 1
    rw [Nat.zero_mul] at h
    have hV : V r = 0 := by
      rcases Nat.eq_zero_or_pos (V r) with h1 | h1
      · exact h1
      · have := Nat.mul_pos h1 (Nat.pow_pos (n := K) (show 0 < 2 by omega)); omega
    rcases Nat.eq_zero_or_pos r with h1 | h1
    · exact h1.symm
    · have := V_pos h1; omega
  · rw [nearest_ne s mag place hm]
    obtain ⟨q, k, rfl, hk, hq, hV⟩ := V_form r
    rw [hV, Nat.mul_assoc, ← Nat.pow_add] at h
    obtain ⟨P, hP⟩ : ∃ P : Nat, place + 1074 + K = (P : Int) := ⟨(place + 1074 + K).toNat, by omega⟩
    rw [hP, Int.toNat_natCast] at h
    have hk0 : k ≠ 0 := by
      rintro rfl
      rw [Nat.zero_mul] at h
      have := Nat.mul_pos (Nat.pos_of_ne_zero hm) (Nat.pow_pos (n := P) (show 0 < 2 by omega)); omega
    have hL : mag.log2 + P = k.log2 + (q + K) := by
      have h1 := Nat.log2_eq_iff hm (k := mag.log2) |>.1 rfl
      have h2 := Nat.log2_eq_iff hk0 (k := k.log2) |>.1 rfl
      have a1 : 2 ^ (mag.log2 + P) ≤ mag * 2 ^ P := by rw [Nat.pow_add]; exact Nat.mul_le_mul_right _ h1.1
      have a2 : mag * 2 ^ P < 2 ^ (mag.log2 + 1 + P) := by rw [Nat.pow_add]; exact Nat.mul_lt_mul_of_pos_right h1.2 (Nat.pow_pos (n := P) (show 0 < 2 by omega))
      have b1 : 2 ^ (k.log2 + (q + K)) ≤ k * 2 ^ (q + K) := by rw [Nat.pow_add]; exact Nat.mul_le_mul_right _ h2.1
      have b2 : k * 2 ^ (q + K) < 2 ^ (k.log2 + 1 + (q + K)) := by rw [Nat.pow_add 2 (k.log2 + 1)]; exact Nat.mul_lt_mul_of_pos_right h2.2 (Nat.pow_pos (n := q + K) (show 0 < 2 by omega))
      rw [h] at a1 a2
      have c1 := (Nat.pow_lt_pow_iff_right (a := 2) (show 1 < 2 by decide)).1 (Nat.lt_of_le_of_lt a1 b2)
      have c2 := (Nat.pow_lt_pow_iff_right (a := 2) (show 1 < 2 by decide)).1 (Nat.lt_of_le_of_lt b1 a2)
      omega
    have hlk : k.log2 ≤ 52 := by
      have : k.log2 < 53 := (Nat.log2_lt hk0).2 (by simpa using hk)
      omega
    have hlast : max (place + mag.log2 - (double.fractionBits : Nat)) double.leastPlace = (q : Int) - 1074 := by
      rw [fl, show double.fractionBits = 52 from rfl]
      rcases hq with hq | hq
      · have h52 : 52 ≤ k.log2 := (Nat.le_log2 hk0).2 (by simpa using hq)
        omega
      · rcases Nat.lt_or_ge k 4503599627370496 with h1 | h1
        · have : k.log2 < 52 := (Nat.log2_lt hk0).2 (by simpa using h1)
          omega
        · have h52 : 52 ≤ k.log2 := (Nat.le_log2 hk0).2 (by simpa using h1)
          omega
    rw [hlast, fl, fb, fi, show ((q : Int) - 1074 - -1074).toNat = q by omega]
    suffices hcut : Toward.even.cut s (mag <<< (place - ((q : Int) - 1074)).toNat) ((q : Int) - 1074 - place).toNat = k by
      rw [hcut, Nat.min_eq_left (by omega)]
    rcases Int.le_total ((q : Int) - 1074) place with hpl | hpl
    · obtain ⟨D, hD⟩ : ∃ D : Nat, place - ((q : Int) - 1074) = (D : Int) := ⟨(place - ((q : Int) - 1074)).toNat, by omega⟩
      rw [show ((q : Int) - 1074 - place).toNat = 0 by omega, hD, Int.toNat_natCast]
      apply cut_exact
      rw [Nat.pow_zero, Nat.mul_one, Nat.shiftLeft_eq]
      have e : P = D + (q + K) := by omega
      rw [e, Nat.pow_add, ← Nat.mul_assoc] at h
      exact Nat.eq_of_mul_eq_mul_right (Nat.pow_pos (by omega)) h
    · obtain ⟨D, hD⟩ : ∃ D : Nat, (q : Int) - 1074 - place = (D : Int) := ⟨((q : Int) - 1074 - place).toNat, by omega⟩
      rw [show (place - ((q : Int) - 1074)).toNat = 0 by omega, hD, Int.toNat_natCast]
      apply cut_exact
      rw [Nat.shiftLeft_zero]
      have e : q + K = D + P := by omega
      rw [e, Nat.pow_add, ← Nat.mul_assoc] at h
      exact Nat.eq_of_mul_eq_mul_right (Nat.pow_pos (by omega)) h
end Cusp

/- How floats stand to each other; whole numbers as floats. Plain. -/
namespace Cusp
open Go Ieee

/-- A finite float's value with its sign, in units of 2^-1074. -/
def sv (s : Bool) (b : Nat) : Int := if s = true then -(V b : Int) else V b

theorem compare_mul (x y : Int) {P : Int} (hP : 0 < P) : compare (x * P) (y * P) = compare x y := by
  rcases Int.lt_trichotomy x y with h | h | h
  · have h1 : x * P < y * P := Int.mul_lt_mul_of_pos_right h hP
    rw [show compare x y = .lt from Int.compare_eq_lt.2 h, show compare (x * P) (y * P) = .lt from Int.compare_eq_lt.2 h1]
  · subst h; rw [show compare x x = .eq from Int.compare_eq_eq.2 rfl, show compare (x * P) (x * P) = .eq from Int.compare_eq_eq.2 rfl]
  · have h1 : y * P < x * P := Int.mul_lt_mul_of_pos_right h hP
    rw [show compare x y = .gt from Int.compare_eq_gt.2 h, show compare (x * P) (y * P) = .gt from Int.compare_eq_gt.2 h1]

theorem signed_mul (s : Bool) (m u p : Nat) : signed s m u * (2 ^ p : Nat) = if s = true then -((m * 2 ^ (u + p) : Nat) : Int) else ((m * 2 ^ (u + p) : Nat) : Int) := by
  unfold signed
  rw [Nat.shiftLeft_eq, Nat.pow_add, ← Nat.mul_assoc]
  cases s with
  | false => simp
  | true => simp [Int.neg_mul]

theorem order_fin (s t : Bool) {a b : Nat} (ha : a < 9218868437227405312) (hb : b < 9218868437227405312) : double.order (double.word s a) (double.word t b) = some (compare (sv s a) (sv t b)) := by
  obtain ⟨q, k, hr, _, _, _, hV, _⟩ := read_fin ha s
  obtain ⟨q', k', hr', _, _, _, hV', _⟩ := read_fin hb t
  unfold Format.order
  rw [hr, hr']
  simp only [Datum.order]
  congr 1
  obtain ⟨p, hp⟩ : ∃ p : Nat, min ((q : Int) - 1074) ((q' : Int) - 1074) = (p : Int) - 1074 := ⟨min q q', by omega⟩
  rw [hp]
  have e1 : ((q : Int) - 1074 - ((p : Int) - 1074)).toNat + p = q := by omega
  have e2 : ((q' : Int) - 1074 - ((p : Int) - 1074)).toNat + p = q' := by omega
  have hP : (0 : Int) < ((2 ^ p : Nat) : Int) := by have : 0 < 2 ^ p := Nat.pow_pos (by omega); omega
  rw [← compare_mul _ _ hP, signed_mul, signed_mul, e1, e2, ← hV, ← hV']
  rfl

/-- A whole number times a power of two is a float's value, if it has no more than 53 bits. -/
theorem V_rep (e : Nat) : ∀ n, n < 9007199254740992 → ∃ r, V r = n * 2 ^ e := by
  induction e with
  | zero => intro n hn; exact ⟨n, by have := V_of (q := 0) hn (.inr rfl); simpa using this⟩
  | succ e ih =>
    intro n hn
    rcases Nat.lt_or_ge n 4503599627370496 with h | h
    · obtain ⟨r, hr⟩ := ih (2 * n) (by omega)
      exact ⟨r, by rw [hr, Nat.pow_succ, Nat.mul_comm 2 n, Nat.mul_assoc, Nat.mul_comm 2]⟩
    · exact ⟨(e + 1) * 4503599627370496 + n, V_of hn (.inl h)⟩
/-- The first power of two above all floats is 2^top units. -/
def top : Nat := 2098
theorem top_eq {q : Nat} (h : 52 + q = top) : 4503599627370496 * 2 ^ q = 2 ^ top := by
  rw [← h, Nat.pow_add]
theorem V_inf : V 9218868437227405312 = 2 ^ top := by
  obtain ⟨q, hq⟩ : ∃ q : Nat, 52 + q = top := ⟨2046, by unfold top; omega⟩
  have h := V_of (q := q) (k := 4503599627370496) (by omega) (.inl (by omega))
  have e : q * 4503599627370496 + 4503599627370496 = 9218868437227405312 := by unfold top at hq; omega
  rw [e, top_eq hq] at h
  exact h
theorem lt_inf {r : Nat} (h : V r < 2 ^ top) : r < 9218868437227405312 := by
  rcases Nat.lt_or_ge r 9218868437227405312 with h1 | h1
  · exact h1
  · have := V_le h1; rw [V_inf] at this; exact absurd h (Nat.not_lt.2 this)
theorem inf_lt {r : Nat} (h : r < 9218868437227405312) : V r < 2 ^ top := by rw [← V_inf]; exact V_lt h
end Cusp
namespace Cusp
open Go Ieee
/-- Every word of 64 bits: a sign and a rung. -/
theorem word_split {b : Nat} (h : b < 18446744073709551616) : b = double.word (b / 9223372036854775808 == 1) (b % 9223372036854775808) := by
  unfold Format.word
  rw [fs]
  rcases (show b / 9223372036854775808 = 0 ∨ b / 9223372036854775808 = 1 by omega) with h1 | h1
  · rw [h1, if_neg (by decide)]; omega
  · rw [h1, if_pos (by decide)]; omega
theorem word_mod (s : Bool) {r : Nat} (h : r < 9223372036854775808) : double.word s r % 9223372036854775808 = r := by
  unfold Format.word
  rw [fs]
  cases s with
  | false => rw [if_neg (by simp)]; omega
  | true => rw [if_pos rfl]; omega
theorem word_div (s : Bool) {r : Nat} (h : r < 9223372036854775808) : double.word s r / 9223372036854775808 = if s = true then 1 else 0 := by
  unfold Format.word
  rw [fs]
  cases s with
  | false => rw [if_neg (by simp), if_neg (by simp)]; omega
  | true => rw [if_pos rfl, if_pos rfl]; omega
theorem word_lt64 (s : Bool) {r : Nat} (h : r < 9223372036854775808) : double.word s r < 18446744073709551616 := by
  unfold Format.word
  rw [fs]
  cases s with
  | false => rw [if_neg (by simp)]; omega
  | true => rw [if_pos rfl]; omega
theorem read_inf (s : Bool) : double.read (double.word s 9218868437227405312) = .infinity s := by
  cases s <;> decide
theorem read_nan (s : Bool) {r : Nat} (h1 : 9218868437227405312 < r) (h2 : r < 9223372036854775808) : double.read (double.word s r) = .nan s (r - 9218868437227405312) := by
  have hneg : (double.word s r / double.signWeight % 2 == 1) = s := by
    rw [fs, word_div s h2]; cases s <;> rfl
  have hmod : double.word s r % double.signWeight = r := by rw [fs, word_mod s h2]
  unfold Format.read
  simp only [hneg, hmod, fb, fi]
  rw [if_neg (by omega), if_neg (by omega), if_neg (by omega)]
/-- Is it a NaN? -/
theorem order_self {b : Nat} (h : b < 18446744073709551616) : (double.order b b == some .eq) = decide (b % 9223372036854775808 ≤ 9218868437227405312) := by
  have hr : b % 9223372036854775808 < 9223372036854775808 := Nat.mod_lt _ (by omega)
  rcases Nat.lt_trichotomy (b % 9223372036854775808) 9218868437227405312 with h1 | h1 | h1
  · have e := order_fin (b / 9223372036854775808 == 1) (b / 9223372036854775808 == 1) h1 h1
    rw [← word_split h] at e
    rw [e, show compare (sv (b / 9223372036854775808 == 1) (b % 9223372036854775808)) (sv (b / 9223372036854775808 == 1) (b % 9223372036854775808)) = .eq from Int.compare_eq_eq.2 rfl, decide_eq_true (Nat.le_of_lt h1)]
    rfl
  · have e : double.order b b = some .eq := by
      unfold Format.order
      have e1 := read_inf (b / 9223372036854775808 == 1)
      rw [← h1, ← word_split h] at e1
      rw [e1]
      cases (b / 9223372036854775808 == 1) <;> rfl
    rw [e, decide_eq_true (by omega)]; rfl
  · have e : double.order b b = none := by
      unfold Format.order
      have e1 := read_nan (b / 9223372036854775808 == 1) h1 hr
      rw [← word_split h] at e1
      rw [e1]; rfl
    rw [e, decide_eq_false (by omega)]; rfl
end Cusp

/- Package math at floats by their bits. -/
namespace Go.Proofs.YtkljejejabikiaaGreatDoor
open Go Go.RowKit Cusp

theorem run_fbits (b : Nat) (w : World) : (callFunc 58 #[.float .f64 b]).run Tryz.prog w = .ok (.value (.int .u64 (b : Int))) w := by
  rw [run_callFunc_extern Tryz.func58 (by kernel_rfl) (by kernel_rfl) (by kernel_rfl) (e := Extern.MathFloatBits.float64bits) (by kernel_rfl)]
  rfl
theorem run_ffrom (b : Nat) (w : World) : (callFunc 88 #[.int .u64 (b : Int)]).run Tryz.prog w = .ok (.value (.float .f64 b)) w := by
  rw [run_callFunc_extern Tryz.func88 (by kernel_rfl) (by kernel_rfl) (by kernel_rfl) (e := Extern.MathFloatBits.float64frombits) (by kernel_rfl)]
  rfl
theorem run_ffromI (x : Int) (w : World) : (callFunc 88 #[.int .u64 x]).run Tryz.prog w = .ok (.value (.float .f64 x.toNat)) w := by
  rw [run_callFunc_extern Tryz.func88 (by kernel_rfl) (by kernel_rfl) (by kernel_rfl) (e := Extern.MathFloatBits.float64frombits) (by kernel_rfl)]
  rfl

theorem and_pow (b n : Nat) : b &&& 2 ^ n = (b / 2 ^ n % 2) * 2 ^ n := by
  apply Nat.eq_of_testBit_eq
  intro i
  rw [Nat.testBit_and, Nat.testBit_two_pow, Nat.testBit_mul_two_pow]
  by_cases h : n = i
  · subst h
    simp only [decide_true, Bool.and_true, Nat.le_refl, Nat.sub_self, Bool.true_and, Nat.testBit_zero]
    rw [Nat.testBit_eq_decide_div_mod_eq, Nat.mod_mod]
  · rw [decide_eq_false h, Bool.and_false]
    rcases Nat.lt_or_ge i n with h1 | h1
    · rw [decide_eq_false (by omega), Bool.false_and]
    · rw [Nat.testBit_lt_two_pow (i := i - n), Bool.and_false]
      have h2 : 2 ^ 1 ≤ 2 ^ (i - n) := Nat.pow_le_pow_right (by omega) (by omega)
      have h3 := Nat.mod_lt (b / 2 ^ n) (show 0 < 2 by omega)
      omega
theorem and_pow63 (b : Nat) : b &&& 9223372036854775808 = (b / 9223372036854775808 % 2) * 9223372036854775808 := by
  have h := and_pow b 63
  rwa [show (2 : Nat) ^ 63 = 9223372036854775808 from by decide] at h
theorem clear_sign {b : Nat} (hb : b < 18446744073709551616) : bits .andNot .u64 (b : Int) 9223372036854775808 = ((b % 9223372036854775808 : Nat) : Int) := by
  have h := u64_andNot_nat b 9223372036854775808 hb (by omega)
  rw [show ((9223372036854775808 : Nat) : Int) = 9223372036854775808 from rfl] at h
  rw [h, show 18446744073709551615 - 9223372036854775808 = 2 ^ 63 - 1 from by decide, Nat.and_two_pow_sub_one_eq_mod]
theorem keep_sign {b : Nat} (hb : b < 18446744073709551616) : bits .and .u64 (b : Int) 9223372036854775808 = ((b / 9223372036854775808 * 9223372036854775808 : Nat) : Int) := by
  have h := bits_and_u64_nat b 9223372036854775808 hb (by omega)
  rw [show ((9223372036854775808 : Nat) : Int) = 9223372036854775808 from rfl] at h
  rw [h, and_pow63]
  congr 2; omega
theorem or_sign {a s : Nat} (ha : a < 9223372036854775808) (hs : s ≤ 1) : bits .or .u64 (a : Int) ((s * 9223372036854775808 : Nat) : Int) = ((s * 9223372036854775808 + a : Nat) : Int) := by
  rw [u64_or_nat a (s * 9223372036854775808) (by omega) (by omega)]
  congr 1
  rcases (show s = 0 ∨ s = 1 by omega) with h | h
  · subst h; simp
  · subst h
    rw [Nat.one_mul, Nat.or_comm]
    have := Nat.two_pow_add_eq_or_of_lt (i := 63) (b := a) (by simpa using ha) 1
    rw [show (2 : Nat) ^ 63 = 9223372036854775808 from by decide, Nat.mul_one] at this
    exact this.symm

set_option maxHeartbeats 1000000 in
set_option maxRecDepth 100000 in
theorem abs_f_calls (b : Nat) (hb : b < 18446744073709551616) (w : World) : Calls Tryz.prog 25 #[.float .f64 b] w fun r w' => r = .returned (.float .f64 (b % 9223372036854775808)) ∧ w' = w := by
  have h1 := run_fbits b
  have h2 := run_ffromI
  have h3 := clear_sign hb
  go_enter Tryz.func25, Tryz.ntmps25
  go_wp2
  go_ret
  exact ⟨rfl, rfl⟩

set_option maxHeartbeats 1000000 in
set_option maxRecDepth 100000 in
theorem copysign_calls (b c : Nat) (hb : b < 18446744073709551616) (hc : c < 18446744073709551616) (w : World) : Calls Tryz.prog 46 #[.float .f64 b, .float .f64 c] w fun r w' => r = .returned (.float .f64 (c / 9223372036854775808 * 9223372036854775808 + b % 9223372036854775808)) ∧ w' = w := by
  have h1 := run_fbits b
  have h1' := run_fbits c
  have h2 := run_ffromI
  have h3 := clear_sign hb
  have h4 := keep_sign hc
  have h5 := or_sign (a := b % 9223372036854775808) (s := c / 9223372036854775808) (by omega) (by omega)
  obtain ⟨x, hx⟩ : ∃ x, x = b % 9223372036854775808 := ⟨_, rfl⟩
  obtain ⟨y, hy⟩ : ∃ y, y = c / 9223372036854775808 * 9223372036854775808 := ⟨_, rfl⟩
  rw [← hx] at h3 h5 ⊢
  rw [← hy] at h4 h5 ⊢
  clear hx hy
  go_enter Tryz.func46, Tryz.ntmps46
  go_wp2
  go_ret
  exact ⟨rfl, rfl⟩

set_option maxHeartbeats 1000000 in
set_option maxRecDepth 100000 in
theorem inf_pos_calls (w : World) : Calls Tryz.prog 36 #[.int .i64 1] w fun r w' => r = .returned (.float .f64 9218868437227405312) ∧ w' = w := by
  have h2 := run_ffromI
  go_enter Tryz.func36, Tryz.ntmps36
  go_wp2
  go_ret
  exact ⟨rfl, rfl⟩

set_option maxHeartbeats 1000000 in
set_option maxRecDepth 100000 in
theorem isNaN_calls (b : Nat) (hb : b < 18446744073709551616) (w : World) : Calls Tryz.prog 97 #[.float .f64 b] w fun r w' => r = .returned (.bool (decide (9218868437227405312 < b % 9223372036854775808))) ∧ w' = w := by
  go_enter Tryz.func97, Tryz.ntmps97
  go_wp2
  go_ret
  refine ⟨?_, rfl⟩
  have h := order_self hb
  show Ending.returned (.bool (!(Ieee.double.order b b == some Ordering.eq))) = _
  rw [h, ← decide_not]
  congr 2
  rw [decide_eq_decide]
  omega

/-- A float from 0 on against another. -/
theorem order_pos {a b : Nat} (ha : a ≤ 9218868437227405312) (hb : b ≤ 9218868437227405312) : Ieee.double.order a b = some (compare a b) := by
  have wf : ∀ r, Ieee.double.word false r = r := fun r => by unfold Ieee.Format.word; rw [if_neg (by simp)]
  have hcmp : ∀ {x y : Nat}, compare (sv false x) (sv false y) = compare x y := by
    intro x y
    unfold sv
    simp only [Bool.false_eq_true, if_false]
    rcases Nat.lt_trichotomy x y with h | h | h
    · rw [Int.compare_eq_lt.2 (by have := V_lt h; omega), Nat.compare_eq_lt.2 h]
    · subst h; rw [Int.compare_eq_eq.2 rfl, Nat.compare_eq_eq.2 rfl]
    · rw [Int.compare_eq_gt.2 (by have := V_lt h; omega), Nat.compare_eq_gt.2 h]
  have hi : Ieee.double.read 9218868437227405312 = .infinity false := by have := read_inf false; rwa [wf] at this
  have hn : ∀ {x}, x < 9218868437227405312 → ∃ m p, Ieee.double.read x = .number false m p := fun {x} hx => by
    obtain ⟨q, k, h, _⟩ := read_fin hx false
    rw [wf] at h
    exact ⟨_, _, h⟩
  rcases Nat.lt_or_eq_of_le ha with h1 | h1 <;> rcases Nat.lt_or_eq_of_le hb with h2 | h2
  · have h := order_fin false false h1 h2
    rw [wf, wf, hcmp] at h
    exact h
  · subst h2
    obtain ⟨m, p, h⟩ := hn h1
    unfold Ieee.Format.order
    rw [h, hi, Nat.compare_eq_lt.2 h1]; rfl
  · subst h1
    obtain ⟨m, p, h⟩ := hn h2
    unfold Ieee.Format.order
    rw [h, hi, Nat.compare_eq_gt.2 h2]; rfl
  · subst h1; subst h2
    unfold Ieee.Format.order
    rw [hi, Nat.compare_eq_eq.2 rfl]; rfl
end Go.Proofs.YtkljejejabikiaaGreatDoor

/- Products with powers of two. Plain. -/
namespace Cusp
open Go Ieee

theorem word_false (r : Nat) : double.word false r = r := by unfold Format.word; rw [if_neg (by simp)]

theorem mul_exact {a b r : Nat} (ha : a < 9218868437227405312) (hb : b < 9218868437227405312) (hr : r < 9218868437227405312) (h : V a * V b = V r * 2 ^ 1074) : double.mul a b = some r := by
  obtain ⟨q, k, hra, _, _, _, hV, _⟩ := read_fin ha false
  obtain ⟨q', k', hrb, _, _, _, hV', _⟩ := read_fin hb false
  rw [word_false] at hra hrb
  unfold Format.mul
  rw [hra, hrb]
  simp only [Datum.product, Option.map_some, Format.write]
  have := nearest_exact false (mag := k * k') (r := r) (K := 1074) (place := (q : Int) - 1074 + ((q' : Int) - 1074)) (by omega) (by
    rw [← h, hV, hV', show ((q : Int) - 1074 + ((q' : Int) - 1074) + 1074 + (1074 : Nat)).toNat = q + q' by omega, Nat.pow_add]
    simp only [Nat.mul_assoc, Nat.mul_left_comm]) hr
  rw [word_false] at this
  rw [show (false ^^ false) = false from rfl, this]

theorem V_normal {E f : Nat} (hE : 0 < E) (hf : f < 4503599627370496) : V (E * 4503599627370496 + f) = (4503599627370496 + f) * 2 ^ (E - 1) := by
  have h := V_of (q := E - 1) (k := 4503599627370496 + f) (by omega) (.inl (by omega))
  rw [show (E - 1) * 4503599627370496 + (4503599627370496 + f) = E * 4503599627370496 + f by omega] at h
  exact h
theorem pow52 {q e : Nat} (h : 52 + q = e) : 4503599627370496 * 2 ^ q = 2 ^ e := by rw [← h, Nat.pow_add]
/-- One. -/
theorem V_one {e : Nat} (h : e = 1074) : V 4607182418800017408 = 2 ^ e := by
  obtain ⟨q, hq⟩ : ∃ q : Nat, 52 + q = e := ⟨e - 52, by omega⟩
  have h1 := V_of (q := q) (k := 4503599627370496) (by omega) (.inl (by omega))
  rw [show q * 4503599627370496 + 4503599627370496 = 4607182418800017408 by omega, pow52 hq] at h1
  exact h1
/-- 2^-53. -/
theorem V_low {e : Nat} (h : e = 1021) : V 4368491638549381120 = 2 ^ e := by
  obtain ⟨q, hq⟩ : ∃ q : Nat, 52 + q = e := ⟨e - 52, by omega⟩
  have h1 := V_of (q := q) (k := 4503599627370496) (by omega) (.inl (by omega))
  rw [show q * 4503599627370496 + 4503599627370496 = 4368491638549381120 by omega, pow52 hq] at h1
  exact h1
theorem mul_one' {r : Nat} (hr : r < 9218868437227405312) : double.mul 4607182418800017408 r = some r := by
  refine mul_exact (by omega) hr hr ?_
  obtain ⟨e, he⟩ : ∃ e : Nat, e = 1074 := ⟨_, rfl⟩
  rw [V_one he, ← he, Nat.mul_comm]
theorem mul_low {x r : Nat} (hx : x < 9218868437227405312) (hr : r < 9218868437227405312) (h : V x = V r * 2 ^ 53) : double.mul 4368491638549381120 x = some r := by
  refine mul_exact (by omega) hx hr ?_
  obtain ⟨e, he⟩ : ∃ e : Nat, e = 1021 := ⟨_, rfl⟩
  obtain ⟨e', he'⟩ : ∃ e' : Nat, e' = 1074 := ⟨_, rfl⟩
  rw [V_low he, h, ← he', show e' = 53 + e by omega, Nat.pow_add, Nat.mul_comm (2 ^ e), Nat.mul_assoc]
end Cusp

/- Package math: IsInf, normalize, Ldexp. -/
namespace Go.Proofs.YtkljejejabikiaaGreatDoor
open Go Go.RowKit Cusp

theorem order_nan {b c : Nat} (h1 : 9218868437227405312 < b) (h2 : b < 9223372036854775808) : Ieee.double.order b c = none := by
  have h := read_nan false h1 h2
  have wf : Ieee.double.word false b = b := by unfold Ieee.Format.word; rw [if_neg (by simp)]
  rw [wf] at h
  unfold Ieee.Format.order
  rw [h]; rfl

theorem gt_max {b : Nat} (hb : b < 9223372036854775808) : (Ieee.double.order b 9218868437227405311 == some .gt) = decide (b = 9218868437227405312) := by
  rcases Nat.lt_or_ge 9218868437227405312 b with h | h
  · rw [order_nan h hb, decide_eq_false (by omega)]; rfl
  · rw [order_pos h (by omega)]
    rcases Nat.lt_trichotomy b 9218868437227405311 with h1 | h1 | h1
    · rw [Nat.compare_eq_lt.2 h1, decide_eq_false (by omega)]; rfl
    · rw [Nat.compare_eq_eq.2 h1, decide_eq_false (by omega)]; rfl
    · rw [Nat.compare_eq_gt.2 h1, decide_eq_true (by omega)]; rfl

set_option maxHeartbeats 1000000 in
set_option maxRecDepth 100000 in
theorem isInf0_calls (b : Nat) (hb : b < 18446744073709551616) (w : World) : Calls Tryz.prog 105 #[.float .f64 b, .int .i64 0] w fun r w' => r = .returned (.bool (decide (b % 9223372036854775808 = 9218868437227405312))) ∧ w' = w := by
  have hg := Lib.hid (gt_max (b := b % 9223372036854775808) (Nat.mod_lt _ (by omega)))
  go_enter Tryz.func105, Tryz.ntmps105
  go_wp2_with fail
  refine (abs_f_calls b hb w).mono ?_
  rintro r w1 ⟨rfl, rfl⟩
  go_wp2
  go_ret
  refine ⟨?_, rfl⟩
  show Ending.returned (.bool (Ieee.double.order (b % 9223372036854775808) 9218868437227405311 == some .gt)) = _
  rw [hg.out]

set_option maxHeartbeats 1000000 in
set_option maxRecDepth 100000 in
/-- normalize of a normal float. -/
theorem normalize_calls (b : Nat) (h0 : 4503599627370496 ≤ b) (hb : b < 9218868437227405312) (w : World) : Calls Tryz.prog 216 #[.float .f64 b] w fun r w' => r = .returned (.tuple #[.float .f64 b, .int .i64 0]) ∧ w' = w := by
  have hm : b % 9223372036854775808 = b := by omega
  have ho : (Ieee.double.order b 4503599627370496 == some .lt) = false := by
    rw [order_pos (by omega) (by omega)]
    rcases Nat.lt_or_eq_of_le h0 with h | h
    · rw [Nat.compare_eq_gt.2 h]; rfl
    · rw [Nat.compare_eq_eq.2 h.symm]; rfl
  have ho' : (FloatKind.f64.format.order b 4503599627370496 == some .lt) = false := ho
  go_enter Tryz.func216, Tryz.ntmps216
  go_wp2_with fail
  refine (abs_f_calls b (by omega) w).mono ?_
  rintro r w1 ⟨rfl, rfl⟩
  rw [hm]
  go_wp2
  go_ret2
  exact ⟨rfl, rfl⟩

theorem i64_and2047 (n : Int) : bits .and .i64 n 2047 = n % 2048 := by
  have h127 : (BitVec.ofInt 64 2047).toNat = 2 ^ 11 - 1 := by decide
  have key : (BitVec.ofInt 64 n &&& BitVec.ofInt 64 2047).toNat = (n % ((2 ^ 64 : Nat) : Int)).toNat % 2 ^ 11 := by
    rw [BitVec.toNat_and, BitVec.toNat_ofInt, h127, Nat.and_two_pow_sub_one_eq_mod]
  show IntKind.i64.wrap ((BitVec.ofInt 64 n &&& BitVec.ofInt 64 2047).toNat : Nat) = n % 2048
  rw [key, IntKind.wrap_i64]
  omega
theorem clear_exp {b : Nat} (hb : b < 9218868437227405312) : bits .andNot .u64 (b : Int) 9218868437227405312 = ((b % 4503599627370496 : Nat) : Int) := by
  have h := u64_andNot_nat b 9218868437227405312 (by omega) (by omega)
  rw [show ((9218868437227405312 : Nat) : Int) = 9218868437227405312 from rfl] at h
  rw [h]
  congr 1
  apply Nat.eq_of_testBit_eq
  intro i
  rw [Nat.testBit_and, show 18446744073709551615 - 9218868437227405312 = 2 ^ 63 + (2 ^ 52 - 1) from by decide, show (4503599627370496 : Nat) = 2 ^ 52 from by decide, Nat.testBit_mod_two_pow]
  rcases Nat.lt_or_ge i 63 with h1 | h1
  · rw [Nat.testBit_two_pow_add_gt h1, Nat.testBit_two_pow_sub_one, Bool.and_comm]
  · rw [Nat.testBit_lt_two_pow (Nat.lt_of_lt_of_le (show b < 2 ^ 63 by simp; omega) (Nat.pow_le_pow_right (by omega) h1)), Bool.false_and, Bool.and_false]
theorem join_exp {E f : Nat} (hE : E < 4096) (hf : f < 4503599627370496) : bits .or .u64 (f : Int) ((E : Int) * 4503599627370496) = ((E * 4503599627370496 + f : Nat) : Int) := by
  have h := u64_or_nat f (E * 4503599627370496) (by omega) (by omega)
  rw [Int.natCast_mul] at h
  rw [show ((4503599627370496 : Nat) : Int) = 4503599627370496 from rfl] at h
  rw [h]
  congr 1
  rw [Nat.or_comm]
  have := Nat.two_pow_add_eq_or_of_lt (i := 52) (b := f) (by simpa using hf) E
  rw [show (2 : Nat) ^ 52 = 4503599627370496 from by decide, Nat.mul_comm] at this
  exact this.symm

set_option maxHeartbeats 4000000 in
set_option maxRecDepth 100000 in
/-- ldexp of a normal float, where the product is a float. -/
theorem ldexpIn_calls (b : Nat) (e : Int) (r p q : Nat) (h0 : 4503599627370496 ≤ b) (hb : b < 9218868437227405312) (he0 : -5000 ≤ e) (he1 : e ≤ 5000) (heq : e = (p : Int) - q) (hr : r < 9218868437227405312) (hV : V r * 2 ^ q = V b * 2 ^ p) (w : World) :
    Calls Tryz.prog 154 #[.float .f64 b, .int .i64 e] w fun v w' => v = .returned (.float .f64 r) ∧ w' = w := by
  obtain ⟨F, hF⟩ : ∃ F, F = b / 4503599627370496 := ⟨_, rfl⟩
  obtain ⟨f, hf⟩ : ∃ f, f = b % 4503599627370496 := ⟨_, rfl⟩
  have hbF : b = F * 4503599627370496 + f := by omega
  have hf52 : f < 4503599627370496 := by omega
  have hF1 : 1 ≤ F := by omega
  have hF2 : F ≤ 2046 := by omega
  have hVb : V b = (4503599627370496 + f) * 2 ^ (F - 1) := by rw [hbF]; exact V_normal (by omega) hf52
  have hVr0 : 0 < V r := by
    rcases Nat.eq_zero_or_pos (V r) with h | h
    · rw [h, Nat.zero_mul] at hV
      have := Nat.mul_pos (V_pos (show 0 < b by omega)) (Nat.pow_pos (n := p) (show 0 < 2 by omega)); omega
    · exact h
  rw [hVb, Nat.mul_assoc, ← Nat.pow_add] at hV
  have hlow : q < 53 + (F - 1 + p) := by
    rw [← Nat.pow_lt_pow_iff_right (a := 2) (show 1 < 2 by decide)]
    calc 2 ^ q ≤ V r * 2 ^ q := Nat.le_mul_of_pos_left _ hVr0
      _ = (4503599627370496 + f) * 2 ^ (F - 1 + p) := hV
      _ < 2 ^ 53 * 2 ^ (F - 1 + p) := Nat.mul_lt_mul_of_pos_right (by simp; omega) (Nat.pow_pos (by omega))
      _ = 2 ^ (53 + (F - 1 + p)) := by rw [← Nat.pow_add]
  have hhigh : 52 + (F - 1 + p) < top + q := by
    rw [← Nat.pow_lt_pow_iff_right (a := 2) (show 1 < 2 by decide)]
    calc 2 ^ (52 + (F - 1 + p)) = 2 ^ 52 * 2 ^ (F - 1 + p) := by rw [← Nat.pow_add]
      _ ≤ (4503599627370496 + f) * 2 ^ (F - 1 + p) := Nat.mul_le_mul_right _ (by simp)
      _ = V r * 2 ^ q := hV.symm
      _ < 2 ^ top * 2 ^ q := Nat.mul_lt_mul_of_pos_right (inf_lt hr) (Nat.pow_pos (by omega))
      _ = 2 ^ (top + q) := by rw [← Nat.pow_add]
  have hho : 52 + (F - 1 + p) < 2098 + q := hhigh
  clear hhigh
  have ho : (FloatKind.f64.format.order b 0 == some .eq) = false := by
    show (Ieee.double.order b 0 == some .eq) = false
    rw [order_pos (by omega) (by omega), Nat.compare_eq_gt.2 (by omega)]; rfl
  have hinf : decide (b % 9223372036854775808 = 9218868437227405312) = false := decide_eq_false (by omega)
  have hnan : decide (9218868437227405312 < b % 9223372036854775808) = false := decide_eq_false (by omega)
  have hbits := run_fbits b
  have hfrom := run_ffromI
  have hand := i64_and2047 (F : Int)
  have hclr := clear_exp hb
  have hshr : (b : Int) / 4503599627370496 = (F : Int) := by rw [hF]; omega
  have hFm : (F : Int) % 2048 = F := by omega
  rw [← hf] at hclr
  have hE0 : -1074 ≤ e + ((F : Int) - 1023) := by omega
  have hE1 : e + ((F : Int) - 1023) ≤ 1023 := by omega
  have HE := Lib.hid heq
  clear heq
  have HV := Lib.hid hV
  have HB := Lib.hid hbF
  clear hV hVb hVr0 hF hf hbF
  have hHE := HE.out
  by_cases hn : -1022 ≤ e + ((F : Int) - 1023)
  · obtain ⟨G, hG⟩ : ∃ G : Nat, e + ((F : Int) - 1023) + 1023 = (G : Int) := ⟨(e + ((F : Int) - 1023) + 1023).toNat, by omega⟩
    have hj := join_exp (E := G) (f := f) (by omega) hf52
    have hRV : V (G * 4503599627370496 + f) = V r := by
      rw [V_normal (by omega) hf52]
      have h1 := HV.out
      rw [show F - 1 + p = (G - 1) + q by omega, Nat.pow_add, ← Nat.mul_assoc] at h1
      exact (Nat.eq_of_mul_eq_mul_right (Nat.pow_pos (by omega)) h1).symm
    have hR := V_inj hRV
    rw [hR, ← hG] at hj
    have hmul := fun w => run_float_arith (P := Tryz.prog) (w := w) .mul 31 .f64 4607182418800017408 r r (mul_one' hr)
    clear hRV hR hG hHE
    go_enter Tryz.func154, Tryz.ntmps154
    go_wp2_with fail
    refine (isInf0_calls b (by omega) w).mono ?_
    rintro v w1 ⟨rfl, rfl⟩
    rw [hinf]
    go_wp2_with fail
    refine (isNaN_calls b (by omega) _).mono ?_
    rintro v w2 ⟨rfl, rfl⟩
    rw [hnan]
    go_wp2_with fail
    refine (normalize_calls b h0 hb _).mono ?_
    rintro v w3 ⟨rfl, rfl⟩
    go_wp2
    go_ret
    exact ⟨rfl, rfl⟩
  · obtain ⟨G, hG⟩ : ∃ G : Nat, e + ((F : Int) - 1023) + 53 + 1023 = (G : Int) := ⟨(e + ((F : Int) - 1023) + 53 + 1023).toNat, by omega⟩
    have hj := join_exp (E := G) (f := f) (by omega) hf52
    obtain ⟨R, hR⟩ : ∃ R, R = G * 4503599627370496 + f := ⟨_, rfl⟩
    have hRV : V R = V r * 2 ^ 53 := by
      rw [hR, V_normal (by omega) hf52]
      have h1 := HV.out
      apply Nat.eq_of_mul_eq_mul_right (Nat.pow_pos (n := q) (show 0 < 2 by omega))
      rw [Nat.mul_assoc, ← Nat.pow_add, Nat.mul_right_comm, h1, Nat.mul_assoc, ← Nat.pow_add, show F - 1 + p + 53 = G - 1 + q by omega]
    have hRb : R < 9218868437227405312 := by omega
    rw [← hR, ← hG] at hj
    have hmul := fun w => run_float_arith (P := Tryz.prog) (w := w) .mul 31 .f64 4368491638549381120 R r (mul_low hRb hr hRV)
    clear hRV hR hG hHE
    go_enter Tryz.func154, Tryz.ntmps154
    go_wp2_with fail
    refine (isInf0_calls b (by omega) w).mono ?_
    rintro v w1 ⟨rfl, rfl⟩
    rw [hinf]
    go_wp2_with fail
    refine (isNaN_calls b (by omega) _).mono ?_
    rintro v w2 ⟨rfl, rfl⟩
    rw [hnan]
    go_wp2_with fail
    refine (normalize_calls b h0 hb _).mono ?_
    rintro v w3 ⟨rfl, rfl⟩
    go_wp2
    go_ret
    exact ⟨rfl, rfl⟩

set_option maxHeartbeats 1000000 in
set_option maxRecDepth 100000 in
/-- Ldexp of a normal float, where the product is a float. -/
theorem ldexp_calls (b : Nat) (e : Int) (r p q : Nat) (h0 : 4503599627370496 ≤ b) (hb : b < 9218868437227405312) (he0 : -5000 ≤ e) (he1 : e ≤ 5000) (heq : e = (p : Int) - q) (hr : r < 9218868437227405312) (hV : V r * 2 ^ q = V b * 2 ^ p) (w : World) :
    Calls Tryz.prog 83 #[.float .f64 b, .int .i64 e] w fun v w' => v = .returned (.float .f64 r) ∧ w' = w := by
  have hc := Lib.hid (ldexpIn_calls b e r p q h0 hb he0 he1 heq hr hV w)
  clear hV heq
  go_enter Tryz.func83, Tryz.ntmps83
  go_wp2_with fail
  refine hc.out.mono ?_
  rintro v w1 ⟨rfl, rfl⟩
  go_wp2
  go_ret
  exact ⟨rfl, rfl⟩

set_option maxHeartbeats 1000000 in
set_option maxRecDepth 100000 in
theorem ldexp_zero (e : Int) (w : World) : Calls Tryz.prog 83 #[.float .f64 0, .int .i64 e] w fun v w' => v = .returned (.float .f64 0) ∧ w' = w := by
  have ho : (FloatKind.f64.format.order 0 0 == some .eq) = true := by decide
  have hc : Hid (Calls Tryz.prog 154 #[.float .f64 0, .int .i64 e] w fun v w' => v = .returned (.float .f64 0) ∧ w' = w) := by
    refine Lib.hid ?_
    go_enter Tryz.func154, Tryz.ntmps154
    go_wp2
    go_ret
    exact ⟨rfl, rfl⟩
  go_enter Tryz.func83, Tryz.ntmps83
  go_wp2_with fail
  refine hc.out.mono ?_
  rintro v w1 ⟨rfl, rfl⟩
  go_wp2
  go_ret
  exact ⟨rfl, rfl⟩
end Go.Proofs.YtkljejejabikiaaGreatDoor

/- Rounding: a quotient N / D (in units of 2^-1074) as a float's bits. Plain. -/
namespace Cusp
open Go

/-- b is the greatest finite float that is not above N / D. -/
structure IsLo (N D b : Nat) : Prop where
  fin : b ≤ 9218868437227405311
  le : V b * D ≤ N
  lt : N < V (b + 1) * D ∨ b = 9218868437227405311
/-- Does it get one more? -/
def More (up near : Bool) (N D b : Nat) : Prop := (up = true ∧ V b * D ≠ N) ∨ (near = true ∧ ((V b + V (b + 1)) * D < 2 * N ∨ ((V b + V (b + 1)) * D = 2 * N ∧ b % 2 = 1)))
/-- r is N / D rounded. -/
def Rnds (up near : Bool) (N D r : Nat) : Prop := ∃ b, IsLo N D b ∧ ((More up near N D b ∧ r = b + 1) ∨ (¬ More up near N D b ∧ r = b))

theorem IsLo.uniq {N D b c : Nat} (h : IsLo N D b) (k : IsLo N D c) : b = c := by
  rcases Nat.lt_trichotomy b c with hlt | h1 | hlt
  · exfalso
    rcases h.lt with h2 | h2
    · have h3 := Nat.mul_le_mul_right D (V_le (show b + 1 ≤ c from hlt))
      have h4 := k.le
      omega
    · have := k.fin; omega
  · exact h1
  · exfalso
    rcases k.lt with h2 | h2
    · have h3 := Nat.mul_le_mul_right D (V_le (show c + 1 ≤ b from hlt))
      have h4 := h.le
      omega
    · have := h.fin; omega
theorem Rnds.uniq {up near : Bool} {N D r s : Nat} (h : Rnds up near N D r) (k : Rnds up near N D s) : r = s := by
  obtain ⟨b, hb, h⟩ := h
  obtain ⟨c, hc, k⟩ := k
  have := hb.uniq hc
  subst this
  rcases h with ⟨h1, h2⟩ | ⟨h1, h2⟩ <;> rcases k with ⟨k1, k2⟩ | ⟨k1, k2⟩
  · rw [h2, k2]
  · exact absurd h1 k1
  · exact absurd k1 h1
  · rw [h2, k2]
theorem Rnds.le_inf {up near : Bool} {N D r : Nat} (h : Rnds up near N D r) : r ≤ 9218868437227405312 := by
  obtain ⟨b, hb, h⟩ := h
  have := hb.fin
  rcases h with ⟨_, h⟩ | ⟨_, h⟩ <;> omega
/-- Scaled alike. -/
theorem Rnds.scale {up near : Bool} {N D r c : Nat} (hc : 0 < c) : Rnds up near (N * c) (D * c) r ↔ Rnds up near N D r := by
  have e1 : ∀ x, (x * (D * c) ≤ N * c) = (x * D ≤ N) := fun x => by
    rw [← Nat.mul_assoc]; exact propext ⟨fun h => Nat.le_of_mul_le_mul_right h hc, fun h => Nat.mul_le_mul_right _ h⟩
  have e2 : ∀ x, (N * c < x * (D * c)) = (N < x * D) := fun x => by
    rw [← Nat.mul_assoc]; exact propext ⟨fun h => Nat.lt_of_mul_lt_mul_right h, fun h => Nat.mul_lt_mul_of_pos_right h hc⟩
  have e3 : ∀ x, (x * (D * c) = N * c) = (x * D = N) := fun x => by
    rw [← Nat.mul_assoc]; exact propext ⟨fun h => Nat.eq_of_mul_eq_mul_right hc h, fun h => by rw [h]⟩
  have e4 : ∀ x, (x * (D * c) < 2 * (N * c)) = (x * D < 2 * N) := fun x => by
    rw [← Nat.mul_assoc, ← Nat.mul_assoc]; exact propext ⟨fun h => Nat.lt_of_mul_lt_mul_right h, fun h => Nat.mul_lt_mul_of_pos_right h hc⟩
  have e5 : ∀ x, (x * (D * c) = 2 * (N * c)) = (x * D = 2 * N) := fun x => by
    rw [← Nat.mul_assoc, ← Nat.mul_assoc]; exact propext ⟨fun h => Nat.eq_of_mul_eq_mul_right hc h, fun h => by rw [h]⟩
  have hlo : ∀ b, IsLo (N * c) (D * c) b ↔ IsLo N D b := fun b =>
    ⟨fun h => ⟨h.fin, by rw [← e1]; exact h.le, by have := h.lt; rwa [e2] at this⟩, fun h => ⟨h.fin, by rw [e1]; exact h.le, by have := h.lt; rwa [e2]⟩⟩
  have hm : ∀ b, More up near (N * c) (D * c) b ↔ More up near N D b := fun b => by
    unfold More; rw [e4, e5, Ne, Ne, e3]
  unfold Rnds
  simp only [hlo, hm]

/-- The next float's value, by its parts. -/
theorem V_next {q k : Nat} (hk : k < 9007199254740992) (h : 4503599627370496 ≤ k ∨ q = 0) : V (q * 4503599627370496 + k + 1) = (k + 1) * 2 ^ q := by
  rcases Nat.lt_or_ge (k + 1) 9007199254740992 with h1 | h1
  · rw [Nat.add_assoc]; exact V_of h1 (by omega)
  · have e : q * 4503599627370496 + k + 1 = (q + 1) * 4503599627370496 + 4503599627370496 := by omega
    rw [e, V_of (by omega) (.inl (by omega)), Nat.pow_succ, show k + 1 = 4503599627370496 * 2 by omega, Nat.mul_assoc, Nat.mul_comm 2]

/-- When one more is due, by what is cut off. -/
def Due (up near rest : Bool) (m low h : Nat) : Prop := (up = true ∧ (rest = true ∨ low ≠ 0)) ∨ (near = true ∧ (h < low ∨ (low = h ∧ (rest = true ∨ m % 2 = 1))))

theorem round_core {n k c N D b m : Nat} {up near rest : Bool} (hk : 1 ≤ k) (hm : m = n / 2 ^ k) (hc : 0 < c) (h1 : n * c ≤ N) (h2 : N < (n + 1) * c) (hr : rest = true ↔ n * c ≠ N)
    (hb1 : V b * D = m * 2 ^ k * c) (hb2 : V (b + 1) * D = (m + 1) * 2 ^ k * c) (hfin : b ≤ 9218868437227405311) (hpar : b % 2 = m % 2) :
    IsLo N D b ∧ (More up near N D b ↔ Due up near rest m (n - m * 2 ^ k) (2 ^ (k - 1))) := by
  obtain ⟨h, hh⟩ : ∃ h, h = 2 ^ (k - 1) := ⟨_, rfl⟩
  have hk2 : 2 ^ k = 2 * h := by rw [hh, ← Nat.pow_succ']; congr 1; omega
  have hpos : 0 < h := by rw [hh]; exact Nat.pow_pos (by omega)
  rw [← hh]
  have hdm := Nat.div_add_mod n (2 ^ k)
  have hml := Nat.mod_lt n (show 0 < 2 ^ k by omega)
  rw [← hm] at hdm
  obtain ⟨low, hlow⟩ : ∃ low, low = n % 2 ^ k := ⟨_, rfl⟩
  rw [← hlow] at hdm hml
  have hn : n = m * 2 ^ k + low := by rw [Nat.mul_comm]; exact hdm.symm
  have hsub : n - m * 2 ^ k = low := by omega
  rw [hsub]
  rw [hk2] at hb1 hb2 hn hml
  clear hdm hsub hlow hm hh hk2
  subst hn
  -- everything in units of c
  obtain ⟨x, hx⟩ : ∃ x, N = (m * (2 * h) + low) * c + x := ⟨N - (m * (2 * h) + low) * c, by omega⟩
  have hxc : x < c := by
    have e0 : (m * (2 * h) + low + 1) * c = (m * (2 * h) + low) * c + c := Nat.succ_mul _ _
    rw [e0] at h2; omega
  have hrx : rest = true ↔ x ≠ 0 := by rw [hr, hx]; constructor <;> intro h3 <;> omega
  have e1 : (m * (2 * h) + low) * c = m * (2 * h) * c + low * c := Nat.add_mul _ _ _
  have e2 : (m + 1) * (2 * h) * c = m * (2 * h) * c + 2 * (h * c) := by rw [Nat.add_mul, Nat.one_mul, Nat.add_mul, Nat.mul_assoc 2]
  rw [e1] at hx
  rw [e2] at hb2
  clear h1 h2 hr e1 e2
  obtain ⟨A, hA⟩ : ∃ A, A = m * (2 * h) * c := ⟨_, rfl⟩
  rw [← hA] at hx hb1 hb2
  have hlc : low * c + c ≤ 2 * (h * c) := by
    have := Nat.mul_le_mul_right c (show low + 1 ≤ 2 * h from hml)
    rwa [Nat.add_mul, Nat.one_mul, Nat.mul_assoc] at this
  refine ⟨⟨hfin, by omega, .inl (by omega)⟩, ?_⟩
  have p1 : V b * D ≠ N ↔ (rest = true ∨ low ≠ 0) := by
    rw [hrx, hb1, hx]
    constructor
    · intro h3
      rcases Nat.eq_zero_or_pos low with h4 | h4
      · subst h4; left; omega
      · right; omega
    · rintro (h3 | h3)
      · omega
      · have : c ≤ low * c := Nat.le_mul_of_pos_left _ (by omega)
        omega
  have hV : (V b + V (b + 1)) * D = 2 * A + 2 * (h * c) := by rw [Nat.add_mul, hb1, hb2]; omega
  have hlt : ∀ {a b : Nat}, a < b → a * c + c ≤ b * c := fun {a b} hab => by
    have := Nat.mul_le_mul_right c (show a + 1 ≤ b from hab); rwa [Nat.add_mul, Nat.one_mul] at this
  have p2 : (V b + V (b + 1)) * D < 2 * N ↔ (h < low ∨ (low = h ∧ rest = true)) := by
    rw [hV, hx, hrx]
    rcases Nat.lt_trichotomy h low with h3 | h3 | h3
    · have := hlt h3
      constructor
      · intro _; exact .inl h3
      · intro _; omega
    · subst h3
      constructor
      · intro _; right; exact ⟨rfl, by omega⟩
      · rintro (h4 | ⟨_, h4⟩) <;> omega
    · have := hlt h3
      constructor
      · intro _; omega
      · rintro (h4 | ⟨h4, _⟩) <;> omega
  have p3 : (V b + V (b + 1)) * D = 2 * N ↔ (low = h ∧ rest = false) := by
    rw [hV, hx]
    have hrf : rest = false ↔ x = 0 := by cases rest <;> simp_all
    rw [hrf]
    rcases Nat.lt_trichotomy h low with h3 | h3 | h3
    · have := hlt h3
      constructor
      · intro _; omega
      · rintro ⟨h4, _⟩; omega
    · subst h3
      constructor
      · intro _; exact ⟨rfl, by omega⟩
      · rintro ⟨_, h4⟩; omega
    · have := hlt h3
      constructor
      · intro _; omega
      · rintro ⟨h4, _⟩; omega
  unfold More Due
  rw [p1, p2, p3, hpar]
  cases rest <;> simp <;> omega
end Cusp

/- Rounding a number n 2^e, of which something may be left. Plain. -/
namespace Cusp
open Go

/-- N / D (units of 2^-1074) lies between n and n + 1 times 2^e; 'rest': it is not n 2^e. S: a shift that keeps all whole. -/
structure Near (N D n : Nat) (e : Int) (rest : Bool) (S : Nat) : Prop where
  hS : 0 ≤ e + 1074 + S
  hD : 0 < D
  lo : n * (2 ^ (e + 1074 + S).toNat * D) ≤ N * 2 ^ S
  hi : N * 2 ^ S < (n + 1) * (2 ^ (e + 1074 + S).toNat * D)
  eq : rest = true ↔ n * (2 ^ (e + 1074 + S).toNat * D) ≠ N * 2 ^ S

theorem pow_mono {a b : Nat} (h : a ≤ b) : 2 ^ a ≤ 2 ^ b := Nat.pow_le_pow_right (by omega) h

theorem rnds_over {N D n : Nat} {e : Int} {rest : Bool} {S : Nat} {up near : Bool} (h : Near N D n e rest S) (hn : n ≠ 0) (ht : 1024 < (bl n : Int) + e) : Rnds up near N D (if (up || near) = true then 9218868437227405312 else 9218868437227405311) := by
  have hge : V 9218868437227405312 * D ≤ N := by
    apply Nat.le_of_mul_le_mul_right (c := 2 ^ S) _ (Nat.pow_pos (by omega))
    refine Nat.le_trans ?_ h.lo
    rw [V_inf, Nat.mul_right_comm, ← Nat.pow_add, ← Nat.mul_assoc]
    apply Nat.mul_le_mul_right
    refine Nat.le_trans ?_ (Nat.mul_le_mul_right _ (bl_le hn))
    rw [← Nat.pow_add]
    apply pow_mono
    have := h.hS
    unfold top; omega
  have hlt : V 9218868437227405311 * D < N := Nat.lt_of_lt_of_le (Nat.mul_lt_mul_of_pos_right (V_lt (by omega)) h.hD) hge
  refine ⟨9218868437227405311, ⟨Nat.le_refl _, Nat.le_of_lt hlt, .inr rfl⟩, ?_⟩
  have e1 : (9218868437227405311 + 1 : Nat) = 9218868437227405312 := rfl
  cases up with
  | true => left; exact ⟨.inl ⟨rfl, by omega⟩, by simp⟩
  | false =>
    cases near with
    | true => left; exact ⟨.inr ⟨rfl, .inl (by rw [e1, Nat.add_mul]; omega)⟩, by simp⟩
    | false => right; exact ⟨(by rintro (⟨h, _⟩ | ⟨h, _⟩) <;> cases h), by simp⟩

theorem rnds_under {N D n : Nat} {e : Int} {rest : Bool} {S : Nat} {up near : Bool} (h : Near N D n e rest S) (hn : n ≠ 0) (ht : (bl n : Int) + e < -1075) : Rnds up near N D (if up = true then 1 else 0) := by
  have hN : 0 < N := by
    rcases Nat.eq_zero_or_pos N with h0 | h0
    · have h1 := h.lo
      rw [h0, Nat.zero_mul] at h1
      have := Nat.mul_pos (Nat.pos_of_ne_zero hn) (Nat.mul_pos (Nat.pow_pos (n := (e + 1074 + S).toNat) (show 0 < 2 by omega)) h.hD)
      omega
    · exact h0
  have hlt : 4 * N < D := by
    apply Nat.lt_of_mul_lt_mul_right (a := 2 ^ S)
    have h1 := h.hi
    have h2 : (n + 1) * (2 ^ (e + 1074 + S).toNat * D) ≤ 2 ^ bl n * (2 ^ (e + 1074 + S).toNat * D) := Nat.mul_le_mul_right _ (lt_bl n)
    have h3 : 4 * (2 ^ bl n * (2 ^ (e + 1074 + S).toNat * D)) ≤ D * 2 ^ S := by
      rw [← Nat.mul_assoc (2 ^ bl n), ← Nat.pow_add, ← Nat.mul_assoc, show (4 : Nat) = 2 ^ 2 from rfl, ← Nat.pow_add, Nat.mul_comm]
      apply Nat.mul_le_mul_left
      apply pow_mono
      have := h.hS
      omega
    rw [Nat.mul_assoc]; omega
  have hV1 : V 1 = 1 := by decide
  refine ⟨0, ⟨by omega, by rw [V_zero]; omega, .inl (by rw [hV1]; omega)⟩, ?_⟩
  cases up with
  | true => left; exact ⟨.inl ⟨rfl, by rw [V_zero]; omega⟩, by simp⟩
  | false =>
    right
    refine ⟨?_, by simp⟩
    rintro (⟨h, _⟩ | ⟨_, h⟩)
    · cases h
    · rw [V_zero, hV1] at h; omega

/-- In the midst. -/
theorem rnds_mid {N D n : Nat} {e : Int} {rest : Bool} {S : Nat} {up near : Bool} (h : Near N D n e rest S) (hn : 55 ≤ bl n) (ht1 : (bl n : Int) + e ≤ 1024) (ht0 : -1075 ≤ (bl n : Int) + e) {u k m : Nat} (hu : max ((bl n : Int) + e - 53) (-1074) = (u : Int) - 1074) (hk : (u : Int) - 1074 - e = k) (hm : m = n / 2 ^ k) :
    m < 9007199254740992 ∧ (4503599627370496 ≤ m ∨ u = 0) ∧ u ≤ 2045 ∧ 1 ≤ k ∧ ∀ m', (Due up near rest m (n - m * 2 ^ k) (2 ^ (k - 1)) → m' = m + 1) → (¬ Due up near rest m (n - m * 2 ^ k) (2 ^ (k - 1)) → m' = m) → Rnds up near N D (u * 4503599627370496 + m') := by
  have hn0 : n ≠ 0 := by rintro rfl; rw [bl_zero] at hn; omega
  have hmlt : m < 2 ^ 53 := by
    rw [hm]
    apply Nat.div_lt_of_lt_mul
    rw [← Nat.pow_add]
    exact Nat.lt_of_lt_of_le (lt_bl n) (pow_mono (by omega))
  have hmge : 0 < u → 2 ^ 52 ≤ m := by
    intro h0
    rw [hm, Nat.le_div_iff_mul_le (Nat.pow_pos (by omega)), ← Nat.pow_add]
    exact Nat.le_trans (pow_mono (by omega)) (bl_le hn0)
  have hmlt' : m < 9007199254740992 := by simpa using hmlt
  have hmor : 4503599627370496 ≤ m ∨ u = 0 := by
    rcases Nat.eq_zero_or_pos u with h0 | h0
    · exact .inr h0
    · have := hmge h0; left; simpa using this
  refine ⟨hmlt', hmor, by omega, by omega, fun m' hd hd' => ?_⟩
  have hW := h.hS
  obtain ⟨W, hWe⟩ : ∃ W : Nat, e + 1074 + S = (W : Int) := ⟨(e + 1074 + S).toNat, by omega⟩
  have lo := h.lo
  have hi := h.hi
  have eq := h.eq
  rw [hWe, Int.toNat_natCast] at lo hi eq
  have hus : u + S = k + W := by omega
  have hp : ∀ x, x * 2 ^ u * (D * 2 ^ S) = x * 2 ^ k * (2 ^ W * D) := fun x => by
    rw [Nat.mul_comm D, Nat.mul_assoc x, ← Nat.mul_assoc (2 ^ u), ← Nat.pow_add, hus, Nat.pow_add, Nat.mul_assoc x, Nat.mul_assoc (2 ^ k)]
  obtain ⟨hlo, hmore⟩ := round_core (b := u * 4503599627370496 + m) (D := D * 2 ^ S) (up := up) (near := near) (by omega : 1 ≤ k) hm (Nat.mul_pos (Nat.pow_pos (n := W) (show 0 < 2 by omega)) h.hD) lo hi eq
    (by rw [V_of hmlt' hmor, hp]) (by rw [V_next hmlt' hmor, hp]) (by omega) (by omega)
  refine (Rnds.scale (c := 2 ^ S) (Nat.pow_pos (by omega))).1 ⟨_, hlo, ?_⟩
  by_cases hdue : Due up near rest m (n - m * 2 ^ k) (2 ^ (k - 1))
  · left; exact ⟨hmore.2 hdue, by rw [hd hdue]; omega⟩
  · right; exact ⟨fun h => hdue (hmore.1 h), by rw [hd' hdue]⟩
end Cusp
