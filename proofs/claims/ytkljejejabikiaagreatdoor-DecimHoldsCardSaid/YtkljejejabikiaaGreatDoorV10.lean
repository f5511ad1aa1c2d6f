/- Contracts of the program's functions, and plain laws on numbers and texts (joined: FmtA, FmtB, FmtC, FmtD, FmtE, FmtF, FmtG, TelF, TelG, WkC, ModA, ModB, ModC). -/
import Derived.Test.YtkljejejabikiaaGreatDoorV06
import Derived.Deep.QuietTactic
import Derived.BigQuiet
import Derived.Deep.RegionHeld3
import Derived.Test.YtkljejejabikiaaGreatDoorShelf
import Derived.Lib.OwnBridge
import Derived.Lib.ItoaMem
import Derived.Lib.ItoaLen
import Derived.Test.YtkljejejabikiaaGreatDoorV09
import Derived.Lib.AtoiErrMem
import Derived.Deep.DeepCutAuto

/- Package internal/strconv: log10Pow2, log2Pow10, skewed, prescale, uscale and what lies about it. -/
namespace Go.Proofs.YtkljejejabikiaaGreatDoor
open Go Go.RowKit Cusp

set_option maxHeartbeats 1000000 in
set_option maxRecDepth 100000 in
theorem log10Pow2_calls (x : Int) (h0 : -100000 ≤ x) (h1 : x ≤ 100000) (w : World) : Calls Tryz.prog 253 #[.int .i64 x] w fun v w' => v = .returned (.int .i64 (x * 78913 / 262144)) ∧ w' = w := by
  go_enter Tryz.func253, Tryz.ntmps253
  go_wp2
  go_ret
  exact ⟨rfl, rfl⟩
set_option maxHeartbeats 1000000 in
set_option maxRecDepth 100000 in
theorem log2Pow10_calls (x : Int) (h0 : -100000 ≤ x) (h1 : x ≤ 100000) (w : World) : Calls Tryz.prog 292 #[.int .i64 x] w fun v w' => v = .returned (.int .i64 (x * 108853 / 32768)) ∧ w' = w := by
  go_enter Tryz.func292, Tryz.ntmps292
  go_wp2
  go_ret
  exact ⟨rfl, rfl⟩
set_option maxHeartbeats 1000000 in
set_option maxRecDepth 100000 in
theorem skewed_calls (x : Int) (h0 : -100000 ≤ x) (h1 : x ≤ 100000) (w : World) : Calls Tryz.prog 290 #[.int .i64 x] w fun v w' => v = .returned (.int .i64 ((x * 631305 - 261663) / 2097152)) ∧ w' = w := by
  go_enter Tryz.func290, Tryz.ntmps290
  go_wp2
  go_ret
  exact ⟨rfl, rfl⟩

/-- At block b: a scaler. -/
structure Sc (w : World) (b hi lo s : Nat) : Prop where
  c0 : w.cell? ⟨b, 0, none⟩ = some (.int .u64 (hi : Int))
  c1 : w.cell? ⟨b, 1, none⟩ = some (.int .u64 (lo : Int))
  c2 : w.cell? ⟨b, 2, none⟩ = some (.int .i64 (s : Int))
theorem Sc.ext {w w' : World} {b hi lo s : Nat} (h : Sc w b hi lo s) (e : Ext w w') : Sc w' b hi lo s := ⟨e.cell h.c0, e.cell h.c1, e.cell h.c2⟩

theorem i64_and63 (n : Nat) (h : n < 64) : bits .and .i64 (n : Int) 63 = (n : Int) := by
  have h127 : (BitVec.ofInt 64 63).toNat = 2 ^ 6 - 1 := by decide
  have key : (BitVec.ofInt 64 n &&& BitVec.ofInt 64 63).toNat = ((n : Int) % ((2 ^ 64 : Nat) : Int)).toNat % 2 ^ 6 := by
    rw [BitVec.toNat_and, BitVec.toNat_ofInt, h127, Nat.and_two_pow_sub_one_eq_mod]
  show IntKind.i64.wrap ((BitVec.ofInt 64 n &&& BitVec.ofInt 64 63).toNat : Nat) = n
  rw [key, IntKind.wrap_i64]
  omega
def usc (x hi lo s : Nat) : Nat :=
  if x * hi / 18446744073709551616 / 2 ^ s * 2 ^ s ≠ x * hi / 18446744073709551616 then (x * hi / 18446744073709551616 / 2 ^ s) ||| 1
  else ((x * hi / 18446744073709551616 - (if x * hi % 18446744073709551616 < x * lo / 18446744073709551616 then 1 else 0)) / 2 ^ s) ||| (if 1 < (x * hi % 18446744073709551616 + 18446744073709551616 - x * lo / 18446744073709551616) % 18446744073709551616 then 1 else 0)

set_option maxHeartbeats 1000000 in
set_option maxRecDepth 100000 in
theorem bool2_calls (c : Bool) (w : World) : Calls Tryz.prog 317 #[.bool c] w fun v w' => v = .returned (.int .u64 (if c = true then 1 else 0)) ∧ w' = w := by
  cases c with
  | false =>
    go_enter Tryz.func317, Tryz.ntmps317
    go_wp2
    go_ret
    exact ⟨rfl, rfl⟩
  | true =>
    go_enter Tryz.func317, Tryz.ntmps317
    go_wp2
    go_ret
    exact ⟨rfl, rfl⟩

set_option maxHeartbeats 4000000 in
set_option maxRecDepth 100000 in
theorem uscale_calls (x b hi lo s : Nat) (hx : x < 18446744073709551616) (hh : hi < 18446744073709551616) (hl : lo < 18446744073709551616) (hs : s < 64) (h1 : 0 < x * hi / 18446744073709551616) (w : World) (h : Sc w b hi lo s) :
    Calls Tryz.prog 293 #[.int .u64 (x : Int), .pointer (some ⟨b, 0, none⟩)] w fun v w' => v = .returned (.int .u64 (usc x hi lo s : Int)) ∧ Ext w w' := by
  have c0 := h.c0
  have c1 := h.c1
  have c2 := h.c2
  go_enter Tryz.func293, Tryz.ntmps293
  obtain ⟨H, hH⟩ : ∃ H, H = x * hi / 18446744073709551616 := ⟨_, rfl⟩
  obtain ⟨M, hM⟩ : ∃ M, M = x * hi % 18446744073709551616 := ⟨_, rfl⟩
  obtain ⟨M2, hM2⟩ : ∃ M2, M2 = x * lo / 18446744073709551616 := ⟨_, rfl⟩
  obtain ⟨L2, hL2⟩ : ∃ L2, L2 = x * lo % 18446744073709551616 := ⟨_, rfl⟩
  have hHb : H < 18446744073709551616 := by
    rw [hH]
    apply Nat.div_lt_of_lt_mul
    exact Nat.mul_lt_mul_of_lt_of_lt hx hh
  have hM2b : M2 < 18446744073709551616 := by
    rw [hM2]
    apply Nat.div_lt_of_lt_mul
    exact Nat.mul_lt_mul_of_lt_of_lt hx hl
  have hMb : M < 18446744073709551616 := by rw [hM]; exact Nat.mod_lt _ (by omega)
  have hu : usc x hi lo s = if H / 2 ^ s * 2 ^ s ≠ H then (H / 2 ^ s) ||| 1 else ((H - (if M < M2 then 1 else 0)) / 2 ^ s) ||| (if 1 < (M + 18446744073709551616 - M2) % 18446744073709551616 then 1 else 0) := by
    unfold usc; rw [← hH, ← hM, ← hM2]
  rw [← hH] at h1
  obtain ⟨P, hP⟩ : ∃ P : Nat, P = 2 ^ s := ⟨_, rfl⟩
  have hP0 : 0 < P := by rw [hP]; exact Nat.pow_pos (by omega)
  have hPI : (2 : Int) ^ s = (P : Int) := by rw [hP, Int.natCast_pow]; rfl
  rw [← hP] at hu
  obtain ⟨q, hq⟩ : ∃ q, q = H / P := ⟨_, rfl⟩
  have hqI : (H : Int) / (P : Int) = (q : Int) := by rw [hq, Int.natCast_ediv]
  have hqH : q * P ≤ H := by rw [hq]; exact Nat.div_mul_le_self _ _
  rw [← hq] at hu
  have hqH2 : q ≤ H := by rw [hq]; exact Nat.div_le_self _ _
  obtain ⟨T, hT⟩ : ∃ T, T = q * P := ⟨_, rfl⟩
  have hqP : (q : Int) * (P : Int) = (T : Int) := by rw [hT, Int.natCast_mul]
  rw [← hT] at hu hqH
  have hand := i64_and63 s hs
  have HU := Lib.hid hu
  have HH := Lib.hid hH
  have HM := Lib.hid hM
  have HM2 := Lib.hid hM2
  clear hu hH hM hM2 hP hq hT hL2
  go_wp2_with fail
  refine (Tryz.bits_Mul64 x hi hx hh _).mono ?_
  rintro v w1 ⟨rfl, rfl⟩
  rw [← HH.out, ← HM.out]
  by_cases hTH : T = H
  · subst hTH
    obtain ⟨c, hc⟩ : ∃ c : Nat, c = if M < M2 then 1 else 0 := ⟨_, rfl⟩
    have hc1 : c ≤ 1 := by rw [hc]; split <;> omega
    have hcI : (if decide (M < M2) = true then (1 : Int) else 0) = (c : Int) := by
      rw [hc]
      by_cases hmm : M < M2
      · rw [decide_eq_true hmm, if_pos rfl, if_pos hmm]; rfl
      · rw [decide_eq_false hmm, if_neg (by simp), if_neg hmm]; rfl
    have HC := Lib.hid hcI
    obtain ⟨Z, hZ⟩ : ∃ Z, Z = T - c := ⟨_, rfl⟩
    obtain ⟨q2, hq2⟩ : ∃ q2, q2 = Z / P := ⟨_, rfl⟩
    obtain ⟨D, hD⟩ : ∃ D, D = (M + 18446744073709551616 - M2) % 18446744073709551616 := ⟨_, rfl⟩
    obtain ⟨g, hg⟩ : ∃ g, g = decide (1 < D) := ⟨_, rfl⟩
    obtain ⟨e2, he2⟩ : ∃ e2 : Nat, e2 = if 1 < D then 1 else 0 := ⟨_, rfl⟩
    have hz0 : (T : Int) - (c : Int) = (Z : Int) := by rw [hZ]; omega
    have hz : IntKind.u64.wrap ((T : Int) - (c : Int)) = (Z : Int) := by rw [hz0, IntKind.wrap_u64]; omega
    have hq2I : (Z : Int) / (P : Int) = (q2 : Int) := by rw [hq2, Int.natCast_ediv]
    have hDI : IntKind.u64.wrap ((M : Int) - (M2 : Int)) = (D : Int) := by rw [hD, IntKind.wrap_u64]; omega
    have hgI : decide ((1 : Int) < (D : Int)) = g := by
      rw [hg]
      by_cases h : 1 < D
      · rw [decide_eq_true h, decide_eq_true (by omega)]
      · rw [decide_eq_false h, decide_eq_false (by omega)]
    have hgI2 : decide ((D : Int) > 1) = g := hgI
    have heI : (if g = true then (1 : Int) else 0) = (e2 : Int) := by
      rw [hg, he2]
      by_cases h : 1 < D
      · rw [decide_eq_true h, if_pos rfl, if_pos h]; rfl
      · rw [decide_eq_false h, if_neg (by simp), if_neg h]; rfl
    have hq2b : q2 < 18446744073709551616 := Nat.lt_of_le_of_lt (by rw [hq2]; exact Nat.div_le_self _ _) (show Z < 18446744073709551616 by omega)
    have he2b : e2 ≤ 1 := by rw [he2]; split <;> omega
    have hor : bits .or .u64 (q2 : Int) (e2 : Int) = ((q2 ||| e2 : Nat) : Int) := u64_or_nat q2 e2 hq2b (by omega)
    have hfin : usc x hi lo s = q2 ||| e2 := by
      rw [HU.out, if_neg (by simp), ← hc, ← hZ, ← hD, ← he2, ← hq2]
    obtain ⟨R, hR⟩ : ∃ R, R = q2 ||| e2 := ⟨_, rfl⟩
    rw [← hR] at hor hfin
    have HF := Lib.hid hfin
    have HE := Lib.hid heI
    clear hZ hq2 hD hg he2 hR hfin heI hcI hc
    go_wp2_with fail
    refine (Tryz.bits_Mul64 x lo hx hl _).mono ?_
    rintro v w2 ⟨rfl, rfl⟩
    rw [← HM2.out]
    generalize x * lo % 18446744073709551616 = L3
    go_wp2_with fail
    refine (bool2_calls _ _).mono ?_
    rintro v w3 ⟨rfl, rfl⟩
    rw [HC.out]
    go_upto_region 7 with (fail)
    first | (go_region_held3 (fun _ => True) (trivial) (first | (go_at_call 317; refine (bool2_calls g _).mono ?_; rintro v w4 ⟨rfl, rfl⟩; rw [HE.out]) | fail)) | fail
    have hEd : Ext w3 w3.drew := Ext.drew _
    go_wp2
    go_ret
    exact ⟨by rw [HF.out]; rfl, hEd⟩
  · have hne : ((T : Int) != (H : Int)) = true := by rw [bne_iff_ne]; omega
    have hqb : q < 18446744073709551616 := by omega
    have hor : bits .or .u64 (q : Int) 1 = ((q ||| 1 : Nat) : Int) := u64_or_nat q 1 hqb (by omega)
    have hfin : usc x hi lo s = q ||| 1 := by rw [HU.out, if_pos hTH]
    have HF := Lib.hid hfin
    clear hfin
    obtain ⟨R, hR⟩ : ∃ R, R = q ||| 1 := ⟨_, rfl⟩
    rw [← hR] at hor
    have HR := Lib.hid hR
    clear hR
    go_wp2
    go_ret
    exact ⟨by rw [HF.out, ← HR.out]; rfl, Ext.refl _⟩
end Go.Proofs.YtkljejejabikiaaGreatDoor

/- Package internal/strconv: prescale, unrounded numbers, shortFloat. -/
namespace Go.Proofs.YtkljejejabikiaaGreatDoor
open Go Go.RowKit Cusp

set_option maxHeartbeats 2000000 in
set_option maxRecDepth 100000 in
theorem prescale_calls (b : Nat) (e p lp : Int) (i s : Nat) (r : Nat × Nat) (hp : p + 348 = (i : Int)) (hr : Go.Pinned.pow10Rows[i]? = some r) (hi : i < 696) (hs : -(e + lp + 3) = (s : Int)) (he : -5000 ≤ e ∧ e ≤ 5000) (hlp : -5000 ≤ lp ∧ lp ≤ 5000) (w : World) {B : Nat} (hG : Glib B w)
    (c0 : w.cell? ⟨b, 0, none⟩ = some (.int .u64 0)) (c1 : w.cell? ⟨b, 1, none⟩ = some (.int .u64 0)) (c2 : w.cell? ⟨b, 2, none⟩ = some (.int .i64 0)) (f0 : w.frozen? ⟨b, 0, none⟩ = false) (f1 : w.frozen? ⟨b, 1, none⟩ = false) (f2 : w.frozen? ⟨b, 2, none⟩ = false) (hB : B ≤ b) :
    Calls Tryz.prog 291 #[.pointer (some ⟨b, 0, none⟩), .int .i64 e, .int .i64 p, .int .i64 lp] w fun v w' => v = .returned (.tuple #[]) ∧ Sc w' b r.1 r.2 s ∧ ∀ W, Ext W w → W.heap.size ≤ b → Ext W w' := by
  obtain ⟨hhi, hlo⟩ := hG.pt i r hr
  rw [Nat.mul_comm 2 i] at hhi hlo
  have hmin := hG.glob.min
  obtain ⟨h, l⟩ := r
  have hpi : p - -348 = (i : Int) := by omega
  have hb9 : (9 : Nat) ≠ b := by omega
  have hb9' : b ≠ 9 := by omega
  have HS := Lib.hid (Go.Proofs.YtkljejejabikiaaGreatDoor.set3 w b (.int .u64 (h : Int)) (.int .u64 (l : Int)) (.int .i64 (s : Int)) c0 c1 c2)
  have hE : ∀ W, Ext W w → W.heap.size ≤ b → Ext W (((w.setCell ⟨b, 0, none⟩ (.int .u64 (h : Int))).setCell ⟨b, 1, none⟩ (.int .u64 (l : Int))).setCell ⟨b, 2, none⟩ (.int .i64 (s : Int))) := fun W e hW =>
    ((e.setCell (p := ⟨b, 0, none⟩) hW _).setCell (p := ⟨b, 1, none⟩) hW _).setCell (p := ⟨b, 2, none⟩) hW _
  have HE := Lib.hid hE
  clear hE
  go_enter Tryz.func291, Tryz.ntmps291
  go_wp2
  go_end0
  exact ⟨rfl, ⟨HS.out.1, HS.out.2.1, HS.out.2.2⟩, HE.out⟩

set_option maxHeartbeats 1000000 in
set_option maxRecDepth 100000 in
theorem ceil_calls (u : Nat) (hu : u < 18446744073709551600) (w : World) : Calls Tryz.prog 295 #[.int .u64 (u : Int)] w fun v w' => v = .returned (.int .u64 (((u + 3) / 4 : Nat) : Int)) ∧ w' = w := by
  obtain ⟨q, hq⟩ : ∃ q, q = (u + 3) / 4 := ⟨_, rfl⟩
  have h1 : ((u : Int) + 3) / 4 = (q : Int) := by omega
  rw [← hq]
  clear hq
  go_enter Tryz.func295, Tryz.ntmps295
  go_wp2
  go_ret
  exact ⟨rfl, rfl⟩
set_option maxHeartbeats 1000000 in
set_option maxRecDepth 100000 in
theorem floor_calls (u : Nat) (hu : u < 18446744073709551600) (w : World) : Calls Tryz.prog 296 #[.int .u64 (u : Int)] w fun v w' => v = .returned (.int .u64 ((u / 4 : Nat) : Int)) ∧ w' = w := by
  obtain ⟨q, hq⟩ : ∃ q, q = u / 4 := ⟨_, rfl⟩
  have h1 : (u : Int) / 4 = (q : Int) := by omega
  rw [← hq]
  clear hq
  go_enter Tryz.func296, Tryz.ntmps296
  go_wp2
  go_ret
  exact ⟨rfl, rfl⟩
set_option maxHeartbeats 1000000 in
set_option maxRecDepth 100000 in
theorem round_calls (u : Nat) (hu : u < 18446744073709551600) (w : World) : Calls Tryz.prog 297 #[.int .u64 (u : Int)] w fun v w' => v = .returned (.int .u64 (((u + 1 + u / 4 % 2) / 4 : Nat) : Int)) ∧ w' = w := by
  obtain ⟨o, ho⟩ : ∃ o, o = u / 4 % 2 := ⟨_, rfl⟩
  obtain ⟨q, hq⟩ : ∃ q, q = (u + 1 + o) / 4 := ⟨_, rfl⟩
  have hand : bits .and .u64 ((u : Int) / 4) 1 = (o : Int) := by
    have h := bits_and_u64_nat (u / 4) 1 (by omega) (by omega)
    rw [show ((1 : Nat) : Int) = 1 from rfl] at h
    rw [show ((u : Int) / 4) = ((u / 4 : Nat) : Int) by omega, h, Nat.and_one_is_mod, ho]
  have h1 : ((u : Int) + 1 + (o : Int)) / 4 = (q : Int) := by omega
  have ho1 : o ≤ 1 := by omega
  rw [← ho, ← hq]
  clear hq ho
  go_enter Tryz.func297, Tryz.ntmps297
  go_wp2
  go_ret
  exact ⟨rfl, rfl⟩
set_option maxHeartbeats 1000000 in
set_option maxRecDepth 100000 in
theorem nudge_calls (u : Nat) (d : Int) (v : Nat) (hv : (u : Int) + d = (v : Int)) (hd0 : -1 ≤ d) (hd1 : d ≤ 1) (hu : u < 18446744073709551600) (w : World) : Calls Tryz.prog 294 #[.int .u64 (u : Int), .int .i64 d] w fun r w' => r = .returned (.int .u64 (v : Int)) ∧ w' = w := by
  have h1 : IntKind.u64.wrap ((u : Int) + IntKind.u64.wrap d) = (v : Int) := by rw [IntKind.wrap_u64, IntKind.wrap_u64]; omega
  go_enter Tryz.func294, Tryz.ntmps294
  go_wp2
  go_ret
  exact ⟨rfl, rfl⟩
end Go.Proofs.YtkljejejabikiaaGreatDoor

/- Package internal/strconv: shortFloat. -/
namespace Go.Proofs.YtkljejejabikiaaGreatDoor
open Go Go.RowKit Cusp

/-- What shortFloat's branch for plain words leans on. -/
structure ShortAt (m : Nat) (e : Int) (i s : Nat) (r : Nat × Nat) (o d1 d2 : Nat) : Prop where
  m0 : 9223372036854775808 < m
  m1 : m < 18446744073709550592
  e0 : -1085 ≤ e
  e1 : e ≤ 971
  ip : -((e + 11) * 78913 / 262144) + 348 = (i : Int)
  row : Go.Pinned.pow10Rows[i]? = some r
  ib : i < 696
  sp : -(e + (-((e + 11) * 78913 / 262144)) * 108853 / 32768 + 3) = (s : Int)
  sb : s < 64
  hi : r.1 < 18446744073709551616
  hi2 : 4 ≤ r.1
  lo : r.2 < 18446744073709551616
  od : m / 2048 % 2 = o
  u1 : usc (m - 1024) r.1 r.2 s + o < 18446744073709551600
  u2 : usc (m + 1024) r.1 r.2 s < 18446744073709551600
  u0 : 1 ≤ usc (m + 1024) r.1 r.2 s
  dmin : (usc (m - 1024) r.1 r.2 s + o + 3) / 4 = d1
  dmax : (usc (m + 1024) r.1 r.2 s - o) / 4 = d2

theorem i64_and1 (n : Nat) (h : n < 9223372036854775808) : bits .and .i64 (n : Int) 1 = ((n % 2 : Nat) : Int) := by
  have h127 : (BitVec.ofInt 64 1).toNat = 2 ^ 1 - 1 := by decide
  have key : (BitVec.ofInt 64 n &&& BitVec.ofInt 64 1).toNat = ((n : Int) % ((2 ^ 64 : Nat) : Int)).toNat % 2 ^ 1 := by
    rw [BitVec.toNat_and, BitVec.toNat_ofInt, h127, Nat.and_two_pow_sub_one_eq_mod]
  show IntKind.i64.wrap ((BitVec.ofInt 64 n &&& BitVec.ofInt 64 1).toNat : Nat) = _
  rw [key, IntKind.wrap_i64]
  omega
set_option maxHeartbeats 4000000 in
set_option maxRecDepth 100000 in
theorem shortFloat_calls (m : Nat) (e : Int) (i s : Nat) (r : Nat × Nat) (o d1 d2 : Nat) (h : ShortAt m e i s r o d1 d2) (hA : d1 ≤ d2 / 10 * 10) (w : World) {B : Nat} (hG : Glib B w) :
    Calls Tryz.prog 258 #[.int .u64 (m : Int), .int .i64 e] w fun v w' => v = .returned (.tuple #[.int .u64 ((d2 / 10 : Nat) : Int), .int .i64 ((e + 11) * 78913 / 262144 + 1)]) ∧ Ext w w' := by
  obtain ⟨m0, m1, e0, e1, ip, row, ib, sp, sb, hhi, hhi2, hlo, od, u1, u2, u0, dmin, dmax⟩ := h
  obtain ⟨hi, lo⟩ := r
  simp only at hhi hhi2 hlo u1 u2 u0 dmin dmax
  obtain ⟨g, hg⟩ : ∃ g, g = (e + 11) * 78913 / 262144 := ⟨_, rfl⟩
  rw [← hg] at ip sp
  rw [← hg]
  have hgb : -100000 ≤ g ∧ g ≤ 100000 := by omega
  obtain ⟨p, hp⟩ : ∃ p, p = -g := ⟨_, rfl⟩
  rw [← hp] at ip sp
  obtain ⟨lp, hlp⟩ : ∃ lp, lp = p * 108853 / 32768 := ⟨_, rfl⟩
  rw [← hlp] at sp
  obtain ⟨mn, hmn⟩ : ∃ mn, mn = m - 1024 := ⟨_, rfl⟩
  obtain ⟨mx, hmx⟩ : ∃ mx, mx = m + 1024 := ⟨_, rfl⟩
  rw [← hmn] at u1 dmin
  rw [← hmx] at u2 u0 dmax
  obtain ⟨a, ha⟩ : ∃ a, a = usc mn hi lo s := ⟨_, rfl⟩
  obtain ⟨c, hc⟩ : ∃ c, c = usc mx hi lo s := ⟨_, rfl⟩
  rw [← ha] at u1 dmin
  rw [← hc] at u2 u0 dmax
  obtain ⟨M, hM⟩ : ∃ M, M = m / 2048 := ⟨_, rfl⟩
  rw [← hM] at od
  have hMI : (m : Int) / 2048 = (M : Int) := by omega
  have hMb : M < 9007199254740992 := by omega
  have ho1 : o ≤ 1 := by omega
  have hand : bits .and .i64 (M : Int) 1 = (o : Int) := by rw [i64_and1 M (by omega), od]
  have hmnI : (m : Int) - 1024 = (mn : Int) := by omega
  have hmxI : (m : Int) + 1024 = (mx : Int) := by omega
  have hP1 : 0 < mn * hi / 18446744073709551616 := by
    apply Nat.div_pos _ (by omega)
    calc 18446744073709551616 ≤ 4611686018427387904 * 4 := by omega
      _ ≤ mn * hi := Nat.mul_le_mul (by omega) hhi2
  have hP2 : 0 < mx * hi / 18446744073709551616 := by
    apply Nat.div_pos _ (by omega)
    calc 18446744073709551616 ≤ 4611686018427387904 * 4 := by omega
      _ ≤ mx * hi := Nat.mul_le_mul (by omega) hhi2
  obtain ⟨D, hD⟩ : ∃ D, D = d2 / 10 := ⟨_, rfl⟩
  rw [← hD] at hA
  rw [← hD]
  have hDI : (d2 : Int) / 10 = (D : Int) := by omega
  have hd2 : d2 < 4611686018427387905 := by omega
  have hd1 : d1 ≤ 4611686018427387905 := by omega
  have hpg : -g = p := hp.symm
  have hpb : -5000 ≤ p ∧ p ≤ 5000 := by omega
  have hres : -(p - 1) = g + 1 := by omega
  have HG := Lib.hid hg
  have HA := Lib.hid ha
  have HC := Lib.hid hc
  have HLP := Lib.hid hlp
  have hlpb : -5000 ≤ lp ∧ lp ≤ 5000 := by omega
  have HS := Lib.hid sp
  have HIP := Lib.hid ip
  have HMIN := Lib.hid dmin
  have HMAX := Lib.hid dmax
  have mnb : mn < 18446744073709551616 := by omega
  have mxb : mx < 18446744073709551616 := by omega
  have HP1 := Lib.hid hP1
  have HP2 := Lib.hid hP2
  have hp348 : p + 348 < 100000 := by omega
  clear hg ha hc hlp sp ip dmin dmax hp hM hmn hmx od hD hP1 hP2
  go_enter Tryz.func258, Tryz.ntmps258
  go_wp2_with fail
  refine (log10Pow2_calls (e + 11) (by omega) (by omega) _).mono ?_
  rintro v w1 ⟨rfl, rfl⟩
  rw [← HG.out]
  go_wp2_with fail
  refine (log2Pow10_calls p (by omega) (by omega) _).mono ?_
  rintro v w2 ⟨rfl, rfl⟩
  rw [← HLP.out]
  have hG2 := hG.ext ((Ext.refl w1).alloc (.cells #[.int .u64 0, .int .u64 0, .int .i64 0] 281))
  have hE2 : Ext w1 (w1.alloc (.cells #[.int .u64 0, .int .u64 0, .int .i64 0] 281)) := (Ext.refl w1).alloc _
  have hBs : B ≤ w1.heap.size := hG.glob.size
  go_wp2_with fail
  refine (prescale_calls w1.heap.size e p lp i s (hi, lo) HIP.out row ib HS.out (by omega) hlpb _ hG2 (cell_new w1 _ _ 0 _ rfl) (cell_new w1 _ _ 1 _ rfl) (cell_new w1 _ _ 2 _ rfl) (by simp only [World.frozen?, heap_alloc_new]; rfl) (by simp only [World.frozen?, heap_alloc_new]; rfl) (by simp only [World.frozen?, heap_alloc_new]; rfl) (by omega)).mono ?_
  rintro v w3 ⟨rfl, hS3, he3⟩
  have e3 := he3 w1 hE2 (Nat.le_refl _)
  clear he3 hG2 hE2
  go_wp2_with fail
  refine (uscale_calls mn w1.heap.size hi lo s mnb hhi hlo sb HP1.out _ hS3).mono ?_
  rintro v w4 ⟨rfl, e4⟩
  rw [← HA.out]
  go_wp2_with fail
  refine (nudge_calls a (o : Int) (a + o) (by omega) (by omega) (by omega) (by omega) _).mono ?_
  rintro v w5 ⟨rfl, rfl⟩
  go_wp2_with fail
  refine (ceil_calls (a + o) (by omega) _).mono ?_
  rintro v w6 ⟨rfl, rfl⟩
  rw [HMIN.out]
  go_wp2_with fail
  refine (uscale_calls mx w1.heap.size hi lo s mxb hhi hlo sb HP2.out _ (hS3.ext e4)).mono ?_
  rintro v w7 ⟨rfl, e7⟩
  rw [← HC.out]
  go_wp2_with fail
  refine (nudge_calls c (-(o : Int)) (c - o) (by omega) (by omega) (by omega) (by omega) _).mono ?_
  rintro v w8 ⟨rfl, rfl⟩
  go_wp2_with fail
  refine (floor_calls (c - o) (by omega) _).mono ?_
  rintro v w9 ⟨rfl, rfl⟩
  rw [HMAX.out]
  have E := (e3.trans e4).trans e7
  go_wp2
  go_ret2
  exact ⟨rfl, E⟩
end Go.Proofs.YtkljejejabikiaaGreatDoor

/- Package internal/strconv: setDigits. -/
namespace Go.Proofs.YtkljejejabikiaaGreatDoor
open Go Go.RowKit Go.Sort Cusp

set_option maxHeartbeats 4000000 in
set_option maxRecDepth 100000 in
theorem setDigits_calls (b d nz nd : Nat) (p : Int) (w : World) (hnd : Lib.nDigits d = nd) (hc : ∀ j, j < 32 → w.cell? ⟨b, j, none⟩ = some (.int .u8 0)) (hf : ∀ j, j < 32 → w.frozen? ⟨b, j, none⟩ = false)
    (_h1 : 1 ≤ d) (h2 : d < 18446744073709551616) (hz1 : 1 ≤ nz) (hz2 : nz ≤ nd) (hne : (Lib.decDigits d)[nz - 1]! ≠ 48) (h48 : ∀ j, nz ≤ j → j < nd → (Lib.decDigits d)[j]! = 48) (hp : -5000 ≤ p ∧ p ≤ 5000) :
    Calls Tryz.prog 251 #[.slice (some ⟨b, 0, none⟩) 32 32, .int .u64 (d : Int), .int .i64 p, .int .i64 (nd : Int)] w fun v w' => v = .returned (.tuple #[.int .i64 ((nd : Int) + p), .int .i64 (nz : Int)]) ∧ (∀ j, j < nd → w'.cell? ⟨b, j, none⟩ = some (.int .u8 (((Lib.decDigits d)[j]!).toNat : Int)) ∧ w'.frozen? ⟨b, j, none⟩ = false) ∧ ∀ W, Ext W w → W.heap.size ≤ b → Ext W w' := by
  have hn20 : nd ≤ 20 := by rw [← hnd]; exact Lib.nDigits_le20 d h2
  obtain ⟨D, hD⟩ : ∃ D : Array UInt8, D = Array.replicate nd 0 := ⟨_, rfl⟩
  have hDs : D.size = nd := by rw [hD]; simp
  have hH : Holds (fun (b : UInt8) => Value.int .u8 (b.toNat : Int)) w b 0 D := by
    intro j hj
    rw [hDs] at hj
    refine ⟨?_, by simpa using hf j (by omega)⟩
    have := hc j (by omega)
    rw [show (0 + j) = j by omega, this]
    rw [getElem!_pos D j (by omega)]
    subst hD
    simp
  have hlt : d < 10 ^ D.size := by rw [hDs, ← hnd]; exact Lib.lt_pow_nDigits d
  have hlen : (Lib.decDigits d).length = nd := by rw [Lib.decDigits_length, hnd]
  have HND := Lib.hid hnd
  clear hnd hD
  go_enter Tryz.func251, Tryz.ntmps251
  go_wp2_with fail
  have hq := Tryz.internal_strconv_formatBase10 b 0 32 d D w hH hlt h2 (by omega)
  rw [hDs] at hq
  refine hq.mono ?_
  rintro v w1 ⟨rfl, n, v', dk, rfl, hI⟩
  have hdk : dk.size = nd := hI.size
  have hI' : Lib.FmtInv (Lib.nDigits d) d 0 v' dk := by rw [HND.out]; exact hI
  have hrow : ∀ j, j < nd → dk[j]! = (Lib.decDigits d)[j]! := fun j hj => by
    rw [← Lib.row_is_numeral hI' j (by rw [hlen]; exact hj), getElem!_pos _ j (by rw [hlen]; exact hj)]
  have hP := holds_putRow (fun (b : UInt8) => Value.int .u8 (b.toNat : Int)) w b 0 D dk hH (by rw [hdk, hDs])
  obtain ⟨W2, hW2⟩ : ∃ W2, W2 = (putRow (fun (b : UInt8) => Value.int .u8 (b.toNat : Int)) w b 0 dk).drewN n := ⟨_, rfl⟩
  have hcells : ∀ j, j < nd → W2.cell? ⟨b, j, none⟩ = some (.int .u8 (((Lib.decDigits d)[j]!).toNat : Int)) ∧ W2.frozen? ⟨b, j, none⟩ = false := fun j hj => by
    have := hP j (by omega)
    rw [hW2, ← hrow j hj]
    simpa using this
  have hE : ∀ W, Ext W w → W.heap.size ≤ b → Ext W W2 := fun W e hb => by
    rw [hW2]
    exact Ext.drewN' (show Ext W _ from (Lib.below_putRow (enc := fun (b : UInt8) => Value.int .u8 (b.toNat : Int)) (q := 0) (d := dk) e hb)) n
  have HE := Lib.hid hE
  have HC := Lib.hid hcells
  rw [← hW2]
  clear hW2 hP hrow hI hI' hE hq hH hlt hlen hc hf hcells
  go_wp2
  go_loopw [3] (fun v wr => ∃ k : Nat, nz ≤ k ∧ k ≤ nd ∧ v = .int .i64 (k : Int) ∧ ∃ t, wr = W2.drewN t) (fun v _ => (intOf v).toNat)
  case atStart => exact ⟨nd, hz2, Nat.le_refl _, rfl, 0, rfl⟩
  case round =>
    obtain ⟨k, hk1, hk2, rfl, t, rfl⟩ := hrel
    obtain ⟨j, rfl⟩ : ∃ j, k = j + 1 := ⟨k - 1, by omega⟩
    have hcj := (HC.out j (by omega)).1
    have hcj2 : (W2.drewN t).cell? ⟨b, j, none⟩ = some (.int .u8 (((Lib.decDigits d)[j]!).toNat : Int)) := by simpa using hcj
    clear hcj
    have hj1 : (((j + 1 : Nat) : Int)) - 1 = (j : Int) := by omega
    by_cases hjz : nz ≤ j
    · have h8 := h48 j hjz (by omega)
      rw [h8] at hcj2
      go_wp2
      go_roundw
      case rel => exact ⟨j, hjz, by omega, rfl, t, rfl⟩
      case measure => simp [intOf]
    · have hnj : nz = j + 1 := by omega
      have hx : ((((Lib.decDigits d)[j]!).toNat : Int) == 48) = false := by
        rw [hnj] at hne
        simp only [Nat.add_sub_cancel] at hne
        rw [beq_eq_false_iff_ne]
        intro h
        apply hne
        apply UInt8.toNat.inj
        have : (48 : UInt8).toNat = 48 := rfl
        omega
      obtain ⟨y, hy⟩ : ∃ y, y = (((Lib.decDigits d)[j]!).toNat : Int) := ⟨_, rfl⟩
      rw [← hy] at hcj2 hx
      clear hy h48 hne
      go_wp2
      go_ret2
      exact ⟨by rw [hnj]; rfl, fun j hj => by simpa using HC.out j hj, fun W e hb => (HE.out W e hb).drewN' t⟩
end Go.Proofs.YtkljejejabikiaaGreatDoor

/- Package internal/strconv: fmtEFG: one digit, in the shape with e. -/
namespace Cusp
open Go Go.RowKit
section
variable {P : Program} {ops : Array Oper} {rest : List Oper} {o : Oper} {a : Act} {Q : Exit → Act → World → Prop}
/-- append(v, x, y), behind 'at_builtin'; the goal's world is 'W.alloc' of the variadic's box. -/
theorem append_two {w0 W : World} {e : TypeId} {k : IntKind} {y z : Int} (base : Nat) (hgd : o.guard = none) (s x : Operand) (t : TypeId) (bytes : Nat)
    (ho : o.op = .call { callee := .builtin .append, args := #[s, x], argTypes := #[t, t] })
    (ht : P.underlying t = some (.slice e)) (hinfo : (P.info? e).map (fun i => (i.zero, i.size, i.bytes)) = some (some (.int k 0), 1, bytes)) (hb0 : 0 < bytes)
    (v : Value) (l : List Int) (hs : a.eval s = v) (hx : a.eval x = .slice (some ⟨W.heap.size, 0, none⟩) 2 2)
    (HO : Own base W e k v l) (HB : Below base w0 W) (hbase : base ≤ W.heap.size) (hl : (l.length + 2) * bytes ≤ 140737488355328)
    (h : ∀ v1 w1, Own base w1 e k v1 (l ++ [y, z]) → Below base w0 w1 → base ≤ w1.heap.size → W.grownBy w1 v.ownBlock → (v1.ownBlock = v.ownBlock ∨ ∃ b, v1.ownBlock = some b ∧ W.heap.size ≤ b) → wpList P ops Q rest (a.put o.dst v1) w1) :
    wpList P ops Q (o :: rest) a (W.alloc (.cells #[.int k y, .int k z] e)) := by
  obtain ⟨i0, hi, hzz⟩ := Option.map_eq_some_iff.1 hinfo
  simp only [Prod.mk.injEq] at hzz
  obtain ⟨hz0, hz1, hz2⟩ := hzz
  have hlen : l.length + 2 ≤ 140737488355328 := Nat.le_trans (Nat.le_mul_of_pos_right _ hb0) hl
  refine wpList_append_own_at (W.alloc (.cells #[.int k y, .int k z] e)) hgd s x t ho base e i0 (.int k 0) 1 bytes ht hi hz0 hz1 hz2 rfl (by omega) v l.length (nums k l) hs (HO.alloc _).own ⟨W.heap.size, 0, none⟩ 2 2 [.int k y, .int k z] hx rfl
    (World.news_of_block (cs := #[.int k y, .int k z]) (t := e) (fr := (0, 0)) (heap_alloc_new W _)) (by simp; exact ⟨rfl, rfl⟩) (by simp only [maxLen]; omega) hl (by simp; omega) ?_
  intro v1 w1 hown hg _ hat
  have HB1 := (HB.alloc hbase (Obj.cells #[.int k y, .int k z] e)).grown hg (by simp; omega) HO.base_le
  have hsz : W.heap.size + 1 ≤ w1.heap.size := by have := hg.size; simpa using this
  refine h v1 w1 ⟨by simpa [nums] using hown⟩ HB1 (by omega) (World.grownBy.trans (World.grownBy_alloc W _ _) hg) ?_
  rcases hat with hat | hat
  · exact .inl hat
  · exact .inr ⟨_, hat, by simp⟩
end
end Cusp
namespace Go.Proofs.YtkljejejabikiaaGreatDoor
open Go Go.RowKit Cusp

/-- A magnitude's exponent as it's written: its sign, two digits. -/
def exp2 (x : Int) : List Int := [if x < 0 then 45 else 43, 48 + ((x.natAbs / 10 : Nat) : Int), 48 + ((x.natAbs % 10 : Nat) : Int)]

set_option maxHeartbeats 8000000 in
set_option maxRecDepth 100000 in
theorem fmtE_calls (B b : Nat) (dst : Value) (c dp : Int) (hdp : -98 ≤ dp) (hdp1 : dp ≤ 100) (w : World) (hO : Own B w 5 .u8 dst []) (hc : w.cell? ⟨b, 0, none⟩ = some (.int .u8 c)) (hBs : B ≤ w.heap.size) :
    Calls Tryz.prog 248 #[dst, .bool false, .slice (some ⟨b, 0, none⟩) 32 32, .int .i64 dp, .int .i64 1, .int .i64 0, .int .u8 101, .bool true] w fun e w' => ∃ v, e = .returned v ∧ Own B w' 5 .u8 v ([c, 101] ++ exp2 (dp - 1)) ∧ Below B w w' := by
  obtain ⟨L, hL⟩ : ∃ L, L = [c, 101] ++ exp2 (dp - 1) := ⟨_, rfl⟩
  rw [← hL]
  unfold exp2 at hL
  simp only [List.cons_append, List.nil_append] at hL
  go_enter Tryz.func248, Tryz.ntmps248
  go_wp2_with (at_builtin; refine append_one (w0 := w) B rfl _ _ 116 1 rfl Tryz.underlying116 info_u8 (by omega) dst [] rfl rfl hO (Below.refl _ _) (by omega) (by simp) ?_)
  intro v1 w1 hO1 hB1 hs1 _ _
  obtain ⟨A1, n1, c1, rfl, _⟩ := hO1.formN
  go_wp2_with (at_builtin; refine append_one (w0 := w) B rfl _ _ 116 1 rfl Tryz.underlying116 info_u8 (by omega) _ _ rfl rfl hO1 hB1 (by omega) (by simp) ?_)
  intro v2 w2 hO2 hB2 hs2 _ _
  obtain ⟨A2, n2, c2, rfl, _⟩ := hO2.formN
  clear hO1 hO hB1
  obtain ⟨k, hk⟩ : ∃ k, k = (dp - 1).natAbs := ⟨_, rfl⟩
  rw [← hk] at hL
  have hkb : k ≤ 99 := by omega
  have HL := Lib.hid hL
  clear hL
  by_cases hn : dp - 1 < 0
  · have hkI : dp - 1 = -(k : Int) := by omega
    have hkI2 : -(dp - 1) = (k : Int) := by omega
    have hL := HL.out
    rw [if_pos hn] at hL
    have HL := Lib.hid hL
    clear hL hk
    go_wp2_with (at_builtin; refine append_one (w0 := w) B rfl _ _ 116 1 rfl Tryz.underlying116 info_u8 (by omega) _ _ rfl rfl hO2 hB2 (by omega) (by simp) ?_)
    intro v3 w3 hO3 hB3 hs3 _ _
    obtain ⟨A3, n3, c3, rfl, _⟩ := hO3.formN
    by_cases h10 : k < 10
    · have hfin : L = [c, 101, 45] ++ [48, (k : Int) + 48] := by
        rw [HL.out, show k / 10 = 0 by omega, show k % 10 = k by omega]
        simp only [List.cons_append, List.nil_append]
        congr 4
        congr 1; omega
      have HF := Lib.hid hfin
      clear hfin HL
      go_wp2_with (at_builtin; refine append_two (w0 := w) B rfl _ _ 116 1 rfl Tryz.underlying116 info_u8 (by omega) _ _ rfl rfl hO3 hB3 (by omega) (by simp) ?_)
      intro v4 w4 hO4 hB4 hs4 _ _
      obtain ⟨A4, n4, c4, rfl, _⟩ := hO4.formN
      go_wp2
      go_ret
      exact ⟨_, rfl, by rw [HF.out]; exact hO4, hB4⟩
    · obtain ⟨t, ht⟩ : ∃ t, t = k / 10 := ⟨_, rfl⟩
      obtain ⟨u, hu⟩ : ∃ u, u = k % 10 := ⟨_, rfl⟩
      have hfin : L = [c, 101, 45] ++ [(t : Int) + 48, (u : Int) + 48] := by
        rw [HL.out, ← ht, ← hu]
        simp only [List.cons_append, List.nil_append]
        congr 4
        · omega
        · congr 1; omega
      have htI : (k : Int) / 10 = (t : Int) := by omega
      have huI : (k : Int) % 10 = (u : Int) := by omega
      have htb : t ≤ 9 := by omega
      have hub : u ≤ 9 := by omega
      have HF := Lib.hid hfin
      clear hfin HL ht hu
      go_wp2_with (at_builtin; refine append_two (w0 := w) B rfl _ _ 116 1 rfl Tryz.underlying116 info_u8 (by omega) _ _ rfl rfl hO3 hB3 (by omega) (by simp) ?_)
      intro v4 w4 hO4 hB4 hs4 _ _
      obtain ⟨A4, n4, c4, rfl, _⟩ := hO4.formN
      go_wp2
      go_ret
      exact ⟨_, rfl, by rw [HF.out]; exact hO4, hB4⟩
  · have hkI : dp - 1 = (k : Int) := by omega
    have hL := HL.out
    rw [if_neg hn] at hL
    have HL := Lib.hid hL
    clear hL hk
    go_wp2_with (at_builtin; refine append_one (w0 := w) B rfl _ _ 116 1 rfl Tryz.underlying116 info_u8 (by omega) _ _ rfl rfl hO2 hB2 (by omega) (by simp) ?_)
    intro v3 w3 hO3 hB3 hs3 _ _
    obtain ⟨A3, n3, c3, rfl, _⟩ := hO3.formN
    by_cases h10 : k < 10
    · have hfin : L = [c, 101, 43] ++ [48, (k : Int) + 48] := by
        rw [HL.out, show k / 10 = 0 by omega, show k % 10 = k by omega]
        simp only [List.cons_append, List.nil_append]
        congr 4
        congr 1; omega
      have HF := Lib.hid hfin
      clear hfin HL
      go_wp2_with (at_builtin; refine append_two (w0 := w) B rfl _ _ 116 1 rfl Tryz.underlying116 info_u8 (by omega) _ _ rfl rfl hO3 hB3 (by omega) (by simp) ?_)
      intro v4 w4 hO4 hB4 hs4 _ _
      obtain ⟨A4, n4, c4, rfl, _⟩ := hO4.formN
      go_wp2
      go_ret
      exact ⟨_, rfl, by rw [HF.out]; exact hO4, hB4⟩
    · obtain ⟨t, ht⟩ : ∃ t, t = k / 10 := ⟨_, rfl⟩
      obtain ⟨u, hu⟩ : ∃ u, u = k % 10 := ⟨_, rfl⟩
      have hfin : L = [c, 101, 43] ++ [(t : Int) + 48, (u : Int) + 48] := by
        rw [HL.out, ← ht, ← hu]
        simp only [List.cons_append, List.nil_append]
        congr 4
        · omega
        · congr 1; omega
      have htI : (k : Int) / 10 = (t : Int) := by omega
      have huI : (k : Int) % 10 = (u : Int) := by omega
      have htb : t ≤ 9 := by omega
      have hub : u ≤ 9 := by omega
      have HF := Lib.hid hfin
      clear hfin HL ht hu
      go_wp2_with (at_builtin; refine append_two (w0 := w) B rfl _ _ 116 1 rfl Tryz.underlying116 info_u8 (by omega) _ _ rfl rfl hO3 hB3 (by omega) (by simp) ?_)
      intro v4 w4 hO4 hB4 hs4 _ _
      obtain ⟨A4, n4, c4, rfl, _⟩ := hO4.formN
      go_wp2
      go_ret
      exact ⟨_, rfl, by rw [HF.out]; exact hO4, hB4⟩
end Go.Proofs.YtkljejejabikiaaGreatDoor

/- Package internal/strconv: ftoa64, FormatFloat: shortest, in the shape with e, where one digit is left. -/
namespace Go.Proofs.YtkljejejabikiaaGreatDoor
open Go Go.RowKit Go.Sort Cusp

theorem run_fbits2 (b : Nat) (w : World) : (callFunc 245 #[.float .f64 b]).run Tryz.prog w = .ok (.value (.int .u64 (b : Int))) w := by
  rw [run_callFunc_extern Tryz.func245 (by kernel_rfl) (by kernel_rfl) (by kernel_rfl) (e := Extern.MathFloatBits.float64bits) (by kernel_rfl)]
  rfl

set_option maxHeartbeats 8000000 in
set_option maxRecDepth 100000 in
theorem ftoa64_calls (B : Nat) (dst : Value) (E f k : Nat) (i s : Nat) (r : Nat × Nat) (o d1 d2 D dg : Nat) (g : Int) (hE0 : 1 ≤ E) (hE1 : E ≤ 2046) (hf : f < 4503599627370496) (hk : k = 4503599627370496 + f)
    (h : ShortAt (k * 2048) ((E : Int) - 1086) i s r o d1 d2) (hA : d1 ≤ d2 / 10 * 10) (hD : d2 / 10 = D) (hD1 : 1 ≤ D) (hD2 : D < 18446744073709551616) (hdig : (Lib.decDigits D)[0]! = UInt8.ofNat dg) (hdg1 : 48 < dg) (hdg2 : dg < 58)
    (h48 : ∀ j, 1 ≤ j → j < Lib.nDigits D → (Lib.decDigits D)[j]! = 48) (hg : ((E : Int) - 1086 + 11) * 78913 / 262144 + 1 = g) (dp : Int) (hdp : (Lib.nDigits D : Int) + g = dp) (hdp0 : -98 ≤ dp) (hdp1 : dp ≤ 100)
    (w : World) {B0 : Nat} (hG : Glib B0 w) (hO : Own B w 5 .u8 dst []) (hBs : B ≤ w.heap.size) :
    Calls Tryz.prog 195 #[dst, .float .f64 (E * 4503599627370496 + f), .int .u8 101, .int .i64 (-1)] w fun e w' => ∃ v, e = .returned v ∧ Own B w' 5 .u8 v ([(dg : Int), 101] ++ exp2 (dp - 1)) ∧ Below B w w' := by
  obtain ⟨b, hb⟩ : ∃ b, b = E * 4503599627370496 + f := ⟨_, rfl⟩
  rw [← hb]
  have hbb : b < 9223372036854775808 := by omega
  have hq1 : (b : Int) / 4503599627370496 = (E : Int) := by omega
  have hq2 : (b : Int) / 9223372036854775808 = 0 := by omega
  have hq3 : bits .and .i64 (E : Int) 2047 = (E : Int) := by rw [i64_and2047]; omega
  have hq4 : bits .and .u64 (b : Int) 4503599627370495 = (f : Int) := by
    have h := bits_and_u64_nat b 4503599627370495 (by omega) (by omega)
    rw [show ((4503599627370495 : Nat) : Int) = 4503599627370495 from rfl] at h
    rw [h, show (4503599627370495 : Nat) = 2 ^ 52 - 1 from by decide, Nat.and_two_pow_sub_one_eq_mod]
    omega
  have hq5 : bits .or .u64 (f : Int) 4503599627370496 = (k : Int) := by
    have h := u64_or_nat f 4503599627370496 (by omega) (by omega)
    rw [show ((4503599627370496 : Nat) : Int) = 4503599627370496 from rfl] at h
    rw [h, hk]
    have h2 := Nat.or_two_pow_eq_add_of_lt (a := f) (n := 52) (by omega)
    rw [show (2 : Nat) ^ 52 = 4503599627370496 from by decide] at h2
    rw [h2]; omega
  have hbits := run_fbits2 b
  have hkb : k < 9007199254740992 := by omega
  have hkb0 : 4503599627370496 ≤ k := by omega
  have HB := Lib.hid hb
  have HK := Lib.hid hk
  have HG := Lib.hid hg
  have HDP := Lib.hid hdp
  have HD := Lib.hid hD
  have HDG := Lib.hid hdig
  have HSH := Lib.hid h
  have H48 := Lib.hid h48
  clear hb hk hg hdp hD hdig h h48
  go_enter Tryz.func195, Tryz.ntmps195
  go_wp2_with fail
  go_quiet (fail)
  obtain ⟨W1, hW1⟩ : ∃ W1, W1 = w.drewN nq := ⟨_, rfl⟩
  rw [← hW1]
  have e1 : Ext w W1 := by rw [hW1]; exact Ext.drewN w _
  clear hW1
  have hG1 := hG.ext e1
  have hO1 := hO.ext e1
  have hs1 := e1.size
  have hbl : (Lib.bitLen k : Int) = 53 := by
    rw [Lib.bitLen_shift 52 k (by rw [show (2 : Nat) ^ 52 = 4503599627370496 from by decide]; omega) (by omega), show (2 : Nat) ^ 52 = 4503599627370496 from by decide, show k / 4503599627370496 = 1 by omega]
    rfl
  go_wp2_with fail
  refine (Tryz.bits_Len64 (k : Int) _ (by omega) (by omega)).mono ?_
  rintro v w2 ⟨rfl, rfl⟩
  rw [Int.toNat_natCast, hbl]
  obtain ⟨M, hM⟩ : ∃ M, M = k * 2048 := ⟨_, rfl⟩
  have hMI : (k : Int) * 2048 = (M : Int) := by omega
  obtain ⟨X, hX⟩ : ∃ X, X = (E : Int) - 1086 := ⟨_, rfl⟩
  have hXb : -1085 ≤ X ∧ X ≤ 971 := by omega
  have hXI : (E : Int) + -1023 - 11 - 52 = X := by omega
  have hXg : (X + 11) * 78913 / 262144 + 1 = g := by rw [hX]; exact HG.out
  have hMb : M < 18446744073709551616 := by omega
  have HSH := HSH.out
  rw [← hM, ← hX] at HSH
  have HSH := Lib.hid HSH
  have HXG := Lib.hid hXg
  have hdpg : (Lib.nDigits D : Int) + g = dp := HDP.out
  have hn20 : Lib.nDigits D ≤ 20 := Lib.nDigits_le20 D hD2
  have hn1 := Lib.nDigits_pos D
  obtain ⟨nd, hnd⟩ : ∃ nd, nd = Lib.nDigits D := ⟨_, rfl⟩
  rw [← hnd] at hdpg hn20 hn1
  have HND := Lib.hid hnd
  have hgb : -5000 ≤ g ∧ g ≤ 5000 := by omega
  have HDP := Lib.hid hdpg
  clear hM hX hXg hdpg hnd hbl
  have hc0 : ∀ j, j < 32 → (W1.alloc (.cells #[.int .u8 0, .int .u8 0, .int .u8 0, .int .u8 0, .int .u8 0, .int .u8 0, .int .u8 0, .int .u8 0, .int .u8 0, .int .u8 0, .int .u8 0, .int .u8 0, .int .u8 0, .int .u8 0, .int .u8 0, .int .u8 0, .int .u8 0, .int .u8 0, .int .u8 0, .int .u8 0, .int .u8 0, .int .u8 0, .int .u8 0, .int .u8 0, .int .u8 0, .int .u8 0, .int .u8 0, .int .u8 0, .int .u8 0, .int .u8 0, .int .u8 0, .int .u8 0] 233)).cell? ⟨W1.heap.size, j, none⟩ = some (.int .u8 0) := fun j hj => by
    refine cell_new W1 _ _ j _ ?_
    show (Array.replicate 32 (Value.int .u8 0))[j]? = _
    rw [Array.getElem?_replicate, if_pos hj]
  have hf0 : ∀ j, j < 32 → (W1.alloc (.cells #[.int .u8 0, .int .u8 0, .int .u8 0, .int .u8 0, .int .u8 0, .int .u8 0, .int .u8 0, .int .u8 0, .int .u8 0, .int .u8 0, .int .u8 0, .int .u8 0, .int .u8 0, .int .u8 0, .int .u8 0, .int .u8 0, .int .u8 0, .int .u8 0, .int .u8 0, .int .u8 0, .int .u8 0, .int .u8 0, .int .u8 0, .int .u8 0, .int .u8 0, .int .u8 0, .int .u8 0, .int .u8 0, .int .u8 0, .int .u8 0, .int .u8 0, .int .u8 0] 233)).frozen? ⟨W1.heap.size, j, none⟩ = false := fun j hj => by
    simp only [World.frozen?, heap_alloc_new]; simp
  have HC0 := Lib.hid hc0
  have HF0 := Lib.hid hf0
  have e2 : Ext W1 (W1.alloc (.cells #[.int .u8 0, .int .u8 0, .int .u8 0, .int .u8 0, .int .u8 0, .int .u8 0, .int .u8 0, .int .u8 0, .int .u8 0, .int .u8 0, .int .u8 0, .int .u8 0, .int .u8 0, .int .u8 0, .int .u8 0, .int .u8 0, .int .u8 0, .int .u8 0, .int .u8 0, .int .u8 0, .int .u8 0, .int .u8 0, .int .u8 0, .int .u8 0, .int .u8 0, .int .u8 0, .int .u8 0, .int .u8 0, .int .u8 0, .int .u8 0, .int .u8 0, .int .u8 0] 233)) := (Ext.refl W1).alloc _
  clear hc0 hf0
  go_wp2_with fail
  refine (shortFloat_calls M X i s r o d1 d2 HSH.out hA _ (hG1.ext e2)).mono ?_
  rintro v w3 ⟨rfl, e3⟩
  rw [HXG.out, HD.out]
  have hG3 := ((hG1.ext e2).ext e3).ext (Ext.drew w3)
  have ha3 := e3.trans (Ext.drew w3)
  have hE1 : Ext W1 w3.drew := e2.trans ha3
  have hE3 : Ext w3 w3.drew := Ext.drew w3
  have HC3 := Lib.hid (fun j (hj : j < 32) => ha3.cell (HC0.out j hj))
  have HF3 := Lib.hid (fun j (hj : j < 32) => (ha3.frozen (HC0.out j hj)).trans (HF0.out j hj))
  clear HC0 HF0 e2 e3 ha3
  have hdne : UInt8.ofNat dg ≠ 48 := by
    intro h
    have h2 := congrArg UInt8.toNat h
    rw [UInt8.toNat_ofNat'] at h2
    have : (48 : UInt8).toNat = 48 := rfl
    omega
  have hdgI : (((UInt8.ofNat dg).toNat : Nat) : Int) = (dg : Int) := by rw [UInt8.toNat_ofNat']; omega
  have HDI := Lib.hid hdgI
  clear hdgI
  go_upto_region 38 with (fail)
  first | (go_region_held3 (fun _ => True) (trivial) (first | (go_at_call 251; refine (setDigits_calls W1.heap.size D 1 nd g _ HND.out.symm HC3.out HF3.out hD1 hD2 (by omega) hn1 (by rw [HDG.out]; exact hdne) (by rw [HND.out]; exact H48.out) hgb).mono ?_; rintro v w5 ⟨rfl, hc5, hf5⟩; rw [HDP.out, show ((1 : Nat) : Int) = 1 from rfl]) | (go_at_call 252; refine (Tryz.internal_strconv_numDigits D hD1 hD2 _ hG3.p10).mono ?_; rintro v w4 ⟨rfl, rfl⟩; rw [← HND.out]) | fail)) | fail
  have E5 := hf5 W1 hE1 (Nat.le_refl _)
  have hc := (hc5 0 (by omega)).1
  rw [HDG.out, HDI.out] at hc
  have hO5 := hO1.ext E5
  have hs5 := E5.size
  clear hc5 hf5 HC3 HF3 H48
  go_wp2_with fail
  refine (fmtE_calls B W1.heap.size dst (dg : Int) dp hdp0 hdp1 _ hO5 hc (by omega)).mono ?_
  rintro v w6 ⟨v6, rfl, hO6, hB6⟩
  obtain ⟨A6, n6, c6, rfl, _⟩ := hO6.formN
  have hfin : Below B w w6 := (Ext.below (Below.refl _ _) hBs (e1.trans E5)).trans hB6
  go_wp2
  go_ret
  exact ⟨_, rfl, hO6, hfin⟩
end Go.Proofs.YtkljejejabikiaaGreatDoor

/- FormatFloat: shortest, in the shape with e, where one digit is left. -/
namespace Go.Proofs.YtkljejejabikiaaGreatDoor
open Go Go.RowKit Go.Sort Cusp

/-- What the shortest text of E, f leans on. -/
structure OneDigit (E f : Nat) (dg : Nat) (dp : Int) : Prop where
  ex : ∃ (k i s : Nat) (r : Nat × Nat) (o d1 d2 D : Nat) (g : Int), k = 4503599627370496 + f ∧ ShortAt (k * 2048) ((E : Int) - 1086) i s r o d1 d2 ∧ d1 ≤ d2 / 10 * 10 ∧ d2 / 10 = D ∧ 1 ≤ D ∧ D < 18446744073709551616 ∧ (Lib.decDigits D)[0]! = UInt8.ofNat dg ∧ (∀ j, 1 ≤ j → j < Lib.nDigits D → (Lib.decDigits D)[j]! = 48) ∧ ((E : Int) - 1086 + 11) * 78913 / 262144 + 1 = g ∧ (Lib.nDigits D : Int) + g = dp
  e0 : 1 ≤ E
  e1 : E ≤ 2046
  fb : f < 4503599627370496
  d0 : 48 < dg
  d9 : dg < 58
  p0 : -98 ≤ dp
  p1 : dp ≤ 100

set_option maxHeartbeats 2000000 in
set_option maxRecDepth 100000 in
theorem format_int_calls (E f dg : Nat) (dp : Int) (h : OneDigit E f dg dp) (w : World) {B : Nat} (hG : Glib B w) :
    Calls Tryz.prog 124 #[.float .f64 (E * 4503599627370496 + f), .int .u8 101, .int .i64 (-1), .int .i64 64] w fun e w' => e = .returned (.string (strOfNums ([(dg : Int), 101] ++ exp2 (dp - 1)))) ∧ Ext w w' := by
  obtain ⟨⟨k, i, s, r, o, d1, d2, D, g, hk, hS, hA, hD, hD1, hD2, hdig, h48, hg, hdp⟩, e0, e1, fb, h0, h9, p0, p1⟩ := h
  have hmk := make_room (P := Tryz.prog) 116 5 .u8 1 Tryz.underlying116 info_u8 (by omega) 24 (by omega)
  have hmk : ∀ W : World, (Instr.makeSlice 116 (.int .i64 0) (.int .i64 (max 3 24))).run Tryz.prog W = .ok (.slice (some ⟨W.heap.size, 0, none⟩) 0 24) (W.alloc (.cells (madeCells #[.int .u8 0] 24) 5)) := by
    intro W
    rw [show max (3 : Int) 24 = ((24 : Nat) : Int) from by decide]
    exact hmk W
  have hO := own_room w w.heap.size 5 .u8 24 (Nat.le_refl _) (by omega)
  have eA : Ext w (w.alloc (.cells (madeCells #[.int .u8 0] 24) 5)) := (Ext.refl w).alloc _
  have hG1 := hG.ext eA
  have hcall := ftoa64_calls w.heap.size (.slice (some ⟨w.heap.size, 0, none⟩) 0 24) E f k i s r o d1 d2 D dg g e0 e1 fb hk hS hA hD hD1 hD2 hdig h0 h9 h48 hg dp hdp p0 p1 _ hG1 hO eA.size
  have HC := Lib.hid hcall
  clear hcall hk hS hA hD hdig h48 hg hdp
  obtain ⟨b, hb⟩ : ∃ b, b = E * 4503599627370496 + f := ⟨_, rfl⟩
  rw [← hb] at HC ⊢
  clear hb
  obtain ⟨l, hl⟩ : ∃ l, l = [(dg : Int), 101] ++ exp2 (dp - 1) := ⟨_, rfl⟩
  rw [← hl] at HC ⊢
  have hlen : l.length = 5 := by rw [hl]; rfl
  have hby : ∀ x ∈ l, 0 ≤ x ∧ x < 256 := by
    intro x hx
    rw [hl] at hx
    unfold exp2 at hx
    simp only [List.cons_append, List.nil_append, List.mem_cons, List.not_mem_nil, or_false] at hx
    have hdpb : (dp - 1).natAbs ≤ 99 := by omega
    rcases hx with rfl | rfl | rfl | rfl | rfl
    · omega
    · omega
    · split <;> omega
    · omega
    · omega
  have HB := Lib.hid hby
  clear hl hby
  go_enter Tryz.func124, Tryz.ntmps124
  go_wp2_with fail
  refine HC.out.mono ?_
  rintro v w1 ⟨v1, rfl, hO1, hB1⟩
  obtain ⟨g1, cc, rfl, hcc⟩ := hO1.form_pos (by omega)
  have hcells : True := trivial
  have hcv := run_convert_bytes_arg (P := Tryz.prog) w1 116 5 Tryz.underlying116 Tryz.underlying5 g1 0 5 cc l hlen (fun i hi => by
      have := (hO1.at_ i (by rw [hlen]; exact hi)).1
      rw [Nat.zero_add, this]
      rfl)
  go_wp2
  go_ret
  exact ⟨rfl, Below.trans eA hB1⟩
set_option maxHeartbeats 2000000 in
set_option maxRecDepth 100000 in
theorem format_calls (E f dg : Nat) (dp : Int) (h : OneDigit E f dg dp) (w : World) {B : Nat} (hG : Glib B w) :
    Calls Tryz.prog 61 #[.float .f64 (E * 4503599627370496 + f), .int .u8 101, .int .i64 (-1), .int .i64 64] w fun e w' => e = .returned (.string (strOfNums ([(dg : Int), 101] ++ exp2 (dp - 1)))) ∧ Ext w w' := by
  have HC := Lib.hid (format_int_calls E f dg dp h w hG)
  obtain ⟨b, hb⟩ : ∃ b, b = E * 4503599627370496 + f := ⟨_, rfl⟩
  rw [← hb] at HC ⊢
  obtain ⟨S, hS⟩ : ∃ S, S = strOfNums ([(dg : Int), 101] ++ exp2 (dp - 1)) := ⟨_, rfl⟩
  rw [← hS] at HC ⊢
  clear hb hS h
  go_enter Tryz.func61, Tryz.ntmps61
  go_wp2_with fail
  refine HC.out.mono ?_
  rintro v w1 ⟨rfl, e1⟩
  go_wp2
  go_ret
  exact ⟨rfl, e1⟩
end Go.Proofs.YtkljejejabikiaaGreatDoor

/- Package decim, telling: Shortest where one digit is enough, below nought or far above. -/
namespace Go.Proofs.YtkljejejabikiaaGreatDoor
open Go Go.RowKit Cusp

theorem eqz_pos {b : Nat} (h0 : 0 < b) (hb : b < 9218868437227405312) : (FloatKind.f64.format.order b 0 == some .eq) = false := by
  show (Ieee.double.order b 0 == some .eq) = false
  have h := order_fin false false hb (show 0 < 9218868437227405312 by omega)
  rw [word_false, word_false] at h
  rw [h]
  have hp := V_pos h0
  unfold sv
  rw [V_zero, if_neg (by simp : ¬ (false = true)), if_neg (by simp : ¬ (false = true))]
  rw [show compare ((V b : Int)) ((0 : Nat) : Int) = Ordering.gt from Int.compare_eq_gt.2 (by omega)]; rfl

set_option maxHeartbeats 4000000 in
set_option maxRecDepth 100000 in
theorem shortest_small (E f dgt : Nat) (dp x : Int) (h : OneDigit E f dgt dp) (hx : dp - 1 = x) (hx0 : x < 0) (hx1 : -5 ≤ x) (eb : List UInt8) (d1 : ByteArray)
    (hcut : Lib.cut (strOfNums ([(dgt : Int), 101] ++ exp2 x)).data.toList [101] = (d1.data.toList, eb, true)) (hat : Lib.atoi eb = some x) (heb : eb.length = 3) (hd1 : d1.size = 1) (hrep : Lib.replace d1.data.toList [46] [] 1 = d1.data.toList)
    (w : World) {B : Nat} (hG : Glib B w) :
    Calls Tryz.prog 19 #[.float .f64 (E * 4503599627370496 + f)] w fun e w' => e = .returned (.string (⟨#[48, 46]⟩ ++ (⟨(Lib.repeatL [48] (-x - 1).toNat).toArray⟩ : ByteArray) ++ d1)) ∧ Ext w w' := by
  have HF := fun w => format_calls E f dgt dp h w (B := B)
  have he0 := h.e0
  have he1 := h.e1
  have hfb := h.fb
  obtain ⟨b, hb⟩ : ∃ b, b = E * 4503599627370496 + f := ⟨_, rfl⟩
  have hb0 : 0 < b := by omega
  have hb1 : b < 9218868437227405312 := by omega
  have hm : b % 9223372036854775808 = b := by omega
  have ho := eqz_pos hb0 hb1
  rw [← hb] at HF ⊢
  rw [hx] at HF
  obtain ⟨S, hS⟩ : ∃ S, S = strOfNums ([(dgt : Int), 101] ++ exp2 x) := ⟨_, rfl⟩
  have hSs : S.size = 5 := by rw [hS, st_size]; rfl
  rw [← hS] at HF hcut
  have HF := Lib.hid HF
  have HCUT := Lib.hid hcut
  have HAT := Lib.hid hat
  have HREP := Lib.hid hrep
  have hebs : (ByteArray.mk eb.toArray).size ≤ 18 := by show eb.toArray.size ≤ 18; simp; omega
  have HEB := Lib.hid hebs
  have hs1 : d1.size ≤ 1 := by omega
  have hminus : decide (9223372036854775808 ≤ b) = false := decide_eq_false (by omega)
  have HMI := Lib.hid hminus
  obtain ⟨n, hn⟩ : ∃ n : Nat, n = (-x - 1).toNat := ⟨_, rfl⟩
  have hnI : -x - 1 = (n : Int) := by omega
  have hn4 : n ≤ 4 := by omega
  rw [← hn]
  obtain ⟨m, hml⟩ := hG.ml
  clear h hb hS hcut hat hrep hebs hminus hd1 heb hx hn
  go_enter Tryz.func19, Tryz.ntmps19
  go_wp2_with fail
  refine (word_fin b (by omega) (by omega) _).mono ?_
  rintro v w1 ⟨rfl, rfl⟩
  have t3 : (ByteArray.mk #[]).toList.isEmpty = true := by rw [ByteArray.toList_eq]; rfl
  go_wp2_with fail
  refine (abs_f_calls b (by omega) _).mono ?_
  rintro v w2 ⟨rfl, rfl⟩
  rw [hm]
  go_wp2_with fail
  refine (HF.out _ hG).mono ?_
  rintro v w3 ⟨rfl, e3⟩
  go_wp2_with fail
  refine (Tryz.strings_Cut S ⟨#[101]⟩ m _ (by omega) (e3.cell hml)).mono ?_
  rintro v w4 ⟨rfl, n4, rfl⟩
  rw [show ((⟨#[101]⟩ : ByteArray).data.toList) = [101] from rfl, HCUT.out]
  have e4 : Ext w2 (w3.drewN n4) := e3.drewN' n4
  go_wp2_with fail
  refine (Tryz.strconv_Atoi ⟨eb.toArray⟩ x HEB.out (by simpa using HAT.out) _).mono ?_
  rintro v w5 ⟨rfl, t5, rfl⟩
  have e5 : Ext w2 (Lib.bytesWorld (w3.drewN n4) 5 t5) := e4.trans (Lib.bytesWorld_below _ _ _)
  go_wp2_with fail
  refine (Tryz.strings_Replace d1 ⟨#[46]⟩ ⟨#[]⟩ 1 m _ (by omega) (e5.cell hml) (by decide) (by show d1.size + _ * 0 ≤ _; omega)).mono ?_
  rintro v w6 ⟨rfl, e6⟩
  rw [show ((⟨#[46]⟩ : ByteArray).data.toList) = [46] from rfl, show ((⟨#[]⟩ : ByteArray).data.toList) = [] from rfl, HREP.out, Array.toArray_toList]
  have e6' : Ext w2 w6 := e5.trans e6
  obtain ⟨D1, hD1⟩ : ∃ D : ByteArray, D = ⟨d1.data⟩ := ⟨_, rfl⟩
  have hD1s : D1.size ≤ 1 := by rw [hD1]; exact hs1
  rw [← hD1]
  have HD1 := Lib.hid hD1
  clear hD1
  go_wp2_with fail
  refine (Tryz.strings_Repeat ⟨#[48]⟩ n _ (by omega) (by show 1 * n ≤ _; omega)).mono ?_
  rintro v w7 ⟨rfl, e7⟩
  have e7' : Ext w2 w7 := e6'.trans e7
  rw [show ((⟨#[48]⟩ : ByteArray).data.toList) = [48] from rfl]
  obtain ⟨R, hR⟩ : ∃ R : ByteArray, R = ⟨(Lib.repeatL [48] n).toArray⟩ := ⟨_, rfl⟩
  have hRs : R.size ≤ 4 := by
    rw [hR]
    show (Lib.repeatL [48] n).toArray.size ≤ 4
    rw [List.size_toArray, Lib.repeatL_length]
    show n * 1 ≤ 4
    omega
  rw [← hR]
  have HR := Lib.hid hR
  clear hR
  go_wp2_with fail
  refine (minus_calls b (by omega) _).mono ?_
  rintro v w8 ⟨rfl, rfl⟩
  rw [HMI.out]
  have hmb : strOfNums (minusB false) = ⟨#[]⟩ := rfl
  rw [hmb]
  go_wp2
  go_ret
  refine ⟨?_, e7'⟩
  show Ending.returned (Value.string ((⟨#[]⟩ : ByteArray) ++ (⟨#[48, 46]⟩ ++ R ++ D1))) = _
  rw [show (⟨#[]⟩ : ByteArray) = ByteArray.empty from rfl, ByteArray.empty_append, HD1.out, HR.out]

set_option maxHeartbeats 4000000 in
set_option maxRecDepth 100000 in
theorem shortest_great (E f dgt : Nat) (dp x : Int) (h : OneDigit E f dgt dp) (hx : dp - 1 = x) (hx0 : 20 < x) (hx1 : x ≤ 99) (eb : List UInt8) (d1 : ByteArray)
    (hcut : Lib.cut (strOfNums ([(dgt : Int), 101] ++ exp2 x)).data.toList [101] = (d1.data.toList, eb, true)) (hat : Lib.atoi eb = some x) (heb : eb.length = 3) (hd1 : d1.size = 1) (hrep : Lib.replace d1.data.toList [46] [] 1 = d1.data.toList)
    (w : World) {B : Nat} (hG : Glib B w) :
    Calls Tryz.prog 19 #[.float .f64 (E * 4503599627370496 + f)] w fun e w' => e = .returned (.string (d1 ++ (⟨#[101]⟩ ++ (⟨(Lib.itoa x).toArray⟩ : ByteArray)))) ∧ Ext w w' := by
  have HF := fun w => format_calls E f dgt dp h w (B := B)
  have he0 := h.e0
  have he1 := h.e1
  have hfb := h.fb
  obtain ⟨b, hb⟩ : ∃ b, b = E * 4503599627370496 + f := ⟨_, rfl⟩
  have hb0 : 0 < b := by omega
  have hb1 : b < 9218868437227405312 := by omega
  have hm : b % 9223372036854775808 = b := by omega
  have ho := eqz_pos hb0 hb1
  rw [← hb] at HF ⊢
  rw [hx] at HF
  obtain ⟨S, hS⟩ : ∃ S, S = strOfNums ([(dgt : Int), 101] ++ exp2 x) := ⟨_, rfl⟩
  have hSs : S.size = 5 := by rw [hS, st_size]; rfl
  rw [← hS] at HF hcut
  have HF := Lib.hid HF
  have HCUT := Lib.hid hcut
  have HAT := Lib.hid hat
  have HREP := Lib.hid hrep
  have hebs : (ByteArray.mk eb.toArray).size ≤ 18 := by show eb.toArray.size ≤ 18; simp; omega
  have HEB := Lib.hid hebs
  have hs1 : d1.size ≤ 1 := by omega
  have hminus : decide (9223372036854775808 ≤ b) = false := decide_eq_false (by omega)
  have HMI := Lib.hid hminus
  have hE1 : d1.extract 0 1 = d1 := by
    have h := ByteArray.extract_zero_size (b := d1)
    rwa [hd1] at h
  have HE1 := Lib.hid hE1
  clear hE1
  obtain ⟨m, hml⟩ := hG.ml
  clear h hb hS hcut hat hrep hebs hminus heb hx
  go_enter Tryz.func19, Tryz.ntmps19
  go_wp2_with fail
  refine (word_fin b (by omega) (by omega) _).mono ?_
  rintro v w1 ⟨rfl, rfl⟩
  have t3 : (ByteArray.mk #[]).toList.isEmpty = true := by rw [ByteArray.toList_eq]; rfl
  go_wp2_with fail
  refine (abs_f_calls b (by omega) _).mono ?_
  rintro v w2 ⟨rfl, rfl⟩
  rw [hm]
  go_wp2_with fail
  refine (HF.out _ hG).mono ?_
  rintro v w3 ⟨rfl, e3⟩
  go_wp2_with fail
  refine (Tryz.strings_Cut S ⟨#[101]⟩ m _ (by omega) (e3.cell hml)).mono ?_
  rintro v w4 ⟨rfl, n4, rfl⟩
  rw [show ((⟨#[101]⟩ : ByteArray).data.toList) = [101] from rfl, HCUT.out]
  have e4 : Ext w2 (w3.drewN n4) := e3.drewN' n4
  go_wp2_with fail
  refine (Tryz.strconv_Atoi ⟨eb.toArray⟩ x HEB.out (by simpa using HAT.out) _).mono ?_
  rintro v w5 ⟨rfl, t5, rfl⟩
  have e5 : Ext w2 (Lib.bytesWorld (w3.drewN n4) 5 t5) := e4.trans (Lib.bytesWorld_below _ _ _)
  go_wp2_with fail
  refine (Tryz.strings_Replace d1 ⟨#[46]⟩ ⟨#[]⟩ 1 m _ (by omega) (e5.cell hml) (by decide) (by show d1.size + _ * 0 ≤ _; omega)).mono ?_
  rintro v w6 ⟨rfl, e6⟩
  rw [show ((⟨#[46]⟩ : ByteArray).data.toList) = [46] from rfl, show ((⟨#[]⟩ : ByteArray).data.toList) = [] from rfl, HREP.out, Array.toArray_toList]
  have e6' : Ext w2 w6 := e5.trans e6
  obtain ⟨D1, hD1⟩ : ∃ D : ByteArray, D = ⟨d1.data⟩ := ⟨_, rfl⟩
  have hD1s : D1.size ≤ 1 := by rw [hD1]; exact hs1
  rw [← hD1]
  have HD1 := Lib.hid hD1
  have hDsz : D1.size = 1 := by rw [hD1]; exact hd1
  have hEx : D1.extract 0 1 = D1 := by rw [hD1]; exact HE1.out
  clear hD1
  have hG6 := hG.ext e6'
  go_wp2_with fail
  refine (Tryz.strconv_Itoa x (by omega) (by omega) _ hG6.p10).mono ?_
  rintro v w7 ⟨rfl, kk, os, hw7⟩
  have e7 : Ext w6 w7 := by rw [hw7]; exact Lib.below_grow _ w6 (Nat.le_refl _) kk os
  have e7' : Ext w2 w7 := e6'.trans e7
  clear hw7
  obtain ⟨R, hR⟩ : ∃ R : ByteArray, R = ⟨(Lib.itoa x).toArray⟩ := ⟨_, rfl⟩
  have hRs : R.size ≤ 100 := by
    rw [hR]
    show (Lib.itoa x).toArray.size ≤ 100
    rw [List.size_toArray]
    exact Nat.le_trans (Lib.itoa_length_le _ (by omega) (by omega)) (by omega)
  rw [← hR]
  have HR := Lib.hid hR
  clear hR
  go_wp2_with fail
  refine (minus_calls b (by omega) _).mono ?_
  rintro v w8 ⟨rfl, rfl⟩
  rw [HMI.out]
  have hmb : strOfNums (minusB false) = ⟨#[]⟩ := rfl
  rw [hmb]
  go_wp2
  go_ret
  refine ⟨?_, e7'⟩
  show Ending.returned (Value.string ((⟨#[]⟩ : ByteArray) ++ (D1 ++ (⟨#[101]⟩ ++ R)))) = _
  rw [show (⟨#[]⟩ : ByteArray) = ByteArray.empty from rfl, ByteArray.empty_append, HD1.out, HR.out]
end Go.Proofs.YtkljejejabikiaaGreatDoor

/- Package decim, telling: Shortest of 0.3 and of 1e21. -/
namespace Go.Proofs.YtkljejejabikiaaGreatDoor
open Go Go.RowKit Cusp

theorem digs_03 : Lib.decDigits 3000000000000000 = [51, 48, 48, 48, 48, 48, 48, 48, 48, 48, 48, 48, 48, 48, 48, 48] := by
  rw [Lib.decDigits_eq, Lib.nDigits_unique 15 _ (by decide) (by decide)]
  decide +kernel
theorem digs_21 : Lib.decDigits 1000000000000000 = [49, 48, 48, 48, 48, 48, 48, 48, 48, 48, 48, 48, 48, 48, 48, 48] := by
  rw [Lib.decDigits_eq, Lib.nDigits_unique 15 _ (by decide) (by decide)]
  decide +kernel
theorem short_03 : ShortAt (5404319552844595 * 2048) (((1021 : Nat) : Int) - 1086) 365 6 (12800000000000000000, 0) 1 29999999999999997 30000000000000001 where
  m0 := by decide
  m1 := by decide
  e0 := by decide
  e1 := by decide
  ip := by decide
  row := by decide +kernel
  ib := by decide
  sp := by decide
  sb := by decide
  hi := by decide
  hi2 := by decide
  lo := by decide
  od := by decide +kernel
  u1 := by decide +kernel
  u2 := by decide +kernel
  u0 := by decide +kernel
  dmin := by decide +kernel
  dmax := by decide +kernel
theorem short_21 : ShortAt (7629394531250000 * 2048) (((1092 : Nat) : Int) - 1086) 343 8 (12089258196146291748, 17307473159717249708) 0 10000000000000000 10000000000000000 where
  m0 := by decide
  m1 := by decide
  e0 := by decide
  e1 := by decide
  ip := by decide
  row := by decide +kernel
  ib := by decide
  sp := by decide
  sb := by decide
  hi := by decide
  hi2 := by decide
  lo := by decide
  od := by decide +kernel
  u1 := by decide +kernel
  u2 := by decide +kernel
  u0 := by decide +kernel
  dmin := by decide +kernel
  dmax := by decide +kernel
theorem one_03 : OneDigit 1021 900719925474099 51 0 where
  ex := ⟨5404319552844595, 365, 6, (12800000000000000000, 0), 1, 29999999999999997, 30000000000000001, 3000000000000000, -16, by decide, short_03, by decide, by decide, by decide, by decide, by rw [digs_03]; rfl, by
      intro j h1 h2
      rw [Lib.nDigits_unique 15 _ (by decide) (by decide)] at h2
      rw [digs_03]
      have : ∀ j : Fin 16, 1 ≤ j.val → ([51, 48, 48, 48, 48, 48, 48, 48, 48, 48, 48, 48, 48, 48, 48, 48] : List UInt8)[j.val]! = 48 := by decide
      exact this ⟨j, h2⟩ h1, by decide, by rw [Lib.nDigits_unique 15 _ (by decide) (by decide)]; decide⟩
  e0 := by omega
  e1 := by omega
  fb := by omega
  d0 := by omega
  d9 := by omega
  p0 := by omega
  p1 := by omega
theorem one_21 : OneDigit 1092 3125794903879504 49 22 where
  ex := ⟨7629394531250000, 343, 8, (12089258196146291748, 17307473159717249708), 0, 10000000000000000, 10000000000000000, 1000000000000000, 6, by decide, short_21, by decide, by decide, by decide, by decide, by rw [digs_21]; rfl, by
      intro j h1 h2
      rw [Lib.nDigits_unique 15 _ (by decide) (by decide)] at h2
      rw [digs_21]
      have : ∀ j : Fin 16, 1 ≤ j.val → ([49, 48, 48, 48, 48, 48, 48, 48, 48, 48, 48, 48, 48, 48, 48, 48] : List UInt8)[j.val]! = 48 := by decide
      exact this ⟨j, h2⟩ h1, by decide, by rw [Lib.nDigits_unique 15 _ (by decide) (by decide)]; decide⟩
  e0 := by omega
  e1 := by omega
  fb := by omega
  d0 := by omega
  d9 := by omega
  p0 := by omega
  p1 := by omega

set_option maxRecDepth 10000 in
theorem shortest_03 (w : World) {B : Nat} (hG : Glib B w) : Calls Tryz.prog 19 #[.float .f64 4599075939470750515] w fun e w' => e = .returned (.string ⟨#[48, 46, 51]⟩) ∧ Ext w w' := by
  have h := shortest_small 1021 900719925474099 51 0 (-1) one_03 (by omega) (by omega) (by omega) [45, 48, 49] ⟨#[51]⟩ (by decide +kernel) (by decide +kernel) (by rfl) (by rfl) (by decide +kernel) w hG
  exact h
set_option maxRecDepth 10000 in
theorem shortest_21 (w : World) {B : Nat} (hG : Glib B w) : Calls Tryz.prog 19 #[.float .f64 4921056587992461136] w fun e w' => e = .returned (.string ⟨#[49, 101, 50, 49]⟩) ∧ Ext w w' := by
  have h := shortest_great 1092 3125794903879504 49 22 21 one_21 (by omega) (by omega) (by omega) [43, 50, 49] ⟨#[49]⟩ (by decide +kernel) (by decide +kernel) (by rfl) (by rfl) (by decide +kernel) w hG
  rw [show Lib.itoa 21 = [50, 49] from by rw [show (21 : Int) = ((21 : Nat) : Int) from rfl, Lib.itoa_nonneg, Lib.decDigits_eq, Lib.nDigits_unique 1 21 (by decide) (by decide)]; decide +kernel] at h
  exact h
end Go.Proofs.YtkljejejabikiaaGreatDoor

/- The statements' package of layer 4: like, works. -/
namespace Go.Proofs.YtkljejejabikiaaGreatDoor
open Go Go.RowKit Cusp

/-- Is it a NaN? -/
def nanB (b : Nat) : Bool := decide (9218868437227405312 < b % 9223372036854775808)

set_option maxHeartbeats 2000000 in
set_option maxRecDepth 100000 in
theorem like_calls (a b : Nat) (ha : a < 18446744073709551616) (hb : b < 18446744073709551616) (w : World) : Calls Tryz.prog 17 #[.float .f64 a, .float .f64 b] w fun v w' => v = .returned (.bool (nanB a && nanB b || a == b)) ∧ w' = w := by
  have o1 : (FloatKind.f64.format.order a a != some .eq) = nanB a := by
    show (!(Ieee.double.order a a == some .eq)) = nanB a
    rw [order_self ha]
    unfold nanB
    by_cases h : a % 9223372036854775808 ≤ 9218868437227405312
    · rw [decide_eq_true h, decide_eq_false (by omega)]; rfl
    · rw [decide_eq_false h, decide_eq_true (by omega)]; rfl
  have o2 : (FloatKind.f64.format.order b b != some .eq) = nanB b := by
    show (!(Ieee.double.order b b == some .eq)) = nanB b
    rw [order_self hb]
    unfold nanB
    by_cases h : b % 9223372036854775808 ≤ 9218868437227405312
    · rw [decide_eq_true h, decide_eq_false (by omega)]; rfl
    · rw [decide_eq_false h, decide_eq_true (by omega)]; rfl
  have f1 := run_fbits a
  have f2 := run_fbits b
  have hq : (((a : Int)) == (b : Int)) = (a == b) := by
    rw [Bool.eq_iff_iff, beq_iff_eq, beq_iff_eq]; omega
  obtain ⟨na, hna⟩ : ∃ n, n = nanB a := ⟨_, rfl⟩
  obtain ⟨nb, hnb⟩ : ∃ n, n = nanB b := ⟨_, rfl⟩
  rw [← hna] at o1 ⊢
  rw [← hnb] at o2 ⊢
  clear hna hnb
  cases na with
  | true =>
    cases nb with
    | true =>
      go_enter Tryz.func17, Tryz.ntmps17
      go_wp2
      go_ret
      exact ⟨rfl, rfl⟩
    | false =>
      go_enter Tryz.func17, Tryz.ntmps17
      go_wp2
      go_ret
      exact ⟨by rfl, rfl⟩
  | false =>
    go_enter Tryz.func17, Tryz.ntmps17
    go_wp2
    go_ret
    exact ⟨by rfl, rfl⟩

theorem wk_01 (w : World) {B : Nat} (hG : Glib B w) : Calls Tryz.prog 15 #[.string ⟨#[48, 46, 49]⟩, .int .i64 2] w fun v w' => v = .returned (.tuple #[.float .f64 4591870180066957722, .int .i64 0]) ∧ Ext w w' := by
  refine (read_calls ⟨#[48, 46, 49]⟩ 2 (by omega) _ hG).mono ?_
  rintro v w1 ⟨r1, e1, rfl, hs1, x1⟩
  obtain ⟨rfl, rfl⟩ := read_01 hs1
  exact ⟨rfl, x1⟩
theorem wk_e400 (w : World) {B : Nat} (hG : Glib B w) : Calls Tryz.prog 15 #[.string ⟨#[45, 49, 101, 45, 52, 48, 48]⟩, .int .i64 1] w fun v w' => v = .returned (.tuple #[.float .f64 9223372036854775809, .int .i64 0]) ∧ Ext w w' := by
  refine (read_calls ⟨#[45, 49, 101, 45, 52, 48, 48]⟩ 1 (by omega) _ hG).mono ?_
  rintro v w1 ⟨r1, e1, rfl, hs1, x1⟩
  obtain ⟨rfl, rfl⟩ := read_e400 hs1
  exact ⟨rfl, x1⟩
theorem wk_1x (w : World) {B : Nat} (hG : Glib B w) : Calls Tryz.prog 15 #[.string ⟨#[49, 120]⟩, .int .i64 2] w fun v w' => v = .returned (.tuple #[.float .f64 0, .int .i64 3]) ∧ Ext w w' := by
  refine (read_calls ⟨#[49, 120]⟩ 2 (by omega) _ hG).mono ?_
  rintro v w1 ⟨r1, e1, rfl, hs1, x1⟩
  obtain ⟨rfl, rfl⟩ := read_1x hs1
  exact ⟨rfl, x1⟩
theorem wk_fixed (w : World) : Calls Tryz.prog 26 #[.float .f64 4612811918334230528, .int .i64 0, .int .i64 2] w fun v w' => v = .returned (.tuple #[.string ⟨#[50]⟩, .int .i64 0]) ∧ Ext w w' := by
  refine (fixed_calls 4612811918334230528 (by omega) (by omega) 0 (by omega) 2 (by omega) w).mono ?_
  rintro v w1 ⟨a, j, hF, rfl, x1⟩
  rw [fixed_25 hF]
  exact ⟨rfl, x1⟩
theorem wk_exact (w : World) : Calls Tryz.prog 21 #[.float .f64 4602678819172646912] w fun v w' => v = .returned (.string ⟨#[48, 46, 53]⟩) ∧ Ext w w' := by
  refine (exact_calls 4602678819172646912 (by omega) (by omega) w).mono ?_
  rintro v w1 ⟨a, j, hF, rfl, x1⟩
  rw [exact_05 hF]
  exact ⟨rfl, x1⟩
theorem wk_hex (w : World) {B : Nat} (hG : Glib B w) : Calls Tryz.prog 23 #[.float .f64 4591870180066957722] w fun v w' => v = .returned (.string ⟨#[48, 120, 49, 46, 57, 57, 57, 57, 57, 57, 57, 57, 57, 57, 57, 57, 97, 112, 45, 52]⟩) ∧ Ext w w' := by
  refine (hexT_calls 4591870180066957722 (by omega) (by omega) (by omega) w hG).mono ?_
  rintro v w1 ⟨k, E, t, h0, h1, hE, _, hV, rfl, x1⟩
  rw [hex_01 h0 h1 hE hV]
  exact ⟨rfl, x1⟩

set_option maxHeartbeats 8000000 in
set_option maxRecDepth 100000 in
theorem works_calls (w : World) {B : Nat} (hG : Glib B w) : Calls Tryz.prog 18 #[] w fun v w' => v = .returned (.bool true) ∧ Ext w w' := by
  go_enter Tryz.func18, Tryz.ntmps18
  go_wp2_with fail
  refine (wk_01 _ hG).mono ?_
  rintro v w1 ⟨rfl, x1⟩
  have hG1 := hG.ext x1
  go_wp2_with fail
  refine (wk_e400 _ hG1).mono ?_
  rintro v w2 ⟨rfl, x2⟩
  have hG2 := hG1.ext x2
  go_wp2_with fail
  refine (wk_1x _ hG2).mono ?_
  rintro v w3 ⟨rfl, x3⟩
  have hG3 := hG2.ext x3
  go_wp2_with fail
  refine (wk_fixed _).mono ?_
  rintro v w4 ⟨rfl, x4⟩
  have hG4 := hG3.ext x4
  have X4 := ((x1.trans x2).trans x3).trans x4
  clear x1 x2 x3 x4 hG hG1 hG2 hG3
  go_wp2_with fail
  refine (like_calls 4591870180066957722 4591870180066957722 (by omega) (by omega) _).mono ?_
  rintro v w5 ⟨rfl, rfl⟩
  rw [show (nanB 4591870180066957722 && nanB 4591870180066957722 || (4591870180066957722 : Nat) == 4591870180066957722) = true from by decide]
  go_wp2_with fail
  refine (like_calls 9223372036854775809 9223372036854775809 (by omega) (by omega) _).mono ?_
  rintro v w6 ⟨rfl, rfl⟩
  rw [show (nanB 9223372036854775809 && nanB 9223372036854775809 || (9223372036854775809 : Nat) == 9223372036854775809) = true from by decide]
  have q1 : (ByteArray.mk #[48, 46, 51]).toList = [48, 46, 51] := by rw [ByteArray.toList_eq]
  have q2 : (ByteArray.mk #[49, 101, 50, 49]).toList = [49, 101, 50, 49] := by rw [ByteArray.toList_eq]
  have q3 : (ByteArray.mk #[50]).toList = [50] := by rw [ByteArray.toList_eq]
  have q4 : (ByteArray.mk #[48, 120, 49, 46, 57, 57, 57, 57, 57, 57, 57, 57, 57, 57, 57, 57, 97, 112, 45, 52]).toList = [48, 120, 49, 46, 57, 57, 57, 57, 57, 57, 57, 57, 57, 57, 57, 57, 97, 112, 45, 52] := by rw [ByteArray.toList_eq]
  have q5 : (ByteArray.mk #[48, 46, 53]).toList = [48, 46, 53] := by rw [ByteArray.toList_eq]
  go_wp2_with fail
  refine (shortest_03 _ hG4).mono ?_
  rintro v w7 ⟨rfl, x7⟩
  have hG7 := hG4.ext x7
  go_wp2_with fail
  refine (shortest_21 _ hG7).mono ?_
  rintro v w8 ⟨rfl, x8⟩
  have hG8 := hG7.ext x8
  go_wp2_with fail
  refine (wk_hex _ hG8).mono ?_
  rintro v w9 ⟨rfl, x9⟩
  go_wp2_with fail
  refine (wk_exact _).mono ?_
  rintro v w10 ⟨rfl, x10⟩
  have X := (((X4.trans x7).trans x8).trans x9).trans x10
  go_wp2
  go_ret
  exact ⟨rfl, X⟩
end Go.Proofs.YtkljejejabikiaaGreatDoor

/- The plain law of DecimModes: what Read says by the three modes, and with a minus ahead. -/
namespace Go.Proofs.YtkljejejabikiaaGreatDoor
open Go Go.RowKit Cusp

structure ModesSay (l : List UInt8) (a b c d : Nat) (e f g h : Int) : Prop where
  e0 : e = 0 ∨ e = 2 ∨ e = 3
  ef : f = e
  eg : g = e
  eh : l.length < 1048576 → h = e
  at0 : e = 0 → (a = 9221120237041090561 ∧ b = 9221120237041090561 ∧ c = 9221120237041090561) ∨
    (a ≤ b ∧ b ≤ c ∧ c ≤ 9218868437227405312 ∧ (b = a ∨ b = c) ∧ (c = a ∨ c = a + 1) ∧ (l.length < 1048576 → d = 9223372036854775808 + c))

theorem modes_say {l : List UInt8} (hs : signed l = false) {a b c d : Nat} {e f g h : Int} (h1 : ReadSays l 1 a e) (h2 : ReadSays l 2 b f) (h3 : ReadSays l 3 c g) (h4 : ReadSays (45 :: l) 1 d h) : ModesSay l a b c d e f g h := by
  unfold ReadSays at h1 h2 h3 h4
  rw [cutT_minus] at h4
  by_cases hl : 1048576 < l.length
  · rw [if_pos hl] at h1 h2 h3
    exact ⟨by omega, by omega, by omega, fun h => by omega, fun h => by omega⟩
  · rw [if_neg hl] at h1 h2 h3
    have hcp : cutT l = restT false l := cutT_plain hs
    rw [hcp] at h1 h2 h3
    cases hc : restT false l with
    | none =>
      rw [hc] at h1 h2 h3
      rw [restT_neg_none hc] at h4
      refine ⟨by omega, by omega, by omega, fun h => ?_, fun h => by omega⟩
      rw [if_neg (by simp only [List.length_cons]; omega)] at h4
      omega
    | some t =>
      obtain ⟨hneg, _, _⟩ := restT_digits hc
      rw [hc] at h1 h2 h3
      rw [restT_neg_of hc] at h4
      simp only at h1 h2 h3 h4
      by_cases w2 : t.word = 2
      · rw [if_pos w2] at h1 h2 h3 h4
        refine ⟨by omega, by omega, by omega, fun h => ?_, fun h => .inl ⟨h1.2, h2.2, h3.2⟩⟩
        rw [if_neg (by simp only [List.length_cons]; omega)] at h4
        omega
      · rw [if_neg w2] at h1 h2 h3 h4
        by_cases w1 : t.word = 1
        · rw [if_pos w1] at h1 h2 h3 h4
          rw [hneg] at h1 h2 h3
          have hsg : sg false 9218868437227405312 = 9218868437227405312 := rfl
          have hsg2 : sg true 9218868437227405312 = 9223372036854775808 + 9218868437227405312 := rfl
          rw [hsg] at h1 h2 h3
          rw [hsg2] at h4
          refine ⟨by omega, by omega, by omega, fun h => ?_, fun h => .inr ⟨by omega, by omega, by omega, by omega, by omega, fun h => ?_⟩⟩
          · rw [if_neg (by simp only [List.length_cons]; omega)] at h4
            omega
          · rw [if_neg (by simp only [List.length_cons]; omega)] at h4
            omega
        · rw [if_neg w1] at h1 h2 h3 h4
          by_cases wd : 1100 < t.digits.length
          · rw [if_pos wd] at h1 h2 h3 h4
            refine ⟨by omega, by omega, by omega, fun h => ?_, fun h => by omega⟩
            rw [if_neg (by simp only [List.length_cons]; omega)] at h4
            omega
          · rw [if_neg wd] at h1 h2 h3 h4
            rw [hneg] at h1 h2 h3
            obtain ⟨he, qa, ha, ra⟩ := h1
            obtain ⟨hf, qb, hb, rb⟩ := h2
            obtain ⟨hg, qc, hc', rc⟩ := h3
            have ha : a = qa := ha
            have hb : b = qb := hb
            have hc' : c = qc := hc'
            subst ha hb hc'
            have hD := dOf_pos t.hex (kOf t.hex t.exp t.behind)
            obtain ⟨o1, o2, o3, o4, _, _⟩ := rnds_order hD ra rb rc
            refine ⟨by omega, by omega, by omega, fun h => ?_, fun h => .inr ⟨o1, o2, rc.le_inf, o3, o4, fun h => ?_⟩⟩
            · rw [if_neg (by simp only [List.length_cons]; omega)] at h4
              rw [h4.1, he]
            · rw [if_neg (by simp only [List.length_cons]; omega)] at h4
              obtain ⟨_, qd, hd, rd⟩ := h4
              have := Rnds.uniq rd rc
              rw [hd, this]; rfl
end Go.Proofs.YtkljejejabikiaaGreatDoor

/- math.Nextafter towards infinity; DecimModes. -/
namespace Go.Proofs.YtkljejejabikiaaGreatDoor
open Go Go.RowKit Cusp

set_option maxHeartbeats 2000000 in
set_option maxRecDepth 100000 in
theorem nextafter_calls (a : Nat) (ha : a < 9218868437227405312) (w : World) : Calls Tryz.prog 35 #[.float .f64 a, .float .f64 9218868437227405312] w fun r w' => r = .returned (.float .f64 (a + 1)) ∧ w' = w := by
  have h1 := run_fbits a
  have h2 := run_ffromI
  have o1 : (FloatKind.f64.format.order a 9218868437227405312 == some .eq) = false := by
    show (Ieee.double.order a 9218868437227405312 == some .eq) = false
    rw [order_pos (by omega) (by omega), Nat.compare_eq_lt.2 ha]; rfl
  have o3 : (FloatKind.f64.format.order 9218868437227405312 a == some .gt) = true := by
    show (Ieee.double.order 9218868437227405312 a == some .gt) = true
    rw [order_pos (by omega) (by omega), Nat.compare_eq_gt.2 ha]; rfl
  have n1 : decide (9218868437227405312 < a % 9223372036854775808) = false := decide_eq_false (by omega)
  have n2 : decide (9218868437227405312 < 9218868437227405312 % 9223372036854775808) = false := by decide
  rcases Nat.eq_zero_or_pos a with rfl | h0
  · have o2 : (FloatKind.f64.format.order 0 0 == some .eq) = true := by decide
    go_enter Tryz.func35, Tryz.ntmps35
    go_wp2_with fail
    refine (isNaN_calls 0 (by omega) _).mono ?_
    rintro v w1 ⟨rfl, rfl⟩
    rw [n1]
    go_wp2_with fail
    refine (isNaN_calls 9218868437227405312 (by omega) _).mono ?_
    rintro v w2 ⟨rfl, rfl⟩
    rw [n2]
    go_wp2_with fail
    refine (copysign_calls 1 9218868437227405312 (by omega) (by omega) _).mono ?_
    rintro v w3 ⟨rfl, rfl⟩
    go_wp2
    go_ret
    exact ⟨rfl, rfl⟩
  · have o2 : (FloatKind.f64.format.order a 0 == some .eq) = false := by
      show (Ieee.double.order a 0 == some .eq) = false
      rw [order_pos (by omega) (by omega), Nat.compare_eq_gt.2 h0]; rfl
    have o4 : (FloatKind.f64.format.order a 0 == some .gt) = true := by
      show (Ieee.double.order a 0 == some .gt) = true
      rw [order_pos (by omega) (by omega), Nat.compare_eq_gt.2 h0]; rfl
    go_enter Tryz.func35, Tryz.ntmps35
    go_wp2_with fail
    refine (isNaN_calls a (by omega) _).mono ?_
    rintro v w1 ⟨rfl, rfl⟩
    rw [n1]
    go_wp2_with fail
    refine (isNaN_calls 9218868437227405312 (by omega) _).mono ?_
    rintro v w2 ⟨rfl, rfl⟩
    rw [n2]
    go_wp2
    go_ret
    exact ⟨by rfl, rfl⟩
end Go.Proofs.YtkljejejabikiaaGreatDoor

/- DecimModes. -/
namespace Go.Proofs.YtkljejejabikiaaGreatDoor
open Go Go.RowKit Cusp

theorem nanB_fin {b : Nat} (h : b ≤ 9218868437227405312) : nanB b = false := by unfold nanB; exact decide_eq_false (by omega)
theorem minus_list (D : ByteArray) : ((⟨#[45]⟩ : ByteArray) ++ D).data.toList = 45 :: D.data.toList := by simp
theorem flip_fin {c : Nat} (h : c ≤ 9218868437227405312) : c ^^^ 9223372036854775808 = 9223372036854775808 + c := by
  have h2 := Nat.two_pow_add_eq_or_of_lt (b := c) (i := 63) (by omega) 1
  rw [Nat.mul_one] at h2
  rw [show (9223372036854775808 : Nat) = 2 ^ 63 from rfl, h2]
  apply Nat.eq_of_testBit_eq
  intro i
  rw [Nat.testBit_xor, Nat.testBit_or, Nat.testBit_two_pow]
  by_cases hi : 63 = i
  · subst hi
    rw [Nat.testBit_lt_two_pow (by omega)]; simp
  · simp [hi]

set_option maxHeartbeats 16000000 in
set_option maxRecDepth 1000000 in
theorem modes_calls (s : ByteArray) (w : World) (hs : s.size ≤ 140737488351232) {B : Nat} (hG : Glib B w) :
    Calls Tryz.prog 7 #[.string s] w fun v w' => v = .returned (.bool true) ∧ Ext w w' := by
  go_enter Tryz.func7, Tryz.ntmps7
  go_upto_region 1 with (fail)
  go_cut [23] (fun v wx => v = .bool (signed s.data.toList) ∧ wx = w)
  case first =>
    rcases Nat.eq_zero_or_pos s.size with h0 | h0
    · have he := emp_true h0
      have hsg : signed s.data.toList = false := by
        have : s.data.toList = [] := List.eq_nil_of_length_eq_zero (by rw [← Lib.size_eq]; exact h0)
        rw [this]; rfl
      go_wp2
      go_meet
      case rel => exact ⟨by rw [hsg], rfl⟩
    · have he := emp_false h0
      have hd := head_at h0
      obtain ⟨x, hx⟩ : ∃ x, x = s[0]'h0 := ⟨_, rfl⟩
      rw [← hx] at hd
      have HX := Lib.hid hx
      have HD := Lib.hid hd
      clear hd
      by_cases h43 : x = 43
      · have t1 : ((s[0]'h0).toNat : Int) = 43 := by rw [← hx, h43]; rfl
        clear hx
        go_wp2
        go_meet
        case rel => exact ⟨by unfold signed; rw [HD.out, h43]; rfl, rfl⟩
      · by_cases h45 : x = 45
        · have t1 : ((s[0]'h0).toNat : Int) = 45 := by rw [← hx, h45]; rfl
          clear hx
          go_wp2
          go_meet
          case rel => exact ⟨by unfold signed; rw [HD.out, h45]; rfl, rfl⟩
        · have hn : ∀ n : UInt8, x ≠ n → (((s[0]'h0).toNat : Int) == (n.toNat : Int)) = false := fun n h => by
            rw [beq_eq_false_iff_ne, ← hx]
            intro he
            exact h (UInt8.toNat_inj.1 (by omega))
          have t1 : (((s[0]'h0).toNat : Int) == 43) = false := hn 43 h43
          have t2 : (((s[0]'h0).toNat : Int) == 45) = false := hn 45 h45
          clear hx hn
          go_wp2
          go_meet
          case rel => exact ⟨by unfold signed; rw [HD.out]; simp [h43, h45], rfl⟩
  case rest =>
    obtain ⟨rfl, rfl⟩ := hcut
    obtain ⟨sg, hsg⟩ : ∃ sg, sg = signed s.data.toList := ⟨_, rfl⟩
    rw [← hsg]
    have HSG := Lib.hid hsg
    clear hsg
    go_upto_if 23 with (fail)
    go_cut [0] (fun v wx => ∃ D : ByteArray, v = .string D ∧ D.size ≤ s.size ∧ wx = wc)
    case first =>
      cases sg with
      | false =>
        go_wp2
        go_meet
        case rel => exact ⟨s, rfl, Nat.le_refl _, rfl⟩
      | true =>
        have h0 : 0 < s.size := by
          rcases Nat.eq_zero_or_pos s.size with h | h
          · have h2 := HSG.out
            rw [show s.data.toList = [] from List.eq_nil_of_length_eq_zero (by rw [← Lib.size_eq]; exact h)] at h2
            cases h2
          · exact h
        have hsz : (s.extract 1 s.size).size ≤ s.size := by rw [ByteArray.size_extract]; omega
        have HSZ := Lib.hid hsz
        clear hsz
        go_wp2
        go_meet
        case rel => exact ⟨_, rfl, HSZ.out, rfl⟩
    case rest =>
      obtain ⟨D, rfl, hDs, rfl⟩ := hcut
      clear HSG
      go_upto_region 3 with (fail)
      go_cut [37] (fun v wx => v = .bool (signed D.data.toList) ∧ wx = wc)
      case first =>
        rcases Nat.eq_zero_or_pos D.size with h0 | h0
        · have he := emp_true h0
          have hsg : signed D.data.toList = false := by
            have : D.data.toList = [] := List.eq_nil_of_length_eq_zero (by rw [← Lib.size_eq]; exact h0)
            rw [this]; rfl
          go_wp2
          go_meet
          case rel => exact ⟨by rw [hsg], rfl⟩
        · have he := emp_false h0
          have hd := head_at h0
          obtain ⟨x, hx⟩ : ∃ x, x = D[0]'h0 := ⟨_, rfl⟩
          rw [← hx] at hd
          have HX := Lib.hid hx
          have HD := Lib.hid hd
          clear hd
          by_cases h43 : x = 43
          · have t1 : ((D[0]'h0).toNat : Int) = 43 := by rw [← hx, h43]; rfl
            clear hx
            go_wp2
            go_meet
            case rel => exact ⟨by unfold signed; rw [HD.out, h43]; rfl, rfl⟩
          · by_cases h45 : x = 45
            · have t1 : ((D[0]'h0).toNat : Int) = 45 := by rw [← hx, h45]; rfl
              clear hx
              go_wp2
              go_meet
              case rel => exact ⟨by unfold signed; rw [HD.out, h45]; rfl, rfl⟩
            · have hn : ∀ n : UInt8, x ≠ n → (((D[0]'h0).toNat : Int) == (n.toNat : Int)) = false := fun n h => by
                rw [beq_eq_false_iff_ne, ← hx]
                intro he
                exact h (UInt8.toNat_inj.1 (by omega))
              have t1 : (((D[0]'h0).toNat : Int) == 43) = false := hn 43 h43
              have t2 : (((D[0]'h0).toNat : Int) == 45) = false := hn 45 h45
              clear hx hn
              go_wp2
              go_meet
              case rel => exact ⟨by unfold signed; rw [HD.out]; simp [h43, h45], rfl⟩
      case rest =>
        obtain ⟨rfl, rfl⟩ := hcut
        cases hsd : signed D.data.toList with
        | true =>
          clear hsd
          go_wp2_with fail
          refine (works_calls _ hG).mono ?_
          rintro v w1 ⟨rfl, x1⟩
          go_wp2
          go_ret
          exact ⟨rfl, x1⟩
        | false =>
          have HSD := Lib.hid hsd
          clear hsd
          have hDb : D.size ≤ 140737488351232 := Nat.le_trans hDs hs
          clear hDs hs
          go_wp2_with fail
          refine (read_calls D 1 (by omega) _ hG).mono ?_
          rintro v w1 ⟨a, e, rfl, s1, x1⟩
          have S1 := Lib.hid s1
          have hG1 := hG.ext x1
          clear s1 hG
          go_wp2_with fail
          refine (read_calls D 2 (by omega) _ hG1).mono ?_
          rintro v w2 ⟨b, f, rfl, s2, x2⟩
          have S2 := Lib.hid s2
          have hG2 := hG1.ext x2
          clear s2 hG1
          go_wp2_with fail
          refine (read_calls D 3 (by omega) _ hG2).mono ?_
          rintro v w3 ⟨c, g, rfl, s3, x3⟩
          have S3 := Lib.hid s3
          have hG3 := hG2.ext x3
          clear s3 hG2
          go_wp2_with fail
          obtain ⟨E, hE⟩ : ∃ E, E = (ByteArray.mk #[45]) ++ D := ⟨_, rfl⟩
          rw [← hE]
          refine (read_calls E 1 (by omega) _ hG3).mono ?_
          rintro v w4 ⟨d, h, rfl, s4, x4⟩
          have HE := Lib.hid hE
          rw [hE, minus_list] at s4
          clear hE
          have hm := modes_say HSD.out S1.out S2.out S3.out s4
          have hG4 := hG3.ext x4
          have X4 := ((x1.trans x2).trans x3).trans x4
          clear s4 hG3 x1 x2 x3 x4 S1 S2 S3 HSD
          obtain ⟨he0, hef, heg, heh, hat⟩ := hm
          have hef2 := hef.symm
          have heg2 := heg.symm
          subst hef2 heg2
          have hDl : D.data.toList.length = D.size := (Lib.size_eq D).symm
          rw [hDl] at heh hat
          clear hDl
          rcases he0 with rfl | he2
          · replace hat := hat rfl
            rcases hat with ⟨ha1, hb1, hc1⟩ | ⟨hab, hbc, hci, hbn, hcn, hd⟩
            · have hNN : ∀ x : Nat, x = 9221120237041090561 → (FloatKind.f64.format.order x x != some .eq) = true := fun x hx => by
                show (!(Ieee.double.order _ _ == some .eq)) = true
                rw [order_self (by omega), decide_eq_false (by omega)]; rfl
              have oa := hNN a ha1
              have ob := hNN b hb1
              have oc := hNN c hc1
              clear heh hNN ha1 hb1 hc1
              go_wp2_with fail
              refine (works_calls _ hG4).mono ?_
              rintro v w5 ⟨rfl, x5⟩
              go_wp2
              go_ret
              exact ⟨rfl, X4.trans x5⟩
            · have ob : (FloatKind.f64.format.order b b != some .eq) = false := by
                show (!(Ieee.double.order _ _ == some .eq)) = false
                rw [order_self (by omega), decide_eq_true (by omega)]; rfl
              by_cases hlen : 1048576 ≤ D.size
              · have hlenI : (1048576 : Int) ≤ (D.size : Int) := by omega
                clear heh hd hbn hcn hab hbc hci hlen
                go_wp2_with fail
                refine (works_calls _ hG4).mono ?_
                rintro v w5 ⟨rfl, x5⟩
                go_wp2
                go_ret
                exact ⟨rfl, X4.trans x5⟩
              · obtain rfl := heh (by omega)
                replace hd := hd (by omega)
                have hx := flip_fin (c := c) hci
                have hEQ : ∀ x : Nat, x ≤ 9218868437227405312 → (FloatKind.f64.format.order x x == some .lt) = false ∧ (FloatKind.f64.format.order x x == some .eq) = true := fun x hx => by
                  have : FloatKind.f64.format.order x x = some (compare x x) := order_pos hx hx
                  rw [this, Nat.compare_eq_eq.2 rfl]; exact ⟨rfl, rfl⟩
                have hLT : ∀ x y : Nat, x < y → y ≤ 9218868437227405312 → (FloatKind.f64.format.order x y == some .lt) = true ∧ (FloatKind.f64.format.order x y == some .eq) = false := fun x y h hy => by
                  have : FloatKind.f64.format.order x y = some (compare x y) := order_pos (by omega) hy
                  rw [this, Nat.compare_eq_lt.2 h]; exact ⟨rfl, rfl⟩
                have n1 := nanB_fin (b := a) (by omega)
                have n2 := nanB_fin (b := b) (by omega)
                have n3 := nanB_fin (b := c) (by omega)
                obtain ⟨C, hC⟩ : ∃ C, C = 9223372036854775808 + c := ⟨_, rfl⟩
                rw [← hC] at hx hd
                subst hd
                have hneg : Op.unary .neg (.float .f64 c) = pure (.float .f64 d) := by rw [neg_float, hx]
                clear hx
                have hd64 : d < 18446744073709551616 := by omega
                have hnl : (nanB d && nanB d || d == d) = true := by simp
                have ha64 : a < 18446744073709551616 := by omega
                have hb64 : b < 18446744073709551616 := by omega
                have hc64 : c < 18446744073709551616 := by omega
                have hns := fun (h : a < 9218868437227405312) w => nextafter_calls a h w
                have hcc := (hEQ c hci)
                have haa := (hEQ a (by omega))
                have hac : a < c → (FloatKind.f64.format.order a c == some .lt) = true ∧ (FloatKind.f64.format.order a c == some .eq) = false := fun h => hLT a c h hci
                have HNS := Lib.hid hns
                have H64 := Lib.hid (And.intro ha64 (And.intro hb64 (And.intro hc64 hd64)))
                have HCI := Lib.hid hci
                have HNL := Lib.hid hnl
                have HN := Lib.hid (And.intro n1 (And.intro n2 n3))
                clear hns ha64 hb64 hc64 hd64 hci hEQ hLT hC hnl n1 n2 n3 heh
                rcases hcn with hcn | hcn
                · subst hcn
                  obtain rfl : b = c := by omega
                  obtain ⟨l1, e1⟩ := hcc
                  have hlenI : decide ((1048576 : Int) ≤ (D.size : Int)) = false := decide_eq_false (by omega)
                  have hlenJ : decide (1048576 ≤ D.size) = false := decide_eq_false (by omega)
                  have hlenK : decide ((D.size : Int) ≥ 1048576) = false := decide_eq_false (by omega)
                  clear hac haa hab hbc hbn hlen
                  go_wp2_with fail
                  refine (like_calls b b H64.out.1 H64.out.1 _).mono ?_
                  rintro v w5 ⟨rfl, rfl⟩
                  rw [show (nanB b && nanB b || b == b) = true from by simp]
                  go_wp2_with fail
                  refine (like_calls d d H64.out.2.2.2 H64.out.2.2.2 _).mono ?_
                  rintro v w5 ⟨rfl, rfl⟩
                  rw [HNL.out]
                  go_wp2_with fail
                  refine (works_calls _ hG4).mono ?_
                  rintro v w5 ⟨rfl, x5⟩
                  go_wp2
                  go_ret
                  exact ⟨rfl, X4.trans x5⟩
                · have hlt : a < c := by omega
                  obtain ⟨l1, e1⟩ := hcc
                  obtain ⟨l2, e2⟩ := haa
                  obtain ⟨l3, e3⟩ := hac hlt
                  have HCN := Lib.hid hcn
                  have hlenI : decide ((1048576 : Int) ≤ (D.size : Int)) = false := decide_eq_false (by omega)
                  have hlenJ : decide (1048576 ≤ D.size) = false := decide_eq_false (by omega)
                  have hlenK : decide ((D.size : Int) ≥ 1048576) = false := decide_eq_false (by omega)
                  clear hcn hac hlen
                  rcases hbn with hbn | hbn
                  · subst hbn
                    clear hab hbc hlt
                    go_wp2_with fail
                    refine (like_calls b b H64.out.1 H64.out.1 _).mono ?_
                    rintro v w5 ⟨rfl, rfl⟩
                    rw [show (nanB b && nanB b || b == b) = true from by simp]
                    go_wp2_with fail
                    refine (like_calls d d H64.out.2.2.2 H64.out.2.2.2 _).mono ?_
                    rintro v w5 ⟨rfl, rfl⟩
                    rw [HNL.out]
                    go_wp2_with fail
                    refine (inf_pos_calls _).mono ?_
                    rintro v w5 ⟨rfl, rfl⟩
                    go_wp2_with fail
                    refine (HNS.out (by have h1 := HCI.out; have h2 := HCN.out; omega) _).mono ?_
                    rintro v w5 ⟨rfl, rfl⟩
                    rw [← HCN.out]
                    go_wp2_with fail
                    refine (works_calls _ hG4).mono ?_
                    rintro v w5 ⟨rfl, x5⟩
                    go_wp2
                    go_ret
                    exact ⟨rfl, X4.trans x5⟩
                  · subst hbn
                    have hne : (b == a) = false := by rw [beq_eq_false_iff_ne]; omega
                    have HNE := Lib.hid hne
                    clear hab hbc hlt hne
                    go_wp2_with fail
                    refine (like_calls b a H64.out.2.1 H64.out.1 _).mono ?_
                    rintro v w5 ⟨rfl, rfl⟩
                    rw [show (nanB b && nanB a || b == a) = false from by rw [HNE.out, HN.out.1]; simp]
                    go_wp2_with fail
                    refine (like_calls b b H64.out.2.1 H64.out.2.1 _).mono ?_
                    rintro v w5 ⟨rfl, rfl⟩
                    rw [show (nanB b && nanB b || b == b) = true from by simp]
                    go_wp2_with fail
                    refine (like_calls d d H64.out.2.2.2 H64.out.2.2.2 _).mono ?_
                    rintro v w5 ⟨rfl, rfl⟩
                    rw [HNL.out]
                    go_wp2_with fail
                    refine (inf_pos_calls _).mono ?_
                    rintro v w5 ⟨rfl, rfl⟩
                    go_wp2_with fail
                    refine (HNS.out (by have h1 := HCI.out; have h2 := HCN.out; omega) _).mono ?_
                    rintro v w5 ⟨rfl, rfl⟩
                    rw [← HCN.out]
                    go_wp2_with fail
                    refine (works_calls _ hG4).mono ?_
                    rintro v w5 ⟨rfl, x5⟩
                    go_wp2
                    go_ret
                    exact ⟨rfl, X4.trans x5⟩
          · clear hat
            have hlong : 1048576 ≤ D.size ∨ h = e := by
              rcases Nat.lt_or_ge D.size 1048576 with h1 | h1
              · exact .inr (heh h1)
              · exact .inl h1
            clear heh
            by_cases hhe : h = e
            · subst hhe
              clear hlong
              rcases he2 with rfl | rfl
              · skip
                go_wp2_with fail
                refine (works_calls _ hG4).mono ?_
                rintro v w5 ⟨rfl, x5⟩
                go_wp2
                go_ret
                exact ⟨rfl, X4.trans x5⟩
              · skip
                go_wp2_with fail
                refine (works_calls _ hG4).mono ?_
                rintro v w5 ⟨rfl, x5⟩
                go_wp2
                go_ret
                exact ⟨rfl, X4.trans x5⟩
            · have hlen : (1048576 : Int) ≤ (D.size : Int) := by omega
              have hne : (h == e) = false := by rw [beq_eq_false_iff_ne]; exact hhe
              clear hlong hhe
              rcases he2 with rfl | rfl
              · skip
                go_wp2_with fail
                refine (works_calls _ hG4).mono ?_
                rintro v w5 ⟨rfl, x5⟩
                go_wp2
                go_ret
                exact ⟨rfl, X4.trans x5⟩
              · skip
                go_wp2_with fail
                refine (works_calls _ hG4).mono ?_
                rintro v w5 ⟨rfl, x5⟩
                go_wp2
                go_ret
                exact ⟨rfl, X4.trans x5⟩
end Go.Proofs.YtkljejejabikiaaGreatDoor
