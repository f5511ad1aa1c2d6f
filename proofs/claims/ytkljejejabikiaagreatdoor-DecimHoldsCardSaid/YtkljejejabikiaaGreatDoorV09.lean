/- Contracts of the program's functions, and plain laws on numbers and texts (joined: DimH, Rat, MatC, RatB, TelA, TelB, TelC, TelE, Bld, TelD, WkA, WkB). -/
import Derived.Test.YtkljejejabikiaaGreatDoorV08
import Derived.Test.YtkljejejabikiaaGreatDoorV05
import Derived.Deep.RegionHeld3
import Derived.Deep.QuietTactic
import Derived.BigQuiet
import Derived.Test.YtkljejejabikiaaGreatDoorV06
import Derived.Deep.DeepCutAuto
import Derived.Test.YtkljejejabikiaaGreatDoorShelf
import Derived.Lib.AppendIntMem
import Derived.Lib.ItoaLen
import Derived.KernelRfl

/- Package decim: Read. -/
namespace Go.Proofs.YtkljejejabikiaaGreatDoor
open Go Go.RowKit Cusp

/-- What Read of a text says. -/
def ReadSays (l : List UInt8) (mode : Nat) (r : Nat) (e : Int) : Prop :=
  if 1048576 < l.length then e = 2 ∧ r = 0
  else match cutT l with
    | none => e = 3 ∧ r = 0
    | some t =>
      if t.word = 2 then e = 0 ∧ r = 9221120237041090561
      else if t.word = 1 then e = 0 ∧ r = sg t.neg 9218868437227405312
      else if 1100 < t.digits.length then e = 2 ∧ r = 0
      else e = 0 ∧ ∃ q, r = sg t.neg q ∧ Rnds (upM t.neg mode) (mode == 2) (nOf t.hex (numV (base t.hex) t.digits) (kOf t.hex t.exp t.behind)) (dOf t.hex (kOf t.hex t.exp t.behind)) q

set_option maxHeartbeats 1000000 in
theorem nan_calls (w : World) : Calls Tryz.prog 49 #[] w fun v w' => v = .returned (.float .f64 9221120237041090561) ∧ w' = w := by
  have h2 := run_ffromI
  go_enter Tryz.func49, Tryz.ntmps49
  go_wp2
  go_ret
  exact ⟨rfl, rfl⟩

set_option maxHeartbeats 1000000 in
theorem dknown_calls (mode : Int) (w : World) : Calls Tryz.prog 51 #[.int .i64 mode] w fun v w' => v = .returned (.bool (decide (1 ≤ mode ∧ mode ≤ 3))) ∧ w' = w := by
  by_cases h1 : 1 ≤ mode
  · have t1 : decide ((1 : Int) ≤ mode) = true := decide_eq_true h1
    by_cases h2 : mode ≤ 3
    · have t2 : decide (mode ≤ 3) = true := decide_eq_true h2
      go_enter Tryz.func51, Tryz.ntmps51
      go_wp2
      go_ret
      exact ⟨by first | rfl | (rw [decide_eq_true (And.intro h1 h2)]; rfl), rfl⟩
    · have t2 : decide (mode ≤ 3) = false := decide_eq_false h2
      go_enter Tryz.func51, Tryz.ntmps51
      go_wp2
      go_ret
      exact ⟨by first | rfl | (rw [decide_eq_false (by omega)]; rfl), rfl⟩
  · have t1 : decide ((1 : Int) ≤ mode) = false := decide_eq_false h1
    go_enter Tryz.func51, Tryz.ntmps51
    go_wp2
    go_ret
    exact ⟨by first | rfl | (rw [decide_eq_false (by omega)]; rfl), rfl⟩

set_option maxHeartbeats 1000000 in
set_option maxRecDepth 100000 in
theorem read_arg (s : ByteArray) (mode : Int) (h : ¬ (1 ≤ mode ∧ mode ≤ 3)) (w : World) :
    Calls Tryz.prog 15 #[.string s, .int .i64 mode] w fun v w' => v = .returned (.tuple #[.float .f64 0, .int .i64 1]) ∧ Ext w w' := by
  go_enter Tryz.func15, Tryz.ntmps15
  go_wp2_with fail
  refine (dknown_calls mode _).mono ?_
  rintro v w1 ⟨rfl, rfl⟩
  rw [decide_eq_false h]
  go_wp2
  go_ret2
  exact ⟨rfl, Ext.refl _⟩

theorem says_nan {l : List UInt8} {t : Txt} {mode : Nat} (hl : ¬ 1048576 < l.length) (hc : cutT l = some t) (hw : t.word = 2) : ReadSays l mode 9221120237041090561 0 := by
  unfold ReadSays
  rw [if_neg hl, hc]
  show (if t.word = 2 then _ else _)
  rw [if_pos hw]
  exact ⟨rfl, rfl⟩
theorem says_inf {l : List UInt8} {t : Txt} {mode : Nat} (hl : ¬ 1048576 < l.length) (hc : cutT l = some t) (hw : t.word = 1) : ReadSays l mode (sg t.neg 9218868437227405312) 0 := by
  unfold ReadSays
  rw [if_neg hl, hc]
  show (if t.word = 2 then _ else _)
  rw [if_neg (by omega), if_pos hw]
  exact ⟨rfl, rfl⟩
theorem says_far {l : List UInt8} {t : Txt} {mode : Nat} (hl : ¬ 1048576 < l.length) (hc : cutT l = some t) (hw : t.word = 0) (h : 1100 < t.digits.length) : ReadSays l mode 0 2 := by
  unfold ReadSays
  rw [if_neg hl, hc]
  show (if t.word = 2 then _ else _)
  rw [if_neg (by omega), if_neg (by omega), if_pos h]
  exact ⟨rfl, rfl⟩
theorem says_num {l : List UInt8} {t : Txt} {mode : Nat} (hl : ¬ 1048576 < l.length) (hc : cutT l = some t) (hw : t.word = 0) (h : ¬ 1100 < t.digits.length) (q : Nat) (hq : Rnds (upM t.neg mode) (mode == 2) (nOf t.hex (numV (base t.hex) t.digits) (kOf t.hex t.exp t.behind)) (dOf t.hex (kOf t.hex t.exp t.behind)) q) : ReadSays l mode (sg t.neg q) 0 := by
  unfold ReadSays
  rw [if_neg hl, hc]
  show (if t.word = 2 then _ else _)
  rw [if_neg (by omega), if_neg (by omega), if_neg h]
  exact ⟨rfl, q, rfl, hq⟩
theorem cutT_digits {l : List UInt8} {t : Txt} (h : cutT l = some t) : (t.word = 0 → t.digits ≠ [] ∧ (∀ b ∈ t.digits, isDig (base t.hex) b = true) ∧ t.behind ≤ t.digits.length ∧ True) ∧ t.word ≤ 2 := by
  unfold cutT at h
  split at h
  · obtain ⟨_, h2, h3⟩ := restT_digits h
    exact ⟨fun hw => ⟨(h2 hw).1, (h2 hw).2.1, (h2 hw).2.2.1, trivial⟩, h3⟩
  · obtain ⟨_, h2, h3⟩ := restT_digits h
    exact ⟨fun hw => ⟨(h2 hw).1, (h2 hw).2.1, (h2 hw).2.2.1, trivial⟩, h3⟩

set_option maxHeartbeats 4000000 in
set_option maxRecDepth 100000 in
theorem read_calls (s : ByteArray) (mode : Nat) (hm : mode = 1 ∨ mode = 2 ∨ mode = 3) (w : World) {B : Nat} (hG : Glib B w) :
    Calls Tryz.prog 15 #[.string s, .int .i64 (mode : Int)] w fun v w' => ∃ r e, v = .returned (.tuple #[.float .f64 r, .int .i64 e]) ∧ ReadSays s.data.toList mode r e ∧ Ext w w' := by
  have hk : (1 : Int) ≤ (mode : Int) ∧ (mode : Int) ≤ 3 := by omega
  have hll : s.data.toList.length = s.size := (Lib.size_eq s).symm
  by_cases hlong : 1048576 < s.size
  · have hsay : ReadSays s.data.toList mode 0 2 := by unfold ReadSays; rw [if_pos (by omega)]; exact ⟨rfl, rfl⟩
    have HS := Lib.hid hsay
    have HK := Lib.hid hk
    clear hsay hk hll
    go_enter Tryz.func15, Tryz.ntmps15
    go_wp2_with fail
    refine (dknown_calls mode _).mono ?_
    rintro v w1 ⟨rfl, rfl⟩
    rw [decide_eq_true HK.out]
    go_wp2
    go_ret2
    exact ⟨_, _, rfl, HS.out, Ext.refl _⟩
  · have HK := Lib.hid hk
    clear hk
    go_enter Tryz.func15, Tryz.ntmps15
    go_wp2_with fail
    refine (dknown_calls mode _).mono ?_
    rintro v w1 ⟨rfl, rfl⟩
    rw [decide_eq_true HK.out]
    go_wp2_with fail
    refine (cut_calls s _ (by omega) hG).mono ?_
    rintro v w2 ⟨tv, rfl, ⟨neg, hex, D, beh, P, wrd, rfl⟩, e2, htell⟩
    have HT := Lib.hid htell
    clear htell
    cases hc : cutT s.data.toList with
    | none =>
      have hsay : ReadSays s.data.toList mode 0 3 := by unfold ReadSays; rw [if_neg (by omega), hc]; exact ⟨rfl, rfl⟩
      have HS := Lib.hid hsay
      clear hsay hc hll
      rw [show (none : Option Txt).isSome = false from rfl]
      go_wp2
      go_ret2
      exact ⟨_, _, rfl, HS.out, e2.alloc _⟩
    | some t =>
      obtain ⟨D', P', hv, hD, hw0⟩ := (HT.out t hc).ex
      unfold txv at hv
      simp only [Value.agg.injEq, Array.mk.injEq, List.cons.injEq, Value.bool.injEq, Value.string.injEq, Value.int.injEq, Value.pointer.injEq, and_true, true_and] at hv
      obtain ⟨rfl, rfl, rfl, rfl, rfl, rfl⟩ := hv
      have hts := cutT_digits hc
      rw [show (some t).isSome = true from rfl]
      have HC := Lib.hid hc
      have HLL := Lib.hid hll
      have HTS := Lib.hid hts
      have HD := Lib.hid hD
      have HW0 := Lib.hid hw0
      clear hc hll hD hw0
      obtain ⟨wn, hwn⟩ : ∃ wn, wn = t.word := ⟨_, rfl⟩
      have hw2 : wn ≤ 2 := by rw [hwn]; exact hts.2
      rw [← hwn]
      have HWN := Lib.hid hwn
      clear hwn hts
      rcases (show wn = 2 ∨ wn = 1 ∨ wn = 0 by omega) with rfl | rfl | rfl
      · have hsay : ReadSays s.data.toList mode 9221120237041090561 0 := says_nan (by rw [HLL.out]; exact hlong) HC.out HWN.out.symm
        have HS := Lib.hid hsay
        clear hsay
        rw [show wordB 2 = ⟨#[110, 97, 110]⟩ from rfl]
        have t1 : ((ByteArray.mk #[110, 97, 110]).toList == [110, 97, 110]) = true := by rw [ByteArray.toList_eq]; rfl
        go_upto_region 6 with (fail)
        have e3 : Ext w2 (w2.alloc (.cells #[.bool t.neg, .bool t.hex, .string D, .int .i64 (t.behind : Int), .pointer P, .string ⟨#[110, 97, 110]⟩] 77)) := (Ext.refl w2).alloc _
        obtain ⟨w3, hw3⟩ : ∃ w3, w3 = w2.alloc (.cells #[.bool t.neg, .bool t.hex, .string D, .int .i64 (t.behind : Int), .pointer P, .string ⟨#[110, 97, 110]⟩] 77) := ⟨_, rfl⟩
        rw [← hw3] at e3 ⊢
        have c0 : w3.cell? ⟨w2.heap.size, 0, none⟩ = some (.bool t.neg) := by rw [hw3]; exact cell_new w2 _ _ 0 _ rfl
        have c1 : w3.cell? ⟨w2.heap.size, 1, none⟩ = some (.bool t.hex) := by rw [hw3]; exact cell_new w2 _ _ 1 _ rfl
        have c2 : w3.cell? ⟨w2.heap.size, 2, none⟩ = some (.string D) := by rw [hw3]; exact cell_new w2 _ _ 2 _ rfl
        have c3 : w3.cell? ⟨w2.heap.size, 3, none⟩ = some (.int .i64 (t.behind : Int)) := by rw [hw3]; exact cell_new w2 _ _ 3 _ rfl
        have c4 : w3.cell? ⟨w2.heap.size, 4, none⟩ = some (.pointer P) := by rw [hw3]; exact cell_new w2 _ _ 4 _ rfl
        have c5 : w3.cell? ⟨w2.heap.size, 5, none⟩ = some (.string ⟨#[110, 97, 110]⟩) := by rw [hw3]; exact cell_new w2 _ _ 5 _ rfl
        have E3 := e2.trans e3
        clear hw3
        go_wp2_with fail
        refine (nan_calls _).mono ?_
        rintro v w4 ⟨rfl, rfl⟩
        go_wp2
        go_ret2
        exact ⟨_, _, rfl, HS.out, E3⟩
      · have hsay : ReadSays s.data.toList mode (sg t.neg 9218868437227405312) 0 := says_inf (by rw [HLL.out]; exact hlong) HC.out HWN.out.symm
        have HS := Lib.hid hsay
        clear hsay
        rw [show wordB 1 = ⟨#[105, 110, 102]⟩ from rfl]
        have t1 : ((ByteArray.mk #[105, 110, 102]).toList == [110, 97, 110]) = false := by rw [ByteArray.toList_eq]; rfl
        have t2 : ((ByteArray.mk #[105, 110, 102]).toList == [105, 110, 102]) = true := by rw [ByteArray.toList_eq]; rfl
        go_upto_region 6 with (fail)
        have e3 : Ext w2 (w2.alloc (.cells #[.bool t.neg, .bool t.hex, .string D, .int .i64 (t.behind : Int), .pointer P, .string ⟨#[105, 110, 102]⟩] 77)) := (Ext.refl w2).alloc _
        obtain ⟨w3, hw3⟩ : ∃ w3, w3 = w2.alloc (.cells #[.bool t.neg, .bool t.hex, .string D, .int .i64 (t.behind : Int), .pointer P, .string ⟨#[105, 110, 102]⟩] 77) := ⟨_, rfl⟩
        rw [← hw3] at e3 ⊢
        have c0 : w3.cell? ⟨w2.heap.size, 0, none⟩ = some (.bool t.neg) := by rw [hw3]; exact cell_new w2 _ _ 0 _ rfl
        have c1 : w3.cell? ⟨w2.heap.size, 1, none⟩ = some (.bool t.hex) := by rw [hw3]; exact cell_new w2 _ _ 1 _ rfl
        have c2 : w3.cell? ⟨w2.heap.size, 2, none⟩ = some (.string D) := by rw [hw3]; exact cell_new w2 _ _ 2 _ rfl
        have c3 : w3.cell? ⟨w2.heap.size, 3, none⟩ = some (.int .i64 (t.behind : Int)) := by rw [hw3]; exact cell_new w2 _ _ 3 _ rfl
        have c4 : w3.cell? ⟨w2.heap.size, 4, none⟩ = some (.pointer P) := by rw [hw3]; exact cell_new w2 _ _ 4 _ rfl
        have c5 : w3.cell? ⟨w2.heap.size, 5, none⟩ = some (.string ⟨#[105, 110, 102]⟩) := by rw [hw3]; exact cell_new w2 _ _ 5 _ rfl
        have E3 := e2.trans e3
        clear hw3
        have hEd : Ext w3 w3.drew := Ext.drew _
        go_wp2
        first | (go_region_held3 (fun w' => w'.cell? ⟨w2.heap.size, 0, none⟩ = some (.bool t.neg)) (first | exact c0 | exact hEd.cell c0 | fail) (first | (go_at_call 36; refine (inf_pos_calls _).mono ?_; rintro v w4 ⟨rfl, rfl⟩) | (go_at_call 53; refine (signed_calls t.neg 9218868437227405312 (by omega) _).mono ?_; rintro v w4 ⟨rfl, rfl⟩) | fail)) | fail
        go_wp2
        go_ret2
        exact ⟨_, _, rfl, HS.out, E3.trans hEd⟩
      · rw [show wordB 0 = ⟨#[]⟩ from rfl]
        have t1 : ((ByteArray.mk #[]).toList == [110, 97, 110]) = false := by rw [ByteArray.toList_eq]; rfl
        have t2 : ((ByteArray.mk #[]).toList == [105, 110, 102]) = false := by rw [ByteArray.toList_eq]; rfl
        obtain ⟨be, rfl, hI, hbl⟩ := HW0.out HWN.out.symm
        obtain ⟨hd1, hd2, hd3, _⟩ := HTS.out.1 HWN.out.symm
        rw [← HD.out] at hd1 hd2 hd3
        have hds : D.data.toList.length = D.size := (Lib.size_eq D).symm
        go_upto_region 6 with (fail)
        have e3 : Ext w2 (w2.alloc (.cells #[.bool t.neg, .bool t.hex, .string D, .int .i64 (t.behind : Int), .pointer (some ⟨be, 0, none⟩), .string ⟨#[]⟩] 77)) := (Ext.refl w2).alloc _
        obtain ⟨w3, hw3⟩ : ∃ w3, w3 = w2.alloc (.cells #[.bool t.neg, .bool t.hex, .string D, .int .i64 (t.behind : Int), .pointer (some ⟨be, 0, none⟩), .string ⟨#[]⟩] 77) := ⟨_, rfl⟩
        rw [← hw3] at e3 ⊢
        have c0 : w3.cell? ⟨w2.heap.size, 0, none⟩ = some (.bool t.neg) := by rw [hw3]; exact cell_new w2 _ _ 0 _ rfl
        have c1 : w3.cell? ⟨w2.heap.size, 1, none⟩ = some (.bool t.hex) := by rw [hw3]; exact cell_new w2 _ _ 1 _ rfl
        have c2 : w3.cell? ⟨w2.heap.size, 2, none⟩ = some (.string D) := by rw [hw3]; exact cell_new w2 _ _ 2 _ rfl
        have c3 : w3.cell? ⟨w2.heap.size, 3, none⟩ = some (.int .i64 (t.behind : Int)) := by rw [hw3]; exact cell_new w2 _ _ 3 _ rfl
        have c4 : w3.cell? ⟨w2.heap.size, 4, none⟩ = some (.pointer (some ⟨be, 0, none⟩)) := by rw [hw3]; exact cell_new w2 _ _ 4 _ rfl
        have c5 : w3.cell? ⟨w2.heap.size, 5, none⟩ = some (.string ⟨#[]⟩) := by rw [hw3]; exact cell_new w2 _ _ 5 _ rfl
        have E3 := e2.trans e3
        clear hw3
        have hI3 := hI.ext e3
        by_cases hdl : 1100 < D.size
        · have hsay : ReadSays s.data.toList mode 0 2 := says_far (by rw [HLL.out]; exact hlong) HC.out HWN.out.symm (by rw [← HD.out, hds]; exact hdl)
          have HS := Lib.hid hsay
          clear hsay hd1 hd2 hd3 hds
          go_wp2
          go_ret2
          exact ⟨_, _, rfl, HS.out, E3⟩
        · have hsz : 0 < D.size := by
            rcases Nat.eq_zero_or_pos D.size with h | h
            · exact absurd (List.eq_nil_of_length_eq_zero (by omega)) hd1
            · exact h
          have hel : (wd t.exp.natAbs).length ≤ 1000000 := Nat.le_trans (len_of_bl (n := 262144) hbl) (by omega)
          have hbeh : t.behind ≤ D.size := by rw [← hds]; exact hd3
          have hval : ∀ W, Ext w3 W → Calls Tryz.prog 54 #[txv t.neg t.hex D t.behind (.pointer (some ⟨be, 0, none⟩)) ⟨#[]⟩, .int .i64 (mode : Int)] W fun v w' => ∃ r, v = .returned (.float .f64 (sg t.neg r)) ∧ Rnds (upM t.neg mode) (mode == 2) (nOf t.hex (numV (base t.hex) t.digits) (kOf t.hex t.exp t.behind)) (dOf t.hex (kOf t.hex t.exp t.behind)) r ∧ Ext W w' := by
            intro W hW
            have hGW := (hG.ext (E3.trans hW)).glob
            have hIW := hI3.ext hW
            cases hh : t.hex with
            | false =>
              rw [hh] at hd2
              rw [← HD.out]
              exact tvalue10 t.neg D ⟨#[]⟩ t.behind be t.exp mode hm W hIW hd2 hsz (by omega) hbeh hel hGW
            | true =>
              rw [hh] at hd2
              rw [← HD.out]
              exact tvalue16 t.neg D ⟨#[]⟩ t.behind be t.exp mode hm W hIW hd2 hsz (by omega) hbeh hel hGW
          have hsay : ∀ q, Rnds (upM t.neg mode) (mode == 2) (nOf t.hex (numV (base t.hex) t.digits) (kOf t.hex t.exp t.behind)) (dOf t.hex (kOf t.hex t.exp t.behind)) q → ReadSays s.data.toList mode (sg t.neg q) 0 := fun q hq => says_num (by rw [HLL.out]; exact hlong) HC.out HWN.out.symm (by rw [← HD.out, hds]; exact hdl) q hq
          have HS := Lib.hid hsay
          have HV := Lib.hid hval
          clear hsay hval hd1 hd2 hd3 hds hel hbeh hbl
          go_wp2_with fail
          refine (HV.out _ (Ext.refl _)).mono ?_
          rintro v w4 ⟨r, rfl, hr, e4⟩
          have HR := Lib.hid (HS.out r hr)
          clear hr
          go_wp2
          go_ret2
          exact ⟨_, _, rfl, HR.out, E3.trans e4⟩
end Go.Proofs.YtkljejejabikiaaGreatDoor

/- Package big's Rat: SetFrac, SetInt, Num, Denom (from 0 on). -/
namespace Go.Proofs.YtkljejejabikiaaGreatDoor
open Go Go.RowKit Cusp

set_option maxHeartbeats 4000000 in
set_option maxRecDepth 100000 in
theorem setFrac_calls (zb ab ao bb bo : Nat) (z0 z1 : Int) (a d : Nat) (w : World) (hz0 : IsInt w zb 0 z0) (hz1 : IsInt w zb 2 z1) (hx : IsInt w ab ao (a : Int)) (hy : IsInt w bb bo (d : Int)) (hd : 0 < d) (hla : (wd a).length ≤ 800000000) (hld : (wd d).length ≤ 800000000) :
    Calls Tryz.prog 212 #[.pointer (some ⟨zb, 0, none⟩), .pointer (some ⟨ab, ao, none⟩), .pointer (some ⟨bb, bo, none⟩)] w fun e w' =>
      e = .returned (.pointer (some ⟨zb, 0, none⟩)) ∧ IsInt w' zb 0 ((a / Nat.gcd a d : Nat) : Int) ∧ IsInt w' zb 2 ((d / Nat.gcd a d : Nat) : Int) ∧ ∀ W, Ext W w → W.heap.size ≤ zb → Ext W w' := by
  obtain ⟨A, n, c, h1, h2, h3⟩ := hx.ex
  obtain ⟨B, m, k, k1, k2, k3⟩ := hy.ex
  rw [Int.natAbs_natCast] at h3 k3
  rw [decide_eq_false (by omega)] at h1 k1
  have hn : n ≤ 800000000 := by rw [← h3.len]; exact hla
  have hm : m ≤ 800000000 := by rw [← k3.len]; exact hld
  have hg0 : 0 < Nat.gcd a d := Nat.gcd_pos_of_pos_right _ hd
  obtain ⟨g, hg⟩ : ∃ g, g = Nat.gcd a d := ⟨_, rfl⟩
  rw [← hg] at hg0 ⊢
  have HG := Lib.hid hg
  have hs := hz0.lt
  clear hg hx hy hla hld
  go_enter Tryz.func212, Tryz.ntmps212
  go_wp2
  go_quiet (fail)
  go_wp2
  have hEd : Ext w (w.drewN nq) := Ext.drewN _ _
  obtain ⟨w1, hw1⟩ : ∃ w1, w1 = w.drewN nq := ⟨_, rfl⟩
  rw [← hw1] at hEd ⊢
  clear hw1
  have h2' := hEd.cell h2
  have k2' := hEd.cell k2
  have h3' := h3.ext hEd
  have k3' := k3.ext hEd
  have hE1 : Ext w1 w1.drew := Ext.drew _
  first | (go_region_held3 (fun w' => w'.cell? ⟨ab, ao + 1, none⟩ = some (.slice A n c) ∧ w'.cell? ⟨bb, bo + 1, none⟩ = some (.slice B m k)) (first | (with_reducible exact ⟨h2', k2'⟩) | (with_reducible exact ⟨hE1.cell h2', hE1.cell k2'⟩) | (with_reducible exact ⟨hE2.cell h2', hE2.cell k2'⟩) | fail)
    (first | (go_at_call 271; refine (gcd_calls _ _ _ _ _ _ a d _ (h3'.ext hE1) (k3'.ext hE1) (by omega) (by omega)).mono ?_; rintro e w2 ⟨A2, n2, c2, rfl, hn2, e2⟩; have hE2 := Ext.trans hE1 e2) | fail)) | fail
  rw [← HG.out] at hn2
  have E2 := hEd.trans hE2
  have h2w := E2.cell h2
  have k2w := E2.cell k2
  have h3w := h3.ext E2
  have k3w := k3.ext E2
  clear h2' k2' h3' k3' hE1 hE2 e2 hEd
  go_wp2_with fail
  refine (div_calls _ _ _ _ _ _ a g _ h3w hn2 (by omega) hg0).mono ?_
  rintro e w3 ⟨A3, n3, c3, A4, n4, c4, rfl, hq3, _, e3⟩
  have k2w := e3.cell k2w
  have k3w := k3w.ext e3
  have hn3 := hn2.ext e3
  go_wp2_with fail
  refine (div_calls _ _ _ _ _ _ d g _ k3w hn3 (by omega) hg0).mono ?_
  rintro e w4 ⟨A5, n5, c5, A6, n6, c6, rfl, hq4, _, e4⟩
  have E4 := E2.trans (e3.trans e4)
  have hz04 := hz0.ext E4
  have hz14 := hz1.ext E4
  have hq34 := hq3.ext e4
  obtain ⟨q, hq⟩ : ∃ q, q = a / g := ⟨_, rfl⟩
  obtain ⟨r, hr⟩ : ∃ r, r = d / g := ⟨_, rfl⟩
  rw [← hq] at hq34
  rw [← hr] at hq4
  have HQ := Lib.hid hq
  have HR := Lib.hid hr
  clear hq hr hq3 k2w k3w hn3 h2w h3w hn2 e3 e4 E2 HG hz0 hz1
  go_wp2_with fail
  refine (put_calls zb 0 z0 _ hz04 false _ _ _ _ hq34 (q : Int) (by simp)).mono ?_
  rintro e w5 ⟨rfl, hI5, hW5⟩
  have hz15 := hW5.int hz04 hz14 (.inr (by omega))
  have hq5 := hW5.nt hz04 hq4
  go_wp2_with fail
  refine (put_calls zb 2 z1 _ hz15 false _ _ _ _ hq5 (r : Int) (by simp)).mono ?_
  rintro e w6 ⟨rfl, hI6, hW6⟩
  have hI56 := hW6.int hz15 hI5 (.inr (by omega))
  go_wp2
  go_ret
  exact ⟨rfl, by rw [← HQ.out]; exact hI56, by rw [← HR.out]; exact hI6, fun W e hW => Wr.own_ext (Wr.own_ext (e.trans E4) hW hW5) hW hW6⟩

set_option maxHeartbeats 2000000 in
set_option maxRecDepth 100000 in
theorem setInt_calls (zb ab ao : Nat) (z0 z1 : Int) (a : Nat) (w : World) (hz0 : IsInt w zb 0 z0) (hz1 : IsInt w zb 2 z1) (hx : IsInt w ab ao (a : Int)) (hla : (wd a).length ≤ 800000000) :
    Calls Tryz.prog 211 #[.pointer (some ⟨zb, 0, none⟩), .pointer (some ⟨ab, ao, none⟩)] w fun e w' =>
      e = .returned (.pointer (some ⟨zb, 0, none⟩)) ∧ IsInt w' zb 0 (a : Int) ∧ IsInt w' zb 2 1 ∧ ∀ W, Ext W w → W.heap.size ≤ zb → Ext W w' := by
  go_enter Tryz.func211, Tryz.ntmps211
  go_wp2_with fail
  refine (newInt_calls 1 _ (by omega) (by omega)).mono ?_
  rintro v w1 ⟨rfl, hO, e1⟩
  go_wp2_with fail
  refine (setFrac_calls zb ab ao _ 0 z0 z1 a 1 _ (hz0.ext e1) (hz1.ext e1) (hx.ext e1) hO (by omega) hla (Nat.le_trans (len_wd_small (by omega)) (by omega))).mono ?_
  rintro v w2 ⟨rfl, h1, h2, h3⟩
  rw [Nat.gcd_one_right, Nat.div_one] at h1
  rw [Nat.gcd_one_right, Nat.div_one] at h2
  go_wp2
  go_ret
  exact ⟨rfl, h1, h2, fun W e hW => h3 W (e.trans e1) hW⟩
end Go.Proofs.YtkljejejabikiaaGreatDoor

/- Package math: normalize, frexp, Frexp (above nought), Signbit. Floats cut to whole numbers. -/
namespace Go.Proofs.YtkljejejabikiaaGreatDoor
open Go Go.RowKit Cusp

/-- A whole number's float, cut to a whole number. -/
theorem f2i {r k e : Nat} (hr : r < 9218868437227405312) (he : e = 1074) (hk : k < 9007199254740992) (hV : V r = k * 2 ^ e) : floatToIntVal .f64 r .i64 = some (k : Int) := by
  obtain ⟨q, m, hrd, hrm, hm, hmq, hVm, hq⟩ := read_fin hr false
  rw [word_false] at hrd
  have hc : (FloatKind.f64.decode r).toInt .zero = some (k : Int) := by
    show (Ieee.double.read r).toInt .zero = _
    rw [hrd]
    unfold Ieee.Datum.toInt Ieee.Datum.integral Ieee.Toward.cut Ieee.signed
    simp only [Bool.false_eq_true, if_false, Nat.shiftLeft_eq, Nat.pow_zero, Nat.mul_one]
    rw [hV] at hVm
    congr 2
    rcases Nat.lt_or_ge q 1074 with h1 | h1
    · rw [show ((q : Int) - 1074).toNat = 0 by omega, show (-((q : Int) - 1074)).toNat = e - q by omega, Nat.pow_zero, Nat.mul_one]
      have h2 : m = k * 2 ^ (e - q) := by
        apply Nat.eq_of_mul_eq_mul_right (Nat.pow_pos (n := q) (show 0 < 2 by omega))
        rw [← hVm, Nat.mul_assoc, ← Nat.pow_add, show e - q + q = e by omega]
      rw [h2]
      rcases Nat.eq_zero_or_pos k with h3 | h3
      · rw [h3]; simp
      · have h4 : e - q ≤ (k * 2 ^ (e - q)).log2 := (Nat.le_log2 (by have := Nat.mul_pos h3 (Nat.pow_pos (n := e - q) (show 0 < 2 by omega)); omega)).2 (Nat.le_mul_of_pos_left _ h3)
        simp only [Nat.min_eq_left (Nat.le_trans h4 (Nat.le_add_right _ 2))]
        simp
        exact Nat.mul_div_cancel _ (Nat.pow_pos (n := e - q) (show 0 < 2 by omega))
    · rw [show (-((q : Int) - 1074)).toNat = 0 by omega, show ((q : Int) - 1074).toNat = q - e by omega]
      have h2 : k = m * 2 ^ (q - e) := by
        apply Nat.eq_of_mul_eq_mul_right (Nat.pow_pos (n := e) (show 0 < 2 by omega))
        rw [hVm, Nat.mul_assoc, ← Nat.pow_add, show q - e + e = q by omega]
      rw [h2]
      simp
  unfold floatToIntVal
  rw [hc]
  simp only
  rw [if_pos]
  constructor
  · show (-9223372036854775808 : Int) ≤ _
    omega
  · show _ ≤ (9223372036854775807 : Int)
    omega

/-- 2^52. -/
theorem V_52 {e : Nat} (h : e = 1074) : V 4841369599423283200 = 2 ^ (e + 52) := by
  have h1 := V_of (q := e) (k := 4503599627370496) (by omega) (.inl (by omega))
  rw [show e * 4503599627370496 + 4503599627370496 = 4841369599423283200 by omega] at h1
  rw [h1, Nat.pow_add, Nat.mul_comm]

set_option maxHeartbeats 1000000 in
set_option maxRecDepth 100000 in
/-- normalize, above nought. -/
theorem norm_calls (b : Nat) (h0 : 0 < b) (hb : b < 9218868437227405312) (w : World) : Calls Tryz.prog 216 #[.float .f64 b] w fun r w' => ∃ x t : Nat, r = .returned (.tuple #[.float .f64 x, .int .i64 (-(t : Int))]) ∧ w' = w ∧ 4503599627370496 ≤ x ∧ x < 9218868437227405312 ∧ V x = V b * 2 ^ t ∧ (t = 0 ∨ t = 52) := by
  rcases Nat.lt_or_ge b 4503599627370496 with h1 | h1
  · obtain ⟨x, hx⟩ := V_rep 52 b (by omega)
    have hVb : V b = b := by unfold V; rw [if_pos h1]
    have hx0 : 4503599627370496 ≤ x := by
      rcases Nat.lt_or_ge x 4503599627370496 with h2 | h2
      · exfalso
        have h3 : V x = x := by unfold V; rw [if_pos h2]
        rw [h3] at hx
        have h4 : 1 * 2 ^ 52 ≤ b * 2 ^ 52 := Nat.mul_le_mul_right _ h0
        rw [← hx] at h4
        have : (1 : Nat) * 2 ^ 52 = 4503599627370496 := by decide
        omega
      · exact h2
    have hx1 : x < 9218868437227405312 := by
      apply lt_inf
      rw [hx]
      calc b * 2 ^ 52 < 2 ^ 52 * 2 ^ 52 := Nat.mul_lt_mul_of_pos_right (by simpa using h1) (Nat.pow_pos (by omega))
        _ = 2 ^ (52 + 52) := by rw [← Nat.pow_add]
        _ ≤ 2 ^ top := pow_mono (by unfold top; omega)
    have hmul : ∀ w, (binOp .mul 31 (.float .f64 b) (.float .f64 4841369599423283200)).run Tryz.prog w = .ok (.float .f64 x) w := fun w => by
      refine run_float_arith (P := Tryz.prog) (w := w) .mul 31 .f64 b 4841369599423283200 x ?_
      show Ieee.double.mul b 4841369599423283200 = some x
      refine mul_exact hb (by omega) hx1 ?_
      obtain ⟨e, he⟩ : ∃ e : Nat, e = 1074 := ⟨_, rfl⟩
      rw [V_52 he, hx, hVb, Nat.mul_assoc, ← he, ← Nat.pow_add, Nat.add_comm 52 e]
    have hm : b % 9223372036854775808 = b := by omega
    have ho : (FloatKind.f64.format.order b 4503599627370496 == some .lt) = true := by
      show (Ieee.double.order b 4503599627370496 == some .lt) = true
      rw [order_pos (by omega) (by omega), Nat.compare_eq_lt.2 h1]; rfl
    have HX := Lib.hid hx
    have HV := Lib.hid hVb
    clear hx hVb
    go_enter Tryz.func216, Tryz.ntmps216
    go_wp2_with fail
    refine (abs_f_calls b (by omega) w).mono ?_
    rintro r w1 ⟨rfl, rfl⟩
    rw [hm]
    go_wp2
    go_ret2
    exact ⟨x, 52, rfl, rfl, hx0, hx1, by rw [HX.out, HV.out], .inr rfl⟩
  · refine (normalize_calls b h1 hb w).mono ?_
    rintro r w1 ⟨rfl, rfl⟩
    exact ⟨b, 0, rfl, rfl, h1, hb, by rw [Nat.pow_zero, Nat.mul_one], .inl rfl⟩

theorem set_exp {f : Nat} (hf : f < 4503599627370496) : bits .or .u64 (f : Int) 4602678819172646912 = ((1022 * 4503599627370496 + f : Nat) : Int) := by
  have h := join_exp (E := 1022) (f := f) (by omega) hf
  exact h

set_option maxHeartbeats 2000000 in
set_option maxRecDepth 100000 in
/-- frexp, above nought: k 2^(e-53), k of 53 bits. -/
theorem frexpIn_calls (b : Nat) (h0 : 0 < b) (hb : b < 9218868437227405312) (w : World) : Calls Tryz.prog 152 #[.float .f64 b] w fun r w' => ∃ (k E t : Nat), r = .returned (.tuple #[.float .f64 (1021 * 4503599627370496 + k), .int .i64 ((E : Int) - 1022 - t)]) ∧ w' = w ∧ 4503599627370496 ≤ k ∧ k < 9007199254740992 ∧ 1 ≤ E ∧ E ≤ 2046 ∧ (t = 0 ∨ t = 52) ∧ V b * 2 ^ t = k * 2 ^ (E - 1) := by
  have ho : (FloatKind.f64.format.order b 0 == some .eq) = false := by
    show (Ieee.double.order b 0 == some .eq) = false
    rw [order_pos (by omega) (by omega), Nat.compare_eq_gt.2 (by omega)]; rfl
  have hinf : decide (b % 9223372036854775808 = 9218868437227405312) = false := decide_eq_false (by omega)
  have hnan : decide (9218868437227405312 < b % 9223372036854775808) = false := decide_eq_false (by omega)
  go_enter Tryz.func152, Tryz.ntmps152
  go_wp2_with fail
  refine (isInf0_calls b (by omega) w).mono ?_
  rintro v w1 ⟨rfl, rfl⟩
  rw [hinf]
  go_wp2_with fail
  refine (isNaN_calls b (by omega) _).mono ?_
  rintro v w2 ⟨rfl, rfl⟩
  rw [hnan]
  go_wp2_with fail
  refine (norm_calls b h0 hb _).mono ?_
  rintro v w3 ⟨x, t, rfl, rfl, hx0, hx1, hV, ht⟩
  obtain ⟨F, hF⟩ : ∃ F, F = x / 4503599627370496 := ⟨_, rfl⟩
  obtain ⟨f, hf⟩ : ∃ f, f = x % 4503599627370496 := ⟨_, rfl⟩
  have hbF : x = F * 4503599627370496 + f := by omega
  have hf52 : f < 4503599627370496 := by omega
  have hF1 : 1 ≤ F := by omega
  have hF2 : F ≤ 2046 := by omega
  have ht2 : t ≤ 52 := by omega
  have hVx : V b * 2 ^ t = (4503599627370496 + f) * 2 ^ (F - 1) := by rw [← hV, hbF]; exact V_normal (by omega) hf52
  have hbits := run_fbits x
  have hfrom := run_ffromI
  have hand : bits .and .u64 (F : Int) 2047 = (F : Int) := by
    have h := bits_and_u64_nat F 2047 (by omega) (by omega)
    rw [show ((2047 : Nat) : Int) = 2047 from rfl] at h
    rw [h]
    congr 1
    rw [show (2047 : Nat) = 2 ^ 11 - 1 from by decide, Nat.and_two_pow_sub_one_eq_mod]
    omega
  have hclr := clear_exp hx1
  have hset := set_exp hf52
  have hshr : (x : Int) / 4503599627370496 = (F : Int) := by rw [hF]; omega
  rw [← hf] at hclr
  have hnat : (((1022 * 4503599627370496 + f : Nat) : Int)).toNat = 1022 * 4503599627370496 + f := by omega
  have HV := Lib.hid hVx
  have HT := Lib.hid ht
  clear hV hVx hF hf hbF ht ho hinf hnan
  have e1 : 4602678819172646912 + f = 1021 * 4503599627370496 + (4503599627370496 + f) := by omega
  have e2 : -(t : Int) + ((F : Int) - 1023 + 1) = F - 1022 - t := by omega
  have HE1 := Lib.hid e1
  have HE2 := Lib.hid e2
  clear e1 e2
  go_wp2_with fail
  go_ret2
  refine ⟨4503599627370496 + f, F, t, ?_, rfl, by omega, by omega, hF1, hF2, HT.out, HV.out⟩
  show Ending.returned (Value.tuple #[.float .f64 (4602678819172646912 + f), .int .i64 (-(t : Int) + ((F : Int) - 1023 + 1))]) = _
  rw [HE1.out, HE2.out]

set_option maxHeartbeats 1000000 in
set_option maxRecDepth 100000 in
theorem frexp_calls (b : Nat) (h0 : 0 < b) (hb : b < 9218868437227405312) (w : World) : Calls Tryz.prog 82 #[.float .f64 b] w fun r w' => ∃ (k E t : Nat), r = .returned (.tuple #[.float .f64 (1021 * 4503599627370496 + k), .int .i64 ((E : Int) - 1022 - t)]) ∧ w' = w ∧ 4503599627370496 ≤ k ∧ k < 9007199254740992 ∧ 1 ≤ E ∧ E ≤ 2046 ∧ (t = 0 ∨ t = 52) ∧ V b * 2 ^ t = k * 2 ^ (E - 1) := by
  go_enter Tryz.func82, Tryz.ntmps82
  go_wp2_with fail
  refine (frexpIn_calls b h0 hb _).mono ?_
  rintro v w1 ⟨k, E, t, rfl, rfl, h1, h2, h3, h4, h5, h6⟩
  have H5 := Lib.hid h5
  have H6 := Lib.hid h6
  clear h5 h6
  obtain ⟨X, hX⟩ : ∃ X, X = 1021 * 4503599627370496 + k := ⟨_, rfl⟩
  rw [← hX]
  have HX := Lib.hid hX
  clear hX
  go_wp2
  go_ret2
  exact ⟨k, E, t, by rw [← HX.out]; rfl, rfl, h1, h2, h3, h4, H5.out, H6.out⟩

set_option maxHeartbeats 1000000 in
set_option maxRecDepth 100000 in
theorem frexp_zero (w : World) : Calls Tryz.prog 82 #[.float .f64 0] w fun r w' => r = .returned (.tuple #[.float .f64 0, .int .i64 0]) ∧ w' = w := by
  have ho : (FloatKind.f64.format.order 0 0 == some .eq) = true := by decide
  have hc : Hid (Calls Tryz.prog 152 #[.float .f64 0] w fun r w' => r = .returned (.tuple #[.float .f64 0, .int .i64 0]) ∧ w' = w) := by
    refine Lib.hid ?_
    go_enter Tryz.func152, Tryz.ntmps152
    go_wp2
    go_ret2
    exact ⟨rfl, rfl⟩
  clear ho
  go_enter Tryz.func82, Tryz.ntmps82
  go_wp2_with fail
  refine hc.out.mono ?_
  rintro v w1 ⟨rfl, rfl⟩
  go_wp2
  go_ret2
  exact ⟨rfl, rfl⟩

set_option maxHeartbeats 1000000 in
set_option maxRecDepth 100000 in
theorem signbit_calls (b : Nat) (hb : b < 18446744073709551616) (w : World) : Calls Tryz.prog 90 #[.float .f64 b] w fun r w' => r = .returned (.bool (decide (9223372036854775808 ≤ b))) ∧ w' = w := by
  have hbits := run_fbits b
  rcases Nat.lt_or_ge b 9223372036854775808 with h | h
  · have h1 : IntKind.i64.wrap (b : Int) = (b : Int) := by rw [IntKind.wrap_i64]; omega
    have h2 : decide ((b : Int) < 0) = false := decide_eq_false (by omega)
    go_enter Tryz.func90, Tryz.ntmps90
    go_wp2
    go_ret
    exact ⟨by rw [decide_eq_false (by omega)]; rfl, rfl⟩
  · have h1 : IntKind.i64.wrap (b : Int) = (b : Int) - 18446744073709551616 := by rw [IntKind.wrap_i64]; omega
    have h2 : decide ((b : Int) - 18446744073709551616 < 0) = true := decide_eq_true (by omega)
    go_enter Tryz.func90, Tryz.ntmps90
    go_wp2
    go_ret
    exact ⟨by rw [decide_eq_true (by omega)]; rfl, rfl⟩
end Go.Proofs.YtkljejejabikiaaGreatDoor

/- Package big's Rat: SetFloat64 of a finite float from nought on, Num, Denom. -/
namespace Go.Proofs.YtkljejejabikiaaGreatDoor
open Go Go.RowKit Cusp

theorem dvd_pow2 : ∀ (v d : Nat), d ∣ 2 ^ v → ∃ i, i ≤ v ∧ d = 2 ^ i
  | 0, d, h => ⟨0, Nat.le_refl _, by simpa using h⟩
  | v + 1, d, h => by
    rcases Nat.mod_two_eq_zero_or_one d with h1 | h1
    · obtain ⟨c, hc⟩ : ∃ c, d = 2 * c := ⟨d / 2, by omega⟩
      rw [hc, Nat.pow_succ, Nat.mul_comm (2 ^ v)] at h
      obtain ⟨i, hi, he⟩ := dvd_pow2 v c (Nat.dvd_of_mul_dvd_mul_left (by omega) h)
      exact ⟨i + 1, by omega, by rw [hc, he, Nat.pow_succ, Nat.mul_comm]⟩
    · have hg : Nat.gcd d 2 = 1 := by rw [Nat.gcd_comm, Nat.gcd_rec, h1]; rfl
      rw [Nat.pow_succ] at h
      obtain ⟨i, hi, he⟩ := dvd_pow2 v d (Nat.Coprime.dvd_of_dvd_mul_right hg h)
      exact ⟨i, by omega, he⟩

/-- A float's value as a fraction whose divisor is a power of two, in its lowest terms. -/
def FracOf (b a j : Nat) : Prop := (∀ e, e = 1074 → V b * 2 ^ j = a * 2 ^ e) ∧ Nat.gcd a (2 ^ j) = 1 ∧ j ≤ 1126 ∧ bl a ≤ 1100

theorem bl_pow2 (v : Nat) : bl (2 ^ v) = v + 1 := by
  have := bl_mul_pow (n := 1) (by omega) v
  rw [Nat.one_mul] at this
  rw [this, show bl 1 = 1 from rfl, Nat.add_comm]

set_option maxHeartbeats 4000000 in
set_option maxRecDepth 100000 in
theorem setFloat64_calls (zb : Nat) (z0 z1 : Int) (b : Nat) (hb : b < 9218868437227405312) (w : World) (hz0 : IsInt w zb 0 z0) (hz1 : IsInt w zb 2 z1) :
    Calls Tryz.prog 141 #[.pointer (some ⟨zb, 0, none⟩), .float .f64 b] w fun e w' => ∃ a j : Nat, e = .returned (.pointer (some ⟨zb, 0, none⟩)) ∧ IsInt w' zb 0 (a : Int) ∧ IsInt w' zb 2 ((2 ^ j : Nat) : Int) ∧ FracOf b a j ∧ ∀ W, Ext W w → W.heap.size ≤ zb → Ext W w' := by
  have hinf : decide (b % 9223372036854775808 = 9218868437227405312) = false := decide_eq_false (by omega)
  have hnan : decide (9218868437227405312 < b % 9223372036854775808) = false := decide_eq_false (by omega)
  have hs := hz0.lt
  rcases Nat.eq_zero_or_pos b with h0 | h0
  · subst h0
    have hf : floatToIntVal .f64 0 .i64 = some 0 := by decide
    have hc : ∀ w, (convert 31 2 (.float .f64 0)).run Tryz.prog w = .ok (.int .i64 0) w := fun w => run_convert_float_int w 31 2 .f64 .i64 0 0 (by rw [Tryz.underlying31]; rfl) Tryz.underlying2 hf
    clear hf
    go_enter Tryz.func141, Tryz.ntmps141
    go_wp2_with fail
    refine (isInf0_calls 0 (by omega) w).mono ?_
    rintro v w1 ⟨rfl, rfl⟩
    rw [hinf]
    go_wp2_with fail
    refine (isNaN_calls 0 (by omega) _).mono ?_
    rintro v w2 ⟨rfl, rfl⟩
    rw [hnan]
    go_wp2_with fail
    refine (frexp_zero _).mono ?_
    rintro v w3 ⟨rfl, rfl⟩
    go_wp2_with fail
    refine (ldexp_zero 53 _).mono ?_
    rintro v w4 ⟨rfl, rfl⟩
    go_wp2_with fail
    refine (newInt_calls 0 _ (by omega) (by omega)).mono ?_
    rintro v w5 ⟨rfl, hN, e5⟩
    have hs5 := hN.lt
    have e6 : Ext w5 (w5.alloc (.cells #[.bool false, .slice none 0 0] 105)) := (Ext.refl w5).alloc _
    have hI6 := int_new w5 105
    have hz6 : (w5.alloc (.cells #[.bool false, .slice none 0 0] 105)).heap.size = w5.heap.size + 1 := by simp
    go_wp2_with fail
    refine (newInt_calls 1 _ (by omega) (by omega)).mono ?_
    rintro v w7 ⟨rfl, hO, e7⟩
    rw [hz6] at hO ⊢
    go_wp2_with fail
    refine (lsh_calls _ _ _ _ 0 1 53 _ (hI6.ext e7) hO one_len (by omega)).mono ?_
    rintro v w8 ⟨rfl, hD, hW8⟩
    rw [Int.one_mul] at hD
    have E58 := Wr.own_ext (e6.trans e7) (Nat.le_refl _) hW8
    have E48 := e5.trans E58
    have hz08 := hz0.ext E48
    have hz18 := hz1.ext E48
    have hN8 := hN.ext E58
    obtain ⟨P, hP⟩ : ∃ P : Nat, P = 2 ^ 53 := ⟨_, rfl⟩
    rw [← hP] at hD
    have hPl : (wd P).length ≤ 800000000 := by rw [hP]; exact Nat.le_trans (len_of_bl (n := 2) (by rw [bl_pow2]; omega)) (by omega)
    have hP0 : 0 < P := by rw [hP]; exact Nat.pow_pos (by omega)
    clear hP hW8 hI6 hO e6 e7 hN E58
    go_wp2_with fail
    refine (setFrac_calls zb _ _ _ _ z0 z1 0 P _ hz08 hz18 hN8 hD hP0 (by rw [wd_zero]; exact Nat.zero_le _) hPl).mono ?_
    rintro v w9 ⟨rfl, h1, h2, h3⟩
    rw [Nat.gcd_zero_left, Nat.zero_div] at h1
    rw [Nat.gcd_zero_left, Nat.div_self hP0] at h2
    go_wp2
    go_ret
    exact ⟨0, 0, rfl, h1, h2, ⟨fun e _ => by rw [V_zero, Nat.zero_mul, Nat.zero_mul], by decide, by omega, by decide⟩, fun W e hW => h3 W (e.trans E48) hW⟩
  · have hs2 := hs
    go_enter Tryz.func141, Tryz.ntmps141
    go_wp2_with fail
    refine (isInf0_calls b (by omega) w).mono ?_
    rintro v w1 ⟨rfl, rfl⟩
    rw [hinf]
    go_wp2_with fail
    refine (isNaN_calls b (by omega) _).mono ?_
    rintro v w2 ⟨rfl, rfl⟩
    rw [hnan]
    go_wp2_with fail
    refine (frexp_calls b h0 hb _).mono ?_
    rintro v w3 ⟨k, E, t, rfl, rfl, hk0, hk1, hE1, hE2, ht, hV⟩
    obtain ⟨r, hr0, hr1, hr2, hr3⟩ := float_nat (m := k) (by omega) hk1
    obtain ⟨B, hB⟩ : ∃ B, B = 1021 * 4503599627370496 + k := ⟨_, rfl⟩
    have hB0 : 4503599627370496 ≤ B := by omega
    have hB1 : B < 9218868437227405312 := by omega
    have hld : ∀ w, Calls Tryz.prog 83 #[.float .f64 B, .int .i64 53] w fun v w' => v = .returned (.float .f64 r) ∧ w' = w := by
      intro w
      obtain ⟨q, hq⟩ : ∃ q : Nat, q = 1021 := ⟨_, rfl⟩
      refine ldexp_calls B 53 r 53 0 hB0 hB1 (by omega) (by omega) (by omega) hr1 ?_ w
      have hVB : V B = k * 2 ^ q := by rw [hB, ← hq]; exact V_of hk1 (.inl hk0)
      rw [hVB, hr2 (q + 53) (by omega), Nat.pow_zero, Nat.mul_one, Nat.mul_assoc, ← Nat.pow_add]
    have hf : floatToIntVal .f64 r .i64 = some (k : Int) := f2i hr1 (e := 1074) rfl hk1 (hr2 1074 rfl)
    have hc : ∀ w, (convert 31 2 (.float .f64 r)).run Tryz.prog w = .ok (.int .i64 (k : Int)) w := fun w => run_convert_float_int w 31 2 .f64 .i64 r (k : Int) (by rw [Tryz.underlying31]; rfl) Tryz.underlying2 hf
    obtain ⟨ee, hee⟩ : ∃ ee : Int, ee = (E : Int) - 1022 - t := ⟨_, rfl⟩
    rw [← hB, ← hee]
    have ht2 : t ≤ 52 := by omega
    have HLD := Lib.hid hld
    have HV := Lib.hid hV
    have hee0 : -1080 ≤ ee := by omega
    have hee1 : ee ≤ 1024 := by omega
    have HEE := Lib.hid hee
    clear hf hr2 hr3 hB hld hV ht hinf hnan hee
    go_wp2_with fail
    refine (HLD.out _).mono ?_
    rintro v w4 ⟨rfl, rfl⟩
    go_wp2_with fail
    refine (newInt_calls (k : Int) _ (by omega) (by omega)).mono ?_
    rintro v w5 ⟨rfl, hN, e5⟩
    have hs5 := hN.lt
    have hkl : (wd (k : Int).natAbs).length ≤ 1000000000 := by rw [Int.natAbs_natCast]; exact Nat.le_trans (len_wd_small (by omega)) (by omega)
    by_cases hu : 53 ≤ ee
    · obtain ⟨u, hu2⟩ : ∃ u : Nat, ee - 53 = (u : Int) := ⟨(ee - 53).toNat, by omega⟩
      have hub : u ≤ 971 := by omega
      have t1 : decide ((u : Int) ≥ 0) = true := decide_eq_true (by omega)
      have HU := Lib.hid hu2
      go_wp2_with fail
      refine (lsh_calls _ _ _ _ (k : Int) (k : Int) u _ hN hN hkl (by omega)).mono ?_
      rintro v w6 ⟨rfl, hM, hW6⟩
      rw [← Int.natCast_mul] at hM
      have E46 := Wr.own_ext e5 (Nat.le_refl _) hW6
      have hz06 := hz0.ext E46
      have hz16 := hz1.ext E46
      have hbm : bl (k * 2 ^ u) ≤ 1100 := by
        rw [bl_mul_pow (by omega)]
        have : bl k ≤ 53 := bl_le_of_lt (by simpa using hk1)
        omega
      have hml : (wd (k * 2 ^ u)).length ≤ 800000000 := Nat.le_trans (len_of_bl (n := 40) (by omega)) (by omega)
      clear hW6 hN e5
      go_wp2_with fail
      refine (setInt_calls zb _ _ z0 z1 (k * 2 ^ u) _ hz06 hz16 hM hml).mono ?_
      rintro v w7 ⟨rfl, h1, h2, h3⟩
      go_wp2
      go_ret
      refine ⟨k * 2 ^ u, 0, rfl, h1, h2, ⟨fun e he => ?_, by rw [Nat.pow_zero, Nat.gcd_one_right], by omega, hbm⟩, fun W e hW => h3 W (e.trans E46) hW⟩
      apply Nat.eq_of_mul_eq_mul_right (Nat.pow_pos (n := t) (show 0 < 2 by omega))
      rw [Nat.pow_zero, Nat.mul_one, HV.out, Nat.mul_assoc, Nat.mul_assoc, ← Nat.pow_add, ← Nat.pow_add]
      congr 2
      have h5 := HU.out
      have h6 := HEE.out
      omega
    · obtain ⟨q, hq2⟩ : ∃ q : Nat, ee - 53 = -(q : Int) := ⟨(53 - ee).toNat, by omega⟩
      have hqb : q ≤ 1126 := by
        have h6 := HEE.out
        omega
      have hq0 : 0 < q := by omega
      have t1 : decide (-(q : Int) ≥ 0) = false := decide_eq_false (by omega)
      have HQ := Lib.hid hq2
      have e6 : Ext w5 (w5.alloc (.cells #[.bool false, .slice none 0 0] 105)) := (Ext.refl w5).alloc _
      have hI6 := int_new w5 105
      have hz6 : (w5.alloc (.cells #[.bool false, .slice none 0 0] 105)).heap.size = w5.heap.size + 1 := by simp
      go_wp2_with fail
      refine (newInt_calls 1 _ (by omega) (by omega)).mono ?_
      rintro v w7 ⟨rfl, hO, e7⟩
      rw [hz6] at hO ⊢
      go_wp2_with fail
      refine (lsh_calls _ _ _ _ 0 1 q _ (hI6.ext e7) hO one_len (by omega)).mono ?_
      rintro v w8 ⟨rfl, hD, hW8⟩
      rw [Int.one_mul] at hD
      have E58 := Wr.own_ext (e6.trans e7) (Nat.le_refl _) hW8
      have E48 := e5.trans E58
      have hz08 := hz0.ext E48
      have hz18 := hz1.ext E48
      have hN8 := hN.ext E58
      have hPl : (wd (2 ^ q)).length ≤ 800000000 := Nat.le_trans (len_of_bl (n := 40) (by rw [bl_pow2]; omega)) (by omega)
      have hkl2 : (wd k).length ≤ 800000000 := Nat.le_trans (len_wd_small (by omega)) (by omega)
      have hPL := Lib.hid hPl
      clear hW8 hI6 hO e6 e7 hN E58 hPl
      go_wp2_with fail
      refine (setFrac_calls zb _ _ _ _ z0 z1 k (2 ^ q) _ hz08 hz18 hN8 hD (Nat.pow_pos (by omega)) hkl2 hPL.out).mono ?_
      rintro v w9 ⟨rfl, h1, h2, h3⟩
      obtain ⟨i, hi, hg⟩ := dvd_pow2 q _ (Nat.gcd_dvd_right k (2 ^ q))
      have hdiv : 2 ^ q / Nat.gcd k (2 ^ q) = 2 ^ (q - i) := by rw [hg, Nat.pow_div hi (by omega)]
      have hki : k = k / Nat.gcd k (2 ^ q) * 2 ^ i := by
        have := Nat.div_mul_cancel (Nat.gcd_dvd_left k (2 ^ q))
        rw [hg] at this ⊢
        exact this.symm
      rw [hdiv] at h2
      have hcop : Nat.gcd (k / Nat.gcd k (2 ^ q)) (2 ^ (q - i)) = 1 := by
        rw [← hdiv]
        exact Nat.coprime_div_gcd_div_gcd (Nat.gcd_pos_of_pos_left _ (by omega))
      obtain ⟨a, ha⟩ : ∃ a, a = k / Nat.gcd k (2 ^ q) := ⟨_, rfl⟩
      rw [← ha] at h1 hki hcop
      have hba : bl a ≤ 1100 := Nat.le_trans (bl_mono (show a ≤ k by rw [ha]; exact Nat.div_le_self _ _)) (by have : bl k ≤ 53 := bl_le_of_lt (by simpa using hk1); omega)
      have h1 := Lib.hid h1
      have h2 := Lib.hid h2
      have HKI := Lib.hid hki
      have HCOP := Lib.hid hcop
      clear hdiv hki hcop ha hg
      go_wp2
      go_ret
      refine ⟨a, q - i, rfl, h1.out, h2.out, ⟨fun e he => ?_, HCOP.out, by omega, hba⟩, fun W e hW => h3 W (e.trans E48) hW⟩
      apply Nat.eq_of_mul_eq_mul_right (Nat.pow_pos (n := i + t) (show 0 < 2 by omega))
      have h5 := HQ.out
      have h6 := HEE.out
      have l1 : V b * 2 ^ (q - i) * 2 ^ (i + t) = (V b * 2 ^ t) * 2 ^ q := by
        rw [Nat.mul_assoc, ← Nat.pow_add, Nat.mul_assoc, ← Nat.pow_add, show q - i + (i + t) = t + q by omega]
      have l2 : a * 2 ^ e * 2 ^ (i + t) = (a * 2 ^ i) * 2 ^ (e + t) := by
        rw [Nat.mul_assoc, ← Nat.pow_add, Nat.mul_assoc, ← Nat.pow_add, show e + (i + t) = i + (e + t) by omega]
      rw [l1, l2, ← HKI.out, HV.out, Nat.mul_assoc, ← Nat.pow_add, show E - 1 + q = e + t by omega]

set_option maxHeartbeats 1000000 in
set_option maxRecDepth 100000 in
theorem ratNum_calls (zb : Nat) (w : World) : Calls Tryz.prog 142 #[.pointer (some ⟨zb, 0, none⟩)] w fun e w' => e = .returned (.pointer (some ⟨zb, 0, none⟩)) ∧ w' = w := by
  go_enter Tryz.func142, Tryz.ntmps142
  go_wp2
  go_ret
  exact ⟨rfl, rfl⟩

set_option maxHeartbeats 1000000 in
set_option maxRecDepth 100000 in
theorem ratDenom_calls (zb d : Nat) (w : World) (h : IsInt w zb 2 (d : Int)) (hd : 0 < d) : Calls Tryz.prog 143 #[.pointer (some ⟨zb, 0, none⟩)] w fun e w' => e = .returned (.pointer (some ⟨zb, 2, none⟩)) ∧ w' = w := by
  obtain ⟨A, n, c, h1, h2, h3⟩ := h.ex
  have hz := h.zero h3
  have hn : n ≠ 0 := by intro h0; rw [hz] at h0; omega
  have t1 : ((n : Int) == 0) = false := by rw [beq_eq_false_iff_ne]; omega
  clear hz
  go_enter Tryz.func143, Tryz.ntmps143
  go_wp2
  go_ret
  exact ⟨rfl, rfl⟩
end Go.Proofs.YtkljejejabikiaaGreatDoor

/- Package decim, telling: word of a finite float, minus, scaled. -/
namespace Go.Proofs.YtkljejejabikiaaGreatDoor
open Go Go.RowKit Cusp

theorem gt_fin {b : Nat} (hb : b < 18446744073709551616) (hf : b % 9223372036854775808 < 9218868437227405312) : (Ieee.double.order b 9218868437227405311 == some .gt) = false := by
  have h := order_fin (b / 9223372036854775808 == 1) false hf (show 9218868437227405311 < 9218868437227405312 by omega)
  rw [← word_split hb, word_false] at h
  rw [h]
  have h1 : sv (b / 9223372036854775808 == 1) (b % 9223372036854775808) ≤ sv false 9218868437227405311 := by
    have h2 := V_le (show b % 9223372036854775808 ≤ 9218868437227405311 by omega)
    unfold sv
    rw [if_neg (by simp : ¬ (false = true))]
    split <;> omega
  rcases Int.lt_or_eq_of_le h1 with h2 | h2
  · rw [show compare _ _ = Ordering.lt from Int.compare_eq_lt.2 h2]; rfl
  · rw [show compare _ _ = Ordering.eq from Int.compare_eq_eq.2 h2]; rfl

set_option maxHeartbeats 1000000 in
set_option maxRecDepth 100000 in
theorem isInfP_fin (b : Nat) (hb : b < 18446744073709551616) (hf : b % 9223372036854775808 < 9218868437227405312) (w : World) : Calls Tryz.prog 105 #[.float .f64 b, .int .i64 1] w fun r w' => r = .returned (.bool false) ∧ w' = w := by
  have hg : (FloatKind.f64.format.order b 9218868437227405311 == some .gt) = false := gt_fin hb hf
  go_enter Tryz.func105, Tryz.ntmps105
  go_wp2
  go_ret
  exact ⟨rfl, rfl⟩

theorem flip_mod (b : Nat) : (b ^^^ 9223372036854775808) % 9223372036854775808 = b % 9223372036854775808 := by
  have h := Nat.xor_mod_two_pow (a := b) (b := 2 ^ 63) (n := 63)
  rw [Nat.mod_self, Nat.xor_zero] at h
  exact h
theorem flip_lt {b : Nat} (hb : b < 18446744073709551616) : (b ^^^ 9223372036854775808) < 18446744073709551616 := by
  have h := Nat.xor_lt_two_pow (x := b) (y := 2 ^ 63) (n := 64) (by simpa using hb) (Nat.pow_lt_pow_right (by omega) (by omega))
  simpa using h
theorem neg_float (b : Nat) : Op.unary .neg (.float .f64 b) = pure (.float .f64 (b ^^^ 9223372036854775808)) := rfl

set_option maxHeartbeats 1000000 in
set_option maxRecDepth 100000 in
theorem isInfN_fin (b : Nat) (hb : b < 18446744073709551616) (hf : b % 9223372036854775808 < 9218868437227405312) (w : World) : Calls Tryz.prog 105 #[.float .f64 b, .int .i64 (-1)] w fun r w' => r = .returned (.bool false) ∧ w' = w := by
  have hn := neg_float b
  have h1 := flip_lt hb
  have h2 : (b ^^^ 9223372036854775808) % 9223372036854775808 < 9218868437227405312 := by rw [flip_mod]; exact hf
  have hg : (FloatKind.f64.format.order (b ^^^ 9223372036854775808) 9218868437227405311 == some .gt) = false := gt_fin h1 h2
  generalize b ^^^ 9223372036854775808 = c at *
  go_enter Tryz.func105, Tryz.ntmps105
  go_wp2
  go_ret
  exact ⟨rfl, rfl⟩

set_option maxHeartbeats 1000000 in
set_option maxRecDepth 100000 in
theorem word_fin (b : Nat) (hb : b < 18446744073709551616) (hf : b % 9223372036854775808 < 9218868437227405312) (w : World) : Calls Tryz.prog 59 #[.float .f64 b] w fun r w' => r = .returned (.string ⟨#[]⟩) ∧ w' = w := by
  have hnan : decide (9218868437227405312 < b % 9223372036854775808) = false := decide_eq_false (by omega)
  go_enter Tryz.func59, Tryz.ntmps59
  go_wp2_with fail
  refine (isNaN_calls b hb _).mono ?_
  rintro v w1 ⟨rfl, rfl⟩
  rw [hnan]
  go_wp2_with fail
  refine (isInfP_fin b hb hf _).mono ?_
  rintro v w2 ⟨rfl, rfl⟩
  go_wp2_with fail
  refine (isInfN_fin b hb hf _).mono ?_
  rintro v w3 ⟨rfl, rfl⟩
  go_wp2
  go_ret
  exact ⟨rfl, rfl⟩

/-- The sign's text. -/
def minusB (neg : Bool) : List Int := if neg = true then [45] else []
set_option maxHeartbeats 1000000 in
set_option maxRecDepth 100000 in
theorem minus_calls (b : Nat) (hb : b < 18446744073709551616) (w : World) : Calls Tryz.prog 60 #[.float .f64 b] w fun r w' => r = .returned (.string (strOfNums (minusB (decide (9223372036854775808 ≤ b))))) ∧ w' = w := by
  by_cases h : 9223372036854775808 ≤ b
  · go_enter Tryz.func60, Tryz.ntmps60
    go_wp2_with fail
    refine (signbit_calls b hb _).mono ?_
    rintro v w1 ⟨rfl, rfl⟩
    rw [decide_eq_true h]
    go_wp2
    go_ret
    exact ⟨by rw [decide_eq_true h]; rfl, rfl⟩
  · go_enter Tryz.func60, Tryz.ntmps60
    go_wp2_with fail
    refine (signbit_calls b hb _).mono ?_
    rintro v w1 ⟨rfl, rfl⟩
    rw [decide_eq_false h]
    go_wp2
    go_ret
    exact ⟨by rw [decide_eq_false h]; rfl, rfl⟩

theorem rat_new (w : World) (T : TypeId) : IsInt (w.alloc (.cells #[.bool false, .slice none 0 0, .bool false, .slice none 0 0] T)) w.heap.size 0 0 ∧ IsInt (w.alloc (.cells #[.bool false, .slice none 0 0, .bool false, .slice none 0 0] T)) w.heap.size 2 0 := by
  have n0 : Nt (w.alloc (.cells #[.bool false, .slice none 0 0, .bool false, .slice none 0 0] T)) none 0 0 0 := by unfold Nt; rw [wd_zero]; exact Rd.nil _ _ _ _ (by omega)
  constructor
  · exact ⟨⟨none, 0, 0, cell_new w _ _ 0 _ rfl, cell_new w _ _ 1 _ rfl, n0⟩, by simp only [World.frozen?, heap_alloc_new]; rfl, by simp only [World.frozen?, heap_alloc_new]; rfl⟩
  · exact ⟨⟨none, 0, 0, cell_new w _ _ 2 _ rfl, cell_new w _ _ 3 _ rfl, n0⟩, by simp only [World.frozen?, heap_alloc_new]; rfl, by simp only [World.frozen?, heap_alloc_new]; rfl⟩

set_option maxHeartbeats 4000000 in
set_option maxRecDepth 100000 in
/-- A float's magnitude times 10^k as a fraction. -/
theorem scaled_calls (b : Nat) (hb : b < 18446744073709551616) (hf : b % 9223372036854775808 < 9218868437227405312) (k : Int) (hk0 : -3000 ≤ k) (hk1 : k ≤ 3000) (w : World) :
    Calls Tryz.prog 71 #[.float .f64 b, .int .i64 k] w fun e w' => ∃ (n d a j : Nat), e = .returned (.tuple #[.pointer (some ⟨n, 0, none⟩), .pointer (some ⟨d, 0, none⟩)]) ∧ w.heap.size ≤ n ∧ w.heap.size ≤ d ∧ n ≠ d ∧ FracOf (b % 9223372036854775808) a j ∧ IsInt w' n 0 ((a * 10 ^ k.toNat : Nat) : Int) ∧ IsInt w' d 0 ((2 ^ j * 10 ^ (-k).toNat : Nat) : Int) ∧ Ext w w' := by
  obtain ⟨B, hB⟩ : ∃ B, B = b % 9223372036854775808 := ⟨_, rfl⟩
  rw [← hB] at hf ⊢
  have HB := Lib.hid hB
  clear hB
  go_enter Tryz.func71, Tryz.ntmps71
  obtain ⟨K, hKK⟩ : ∃ K : Nat, max k (-k) = (K : Int) := ⟨k.natAbs, by omega⟩
  have hKb : K ≤ 3000 := by omega
  have hKl : (wd (10 ^ K)).length ≤ 100000000 := Nat.le_trans (len_of_bl (n := 1100) (Nat.le_trans (bl_ten K (by omega)) (by omega))) (by omega)
  have hTl : (wd ((10 ^ K : Nat) : Int).natAbs).length ≤ 1000000000 := by rw [Int.natAbs_natCast]; omega
  obtain ⟨T, hT⟩ : ∃ T, T = 10 ^ K := ⟨_, rfl⟩
  rw [← hT] at hKl hTl
  have HT := Lib.hid hT
  have HK := Lib.hid hKK
  clear hT hKK
  have e1 : Ext w (w.alloc (.cells #[.bool false, .slice none 0 0, .bool false, .slice none 0 0] 155)) := (Ext.refl w).alloc _
  obtain ⟨hR0, hR1⟩ := rat_new w 155
  go_wp2_with fail
  refine (abs_f_calls b hb _).mono ?_
  rintro v w1 ⟨rfl, rfl⟩
  rw [← HB.out]
  go_wp2_with fail
  refine (setFloat64_calls w.heap.size 0 0 B hf _ hR0 hR1).mono ?_
  rintro v w2 ⟨a, j, rfl, h0, h1, hfr, hE⟩
  have E2 : Ext w w2 := hE w e1 (Nat.le_refl _)
  have hba := hfr.2.2.2
  have hj := hfr.2.2.1
  have HFR := Lib.hid hfr
  obtain ⟨D, hD⟩ : ∃ D, D = 2 ^ j := ⟨_, rfl⟩
  rw [← hD] at h1
  have hD0 : 0 < D := by rw [hD]; exact Nat.pow_pos (by omega)
  have hbD : bl D ≤ 1127 := by rw [hD, bl_pow2]; omega
  have HD := Lib.hid hD
  have hs0 := h0.lt
  clear hE hR0 hR1 e1 hfr hD hj
  have f2 : Ext w2 (w2.alloc (.cells #[.bool false, .slice none 0 0] 105)) := (Ext.refl w2).alloc _
  have hI2 := int_new w2 105
  have hs2 := E2.size
  go_wp2_with fail
  refine (ratNum_calls _ _).mono ?_
  rintro v w3 ⟨rfl, rfl⟩
  go_wp2_with fail
  refine (set_calls w2.heap.size 0 w.heap.size 0 0 (a : Int) _ hI2 (h0.ext f2)).mono ?_
  rintro v w4 ⟨rfl, hN4, hW4⟩
  have E24 : Ext w2 w4 := Wr.own_ext f2 (Nat.le_refl _) hW4
  have h14 := h1.ext E24
  have hsN := hN4.lt
  clear hW4 hI2 f2 h0 h1
  have f4 : Ext w4 (w4.alloc (.cells #[.bool false, .slice none 0 0] 105)) := (Ext.refl w4).alloc _
  have hI4 := int_new w4 105
  go_wp2_with fail
  refine (ratDenom_calls _ D _ (h14.ext f4) hD0).mono ?_
  rintro v w5 ⟨rfl, rfl⟩
  go_wp2_with fail
  refine (set_calls w4.heap.size 0 w.heap.size 2 0 (D : Int) _ hI4 (h14.ext f4)).mono ?_
  rintro v w6 ⟨rfl, hD6, hW6⟩
  have E46 : Ext w4 w6 := Wr.own_ext f4 (Nat.le_refl _) hW6
  have hN6 := hN4.ext E46
  have E6 := E2.trans (E24.trans E46)
  have hsD := hD6.lt
  clear hW6 hI4 f4 h14 hN4 E46 E24 E2
  have f6 : Ext w6 (w6.alloc (.cells #[.bool false, .slice none 0 0] 105)) := (Ext.refl w6).alloc _
  have hI6 := int_new w6 105
  have hz6 : (w6.alloc (.cells #[.bool false, .slice none 0 0] 105)).heap.size = w6.heap.size + 1 := by simp
  go_wp2_with fail
  refine (newInt_calls 10 _ (by omega) (by omega)).mono ?_
  rintro v w7 ⟨rfl, hT7, e7⟩
  rw [hz6] at hT7 ⊢
  have hI7 := hI6.ext e7
  have E67 := f6.trans e7
  have hs7 := hT7.lt
  clear hI6 f6 e7
  go_wp2_with fail
  rw [HK.out]
  refine (newInt_calls (K : Int) _ (by omega) (by omega)).mono ?_
  rintro v w8 ⟨rfl, hK8, e8⟩
  go_wp2_with fail
  refine (exp_calls w6.heap.size 0 (w6.heap.size + 1) 0 w7.heap.size 0 0 10 K _ (hI7.ext e8) (hT7.ext e8) hK8 (by omega) (by omega) (by rw [← HT.out]; exact hKl) (Nat.le_trans (len_wd_small (by omega)) (by omega))).mono ?_
  rintro v w9 ⟨rfl, hT9, hW9⟩
  rw [← HT.out] at hT9
  have E69 : Ext w6 w9 := Wr.own_ext (E67.trans e8) (Nat.le_refl _) hW9
  have hN9 := hN6.ext E69
  have hD9 := hD6.ext E69
  have E9 := E6.trans E69
  clear hI7 hT7 hK8 e8 hW9 E67 hN6 hD6 E69 E6
  have hal : (wd (a : Int).natAbs).length ≤ 1000000000 := by rw [Int.natAbs_natCast]; exact Nat.le_trans (len_of_bl (n := 40) (by omega)) (by omega)
  have hdl : (wd (D : Int).natAbs).length ≤ 1000000000 := by rw [Int.natAbs_natCast]; exact Nat.le_trans (len_of_bl (n := 40) (by omega)) (by omega)
  by_cases hkp : 0 ≤ k
  · have t1 : decide (k ≥ 0) = true := decide_eq_true hkp
    have r1 : a * 10 ^ k.toNat = a * T := by rw [HT.out, show K = k.toNat by have := HK.out; omega]
    have r2 : 2 ^ j * 10 ^ (-k).toNat = D := by rw [HD.out, show (-k).toNat = 0 by omega, Nat.pow_zero, Nat.mul_one]
    have HR1 := Lib.hid r1
    have HR2 := Lib.hid r2
    clear r1 r2
    go_wp2_with fail
    refine (intMul_calls _ _ _ _ _ _ (a : Int) (a : Int) (T : Int) _ hN9 hN9 hT9 hal hTl).mono ?_
    rintro v w10 ⟨rfl, hN10, hW10⟩
    have hD10 := hW10.int hN9 hD9 (.inl (by omega))
    go_wp2
    go_ret2
    exact ⟨w2.heap.size, w4.heap.size, a, j, rfl, by omega, by omega, by omega, HFR.out, by rw [HR1.out, Int.natCast_mul]; exact hN10, by rw [HR2.out]; exact hD10, Wr.own_ext E9 (by omega) hW10⟩
  · have t1 : decide (k ≥ 0) = false := decide_eq_false hkp
    have r1 : a * 10 ^ k.toNat = a := by rw [show k.toNat = 0 by omega, Nat.pow_zero, Nat.mul_one]
    have r2 : 2 ^ j * 10 ^ (-k).toNat = D * T := by rw [HD.out, HT.out, show K = (-k).toNat by have := HK.out; omega]
    have HR1 := Lib.hid r1
    have HR2 := Lib.hid r2
    clear r1 r2
    go_wp2_with fail
    refine (intMul_calls _ _ _ _ _ _ (D : Int) (D : Int) (T : Int) _ hD9 hD9 hT9 hdl hTl).mono ?_
    rintro v w10 ⟨rfl, hD10, hW10⟩
    have hN10 := hW10.int hD9 hN9 (.inl (by omega))
    go_wp2
    go_ret2
    exact ⟨w2.heap.size, w4.heap.size, a, j, rfl, by omega, by omega, by omega, HFR.out, by rw [HR1.out]; exact hN10, by rw [HR2.out, Int.natCast_mul]; exact hD10, Wr.own_ext E9 (by omega) hW10⟩
end Go.Proofs.YtkljejejabikiaaGreatDoor

/- Package decim, telling: rounded. -/
namespace Go.Proofs.YtkljejejabikiaaGreatDoor
open Go Go.RowKit Cusp

/-- Is one more due? -/
def DueN (N D : Nat) (neg : Bool) (mode : Nat) : Prop := (upM neg mode = true ∧ 0 < N % D) ∨ (mode = 2 ∧ (D < 2 * (N % D) ∨ (D = 2 * (N % D) ∧ (N / D) % 2 = 1)))
/-- N / D as a whole number, rounded. -/
noncomputable def roundN (N D : Nat) (neg : Bool) (mode : Nat) : Nat := open Classical in if DueN N D neg mode then N / D + 1 else N / D

set_option maxHeartbeats 4000000 in
set_option maxRecDepth 100000 in
theorem rounded_calls (nb db : Nat) (N D : Nat) (neg : Bool) (mode : Nat) (hm : mode = 1 ∨ mode = 2 ∨ mode = 3) (w : World) (hn : IsInt w nb 0 (N : Int)) (hd : IsInt w db 0 (D : Int)) (hD : 0 < D) (hlN : bl N ≤ 40000) (hlD : bl D ≤ 40000) :
    Calls Tryz.prog 89 #[.pointer (some ⟨nb, 0, none⟩), .pointer (some ⟨db, 0, none⟩), .bool neg, .int .i64 (mode : Int)] w fun e w' => ∃ q, e = .returned (.pointer (some ⟨q, 0, none⟩)) ∧ IsInt w' q 0 ((roundN N D neg mode : Nat) : Int) ∧ Ext w w' := by
  have hlX : (wd (N : Int).natAbs).length ≤ 900000000 := by rw [Int.natAbs_natCast]; exact Nat.le_trans (len_of_bl (n := 1300) (by omega)) (by omega)
  have hlY : (wd (D : Int).natAbs).length ≤ 900000000 := by rw [Int.natAbs_natCast]; exact Nat.le_trans (len_of_bl (n := 1300) (by omega)) (by omega)
  have hbn := hn.lt
  have hbd := hd.lt
  obtain ⟨W1, hW1⟩ : ∃ W1, W1 = w.alloc (.cells #[.bool false, .slice none 0 0] 105) := ⟨_, rfl⟩
  obtain ⟨W2, hW2⟩ : ∃ W2, W2 = W1.alloc (.cells #[.bool false, .slice none 0 0] 105) := ⟨_, rfl⟩
  have hz1 : W1.heap.size = w.heap.size + 1 := by rw [hW1]; simp
  have f1 : Ext w W1 := by rw [hW1]; exact (Ext.refl w).alloc _
  have f2 : Ext W1 W2 := by rw [hW2]; exact (Ext.refl W1).alloc _
  have hQ2 : IsInt W2 w.heap.size 0 0 := by
    have := int_new w 105
    rw [← hW1] at this
    exact this.ext f2
  have hR2 : IsInt W2 (w.heap.size + 1) 0 0 := by
    have := int_new W1 105
    rw [← hW2, hz1] at this
    exact this
  have HWW : RowKit.Hid ((w.alloc (.cells #[.bool false, .slice none 0 0] 105)).alloc (.cells #[.bool false, .slice none 0 0] 105) = W2) := Lib.hid (by rw [hW2, hW1])
  have g12 := f1.trans f2
  clear hW1 hW2 hz1 f1 f2
  go_enter Tryz.func89, Tryz.ntmps89
  go_wp2_with fail
  rw [HWW.out]
  refine (quoRem_calls w.heap.size 0 nb 0 db 0 (w.heap.size + 1) 0 0 N D 0 _ hQ2 (hn.ext g12) (hd.ext g12) hR2 (.inl (by omega)) hlX (by omega)).mono ?_
  rintro v w3 ⟨rfl, hQ3, hR3, w', hWr1, hWr2⟩
  rw [← Int.ofNat_tdiv] at hQ3
  rw [← Int.ofNat_tmod] at hR3
  have E3 : Ext w w3 := Wr.own_ext (Wr.own_ext g12 (by omega) hWr1) (Nat.le_refl _) hWr2
  have hd3 := hd.ext E3
  obtain ⟨q, hq⟩ : ∃ q, q = N / D := ⟨_, rfl⟩
  obtain ⟨r, hr⟩ : ∃ r, r = N % D := ⟨_, rfl⟩
  have hrD : r < D := by rw [hr]; exact Nat.mod_lt _ hD
  rw [← hq] at hQ3
  rw [← hr] at hR3
  have hres : ∀ cc : Bool, (cc = true ↔ ((upM neg mode = true ∧ 0 < r) ∨ (mode = 2 ∧ (D < 2 * r ∨ (D = 2 * r ∧ q % 2 = 1))))) → roundN N D neg mode = if cc = true then q + 1 else q := by
    intro cc h
    unfold roundN DueN
    rw [← hr, ← hq]
    cases cc with
    | true => rw [if_pos (h.1 rfl)]; rfl
    | false => rw [if_neg (fun hh => by have := h.2 hh; cases this)]; rfl
  have hlr : (wd (r : Int).natAbs).length ≤ 1000000000 := by
    rw [Int.natAbs_natCast] at hlY ⊢
    exact Nat.le_trans (len_wd_mono (Nat.le_of_lt hrD)) (by omega)
  have hlq : (wd (q : Int).natAbs).length ≤ 1000000000 := by
    rw [Int.natAbs_natCast] at hlX ⊢
    exact Nat.le_trans (len_wd_mono (show q ≤ N by rw [hq]; exact Nat.div_le_self _ _)) (by omega)
  have HRES := Lib.hid hres
  have hsr := hR3.lt
  clear hWr1 hWr2 hQ2 hR2 g12 hq hr hres hn hd hlX hlY
  go_upto_region 2 with (fail)
  go_cut [11] (fun v wx => v = .bool (upM neg mode) ∧ wx = w3)
  case first =>
    rcases hm with rfl | rfl | rfl <;> cases neg
    all_goals
      go_wp2
      go_meet
      case rel => exact ⟨rfl, rfl⟩
  case rest =>
    obtain ⟨rfl, rfl⟩ := hcut
    go_upto_region 4 with (fail)
    refine (lsh_calls _ _ _ _ (r : Int) (r : Int) 1 _ hR3 hR3 hlr (by omega)).mono ?_
    rintro v w4 ⟨rfl, hR4, hW4⟩
    rw [← Int.natCast_mul] at hR4
    have hR4 : IsInt w4 (w.heap.size + 1) 0 ((2 * r : Nat) : Int) := by rw [Nat.mul_comm]; exact hR4
    have hQ4 := hW4.int hR3 hQ3 (.inl (by omega))
    have hd4 := hW4.int hR3 hd3 (.inl (by omega))
    have E4 := Wr.own_ext E3 (by omega) hW4
    clear hW4 hR3 hQ3 hd3 E3
    go_upto_region 4 with (fail)
    refine (cmp_pos_calls _ _ _ _ (2 * r) D _ hR4 hd4).mono ?_
    rintro v w5 ⟨rfl, e5⟩
    have hQ5 := hQ4.ext e5
    have hR5 := hR4.ext e5
    have E5 := E4.trans e5
    clear hR4 hQ4 hd4 E4 e5
    obtain ⟨oo, hoo⟩ : ∃ oo, oo = ord (2 * r) D := ⟨_, rfl⟩
    rw [← hoo]
    have h1 : (0 < oo ↔ D < 2 * r) ∧ (oo = 0 ↔ D = 2 * r) := by
      rw [hoo]; unfold ord
      split
      · omega
      · split <;> omega
    clear hoo
    obtain ⟨up, hup⟩ : ∃ up, up = upM neg mode := ⟨_, rfl⟩
    rw [← hup]
    have HUP := Lib.hid hup
    have HO := Lib.hid h1
    clear hup h1
    go_upto_region 4 with (fail)
    go_cut [61] (fun v wx => ∃ cc : Bool, v = .bool cc ∧ RowKit.Hid (cc = true ↔ ((up = true ∧ 0 < r) ∨ (mode = 2 ∧ (D < 2 * r ∨ (D = 2 * r ∧ q % 2 = 1))))) ∧ wx = w5)
    case first =>
      rcases hm with rfl | rfl | rfl
      · cases neg with
        | false =>
          obtain rfl : up = false := HUP.out
          go_wp2
          go_meet
          case rel => exact ⟨false, rfl, Lib.hid (by simp), rfl⟩
        | true =>
          obtain rfl : up = true := HUP.out
          rcases Nat.eq_zero_or_pos r with h0 | h0
          · have hsg : sgn ((2 * r : Nat) : Int) = 0 := by unfold sgn; rw [if_pos (by omega)]
            go_wp2_with fail
            refine (sign_calls _ _ _ _ hR5).mono ?_
            rintro v w6 ⟨rfl, rfl⟩
            rw [hsg]
            go_wp2
            go_meet
            case rel => exact ⟨false, rfl, Lib.hid (by simp; omega), rfl⟩
          · have hsg : sgn ((2 * r : Nat) : Int) = 1 := by unfold sgn; rw [if_neg (by omega), if_neg (by omega)]
            go_wp2_with fail
            refine (sign_calls _ _ _ _ hR5).mono ?_
            rintro v w6 ⟨rfl, rfl⟩
            rw [hsg]
            go_wp2
            go_meet
            case rel => exact ⟨true, rfl, Lib.hid (by simp; omega), rfl⟩
      · cases neg with
        | false =>
          obtain rfl : up = false := HUP.out
          rcases Int.lt_trichotomy oo 0 with hc | hc | hc
          · have t1 : decide (0 < oo) = false := decide_eq_false (by omega)
            have t2 : (oo == 0) = false := by rw [beq_eq_false_iff_ne]; omega
            go_wp2
            go_meet
            case rel => exact ⟨false, rfl, Lib.hid (by have := HO.out; simp; omega), rfl⟩
          · have h2 : D = 2 * r := HO.out.2.1 hc
            have h3 : ¬ D < 2 * r := by omega
            have H2 := Lib.hid h2
            have H3 := Lib.hid h3
            clear h2 h3
            subst hc
            go_wp2_with fail
            refine (bit_calls _ _ (q : Int) 0 _ hQ5 hlq (by omega)).mono ?_
            rintro v w7 ⟨rfl, rfl⟩
            rw [Int.natAbs_natCast, Nat.pow_zero, Nat.div_one]
            rcases Nat.mod_two_eq_zero_or_one q with h0 | h0
            · rw [h0]
              go_wp2
              go_meet
              case rel => exact ⟨false, rfl, Lib.hid (by have h2 := H2.out; have h3 := H3.out; simp; omega), rfl⟩
            · rw [h0]
              go_wp2
              go_meet
              case rel => exact ⟨true, rfl, Lib.hid (by have h2 := H2.out; have h3 := H3.out; simp; omega), rfl⟩
          · have t1 : decide (0 < oo) = true := decide_eq_true hc
            go_wp2
            go_meet
            case rel => exact ⟨true, rfl, Lib.hid (by have := HO.out; simp; omega), rfl⟩
        | true =>
          obtain rfl : up = false := HUP.out
          rcases Int.lt_trichotomy oo 0 with hc | hc | hc
          · have t1 : decide (0 < oo) = false := decide_eq_false (by omega)
            have t2 : (oo == 0) = false := by rw [beq_eq_false_iff_ne]; omega
            go_wp2
            go_meet
            case rel => exact ⟨false, rfl, Lib.hid (by have := HO.out; simp; omega), rfl⟩
          · have h2 : D = 2 * r := HO.out.2.1 hc
            have h3 : ¬ D < 2 * r := by omega
            have H2 := Lib.hid h2
            have H3 := Lib.hid h3
            clear h2 h3
            subst hc
            go_wp2_with fail
            refine (bit_calls _ _ (q : Int) 0 _ hQ5 hlq (by omega)).mono ?_
            rintro v w7 ⟨rfl, rfl⟩
            rw [Int.natAbs_natCast, Nat.pow_zero, Nat.div_one]
            rcases Nat.mod_two_eq_zero_or_one q with h0 | h0
            · rw [h0]
              go_wp2
              go_meet
              case rel => exact ⟨false, rfl, Lib.hid (by have h2 := H2.out; have h3 := H3.out; simp; omega), rfl⟩
            · rw [h0]
              go_wp2
              go_meet
              case rel => exact ⟨true, rfl, Lib.hid (by have h2 := H2.out; have h3 := H3.out; simp; omega), rfl⟩
          · have t1 : decide (0 < oo) = true := decide_eq_true hc
            go_wp2
            go_meet
            case rel => exact ⟨true, rfl, Lib.hid (by have := HO.out; simp; omega), rfl⟩
      · cases neg with
        | false =>
          obtain rfl : up = true := HUP.out
          rcases Nat.eq_zero_or_pos r with h0 | h0
          · have hsg : sgn ((2 * r : Nat) : Int) = 0 := by unfold sgn; rw [if_pos (by omega)]
            go_wp2_with fail
            refine (sign_calls _ _ _ _ hR5).mono ?_
            rintro v w6 ⟨rfl, rfl⟩
            rw [hsg]
            go_wp2
            go_meet
            case rel => exact ⟨false, rfl, Lib.hid (by simp; omega), rfl⟩
          · have hsg : sgn ((2 * r : Nat) : Int) = 1 := by unfold sgn; rw [if_neg (by omega), if_neg (by omega)]
            go_wp2_with fail
            refine (sign_calls _ _ _ _ hR5).mono ?_
            rintro v w6 ⟨rfl, rfl⟩
            rw [hsg]
            go_wp2
            go_meet
            case rel => exact ⟨true, rfl, Lib.hid (by simp; omega), rfl⟩
        | true =>
          obtain rfl : up = false := HUP.out
          go_wp2
          go_meet
          case rel => exact ⟨false, rfl, Lib.hid (by simp), rfl⟩
    case rest =>
      obtain ⟨cc, rfl, hcc, rfl⟩ := hcut
      have HC := Lib.hid (HRES.out cc (by rw [← HUP.out]; exact hcc.out))
      clear hcc
      cases cc with
      | false =>
        go_wp2
        go_ret
        exact ⟨w.heap.size, rfl, by rw [HC.out]; exact hQ5, E5⟩
      | true =>
        go_wp2_with fail
        refine (newInt_calls 1 _ (by omega) (by omega)).mono ?_
        rintro v w6 ⟨rfl, hO, e6⟩
        go_wp2_with fail
        refine (intAdd_calls _ _ _ _ _ _ _ (q : Int) 1 _ (hQ5.ext e6) (hQ5.ext e6) hO hlq one_len).mono ?_
        rintro v w7 ⟨rfl, hQ7, hW7⟩
        go_wp2
        go_ret
        exact ⟨w.heap.size, rfl, by rw [HC.out]; exact hQ7, Wr.own_ext (E5.trans e6) (Nat.le_refl _) hW7⟩
end Go.Proofs.YtkljejejabikiaaGreatDoor

/- Package decim, telling: pointed, Fixed. -/
namespace Go.Proofs.YtkljejejabikiaaGreatDoor
open Go Go.RowKit Cusp

/-- Digits with so many behind a point. -/
def padL (l : List Int) (p : Nat) : List Int := if l.length ≤ p then List.replicate (p + 1 - l.length) 48 ++ l else l
def pointL (l : List Int) (p : Nat) : List Int := if p = 0 then padL l p else (padL l p).take ((padL l p).length - p) ++ 46 :: (padL l p).drop ((padL l p).length - p)
theorem padL_len (l : List Int) (p : Nat) : p < (padL l p).length ∧ (padL l p).length ≤ l.length + p + 1 := by
  unfold padL
  split
  · rw [List.length_append, List.length_replicate]; omega
  · omega
theorem repeat_zero (c : Nat) : (⟨(Lib.repeatL (ByteArray.mk #[48]).data.toList c).toArray⟩ : ByteArray) = strOfNums (List.replicate c 48) := by
  apply ByteArray.ext
  apply Array.toList_inj.1
  show Lib.repeatL [48] c = (List.replicate c (48 : Int)).map _
  induction c with
  | zero => rfl
  | succ c ih =>
    show [48] ++ Lib.repeatL [48] c = _
    rw [ih, List.replicate_succ, List.map_cons]
    rfl

set_option maxHeartbeats 4000000 in
set_option maxRecDepth 100000 in
theorem pointed_calls (l : List Int) (p : Nat) (w : World) (hl : l.length ≤ 100000) (hp : p ≤ 100000) :
    Calls Tryz.prog 76 #[.string (strOfNums l), .int .i64 (p : Int)] w fun v w' => v = .returned (.string (strOfNums (pointL l p))) ∧ Ext w w' := by
  obtain ⟨S, hS⟩ : ∃ S, S = strOfNums l := ⟨_, rfl⟩
  have hSs : S.size = l.length := by rw [hS]; exact st_size l
  obtain ⟨n, hn⟩ : ∃ n, n = l.length := ⟨_, rfl⟩
  rw [← hn] at hSs hl
  rw [← hS]
  have HS := Lib.hid hS
  have HN := Lib.hid hn
  have hpl := padL_len l p
  clear hS hn
  go_enter Tryz.func76, Tryz.ntmps76
  go_upto_if 8 with (fail)
  go_cut [0] (fun v wx => v = .string (strOfNums (padL l p)) ∧ Ext w wx)
  case first =>
    by_cases hnp : n ≤ p
    · obtain ⟨c, hc⟩ : ∃ c : Nat, (p : Int) + 1 - n = (c : Int) := ⟨p + 1 - n, by omega⟩
      have hc2 : c = p + 1 - n := by omega
      have hcb : c ≤ 200000 := by omega
      have t1 : decide ((n : Int) ≤ p) = true := decide_eq_true (by omega)
      have hpad : strOfNums (List.replicate c 48) ++ S = strOfNums (padL l p) := by
        rw [HS.out, st_append]
        unfold padL
        rw [← HN.out, if_pos hnp, hc2]
      have hrs : (strOfNums (List.replicate c 48)).size ≤ 200000 := by rw [st_size, List.length_replicate]; exact hcb
      have HPAD := Lib.hid hpad
      clear hpad hc2
      go_wp2_with fail
      refine (Tryz.strings_Repeat ⟨#[48]⟩ c _ (by omega) (by show 1 * c ≤ _; omega)).mono ?_
      rintro v w1 ⟨rfl, e1⟩
      rw [repeat_zero]
      generalize strOfNums (List.replicate c 48) = R at *
      go_wp2
      go_meet
      case rel => exact ⟨by rw [HPAD.out], e1⟩
    · have t1 : decide ((n : Int) ≤ p) = false := decide_eq_false (by omega)
      have hpad : S = strOfNums (padL l p) := by
        rw [HS.out]
        unfold padL
        rw [← HN.out, if_neg hnp]
      have HPAD := Lib.hid hpad
      clear hpad
      go_wp2
      go_meet
      case rel => exact ⟨by rw [← HPAD.out], Ext.refl _⟩
  case rest =>
    obtain ⟨rfl, E1⟩ := hcut
    obtain ⟨T, hT⟩ : ∃ T, T = strOfNums (padL l p) := ⟨_, rfl⟩
    obtain ⟨L, hL⟩ : ∃ L, L = (padL l p).length := ⟨_, rfl⟩
    have hTs : T.size = L := by rw [hT, hL]; exact st_size _
    rw [← hT]
    rw [← hL] at hpl
    obtain ⟨hl1, hl2⟩ := hpl
    have hl3 : L ≤ 200001 := by have := HN.out; omega
    by_cases hp0 : p = 0
    · have hres : T = strOfNums (pointL l p) := by rw [hT]; unfold pointL; rw [if_pos hp0]
      have HRES := Lib.hid hres
      subst hp0
      clear hres hT hL
      go_wp2
      go_ret
      exact ⟨by rw [← HRES.out]; rfl, E1⟩
    · have hres : T.extract 0 (L - p) ++ ⟨#[46]⟩ ++ T.extract (L - p) L = strOfNums (pointL l p) := by
        unfold pointL
        rw [if_neg hp0, hT, st_extract, st_extract, ← hL, List.drop_zero, Nat.sub_zero]
        rw [show (⟨#[46]⟩ : ByteArray) = strOfNums [46] from rfl, st_append, st_append]
        congr 1
        rw [List.append_assoc]
        congr 1
        rw [List.singleton_append, List.take_of_length_le (by rw [List.length_drop, ← hL]; omega)]
      have t1 : ((p : Int) == 0) = false := by rw [beq_eq_false_iff_ne]; omega
      have i1 : IntKind.i64.wrap ((L : Int) - p) = ((L - p : Nat) : Int) := by rw [IntKind.wrap_i64]; omega
      have i2 : (0 : Int) ≤ ((L - p : Nat) : Int) := by omega
      have i3 : ((L - p : Nat) : Int) ≤ (L : Int) := by omega
      have s1 : (T.extract 0 (L - p)).size ≤ 200001 := by rw [ByteArray.size_extract]; omega
      have s2 : (T.extract (L - p) L).size ≤ 200001 := by rw [ByteArray.size_extract]; omega
      have s3 : (T.extract 0 (L - p) ++ ⟨#[46]⟩).size ≤ 200002 := by rw [ByteArray.size_append]; show _ + 1 ≤ _; omega
      have HRES := Lib.hid hres
      clear hres hT hL
      go_upto_region 5 with (fail)
      go_quiet (fail)
      have E2 : Ext w (wc.drewN nq) := E1.trans (Ext.drewN _ _)
      go_wp2
      go_ret
      exact ⟨by rw [← HRES.out]; rfl, E2⟩

theorem dg_bl (n : Nat) : (dg n).length ≤ bl n := by
  induction n using Nat.strongRecOn with
  | _ n ih =>
    rcases Nat.eq_zero_or_pos n with h | h
    · rw [h, dg_zero]; exact Nat.zero_le _
    · rw [dg_pos (by omega), List.length_cons]
      have h1 := ih (n / 10) (by omega)
      have h2 := bl_pos (n := n) (by omega)
      have h3 : bl (n / 10) ≤ bl n - 1 := by
        apply bl_le_of_lt
        have h4 := lt_bl n
        rw [show bl n = (bl n - 1) + 1 by omega, Nat.pow_succ] at h4
        omega
      omega
theorem dec_bl (n : Nat) : (dec n).length ≤ bl n + 1 := by
  unfold dec
  split
  · exact Nat.le_add_left _ _
  · rw [List.length_reverse]; have := dg_bl n; omega
theorem roundN_bl (N D : Nat) (neg : Bool) (mode : Nat) : bl (roundN N D neg mode) ≤ bl N + 1 := by
  apply bl_le_of_lt
  have h1 := lt_bl N
  have h2 := Nat.div_le_self N D
  rw [Nat.pow_succ]
  unfold roundN
  split <;> omega
theorem decI_nat (n : Nat) : decI (n : Int) = dec n := by
  unfold decI
  rw [if_neg (by omega), Int.natAbs_natCast]

set_option maxHeartbeats 4000000 in
set_option maxRecDepth 100000 in
/-- Fixed of a finite float. -/
theorem fixed_calls (b : Nat) (hb : b < 18446744073709551616) (hf : b % 9223372036854775808 < 9218868437227405312) (p : Nat) (hp : p ≤ 1100) (mode : Nat) (hm : mode = 1 ∨ mode = 2 ∨ mode = 3) (w : World) :
    Calls Tryz.prog 26 #[.float .f64 b, .int .i64 (p : Int), .int .i64 (mode : Int)] w fun v w' => ∃ a j, FracOf (b % 9223372036854775808) a j ∧ v = .returned (.tuple #[.string (strOfNums (minusB (decide (9223372036854775808 ≤ b)) ++ pointL (dec (roundN (a * 10 ^ p) (2 ^ j) (decide (9223372036854775808 ≤ b)) mode)) p)), .int .i64 0]) ∧ Ext w w' := by
  obtain ⟨s, hs⟩ : ∃ s, s = decide (9223372036854775808 ≤ b) := ⟨_, rfl⟩
  have hk : (1 : Int) ≤ (mode : Int) ∧ (mode : Int) ≤ 3 := by omega
  have HS := Lib.hid hs
  have HK := Lib.hid hk
  rw [← hs]
  clear hs hk
  go_enter Tryz.func26, Tryz.ntmps26
  go_wp2_with fail
  refine (dknown_calls mode _).mono ?_
  rintro v w1 ⟨rfl, rfl⟩
  rw [decide_eq_true HK.out]
  have t1 : decide ((p : Int) < 0) = false := decide_eq_false (by omega)
  have t2 : decide ((p : Int) > 1100) = false := decide_eq_false (by omega)
  go_wp2_with fail
  refine (word_fin b hb hf _).mono ?_
  rintro v w2 ⟨rfl, rfl⟩
  have t3 : (ByteArray.mk #[]).toList.isEmpty = true := by rw [ByteArray.toList_eq]; rfl
  go_wp2_with fail
  refine (scaled_calls b hb hf (p : Int) (by omega) (by omega) _).mono ?_
  rintro v w3 ⟨n, d, a, j, rfl, hn, hd, hnd, hfr, hN, hD, e3⟩
  rw [show ((p : Int)).toNat = p by omega] at hN
  rw [show (-(p : Int)).toNat = 0 by omega, Nat.pow_zero, Nat.mul_one] at hD
  have hN' : bl (a * 10 ^ p) ≤ 40000 := Nat.le_trans (bl_prod _ _) (by have := hfr.2.2.2; have := bl_ten p (by omega); omega)
  have hD' : bl (2 ^ j) ≤ 40000 := by rw [bl_pow2]; have := hfr.2.2.1; omega
  have hD0 : 0 < 2 ^ j := Nat.pow_pos (by omega)
  have HFR := Lib.hid hfr
  obtain ⟨NN, hNN⟩ : ∃ NN, NN = a * 10 ^ p := ⟨_, rfl⟩
  obtain ⟨DD, hDD⟩ : ∃ DD, DD = 2 ^ j := ⟨_, rfl⟩
  rw [← hNN] at hN hN'
  rw [← hDD] at hD hD' hD0
  have HNN := Lib.hid hNN
  have HDD := Lib.hid hDD
  clear hfr hNN hDD
  go_wp2_with fail
  refine (minus_calls b hb _).mono ?_
  rintro v w4 ⟨rfl, rfl⟩
  rw [← HS.out]
  go_wp2_with fail
  refine (signbit_calls b hb _).mono ?_
  rintro v w5 ⟨rfl, rfl⟩
  rw [← HS.out]
  go_wp2_with fail
  refine (rounded_calls n d NN DD s mode hm _ hN hD hD0 hN' hD').mono ?_
  rintro v w6 ⟨q, rfl, hQ, e6⟩
  have hqb := roundN_bl NN DD s mode
  have hdl := dec_bl (roundN NN DD s mode)
  obtain ⟨R, hR⟩ : ∃ R, R = roundN NN DD s mode := ⟨_, rfl⟩
  rw [← hR] at hQ hqb hdl
  have HR := Lib.hid hR
  have hRl : (wd (R : Int).natAbs).length ≤ 100000000 := by rw [Int.natAbs_natCast]; exact Nat.le_trans (len_of_bl (n := 1300) (by omega)) (by omega)
  clear hR
  go_wp2_with fail
  refine (string_calls _ _ _ _ hQ hRl).mono ?_
  rintro v w7 ⟨rfl, e7⟩
  rw [decI_nat]
  go_wp2_with fail
  refine (pointed_calls (dec R) p _ (by omega) (by omega)).mono ?_
  rintro v w8 ⟨rfl, e8⟩
  have hpl := padL_len (dec R) p
  have hll : (pointL (dec R) p).length ≤ 200000 := by
    unfold pointL
    split
    · omega
    · rw [List.length_append, List.length_take, List.length_cons, List.length_drop]; omega
  have E8 := e3.trans (e6.trans (e7.trans e8))
  have hcat : strOfNums (minusB s) ++ strOfNums (pointL (dec R) p) = strOfNums (minusB s ++ pointL (dec R) p) := st_append _ _
  obtain ⟨M, hM⟩ : ∃ M, M = strOfNums (minusB s) := ⟨_, rfl⟩
  obtain ⟨T, hT⟩ : ∃ T, T = strOfNums (pointL (dec R) p) := ⟨_, rfl⟩
  have hMs : M.size ≤ 1 := by rw [hM, st_size]; unfold minusB; split <;> simp
  have hTs : T.size ≤ 200000 := by rw [hT, st_size]; exact hll
  rw [← hM, ← hT] at hcat ⊢
  have HC := Lib.hid hcat
  clear hM hT hcat hpl hll
  go_wp2
  go_ret2
  exact ⟨a, j, HFR.out, by rw [← HNN.out, ← HDD.out, ← HR.out, ← HC.out]; rfl, E8⟩
end Go.Proofs.YtkljejejabikiaaGreatDoor

/- Package decim, telling: Exact of a finite float. -/
namespace Go.Proofs.YtkljejejabikiaaGreatDoor
open Go Go.RowKit Cusp

theorem bl_five (j : Nat) (h : j ≤ 1126) : bl (5 ^ j) ≤ 4000 := by
  have h1 : 5 ^ j ≤ 2 ^ (3 * j) := by rw [Nat.pow_mul]; exact Nat.pow_le_pow_left (by decide) _
  have h2 : 5 ^ j < 2 ^ (3 * j + 1) := Nat.lt_of_le_of_lt h1 (Nat.pow_lt_pow_right (by omega) (by omega))
  exact Nat.le_trans (bl_le_of_lt h2) (by omega)

set_option maxHeartbeats 4000000 in
set_option maxRecDepth 100000 in
theorem exact_calls (b : Nat) (hb : b < 18446744073709551616) (hf : b % 9223372036854775808 < 9218868437227405312) (w : World) :
    Calls Tryz.prog 21 #[.float .f64 b] w fun v w' => ∃ a j, FracOf (b % 9223372036854775808) a j ∧ v = .returned (.string (strOfNums (minusB (decide (9223372036854775808 ≤ b)) ++ pointL (dec (a * 5 ^ j)) j))) ∧ Ext w w' := by
  obtain ⟨s, hs⟩ : ∃ s, s = decide (9223372036854775808 ≤ b) := ⟨_, rfl⟩
  have HS := Lib.hid hs
  rw [← hs]
  clear hs
  go_enter Tryz.func21, Tryz.ntmps21
  go_wp2_with fail
  refine (word_fin b hb hf _).mono ?_
  rintro v w2 ⟨rfl, rfl⟩
  have t3 : (ByteArray.mk #[]).toList.isEmpty = true := by rw [ByteArray.toList_eq]; rfl
  go_wp2_with fail
  refine (scaled_calls b hb hf 0 (by omega) (by omega) _).mono ?_
  rintro v w3 ⟨n, d, a, j, rfl, hn, hd, hnd, hfr, hN, hD, e3⟩
  rw [show ((0 : Int)).toNat = 0 from rfl, Nat.pow_zero, Nat.mul_one] at hN
  rw [show (-(0 : Int)).toNat = 0 from rfl, Nat.pow_zero, Nat.mul_one] at hD
  have hj := hfr.2.2.1
  have hba := hfr.2.2.2
  have hD' : bl (2 ^ j) = j + 1 := bl_pow2 j
  have hDl : (wd ((2 ^ j : Nat) : Int).natAbs).length ≤ 1000000000 := by rw [Int.natAbs_natCast]; exact Nat.le_trans (len_of_bl (n := 40) (by omega)) (by omega)
  have HFR := Lib.hid hfr
  obtain ⟨DD, hDD⟩ : ∃ DD, DD = 2 ^ j := ⟨_, rfl⟩
  rw [← hDD] at hD hD' hDl
  have HD' := Lib.hid hD'
  clear hfr hDD hD'
  go_wp2_with fail
  refine (intBitLen_calls _ _ _ _ hD hDl).mono ?_
  rintro v w4 ⟨rfl, e4⟩
  rw [Int.natAbs_natCast, HD'.out]
  have hN4 := hN.ext e4
  have E4 := e3.trans e4
  have hnl := hN4.lt
  obtain ⟨j1, hj1⟩ : ∃ j1 : Nat, j1 = j + 1 := ⟨_, rfl⟩
  rw [← hj1]
  have hjj : (j1 : Int) - 1 = (j : Int) := by omega
  have hj1b : j1 ≤ 2000 := by omega
  clear hN hD hDl e3 e4 hj1
  have f4 : Ext w4 (w4.alloc (.cells #[.bool false, .slice none 0 0] 105)) := (Ext.refl w4).alloc _
  have hI4 := int_new w4 105
  have hz4 : (w4.alloc (.cells #[.bool false, .slice none 0 0] 105)).heap.size = w4.heap.size + 1 := by simp
  have hJ5 : (wd (5 ^ j)).length ≤ 100000000 := Nat.le_trans (len_of_bl (n := 200) (Nat.le_trans (bl_five j hj) (by omega))) (by omega)
  have hb5 := bl_five j hj
  obtain ⟨F, hF⟩ : ∃ F, F = 5 ^ j := ⟨_, rfl⟩
  rw [← hF] at hJ5 hb5
  have HF := Lib.hid hF
  clear hF
  go_wp2_with fail
  refine (newInt_calls 5 _ (by omega) (by omega)).mono ?_
  rintro v w5 ⟨rfl, hT5, e5⟩
  rw [hz4] at hT5 ⊢
  have hI5 := hI4.ext e5
  have E45 := f4.trans e5
  have hs5 := hT5.lt
  clear hI4 f4 e5
  go_wp2_with fail
  refine (newInt_calls (j : Int) _ (by omega) (by omega)).mono ?_
  rintro v w6 ⟨rfl, hJ6, e6⟩
  go_wp2_with fail
  refine (exp_calls w4.heap.size 0 (w4.heap.size + 1) 0 w5.heap.size 0 0 5 j _ (hI5.ext e6) (hT5.ext e6) hJ6 (by omega) (by omega) (by rw [← HF.out]; exact hJ5) (Nat.le_trans (len_wd_small (by omega)) (by omega))).mono ?_
  rintro v w7 ⟨rfl, hT7, hW7⟩
  rw [← HF.out] at hT7
  have E47 : Ext w4 w7 := Wr.own_ext (E45.trans e6) (Nat.le_refl _) hW7
  have hN7 := hN4.ext E47
  have E7 := E4.trans E47
  have hal : (wd (a : Int).natAbs).length ≤ 1000000000 := by rw [Int.natAbs_natCast]; exact Nat.le_trans (len_of_bl (n := 40) (by omega)) (by omega)
  have hfl : (wd (F : Int).natAbs).length ≤ 1000000000 := by rw [Int.natAbs_natCast]; omega
  clear hI5 hT5 hJ6 e6 hW7 E45 E47 hN4 E4
  go_wp2_with fail
  refine (intMul_calls _ _ _ _ _ _ (a : Int) (a : Int) (F : Int) _ hN7 hN7 hT7 hal hfl).mono ?_
  rintro v w8 ⟨rfl, hN8, hW8⟩
  have E8 := Wr.own_ext E7 hn hW8
  rw [← Int.natCast_mul] at hN8
  have hRb : bl (a * F) ≤ 6000 := Nat.le_trans (bl_prod _ _) (by omega)
  have hdl := dec_bl (a * F)
  obtain ⟨R, hR⟩ : ∃ R, R = a * F := ⟨_, rfl⟩
  rw [← hR] at hN8 hRb hdl
  have HR := Lib.hid hR
  have hRl : (wd (R : Int).natAbs).length ≤ 100000000 := by rw [Int.natAbs_natCast]; exact Nat.le_trans (len_of_bl (n := 1300) (by omega)) (by omega)
  clear hR hW8 E7 hN7 hT7
  go_wp2_with fail
  refine (minus_calls b hb _).mono ?_
  rintro v w9 ⟨rfl, rfl⟩
  rw [← HS.out]
  go_wp2_with fail
  refine (string_calls _ _ _ _ hN8 hRl).mono ?_
  rintro v w10 ⟨rfl, e10⟩
  rw [decI_nat]
  go_wp2_with fail
  refine (pointed_calls (dec R) j _ (by omega) (by omega)).mono ?_
  rintro v w11 ⟨rfl, e11⟩
  have hpl := padL_len (dec R) j
  have hll : (pointL (dec R) j).length ≤ 200000 := by
    unfold pointL
    split
    · omega
    · rw [List.length_append, List.length_take, List.length_cons, List.length_drop]; omega
  have E11 := E8.trans (e10.trans e11)
  have hcat : strOfNums (minusB s) ++ strOfNums (pointL (dec R) j) = strOfNums (minusB s ++ pointL (dec R) j) := st_append _ _
  obtain ⟨M, hM⟩ : ∃ M, M = strOfNums (minusB s) := ⟨_, rfl⟩
  obtain ⟨T, hT⟩ : ∃ T, T = strOfNums (pointL (dec R) j) := ⟨_, rfl⟩
  have hMs : M.size ≤ 1 := by rw [hM, st_size]; unfold minusB; split <;> simp
  have hTs : T.size ≤ 200000 := by rw [hT, st_size]; exact hll
  rw [← hM, ← hT] at hcat ⊢
  have HC := Lib.hid hcat
  clear hM hT hcat hpl hll
  go_wp2
  go_ret
  exact ⟨a, j, HFR.out, by rw [← HF.out, ← HR.out, ← HC.out]; rfl, E11⟩
end Go.Proofs.YtkljejejabikiaaGreatDoor

/- strings.Builder: copyCheck, WriteByte; the digits in base 16 of a float. -/
namespace Go.Proofs.YtkljejejabikiaaGreatDoor
open Go Go.RowKit Cusp

theorem info_bld : (Tryz.prog.info? 144).map (·.size) = some 2 := by kernel_rfl
theorem lies_bld : liesAt Tryz.prog Tryz.prog.depth 144 (2 / Tryz.prog.cellsOf 144) 0 144 1 = true := by kernel_rfl
theorem run_noesc (x : Value) (w : World) : (callFunc 265 #[x]).run Tryz.prog w = .ok (.value x) w := by
  rw [run_callFunc_extern Tryz.func265 (by kernel_rfl) (by kernel_rfl) (by kernel_rfl) (e := Extern.AbiNoEscape.same) (by kernel_rfl)]
  rfl

/-- At block b: a strings.Builder that holds l. -/
def Bd (B : Nat) (w : World) (b : Nat) (l : List Int) : Prop := ∃ p v, (p = .pointer none ∨ p = .pointer (some ⟨b, 0, none⟩)) ∧ w.heap[b]? = some (.cells #[p, v] 144 (0, 0)) ∧ Own B w 5 .u8 v l ∧ v.ownBlock ≠ some b ∧ B ≤ b

theorem heap_set {w : World} {b : Nat} {cs : Array Value} {T : TypeId} {fr : Nat × Nat} (h : w.heap[b]? = some (.cells cs T fr)) (j : Nat) (u : Value) : (w.setCell ⟨b, j, none⟩ u).heap[b]? = some (.cells (cs.setIfInBounds j u) T fr) := by
  simp [World.setCell, Array.getElem?_modify, h]
theorem heap_cell {w : World} {b : Nat} {cs : Array Value} {T : TypeId} {fr : Nat × Nat} (h : w.heap[b]? = some (.cells cs T fr)) (j : Nat) (v : Value) (hv : cs[j]? = some v) : w.cell? ⟨b, j, none⟩ = some v := by
  simp only [World.cell?, h]; simpa using hv

set_option maxHeartbeats 1000000 in
set_option maxRecDepth 100000 in
theorem copyCheck_calls (b : Nat) (p v : Value) (hp : p = .pointer none ∨ p = .pointer (some ⟨b, 0, none⟩)) (w : World) (h : w.heap[b]? = some (.cells #[p, v] 144 (0, 0))) :
    Calls Tryz.prog 204 #[.pointer (some ⟨b, 0, none⟩)] w fun e w' => e = .returned (.tuple #[]) ∧ w'.heap[b]? = some (.cells #[.pointer (some ⟨b, 0, none⟩), v] 144 (0, 0)) ∧ w.grownBy w' (some b) ∧ w'.heap.size = w.heap.size := by
  obtain ⟨j, hj, hjs⟩ := Option.map_eq_some_iff.1 info_bld
  have c0 : w.cell? ⟨b, 0, none⟩ = some p := heap_cell h 0 _ rfl
  have hf : w.frozen? ⟨b, 0, none⟩ = false := by simp [World.frozen?, h]
  have hsh : w.shape? b = some (144, 2) := by simp [World.shape?, h]
  have hc1 : ∀ W : World, W.shape? b = some (144, 2) → (convert 142 252 (.pointer (some ⟨b, 0, none⟩))).run Tryz.prog W = .ok (.pointer (some ⟨b, 0, none⟩)) W := fun W hW => Lib.run_to_unsafe W ⟨b, 0, none⟩ Tryz.underlying142 Tryz.underlying252 hj (by rw [hjs]; decide) hW (Nat.zero_lt_succ 1)
  have hc2 : ∀ W : World, W.shape? b = some (144, 2) → (convert 252 142 (.pointer (some ⟨b, 0, none⟩))).run Tryz.prog W = .ok (.pointer (some ⟨b, 0, none⟩)) W := fun W hW => Lib.run_from_unsafe W ⟨b, 0, none⟩ Tryz.underlying252 Tryz.underlying142 hj hW lies_bld
  have hne := run_noesc
  have hneq : ∀ W : World, (binOp .neq 142 (.pointer (some ⟨b, 0, none⟩)) (.pointer (some ⟨b, 0, none⟩))).run Tryz.prog W = .ok (.bool false) W := fun W => Lib.run_neq_ptr_same W _ Tryz.underlying142 hj
  rcases hp with rfl | rfl
  · have hcw := hc1 w hsh
    have hcw2 := hc2 w hsh
    clear hc1 hc2 hj hjs hsh
    go_enter Tryz.func204, Tryz.ntmps204
    go_wp2
    go_end0
    exact ⟨rfl, heap_set h 0 _, ⟨rfl, rfl, rfl, by simp, fun k _ hk => Below.heap_setCell _ _ _ _ (fun e => hk (by show some k = some b; rw [show k = b from e]))⟩, by simp⟩
  · clear hc1 hc2 hj hjs hsh
    go_enter Tryz.func204, Tryz.ntmps204
    go_wp2
    go_end0
    exact ⟨rfl, h, World.grownBy.refl _ _, rfl⟩

set_option maxHeartbeats 2000000 in
set_option maxRecDepth 100000 in
theorem writeByte_calls (B b : Nat) (l : List Int) (c : Int) (w : World) (h : Bd B w b l) (hl : l.length ≤ 1000000000) (hB : B ≤ w.heap.size) :
    Calls Tryz.prog 159 #[.pointer (some ⟨b, 0, none⟩), .int .u8 c] w fun e w' => e = .returned .nilIface ∧ Bd B w' b (l ++ [c]) ∧ Below B w w' := by
  obtain ⟨p, v, hp, hh, hO, hne, hBb⟩ := h
  have hblt : b < w.heap.size := (Array.getElem?_eq_some_iff.1 hh).1
  go_enter Tryz.func159, Tryz.ntmps159
  go_wp2_with fail
  refine (copyCheck_calls b p v hp _ hh).mono ?_
  rintro e w1 ⟨rfl, hh1, hg1, hs1⟩
  have hO1 : Own B w1 5 .u8 v l := ⟨hO.own.kept (row := some b) hg1 (.inr hne)⟩
  have hBel1 : Below B w w1 := Below.grown (Below.refl _ _) hg1 hB (fun k hk => by injection hk with hk; omega)
  have c1 : w1.cell? ⟨b, 1, none⟩ = some v := heap_cell hh1 1 _ rfl
  have hs1a : w.heap.size ≤ w1.heap.size := by omega
  clear hO hh hg1 hs1
  go_wp2_with (at_builtin; refine append_one (w0 := w) B rfl _ _ 116 1 rfl Tryz.underlying116 info_u8 (by omega) v l rfl rfl hO1 hBel1 (by omega) ?cc ?_)
  case cc => omega
  intro v1 w2 hO2 hB2 hs2 hg2 hat
  have hlt1 : b < w1.heap.size := by omega
  have hh2 : w2.heap[b]? = some (.cells #[.pointer (some ⟨b, 0, none⟩), v] 144 (0, 0)) := by
    rw [hg2.block b hlt1 (fun e => hne e.symm)]; exact hh1
  have d1 : w2.cell? ⟨b, 1, none⟩ = some v := heap_cell hh2 1 _ rfl
  have f1 : w2.frozen? ⟨b, 1, none⟩ = false := by simp [World.frozen?, hh2]
  have hne2 : v1.ownBlock ≠ some b := by
    rcases hat with hat | ⟨g, hg, hgb⟩
    · rw [hat]; exact hne
    · rw [hg]; intro e; injection e with e; omega
  obtain ⟨A, n, cc, rfl, _⟩ := hO2.formN
  have hO3 := hO2.other ⟨b, 1, none⟩ (.slice A n cc) hne2
  have hh3 := heap_set hh2 1 (.slice A n cc)
  have hB3 := hB2.setCell (p := ⟨b, 1, none⟩) hBb (.slice A n cc)
  go_wp2
  go_ret
  exact ⟨rfl, ⟨_, _, .inr rfl, hh3, hO3, hne2, hBb⟩, hB3⟩

/-- A digit in base 16. -/
def hexd (n : Nat) : Int := if n < 10 then 48 + n else 87 + n
/-- The 13 digits behind the first bit. -/
def hexL (m : Nat) : Nat → List Int
  | 0 => []
  | k + 1 => hexL m k ++ [hexd (m / 2 ^ (60 - 4 * k) % 16)]
theorem hexL_len (m : Nat) : ∀ k, (hexL m k).length = k
  | 0 => rfl
  | k + 1 => by unfold hexL; rw [List.length_append, hexL_len m k]; rfl
theorem hexd_at (x : Nat) (h : x < 16) : (((ByteArray.mk #[48, 49, 50, 51, 52, 53, 54, 55, 56, 57, 97, 98, 99, 100, 101, 102])[x]'h).toNat : Int) = hexd x := by
  have key : ∀ n : Fin 16, (((ByteArray.mk #[48, 49, 50, 51, 52, 53, 54, 55, 56, 57, 97, 98, 99, 100, 101, 102])[n.val]'(n.isLt)).toNat : Int) = hexd n.val := by decide
  exact key ⟨x, h⟩
theorem hexL_bytes (m : Nat) (k : Nat) : ∀ c ∈ hexL m k, 0 ≤ c ∧ c < 256 := by
  induction k with
  | zero => intro c hc; cases hc
  | succ k ih =>
    intro c hc
    unfold hexL at hc
    rw [List.mem_append, List.mem_singleton] at hc
    rcases hc with hc | rfl
    · exact ih c hc
    · have := Nat.mod_lt (m / 2 ^ (60 - 4 * k)) (show 0 < 16 by omega)
      unfold hexd
      split <;> omega

set_option maxHeartbeats 4000000 in
set_option maxRecDepth 100000 in
theorem hex_calls (m : Nat) (hm : m < 18446744073709551616) (w : World) : Calls Tryz.prog 85 #[.int .u64 (m : Int)] w fun e w' => e = .returned (.string (strOfNums (hexL m 13))) ∧ Ext w w' := by
  have hB0 : Bd w.heap.size (w.alloc (.cells #[.pointer none, .slice none 0 0] 144)) w.heap.size [] := ⟨_, _, .inl rfl, heap_alloc_new w _, Own.nil _ _ _ _, by simp [Value.ownBlock], Nat.le_refl _⟩
  go_enter Tryz.func85, Tryz.ntmps85
  go_wp2
  go_loopw [5] (fun iv wr => ∃ k : Nat, k ≤ 13 ∧ iv = .int .i64 (k : Int) ∧ Bd w.heap.size wr w.heap.size (hexL m k) ∧ Ext w wr) (fun iv _ => 13 - (intOf iv).toNat)
  case atStart => exact ⟨0, by omega, rfl, hB0, (Ext.refl w).alloc _⟩
  case round =>
    obtain ⟨k, hk, rfl, hBd, hE⟩ := hrel
    by_cases hk13 : k < 13
    · have hr : ¬ ((60 : Int) - 4 * (k : Int) < 0) := by omega
      have hr2 : ((60 : Int) - 4 * (k : Int)).toNat = 60 - 4 * k := by omega
      obtain ⟨x, hx⟩ : ∃ x, x = m / 2 ^ (60 - 4 * k) % 16 := ⟨_, rfl⟩
      have hx16 : x < 16 := by rw [hx]; exact Nat.mod_lt _ (by omega)
      have hand : bits .and .u64 ((m : Int) / 2 ^ (60 - 4 * k)) 15 = (x : Int) := by
        have h1 : ((m / 2 ^ (60 - 4 * k) : Nat) : Int) = (m : Int) / 2 ^ (60 - 4 * k) := by rw [Int.natCast_ediv, Int.natCast_pow]; rfl
        rw [← h1]
        have h := bits_and_u64_nat (m / 2 ^ (60 - 4 * k)) 15 (Nat.lt_of_le_of_lt (Nat.div_le_self _ _) (by omega)) (by omega)
        rw [show ((15 : Nat) : Int) = 15 from rfl] at h
        rw [h, hx]
        congr 1
        exact Nat.and_two_pow_sub_one_eq_mod (m / 2 ^ (60 - 4 * k)) 4
      have hidx := hexd_at x hx16
      have b0 : (0 : Int) ≤ (x : Int) := by omega
      have b1 : (x : Int) < 16 := by omega
      have hstep : hexL m (k + 1) = hexL m k ++ [hexd x] := by rw [hx]; rfl
      have HST := Lib.hid hstep
      clear hx hstep
      go_wp2_with fail
      refine (writeByte_calls w.heap.size w.heap.size (hexL m k) (hexd x) _ hBd (by rw [hexL_len]; omega) hE.size).mono ?_
      rintro v w1 ⟨rfl, hBd1, hB1⟩
      rw [← HST.out] at hBd1
      go_wp2
      go_roundw
      case rel => exact ⟨k + 1, by omega, by go_num, hBd1, Below.trans hE hB1⟩
      case measure => simp [intOf]; omega
    · obtain rfl : k = 13 := by omega
      obtain ⟨p, v, hp, hh, hO, hne, hBb⟩ := hBd
      have hl13 := hexL_len m 13
      have hbc : nums .u8 (hexL m 13) = Lib.byteCells ((hexL m 13).map (fun n => UInt8.ofNat n.toNat)) := by
        unfold Lib.byteCells nums
        rw [List.map_map]
        apply List.map_congr_left
        intro c hc
        have := hexL_bytes m 13 c hc
        simp
        omega
      have hIs : Lib.IsBuilder 144 5 w.heap.size w.heap.size (Lib.byteCells ((hexL m 13).map (fun n => UInt8.ofNat n.toNat))) wr := by
        have hown := hO.own
        rw [hbc] at hown
        have hlen : (Lib.byteCells ((hexL m 13).map (fun n => UInt8.ofNat n.toNat))).length = (hexL m 13).length := by rw [← hbc]; simp [nums]
        rcases hp with rfl | rfl
        · exact .inl ⟨Nat.le_refl _, v, hh, by rw [hlen]; exact hown, hne⟩
        · exact .inr ⟨Nat.le_refl _, v, hh, by rw [hlen]; exact hown, hne⟩
      have hne0 : (hexL m 13).map (fun n => UInt8.ofNat n.toNat) ≠ [] := by
        intro h
        have := congrArg List.length h
        rw [List.length_map, hl13] at this
        cases this
      have hst : (⟨((hexL m 13).map (fun n => UInt8.ofNat n.toNat)).toArray⟩ : ByteArray) = strOfNums (hexL m 13) := by
        apply ByteArray.ext
        apply Array.toList_inj.1
        simp [strOfNums]
      have HS := Lib.hid hst
      have HIS := Lib.hid hIs
      clear hbc hst hIs hO hh hp
      go_wp2_with fail
      refine (Tryz.Builder_String w.heap.size w.heap.size _ _ HIS.out hne0).mono ?_
      rintro v w1 ⟨rfl, hB1⟩
      rw [HS.out]
      go_wp2
      go_ret
      exact ⟨rfl, Below.trans hE hB1⟩
end Go.Proofs.YtkljejejabikiaaGreatDoor

/- Package decim, telling: Hex of a float that is not nought; Exact. -/
namespace Go.Proofs.YtkljejejabikiaaGreatDoor
open Go Go.RowKit Cusp

theorem f2u {r k : Nat} (h : floatToIntVal .f64 r .i64 = some (k : Int)) (hk : k < 9007199254740992) : floatToIntVal .f64 r .u64 = some (k : Int) := by
  unfold floatToIntVal at h ⊢
  cases hd : (FloatKind.f64.decode r).toInt .zero with
  | none => rw [hd] at h; cases h
  | some n =>
    rw [hd] at h
    simp only at h ⊢
    split at h
    · injection h with h
      rw [h, if_pos]
      constructor
      · show (0 : Int) ≤ _; omega
      · show _ ≤ (18446744073709551615 : Int); omega
    · cases h

/-- The digits in base 16 without the noughts at the end. -/
def stripL (l : List Int) : List Int := (l.reverse.dropWhile (· == 48)).reverse
def dotL (l : List Int) : List Int := if l = [] then [] else 46 :: l

theorem bytes_list (l : List Int) : (strOfNums l).data.toList = l.map (fun n => UInt8.ofNat n.toNat) := by simp [strOfNums]
theorem strip_bytes (l : List Int) (h : ∀ c ∈ l, 0 ≤ c ∧ c < 256) : (⟨(Lib.trimRightB (strOfNums l).data.toList 48).toArray⟩ : ByteArray) = strOfNums (stripL l) := by
  apply ByteArray.ext
  apply Array.toList_inj.1
  rw [bytes_list]
  unfold Lib.trimRightB stripL strOfNums
  simp only [List.map_reverse]
  rw [← List.map_reverse]
  have key : ∀ m : List Int, (∀ c ∈ m, 0 ≤ c ∧ c < 256) → (m.map (fun n => UInt8.ofNat n.toNat)).dropWhile (· == 48) = (m.dropWhile (· == 48)).map (fun n => UInt8.ofNat n.toNat) := by
    intro m
    induction m with
    | nil => intro _; rfl
    | cons a t ih =>
      intro hm
      have ha := hm a (List.mem_cons_self ..)
      have e : (UInt8.ofNat a.toNat == 48) = (a == 48) := by
        rw [Bool.eq_iff_iff, beq_iff_eq, beq_iff_eq]
        constructor
        · intro h
          have h2 := congrArg UInt8.toNat h
          rw [UInt8.toNat_ofNat'] at h2
          have : (48 : UInt8).toNat = 48 := rfl
          omega
        · intro h; rw [h]; rfl
      rw [List.map_cons, List.dropWhile_cons, List.dropWhile_cons, e]
      split
      · exact ih (fun c hc => hm c (List.mem_cons_of_mem _ hc))
      · rw [List.map_cons]
  rw [key l.reverse (fun c hc => h c (by simpa using hc))]

/-- What Itoa writes. -/
theorem itoa_decI (n : Int) : (⟨(Lib.itoa n).toArray⟩ : ByteArray) = strOfNums ((Lib.itoa n).map (fun b => (b.toNat : Int))) := by
  apply ByteArray.ext
  apply Array.toList_inj.1
  simp [strOfNums, List.map_map, Function.comp_def]

set_option maxHeartbeats 4000000 in
set_option maxRecDepth 100000 in
theorem hexT_calls (b : Nat) (hb : b < 18446744073709551616) (hf : b % 9223372036854775808 < 9218868437227405312) (h0 : 0 < b % 9223372036854775808) (w : World) {B : Nat} (hG : Glib B w) :
    Calls Tryz.prog 23 #[.float .f64 b] w fun v w' => ∃ k E t : Nat, 4503599627370496 ≤ k ∧ k < 9007199254740992 ∧ 1 ≤ E ∧ E ≤ 2046 ∧ V (b % 9223372036854775808) * 2 ^ t = k * 2 ^ (E - 1) ∧ v = .returned (.string (strOfNums (minusB (decide (9223372036854775808 ≤ b)) ++ [48, 120, 49] ++ dotL (stripL (hexL ((k - 4503599627370496) * 4096) 13)) ++ [112] ++ (Lib.itoa ((E : Int) - 1022 - t - 1)).map (fun b => (b.toNat : Int))))) ∧ Ext w w' := by
  obtain ⟨s, hs⟩ : ∃ s, s = decide (9223372036854775808 ≤ b) := ⟨_, rfl⟩
  obtain ⟨m, hm⟩ : ∃ m, m = b % 9223372036854775808 := ⟨_, rfl⟩
  have ho : (FloatKind.f64.format.order b 0 == some .eq) = false := by
    show (Ieee.double.order b 0 == some .eq) = false
    have h := order_fin (b / 9223372036854775808 == 1) false hf (show 0 < 9218868437227405312 by omega)
    rw [← word_split hb, word_false] at h
    rw [h]
    have hp := V_pos h0
    unfold sv
    rw [V_zero, if_neg (by simp : ¬ (false = true))]
    split
    · rw [show compare (-(V (b % 9223372036854775808) : Int)) ((0 : Nat) : Int) = Ordering.lt from Int.compare_eq_lt.2 (by omega)]; rfl
    · rw [show compare ((V (b % 9223372036854775808) : Int)) ((0 : Nat) : Int) = Ordering.gt from Int.compare_eq_gt.2 (by omega)]; rfl
  rw [← hs, ← hm]
  have hmf : m < 9218868437227405312 := by omega
  have hm0 : 0 < m := by omega
  have HS := Lib.hid hs
  have HM := Lib.hid hm
  clear hs hm h0
  go_enter Tryz.func23, Tryz.ntmps23
  go_wp2_with fail
  refine (word_fin b hb hf _).mono ?_
  rintro v w1 ⟨rfl, rfl⟩
  have t3 : (ByteArray.mk #[]).toList.isEmpty = true := by rw [ByteArray.toList_eq]; rfl
  go_wp2_with fail
  refine (abs_f_calls b hb _).mono ?_
  rintro v w2 ⟨rfl, rfl⟩
  rw [← HM.out]
  go_wp2_with fail
  refine (frexp_calls m hm0 hmf _).mono ?_
  rintro v w3 ⟨k, E, t, rfl, rfl, hk0, hk1, hE1, hE2, ht, hV⟩
  obtain ⟨r, hr0, hr1, hr2, hr3⟩ := float_nat (m := k) (by omega) hk1
  obtain ⟨BB, hBB⟩ : ∃ B, B = 1021 * 4503599627370496 + k := ⟨_, rfl⟩
  have hB0 : 4503599627370496 ≤ BB := by omega
  have hB1 : BB < 9218868437227405312 := by omega
  have hld : ∀ w, Calls Tryz.prog 83 #[.float .f64 BB, .int .i64 53] w fun v w' => v = .returned (.float .f64 r) ∧ w' = w := by
    intro w
    obtain ⟨q, hq⟩ : ∃ q : Nat, q = 1021 := ⟨_, rfl⟩
    refine ldexp_calls BB 53 r 53 0 hB0 hB1 (by omega) (by omega) (by omega) hr1 ?_ w
    have hVB : V BB = k * 2 ^ q := by rw [hBB, ← hq]; exact V_of hk1 (.inl hk0)
    rw [hVB, hr2 (q + 53) (by omega), Nat.pow_zero, Nat.mul_one, Nat.mul_assoc, ← Nat.pow_add]
  have hfi : floatToIntVal .f64 r .u64 = some (k : Int) := f2u (f2i hr1 (e := 1074) rfl hk1 (hr2 1074 rfl)) hk1
  have hc : ∀ w, (convert 31 86 (.float .f64 r)).run Tryz.prog w = .ok (.int .u64 (k : Int)) w := fun w => run_convert_float_int w 31 86 .f64 .u64 r (k : Int) (by rw [Tryz.underlying31]; rfl) Tryz.underlying86 hfi
  obtain ⟨ee, hee⟩ : ∃ ee : Int, ee = (E : Int) - 1022 - t := ⟨_, rfl⟩
  rw [← hBB, ← hee]
  have hee0 : -1080 ≤ ee := by omega
  have hee1 : ee ≤ 1024 := by omega
  have HEE := Lib.hid hee
  have HLD := Lib.hid hld
  have HV := Lib.hid hV
  clear hfi hr2 hr3 hBB hld hV ht hee
  go_wp2_with fail
  refine (HLD.out _).mono ?_
  rintro v w4 ⟨rfl, rfl⟩
  obtain ⟨x, hx⟩ : ∃ x, x = (k - 4503599627370496) * 4096 := ⟨_, rfl⟩
  have hxw : IntKind.u64.wrap ((k : Int) * 4096) = (x : Int) := by rw [IntKind.wrap_u64]; omega
  have hx64 : x < 18446744073709551616 := by omega
  have HX := Lib.hid hx
  clear hx
  go_wp2_with fail
  refine (hex_calls x hx64 _).mono ?_
  rintro v w5 ⟨rfl, e5⟩
  have hHs : (strOfNums (hexL x 13)).size ≤ 100 := by rw [st_size, hexL_len]; omega
  go_wp2_with fail
  refine (Tryz.strings_TrimRight_one (strOfNums (hexL x 13)) 48 (by decide) _ (by omega)).mono ?_
  rintro v w6 ⟨rfl, rfl⟩
  rw [strip_bytes _ (hexL_bytes x 13)]
  obtain ⟨L, hL⟩ : ∃ L, L = stripL (hexL x 13) := ⟨_, rfl⟩
  have hLl : L.length ≤ 13 := by
    rw [hL]; unfold stripL
    rw [List.length_reverse]
    refine Nat.le_trans (List.dropWhile_sublist _).length_le ?_
    rw [List.length_reverse, hexL_len]
    exact Nat.le_refl _
  rw [← hL]
  obtain ⟨S, hS⟩ : ∃ S, S = strOfNums L := ⟨_, rfl⟩
  have hSs : S.size = L.length := by rw [hS, st_size]
  have hSs2 : S.size ≤ 13 := by omega
  rw [← hS]
  have hdot : (if L = [] then S else ⟨#[46]⟩ ++ S) = strOfNums (dotL L) := by
    unfold dotL
    split
    · rename_i h; rw [hS, h]
    · rw [hS, show (⟨#[46]⟩ : ByteArray) = strOfNums [46] from rfl, st_append]; rfl
  have HL := Lib.hid hL
  have HSS := Lib.hid hSs
  have HDOT := Lib.hid hdot
  clear hL hS hSs hdot hHs
  go_upto_if 32 with (fail)
  go_cut [7] (fun v wx => v = .string (strOfNums (dotL L)) ∧ wx = w6)
  case first =>
    cases hLL : L with
    | nil =>
      have hz : S.size = 0 := by rw [HSS.out, hLL]; rfl
      have he := emp_true hz
      have hd : strOfNums (dotL ([] : List Int)) = S := by rw [← hLL, ← HDOT.out, if_pos hLL]
      have HD := Lib.hid hd
      have HLL2 := Lib.hid hLL
      clear hz hd hLL
      rw [he]
      go_wp2
      go_meet
      case rel => exact ⟨by rw [← HD.out, HLL2.out], rfl⟩
    | cons a l =>
      have hz : 0 < S.size := by rw [HSS.out, hLL]; simp
      have he := emp_false hz
      have hd : strOfNums (dotL (a :: l)) = ⟨#[46]⟩ ++ S := by rw [← hLL, ← HDOT.out, if_neg (by rw [hLL]; simp)]
      have HD := Lib.hid hd
      have HLL2 := Lib.hid hLL
      clear hd hLL
      rw [he]
      go_wp2
      go_meet
      case rel => exact ⟨by rw [← HD.out, HLL2.out], rfl⟩
  case rest =>
    obtain ⟨rfl, rfl⟩ := hcut
    obtain ⟨DD, hDD⟩ : ∃ D, D = strOfNums (dotL L) := ⟨_, rfl⟩
    have hDs : DD.size ≤ 14 := by rw [hDD, st_size]; unfold dotL; split <;> simp; omega
    rw [← hDD]
    obtain ⟨MM, hMM⟩ : ∃ M, M = strOfNums (minusB s) := ⟨_, rfl⟩
    have hMs : MM.size ≤ 1 := by rw [hMM, st_size]; unfold minusB; split <;> simp
    obtain ⟨II, hII⟩ : ∃ I, I = strOfNums ((Lib.itoa (ee - 1)).map (fun b => (b.toNat : Int))) := ⟨_, rfl⟩
    have hIs : II.size ≤ 100 := by
      rw [hII, st_size, List.length_map]
      exact Nat.le_trans (Lib.itoa_length_le _ (by omega) (by omega)) (by omega)
    have hcat : MM ++ ⟨#[48, 120, 49]⟩ ++ DD ++ ⟨#[112]⟩ ++ II = strOfNums (minusB s ++ [48, 120, 49] ++ dotL (stripL (hexL ((k - 4503599627370496) * 4096) 13)) ++ [112] ++ (Lib.itoa ((E : Int) - 1022 - t - 1)).map (fun b => (b.toNat : Int))) := by
      rw [← HX.out, ← HL.out, ← HEE.out, hMM, hDD, hII, show (⟨#[48, 120, 49]⟩ : ByteArray) = strOfNums [48, 120, 49] from rfl, show (⟨#[112]⟩ : ByteArray) = strOfNums [112] from rfl]
      simp only [st_append]
    have HC := Lib.hid hcat
    have HM2 := Lib.hid hMM
    have HI2 := Lib.hid hII
    clear hcat hMM hII hDD
    have hGc := hG.ext e5
    go_wp2_with fail
    refine (minus_calls b hb _).mono ?_
    rintro v w7 ⟨rfl, rfl⟩
    rw [← HS.out, ← HM2.out]
    go_wp2_with fail
    refine (Tryz.strconv_Itoa (ee - 1) (by omega) (by omega) _ hGc.p10).mono ?_
    rintro v w8 ⟨rfl, kk, os, hw8⟩
    rw [itoa_decI, ← HI2.out]
    have e8 : Ext w7 w8 := by rw [hw8]; exact Lib.below_grow _ w7 (Nat.le_refl _) kk os
    clear hw8
    go_wp2
    go_ret
    exact ⟨k, E, t, hk0, hk1, hE1, hE2, HV.out, by rw [← HC.out]; rfl, e5.trans e8⟩
end Go.Proofs.YtkljejejabikiaaGreatDoor

/- What the head of the statements asks, at its constants: plain. -/
namespace Go.Proofs.YtkljejejabikiaaGreatDoor
open Go Go.RowKit Cusp

theorem cut_01 : cutT [48, 46, 49] = some ⟨false, false, [48, 49], 1, 0, 0⟩ := by kernel_rfl
theorem cut_e400 : cutT [45, 49, 101, 45, 52, 48, 48] = some ⟨true, false, [49], 0, -400, 0⟩ := by kernel_rfl
theorem cut_1x : cutT [49, 120] = none := by kernel_rfl

theorem isLo_01 : IsLo (nOf false (numV 10 [48, 49]) (kOf false 0 1)) (dOf false (kOf false 0 1)) 4591870180066957721 ∧ More false true (nOf false (numV 10 [48, 49]) (kOf false 0 1)) (dOf false (kOf false 0 1)) 4591870180066957721 := by
  refine ⟨⟨by decide, ?_, .inl ?_⟩, .inr ⟨rfl, .inl ?_⟩⟩
  · decide +kernel
  · decide +kernel
  · decide +kernel
theorem isLo_e400 : IsLo (nOf false (numV 10 [49]) (kOf false (-400) 0)) (dOf false (kOf false (-400) 0)) 0 ∧ More true false (nOf false (numV 10 [49]) (kOf false (-400) 0)) (dOf false (kOf false (-400) 0)) 0 := by
  refine ⟨⟨by decide, ?_, .inl ?_⟩, .inl ⟨rfl, ?_⟩⟩
  · decide +kernel
  · decide +kernel
  · decide +kernel
theorem read_01 {r : Nat} {e : Int} (h : ReadSays [48, 46, 49] 2 r e) : r = 4591870180066957722 ∧ e = 0 := by
  unfold ReadSays at h
  rw [if_neg (by decide), cut_01] at h
  simp only [show ¬ ((0 : Nat) = 2) by decide, show ¬ ((0 : Nat) = 1) by decide, if_false] at h
  rw [if_neg (by decide)] at h
  obtain ⟨he, q, hq, hR⟩ := h
  refine ⟨?_, he⟩
  have hR2 : Rnds false true (nOf false (numV 10 [48, 49]) (kOf false 0 1)) (dOf false (kOf false 0 1)) 4591870180066957722 := ⟨_, isLo_01.1, .inl ⟨isLo_01.2, rfl⟩⟩
  have := Rnds.uniq hR hR2
  rw [hq, this]
  rfl
theorem read_e400 {r : Nat} {e : Int} (h : ReadSays [45, 49, 101, 45, 52, 48, 48] 1 r e) : r = 9223372036854775809 ∧ e = 0 := by
  unfold ReadSays at h
  rw [if_neg (by decide), cut_e400] at h
  simp only [show ¬ ((0 : Nat) = 2) by decide, show ¬ ((0 : Nat) = 1) by decide, if_false] at h
  rw [if_neg (by decide)] at h
  obtain ⟨he, q, hq, hR⟩ := h
  refine ⟨?_, he⟩
  have hR2 : Rnds true false (nOf false (numV 10 [49]) (kOf false (-400) 0)) (dOf false (kOf false (-400) 0)) 1 := ⟨0, isLo_e400.1, .inl ⟨isLo_e400.2, rfl⟩⟩
  have := Rnds.uniq hR hR2
  rw [hq, this]
  rfl
theorem read_1x {r : Nat} {e : Int} (h : ReadSays [49, 120] 2 r e) : r = 0 ∧ e = 3 := by
  unfold ReadSays at h
  rw [if_neg (by decide), cut_1x] at h
  exact ⟨h.2, h.1⟩
end Go.Proofs.YtkljejejabikiaaGreatDoor

/- What the head of the statements asks of Fixed, Exact, Hex at its constants: plain. -/
namespace Go.Proofs.YtkljejejabikiaaGreatDoor
open Go Go.RowKit Cusp

theorem frac_uniq {b a j c k : Nat} (h : FracOf b a j) (hk : ∀ e, e = 1074 → V b * 2 ^ k = c * 2 ^ e) (hg : Nat.gcd c (2 ^ k) = 1) : a = c ∧ j = k := by
  obtain ⟨h1, h2, _, _⟩ := h
  obtain ⟨e, he⟩ : ∃ e, e = 1074 := ⟨_, rfl⟩
  have k1 := hk e he
  have k2 := h1 e he
  have key : a * 2 ^ k = c * 2 ^ j := by
    have h3 : (a * 2 ^ k) * 2 ^ e = (c * 2 ^ j) * 2 ^ e := by
      calc a * 2 ^ k * 2 ^ e = (a * 2 ^ e) * 2 ^ k := by rw [Nat.mul_assoc, Nat.mul_comm (2 ^ k), Nat.mul_assoc]
        _ = (V b * 2 ^ j) * 2 ^ k := by rw [k2]
        _ = (V b * 2 ^ k) * 2 ^ j := by rw [Nat.mul_assoc, Nat.mul_comm (2 ^ j), Nat.mul_assoc]
        _ = (c * 2 ^ e) * 2 ^ j := by rw [k1]
        _ = c * 2 ^ j * 2 ^ e := by rw [Nat.mul_assoc, Nat.mul_comm (2 ^ e), Nat.mul_assoc]
    exact Nat.eq_of_mul_eq_mul_right (Nat.pow_pos (by omega)) h3
  have d1 : 2 ^ k ∣ 2 ^ j := by
    have : 2 ^ k ∣ c * 2 ^ j := ⟨a, by rw [← key, Nat.mul_comm]⟩
    exact Nat.Coprime.dvd_of_dvd_mul_left (Nat.Coprime.symm hg) this
  have d2 : 2 ^ j ∣ 2 ^ k := by
    have : 2 ^ j ∣ a * 2 ^ k := ⟨c, by rw [key, Nat.mul_comm]⟩
    exact Nat.Coprime.dvd_of_dvd_mul_left (Nat.Coprime.symm h2) this
  have e1 : 2 ^ k = 2 ^ j := Nat.dvd_antisymm d1 d2
  have e2 : k = j := (Nat.pow_right_inj (by omega)).1 e1
  rw [e1] at key
  exact ⟨Nat.eq_of_mul_eq_mul_right (Nat.pow_pos (by omega)) key, e2.symm⟩

theorem fixed_25 {a j : Nat} (h : FracOf (4612811918334230528 % 9223372036854775808) a j) : strOfNums (minusB (decide (9223372036854775808 ≤ 4612811918334230528)) ++ pointL (dec (roundN (a * 10 ^ 0) (2 ^ j) (decide (9223372036854775808 ≤ 4612811918334230528)) 2)) 0) = ⟨#[50]⟩ := by
  obtain ⟨rfl, rfl⟩ := frac_uniq h (c := 5) (k := 1) (fun e he => by rw [he]; decide +kernel) (by decide)
  have hr : roundN (5 * 10 ^ 0) (2 ^ 1) (decide (9223372036854775808 ≤ 4612811918334230528)) 2 = 2 := by
    unfold roundN
    rw [if_neg]
    unfold DueN
    decide
  rw [hr]
  have hd : dec 2 = [50] := by unfold dec; rw [if_neg (by decide), dg_pos (by decide), show 2 / 10 = 0 from rfl, dg_zero]; rfl
  rw [hd]
  rfl
theorem exact_05 {a j : Nat} (h : FracOf (4602678819172646912 % 9223372036854775808) a j) : strOfNums (minusB (decide (9223372036854775808 ≤ 4602678819172646912)) ++ pointL (dec (a * 5 ^ j)) j) = ⟨#[48, 46, 53]⟩ := by
  obtain ⟨rfl, rfl⟩ := frac_uniq h (c := 1) (k := 1) (fun e he => by rw [he]; decide +kernel) (by decide)
  have hd : dec (1 * 5 ^ 1) = [53] := by unfold dec; rw [if_neg (by decide), dg_pos (by decide), show 1 * 5 ^ 1 / 10 = 0 from rfl, dg_zero]; rfl
  rw [hd]
  rfl

theorem pow_far {A k x y : Nat} (hA : A < 2 * k) (hlt : x < y) (h : A * 2 ^ x = k * 2 ^ y) : False := by
  obtain ⟨d, rfl⟩ : ∃ d, y = x + (d + 1) := ⟨y - x - 1, by omega⟩
  have h2 : A = k * 2 ^ (d + 1) := by
    apply Nat.eq_of_mul_eq_mul_right (Nat.pow_pos (n := x) (show 0 < 2 by omega))
    rw [h, Nat.pow_add, Nat.mul_assoc, Nat.mul_comm (2 ^ (d + 1))]
  have h3 : k * 2 ≤ k * 2 ^ (d + 1) := Nat.mul_le_mul_left _ (by rw [Nat.pow_succ]; have := Nat.pow_pos (n := d) (show 0 < 2 by omega); omega)
  omega

theorem hex_01 {k E t : Nat} (h0 : 4503599627370496 ≤ k) (h1 : k < 9007199254740992) (hE : 1 ≤ E) (hV : V (4591870180066957722 % 9223372036854775808) * 2 ^ t = k * 2 ^ (E - 1)) :
    strOfNums (minusB (decide (9223372036854775808 ≤ 4591870180066957722)) ++ [48, 120, 49] ++ dotL (stripL (hexL ((k - 4503599627370496) * 4096) 13)) ++ [112] ++ (Lib.itoa ((E : Int) - 1022 - t - 1)).map (fun b => (b.toNat : Int))) = ⟨#[48, 120, 49, 46, 57, 57, 57, 57, 57, 57, 57, 57, 57, 57, 57, 57, 97, 112, 45, 52]⟩ := by
  obtain ⟨q, hq⟩ : ∃ q, q = 1018 := ⟨_, rfl⟩
  have hv : V (4591870180066957722 % 9223372036854775808) = 7205759403792794 * 2 ^ q := by rw [hq]; decide +kernel
  rw [hv, Nat.mul_assoc, ← Nat.pow_add] at hV
  have heq : q + t = E - 1 := by
    rcases Nat.lt_trichotomy (q + t) (E - 1) with hlt | h | hlt
    · exact (pow_far (by omega) hlt hV).elim
    · exact h
    · exact (pow_far (by omega) hlt hV.symm).elim
  rw [heq] at hV
  have hk : k = 7205759403792794 := (Nat.eq_of_mul_eq_mul_right (Nat.pow_pos (by omega)) hV).symm
  have hi : (E : Int) - 1022 - t - 1 = -((4 : Nat) : Int) := by omega
  rw [hk, hi, Lib.itoa_neg _ (by omega), Lib.decDigits_one (by omega)]
  decide +kernel
end Go.Proofs.YtkljejejabikiaaGreatDoor
