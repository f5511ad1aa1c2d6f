/- Contracts of the program's functions, and plain laws on numbers and texts (joined: HeadB, RefA, RefB, RefC, RefD, RefE, RefF, RefG, RefH, RefI, RefJ, RefK, RefL). -/
import Derived.Test.YtkljejejabikiaaGreatDoorV07
import Derived.ChangeMaps5
import Derived.Test.YtkljejejabikiaaGreatDoorV01
import Derived.IntWalk
import Derived.Test.YtkljejejabikiaaGreatDoorV02
import Derived.Test.YtkljejejabikiaaGreatDoorV05
import Derived.Test.YtkljejejabikiaaGreatDoorV09
import Derived.Deep.RegionHeld3

/- A world in which the list of variables is met, with any arguments. -/
namespace Go.Proofs.YtkljejejabikiaaGreatDoor
open Go Go.ChangeShapes Go.WideShapes Go.ChangeAt Go.ChangeMaps Go.RowKit Cusp

set_option maxRecDepth 100000 in
/-- A world in which the list is met, with any arguments. -/
theorem shaped_all (os : Os) (args : Array Value) : ((World.laidAll Tryz.prog os laidL).forCall (fun _ _ => 0) ⟨#[], args, []⟩).Shaped Tryz.prog :=
  World.shaped_of_ZipB (by kernel_rfl) (by kernel_rfl)
theorem witness_all {H : Type} {enc : TypeId × Value → H} {f : FuncId} {fn : Func} {s : OpenSpec} {conds : List PathCond} {apart : Bool} {laid : List (String × DataW Unit)} (os : Os) (args : Array Value)
    (hok : Input.okWideB Tryz.prog ((World.laidAll Tryz.prog os laidL).forCall (fun _ _ => 0) ⟨#[], args, []⟩) f ⟨#[], args, []⟩ = true)
    (hrow : s.preRow enc Tryz.prog fn conds apart laid ((World.laidAll Tryz.prog os laidL).forCall (fun _ _ => 0) ⟨#[], args, []⟩).memory args) :
    ∃ (w : World) (tape : Tape) (i : Input), w.os = os ∧ (w.forCall tape i).Shaped Tryz.prog ∧ i.vars = [] ∧ Input.okWide Tryz.prog (w.forCall tape i) .any w.heap.size f i ∧
      s.preRow enc Tryz.prog fn conds apart laid (w.forCall tape i).memory i.args ∧ ({} : Assume).holds Tryz.prog (lone (Frame.enter Tryz.prog f i.args .normal) [] (w.forCall tape i)) :=
  ⟨World.laidAll Tryz.prog os laidL, fun _ _ => 0, ⟨#[], args, []⟩, World.laidAll_os _ _ _, shaped_all os args, (Input.okWide_of_okWideB (base := 0) hok).1, (Input.okWide_of_okWideB hok).2, hrow, by
    simp only [Assume.holds]
    exact ⟨by simp, by simp, fun _ => Modest.zero, by simp, by simp⟩⟩

theorem and_t {a b : Bool} (h : a = true) (k : b = true) : (a && b) = true := by rw [h, k]; rfl
end Go.Proofs.YtkljejejabikiaaGreatDoor

/- The walks of the reference's whole numbers (cuspref02), first part: trim, size, order, sum. -/
namespace Go.Proofs.YtkljejejabikiaaGreatDoor
open Go Go.RowKit Cusp

set_option maxHeartbeats 400000 in
theorem rtrim_calls (A : Option Addr) (n c : Nat) (l : List Int) (w : World) (h : Rd w .u32 A n c l) :
    Calls Tryz.prog 168 #[.slice A n c] w fun e w' => ∃ m, m ≤ n ∧ e = .returned (.slice A m c) ∧ Trim (l.take m) ∧ lv (l.take m) = lv l ∧ w' = w := by
  have hcap := h.cap
  have hbig := h.big
  go_enter Tryz.func168, Tryz.ntmps168
  go_wp2
  go_loop [3] (fun v => ∃ k : Nat, k ≤ n ∧ v = .int .i64 k ∧ lv (l.take k) = lv l) (fun v => (intOf v).toNat)
  case atStart => exact ⟨n, Nat.le_refl _, rfl, by rw [List.take_of_length_le (by rw [h.len]; omega)]⟩
  case round =>
    obtain ⟨k, hk, rfl, hl⟩ := hrel
    have HL := Lib.hid hl; clear hl
    cases k with
    | zero =>
      go_wp2
      go_ret
      exact ⟨0, by omega, rfl, trim_nil, HL.out, rfl⟩
    | succ k =>
      obtain ⟨b, off, rfl, hx⟩ := h.at_ k (by omega)
      have hk1 : ((k + 1 : Nat) : Int) - 1 = (k : Int) := by omega
      rw [show ((k + 1 : Nat) : Int) = (k : Int) + 1 by omega]
      by_cases hz : ix l k = 0
      · have z1 : (ix l k == 0) = true := by simpa using hz
        have HZ := Lib.hid hz; clear hz hk1
        go_wp2
        go_round
        case rel => exact ⟨k, by omega, by go_num, by rw [← HL.out, lv_take_succ, HZ.out]; simp⟩
        case measure => simp [intOf]
      · have z1 : (ix l k == 0) = false := by simpa using hz
        have HZ := Lib.hid hz; clear hz hk1
        go_wp2
        go_ret
        exact ⟨k + 1, hk, rfl, trim_take (by rw [h.len]; exact hk) (fun _ => HZ.out), HL.out, rfl⟩

/-- trim of words: those of what they tell. -/
theorem rtrim_nt (A : Option Addr) (n c a : Nat) (l : List Int) (w : World) (h : Rd w .u32 A n c l) (hw : Words l) (ha : lv l = a) :
    Calls Tryz.prog 168 #[.slice A n c] w fun e w' => ∃ m, m ≤ n ∧ e = .returned (.slice A m c) ∧ Nt w A m c a ∧ w' = w := by
  refine (rtrim_calls A n c l w h).mono ?_
  rintro e w' ⟨m, hm, rfl, ht, hl, rfl⟩
  refine ⟨m, hm, rfl, ?_, rfl⟩
  have := h.take m hm
  rw [eq_wd_of (words_take hw m) ht (hl.trans ha)] at this
  exact this

theorem bl_half {t : Nat} (h : t ≠ 0) : bl t = bl (t / 2) + 1 := by
  have h1 := bl_le h
  have h2 := lt_bl t
  have h3 := bl_pos h
  obtain ⟨k, hk⟩ : ∃ k, bl t = k + 1 := ⟨bl t - 1, by omega⟩
  rw [hk] at h1 h2
  simp only [Nat.add_sub_cancel] at h1
  rw [hk]
  rcases Nat.eq_zero_or_pos k with h0 | h0
  · subst h0
    have : t = 1 := by simp at h2; omega
    subst this
    rfl
  · obtain ⟨j, rfl⟩ : ∃ j, k = j + 1 := ⟨k - 1, by omega⟩
    rw [Nat.pow_succ] at h1 h2
    have := bl_eq (n := t / 2) (k := j) (by omega) (by omega)
    omega

set_option maxHeartbeats 400000 in
theorem rsize_calls (A : Option Addr) (n c a : Nat) (w : World) (ha : Nt w A n c a) (hn : n ≤ 1000000000) :
    Calls Tryz.prog 160 #[.slice A n c] w fun e w' => e = .returned (.int .i64 (bl a : Int)) ∧ w' = w := by
  have hcap := ha.cap
  have hbig := ha.big
  have L1 := Lib.hid ha.len
  rcases Nat.eq_zero_or_pos n with h0 | h0
  · subst h0
    have h1 : a = 0 := wd_eq_nil.1 (List.eq_nil_of_length_eq_zero L1.out)
    subst h1
    go_enter Tryz.func160, Tryz.ntmps160
    go_wp2
    go_ret
    exact ⟨rfl, rfl⟩
  · obtain ⟨k, rfl⟩ : ∃ k, n = k + 1 := ⟨n - 1, by omega⟩
    obtain ⟨b, off, rfl, hx⟩ := ha.at_ k (by omega)
    have hb := bl_words (a := a) L1.out
    have r1 := ix_words (words_wd a) k
    obtain ⟨T, hT⟩ := Int.eq_ofNat_of_zero_le r1.1
    rw [hT] at hx r1 hb
    rw [Int.toNat_natCast] at hb
    have HB := Lib.hid hb
    clear hb hT
    have t1 : ((k : Int) + 1 == 0) = false := by simp; omega
    have e1 : (k : Int) + 1 - 1 = k := by omega
    go_enter Tryz.func160, Tryz.ntmps160
    go_wp2
    go_loop [3, 4] (fun s t => ∃ j x : Nat, s = .int .i64 (j : Int) ∧ t = .int .u32 (x : Int) ∧ x ≤ T ∧ j + bl x = 32 * k + bl T ∧ j ≤ 32 * k + 32) (fun _ t => (intOf t).toNat)
    case atStart =>
      exact ⟨32 * k, T, by go_num, rfl, Nat.le_refl _, rfl, by omega⟩
    case round =>
      obtain ⟨j, x, rfl, rfl, hxT, hj, hj2⟩ := hrel
      have HJ := Lib.hid hj
      clear hj
      rcases Nat.eq_zero_or_pos x with hx0 | hx0
      · subst hx0
        go_wp2
        go_ret
        exact ⟨ret_int (by rw [HB.out]; have := HJ.out; rw [bl_zero] at this; omega), rfl⟩
      · have hh := bl_half (t := x) (by omega)
        have hle : bl x ≤ 32 := bl_le_of_lt (by omega)
        have hle2 : bl T ≤ 32 := bl_le_of_lt (by omega)
        have HH := Lib.hid hh
        have hjb : j + 1 ≤ 32 * k + 32 := by have := HJ.out; have := HH.out; omega
        clear hh
        go_wp2
        go_round
        case rel => exact ⟨j + 1, x / 2, by go_num, rfl, by omega, by have := HJ.out; have := HH.out; omega, hjb⟩
        case measure => simp [intOf]; omega

set_option maxHeartbeats 1000000 in
theorem rorder_calls (A B : Option Addr) (n m c d a b : Nat) (w : World) (ha : Nt w A n c a) (hb : Nt w B m d b) :
    Calls Tryz.prog 170 #[.slice A n c, .slice B m d] w fun e w' => e = .returned (.int .i64 (ord a b)) ∧ Ext w w' := by
  have L1 := Lib.hid ha.len
  have L2 := Lib.hid hb.len
  have C1 := ha.cap
  have C2 := ha.big
  by_cases hnm : n = m
  · subst hnm
    have t1 : ((n : Int) == n) = true := by simp
    have t2 : ((n : Int) != n) = false := by simp
    go_enter Tryz.func170, Tryz.ntmps170
    go_wp2
    go_loopw [5] (fun i w' => ∃ k : Nat, k ≤ n ∧ i = .int .i64 ((k : Int) - 1) ∧ (wd a).drop k = (wd b).drop k ∧ Ext w w') (fun i _ => (intOf i + 1).toNat)
    case atStart => exact ⟨n, Nat.le_refl _, rfl, by rw [List.drop_eq_nil_of_le (by rw [L1.out]; omega), List.drop_eq_nil_of_le (by rw [L2.out]; omega)], Ext.refl _⟩
    case round =>
      obtain ⟨k, hk, rfl, hl, he⟩ := hrel
      have HL := Lib.hid hl; clear hl
      cases k with
      | zero =>
        go_wp2
        go_ret
        refine ⟨ret_int ?_, he⟩
        have : a = b := by rw [← lv_wd a, ← lv_wd b, eq_of_drop_zero HL.out]
        simp [ord, this]
      | succ k =>
        rw [show ((k + 1 : Nat) : Int) - 1 = (k : Int) by omega]
        obtain ⟨b1, o1, rfl, x1⟩ := (ha.ext he).at_ k (by omega)
        obtain ⟨b2, o2, rfl, x2⟩ := (hb.ext he).at_ k (by omega)
        have hkn : (k : Int) < n := by omega
        have K1 : k < (wd a).length := by rw [L1.out]; omega
        have K2 : k < (wd b).length := by rw [L2.out]; omega
        by_cases hz : ix (wd a) k = ix (wd b) k
        · have e1 : (ix (wd a) k == ix (wd b) k) = true := by simpa using hz
          have e2 : (ix (wd a) k != ix (wd b) k) = false := by simpa using hz
          have HD := Lib.hid (drop_pred K1 K2 HL.out hz)
          clear hz K1 K2
          go_wp2
          go_quiet (fail)
          go_wp2
          go_roundw
          case rel => exact ⟨k, by omega, rfl, HD.out, he.drewN' _⟩
          case measure => simp [intOf]
        · have e1 : (ix (wd a) k == ix (wd b) k) = false := by simpa using hz
          have e2 : (ix (wd a) k != ix (wd b) k) = true := by simpa using hz
          by_cases hlt : ix (wd a) k < ix (wd b) k
          · have hab := lv_lt_of_high (words_wd a) k K2 (by rw [L1.out, L2.out]) HL.out hlt (words_wd b)
            rw [lv_wd, lv_wd] at hab
            clear hz K1 K2
            go_wp2
            go_quiet (fail)
            go_wp2
            go_quiet (fail)
            go_wp2
            go_ret
            exact ⟨ret_int (by unfold ord; rw [if_pos hab]), (he.drewN' _).drewN' _⟩
          · have hab := lv_lt_of_high (words_wd b) k K1 (by rw [L1.out, L2.out]) HL.out.symm (by omega) (words_wd a)
            rw [lv_wd, lv_wd] at hab
            clear hz K1 K2
            go_wp2
            go_quiet (fail)
            go_wp2
            go_quiet (fail)
            go_wp2
            go_ret
            exact ⟨ret_int (by unfold ord; rw [if_neg (by omega), if_neg (by omega)]), (he.drewN' _).drewN' _⟩
  · have t1 : ((n : Int) == m) = false := by simp; omega
    have t2 : ((n : Int) != m) = true := by simp; omega
    have HO := Lib.hid (ord_len (a := a) (b := b) (by rw [L1.out, L2.out]; exact hnm))
    rw [L1.out, L2.out] at HO
    by_cases hlt : n < m
    · go_enter Tryz.func170, Tryz.ntmps170
      go_wp2
      go_ret
      exact ⟨ret_int (by rw [HO.out, if_pos hlt]), Ext.refl _⟩
    · go_enter Tryz.func170, Tryz.ntmps170
      go_wp2
      go_ret
      exact ⟨ret_int (by rw [HO.out, if_neg hlt]), Ext.refl _⟩
end Go.Proofs.YtkljejejabikiaaGreatDoor

/- The walks of the reference's whole numbers (cuspref02), second part: sum, less. -/
namespace Go.Proofs.YtkljejejabikiaaGreatDoor
open Go Go.RowKit Cusp

/-- The sum's end, whichever is the longer. -/
theorem rsum_end {out : List Int} {a b n m k : Nat} {c : Int} (hc0 : 0 ≤ c) (hc1 : c ≤ 1) (hlen : out.length = k) (hn : (wd a).length = n) (hm : (wd b).length = m) (hkn : n ≤ k) (hkm : m ≤ k) (hk : k = n ∨ k = m)
    (h : lv out + 4294967296 ^ k * c.toNat = lv ((wd a).take k) + lv ((wd b).take k)) (hw : Words out) :
    (c > 0 → out ++ [c] = wd (a + b)) ∧ (¬ c > 0 → out = wd (a + b)) := by
  rcases Nat.lt_or_ge n m with h1 | h1
  · rw [Nat.add_comm a b]
    exact add_end hc0 hc1 hlen (by omega) (by omega) (by omega) hw
  · exact add_end hc0 hc1 hlen (by omega) (by omega) h hw

set_option maxHeartbeats 2000000 in
set_option maxRecDepth 100000 in
theorem rsum_calls (A B : Option Addr) (n m c d a b : Nat) (w : World) (ha : Nt w A n c a) (hb : Nt w B m d b) (hn : n ≤ 1000000000) (hm : m ≤ 1000000000) :
    Calls Tryz.prog 167 #[.slice A n c, .slice B m d] w fun e w' => ∃ A' n' c', e = .returned (.slice A' n' c') ∧ Nt w' A' n' c' (a + b) ∧ Ext w w' := by
  have L1 := Lib.hid ha.len
  have L2 := Lib.hid hb.len
  have C1 := ha.cap
  have C2 := ha.big
  go_enter Tryz.func167, Tryz.ntmps167
  go_wp2
  go_loopw [5, 6, 7] (fun out cr i w' => ∃ (k : Nat) (l : List Int) (cc : Int), (k ≤ n ∨ k ≤ m) ∧ i = .int .i64 k ∧ cr = .int .u64 cc ∧ 0 ≤ cc ∧ cc ≤ 1 ∧ Words l ∧ l.length = k ∧ lv l + 4294967296 ^ k * cc.toNat = lv ((wd a).take k) + lv ((wd b).take k) ∧
      Own w.heap.size w' 71 .u32 out l ∧ Below w.heap.size w w' ∧ w.heap.size ≤ w'.heap.size) (fun _ _ i _ => max n m - (intOf i).toNat)
  case atStart => exact ⟨0, [], 0, by omega, rfl, rfl, by omega, by omega, words_nil, rfl, by simp [lv], Own.nil _ _ _ _, Below.refl _ _, Nat.le_refl _⟩
  case round =>
    obtain ⟨k, l, cc, hk, rfl, rfl, hc0, hc1, hwl, hlen, hlv, hO, hB, hsz⟩ := hrel
    have HL := Lib.hid hlv; clear hlv
    have HN := Lib.hid hlen; clear hlen
    have hkb : k ≤ 1000000000 := by omega
    have r1 := ix_words (words_wd a) k
    have r2 := ix_words (words_wd b) k
    by_cases hkn : k < n
    · obtain ⟨b1, o1, rfl, x1⟩ := (ha.ext (w' := wr) hB).at_ k hkn
      by_cases hkm : k < m
      · obtain ⟨b2, o2, rfl, x2⟩ := (hb.ext (w' := wr) hB).at_ k hkm
        go_wp2_with (at_builtin; refine append_one (w0 := w) w.heap.size rfl _ _ 42 4 rfl Tryz.underlying42 info_u32 (by omega) _ l rfl rfl hO hB hsz ?c1 ?_)
        case c1 => rw [HN.out]; omega
        intro v1 w1 hO1 hB1 hsz1 _ _
        have hst := add_step (words_wd a) (words_wd b) hc0 hc1 HN.out HL.out (s := cc + ix (wd a) k + ix (wd b) k) rfl
        have HS := Lib.hid hst; clear hst
        go_wp2
        go_roundw
        case rel => exact ⟨k + 1, l ++ [(cc + ix (wd a) k + ix (wd b) k) % 4294967296], _, by omega, by go_num, rfl, HS.out.2.1, HS.out.2.2.1, words_snoc hwl HS.out.2.2.2.1 HS.out.2.2.2.2, by simp [HN.out], HS.out.1, hO1, hB1, hsz1⟩
        case measure => simp [intOf]; omega
      · have hz : ix (wd b) k = 0 := ix_of_ge (by rw [L2.out]; omega)
        have HZ := Lib.hid hz; clear hz
        go_wp2_with (at_builtin; refine append_one (w0 := w) w.heap.size rfl _ _ 42 4 rfl Tryz.underlying42 info_u32 (by omega) _ l rfl rfl hO hB hsz ?c2 ?_)
        case c2 => rw [HN.out]; omega
        intro v1 w1 hO1 hB1 hsz1 _ _
        have hst := add_step (words_wd a) (words_wd b) hc0 hc1 HN.out HL.out (s := cc + ix (wd a) k) (by rw [HZ.out]; omega)
        have HS := Lib.hid hst; clear hst
        go_wp2
        go_roundw
        case rel => exact ⟨k + 1, l ++ [(cc + ix (wd a) k) % 4294967296], _, by omega, by go_num, rfl, HS.out.2.1, HS.out.2.2.1, words_snoc hwl HS.out.2.2.2.1 HS.out.2.2.2.2, by simp [HN.out], HS.out.1, hO1, hB1, hsz1⟩
        case measure => simp [intOf]; omega
    · have hz : ix (wd a) k = 0 := ix_of_ge (by rw [L1.out]; omega)
      have HZ := Lib.hid hz; clear hz
      by_cases hkm : k < m
      · obtain ⟨b2, o2, rfl, x2⟩ := (hb.ext (w' := wr) hB).at_ k hkm
        go_wp2_with (at_builtin; refine append_one (w0 := w) w.heap.size rfl _ _ 42 4 rfl Tryz.underlying42 info_u32 (by omega) _ l rfl rfl hO hB hsz ?c3 ?_)
        case c3 => rw [HN.out]; omega
        intro v1 w1 hO1 hB1 hsz1 _ _
        have hst := add_step (words_wd a) (words_wd b) hc0 hc1 HN.out HL.out (s := cc + ix (wd b) k) (by rw [HZ.out]; omega)
        have HS := Lib.hid hst; clear hst
        go_wp2
        go_roundw
        case rel => exact ⟨k + 1, l ++ [(cc + ix (wd b) k) % 4294967296], _, by omega, by go_num, rfl, HS.out.2.1, HS.out.2.2.1, words_snoc hwl HS.out.2.2.2.1 HS.out.2.2.2.2, by simp [HN.out], HS.out.1, hO1, hB1, hsz1⟩
        case measure => simp [intOf]; omega
      · have hend := rsum_end hc0 hc1 HN.out L1.out L2.out (by omega) (by omega) (by omega) HL.out hwl
        have HE := Lib.hid hend; clear hend
        by_cases hcp : cc > 0
        · go_wp2_with (at_builtin; refine append_one (w0 := w) w.heap.size rfl _ _ 42 4 rfl Tryz.underlying42 info_u32 (by omega) _ l rfl rfl hO hB hsz ?c4 ?_)
          case c4 => rw [HN.out]; omega
          intro v1 w1 hO1 hB1 hsz1 _ _
          go_wp2
          go_ret
          have hcm : cc % 4294967296 = cc := by omega
          obtain ⟨A', n', c', hv, hr⟩ := hO1.nt (by first | exact HE.out.1 hcp | (rw [hcm]; exact HE.out.1 hcp))
          exact ⟨A', n', c', ret_val hv, hr, hB1⟩
        · go_wp2
          go_ret
          obtain ⟨A', n', c', hv, hr⟩ := hO.nt (HE.out.2 hcp)
          exact ⟨A', n', c', ret_val hv, hr, hB⟩
end Go.Proofs.YtkljejejabikiaaGreatDoor

/- The walks of the reference's whole numbers (cuspref02), third part: less. -/
namespace Go.Proofs.YtkljejejabikiaaGreatDoor
open Go Go.RowKit Cusp

set_option maxHeartbeats 2000000 in
set_option maxRecDepth 100000 in
theorem rless_calls (A B : Option Addr) (n m c d a b : Nat) (w : World) (ha : Nt w A n c a) (hb : Nt w B m d b) (hn : n ≤ 1000000000) (hab : b ≤ a) :
    Calls Tryz.prog 171 #[.slice A n c, .slice B m d] w fun e w' => ∃ A' n' c', e = .returned (.slice A' n' c') ∧ Nt w' A' n' c' (a - b) ∧ Ext w w' := by
  have L1 := Lib.hid ha.len
  have L2 := Lib.hid hb.len
  have C1 := ha.cap
  have C2 := ha.big
  have hm : m ≤ n := by rw [← L1.out, ← L2.out]; exact len_wd_mono hab
  go_enter Tryz.func171, Tryz.ntmps171
  go_wp2
  go_loopw [5, 6, 7] (fun out br i w' => ∃ (k : Nat) (l : List Int) (bb : Int), k ≤ n ∧ i = .int .i64 k ∧ br = .int .u64 bb ∧ 0 ≤ bb ∧ bb ≤ 1 ∧ Words l ∧ l.length = k ∧ lv l + lv ((wd b).take k) = lv ((wd a).take k) + 4294967296 ^ k * bb.toNat ∧
      Own w.heap.size w' 71 .u32 out l ∧ Below w.heap.size w w' ∧ w.heap.size ≤ w'.heap.size) (fun _ _ i _ => n - (intOf i).toNat)
  case atStart => exact ⟨0, [], 0, by omega, rfl, rfl, by omega, by omega, words_nil, rfl, by simp [lv], Own.nil _ _ _ _, Below.refl _ _, Nat.le_refl _⟩
  case round =>
    obtain ⟨k, l, cc, hk, rfl, rfl, hc0, hc1, hwl, hlen, hlv, hO, hB, hsz⟩ := hrel
    have HL := Lib.hid hlv; clear hlv
    have HN := Lib.hid hlen; clear hlen
    by_cases hlt : k < n
    · obtain ⟨b1, o1, rfl, x1⟩ := (ha.ext (w' := wr) hB).at_ k hlt
      have r1 := ix_words (words_wd a) k
      have r2 := ix_words (words_wd b) k
      by_cases hkm : k < m
      · obtain ⟨b2, o2, rfl, x2⟩ := (hb.ext (w' := wr) hB).at_ k hkm
        by_cases h1 : cc + ix (wd b) k ≤ ix (wd a) k
        · skip
          go_wp2_with (at_builtin; refine append_one (w0 := w) w.heap.size rfl _ _ 42 4 rfl Tryz.underlying42 info_u32 (by omega) _ l rfl rfl hO hB hsz ?c1 ?_)
          case c1 => rw [HN.out]; omega
          intro v1 w1 hO1 hB1 hsz1 _ _
          have hst := sub_step (words_wd a) (words_wd b) hc0 hc1 HN.out HL.out (t := cc + ix (wd b) k) (x := ix (wd a) k) rfl rfl
          rw [if_neg (by omega)] at hst
          have hy : ix (wd a) k - cc - ix (wd b) k = (ix (wd a) k - (cc + ix (wd b) k)) % 4294967296 := by omega
          have hbr : (ix (wd a) k - cc - ix (wd b) k) / 9223372036854775808 = 0 := by omega
          have HBR := Lib.hid hbr
          rw [hy] at hO1
          clear hy hbr
          have HS := Lib.hid hst; clear hst
          go_wp2
          go_roundw
          case rel => exact ⟨k + 1, l ++ [(ix (wd a) k - (cc + ix (wd b) k)) % 4294967296], 0, by omega, by go_num, by first | rfl | exact int_int HBR.out, by omega, by omega, words_snoc hwl (by omega) (by omega), by simp [HN.out], HS.out, hO1, hB1, hsz1⟩
          case measure => simp [intOf]; omega
        · by_cases h2 : cc ≤ ix (wd a) k
          · skip
            go_wp2_with (at_builtin; refine append_one (w0 := w) w.heap.size rfl _ _ 42 4 rfl Tryz.underlying42 info_u32 (by omega) _ l rfl rfl hO hB hsz ?c2 ?_)
            case c2 => rw [HN.out]; omega
            intro v1 w1 hO1 hB1 hsz1 _ _
            have hst := sub_step (words_wd a) (words_wd b) hc0 hc1 HN.out HL.out (t := cc + ix (wd b) k) (x := ix (wd a) k) rfl rfl
            rw [if_pos (by omega)] at hst
            have hy : IntKind.u64.wrap (ix (wd a) k - cc - ix (wd b) k) % 4294967296 = (ix (wd a) k - (cc + ix (wd b) k)) % 4294967296 := by rw [wrap_low]; congr 1; omega
            have hbr : IntKind.u64.wrap (ix (wd a) k - cc - ix (wd b) k) / 9223372036854775808 = 1 := by rw [IntKind.wrap_u64]; omega
            have HBR := Lib.hid hbr
            rw [hy] at hO1
            clear hy hbr
            have HS := Lib.hid hst; clear hst
            go_wp2
            go_roundw
            case rel => exact ⟨k + 1, l ++ [(ix (wd a) k - (cc + ix (wd b) k)) % 4294967296], 1, by omega, by go_num, by first | rfl | exact int_int HBR.out, by omega, by omega, words_snoc hwl (by omega) (by omega), by simp [HN.out], HS.out, hO1, hB1, hsz1⟩
            case measure => simp [intOf]; omega
          · obtain ⟨hx0, rfl⟩ : ix (wd a) k = 0 ∧ cc = 1 := by omega
            rw [hx0] at x1
            have HX := Lib.hid hx0
            clear hx0
            go_wp2_with (at_builtin; refine append_one (w0 := w) w.heap.size rfl _ _ 42 4 rfl Tryz.underlying42 info_u32 (by omega) _ l rfl rfl hO hB hsz ?c3 ?_)
            case c3 => rw [HN.out]; omega
            intro v1 w1 hO1 hB1 hsz1 _ _
            have hst := sub_step (words_wd a) (words_wd b) hc0 hc1 HN.out HL.out (t := 1 + ix (wd b) k) (x := 0) rfl HX.out.symm
            rw [if_pos (by omega)] at hst
            have hy : IntKind.u64.wrap (IntKind.u64.wrap (-1) - ix (wd b) k) % 4294967296 = (0 - (1 + ix (wd b) k)) % 4294967296 := by rw [wrap_low, IntKind.wrap_u64]; omega
            have hbr : IntKind.u64.wrap (IntKind.u64.wrap (-1) - ix (wd b) k) / 9223372036854775808 = 1 := by rw [IntKind.wrap_u64, IntKind.wrap_u64]; omega
            have HBR := Lib.hid hbr
            rw [hy] at hO1
            clear hy hbr
            have HS := Lib.hid hst; clear hst
            go_wp2
            go_roundw
            case rel => exact ⟨k + 1, l ++ [(0 - (1 + ix (wd b) k)) % 4294967296], 1, by omega, by go_num, by first | rfl | exact int_int HBR.out, by omega, by omega, words_snoc hwl (by omega) (by omega), by simp [HN.out], HS.out, hO1, hB1, hsz1⟩
            case measure => simp [intOf]; omega
      · have hz : ix (wd b) k = 0 := ix_of_ge (by rw [L2.out]; omega)
        have HZ := Lib.hid hz; clear hz
        by_cases h2 : cc ≤ ix (wd a) k
        · skip
          go_wp2_with (at_builtin; refine append_one (w0 := w) w.heap.size rfl _ _ 42 4 rfl Tryz.underlying42 info_u32 (by omega) _ l rfl rfl hO hB hsz ?c4 ?_)
          case c4 => rw [HN.out]; omega
          intro v1 w1 hO1 hB1 hsz1 _ _
          have hst := sub_step (words_wd a) (words_wd b) hc0 hc1 HN.out HL.out (t := cc) (x := ix (wd a) k) (by rw [HZ.out]; omega) rfl
          rw [if_neg (by omega)] at hst
          have hy : ix (wd a) k - cc = (ix (wd a) k - cc) % 4294967296 := by omega
          have hbr : (ix (wd a) k - cc) / 9223372036854775808 = 0 := by omega
          have HBR := Lib.hid hbr
          rw [hy] at hO1
          clear hy hbr
          have HS := Lib.hid hst; clear hst
          go_wp2
          go_roundw
          case rel => exact ⟨k + 1, l ++ [(ix (wd a) k - cc) % 4294967296], 0, by omega, by go_num, by first | rfl | exact int_int HBR.out, by omega, by omega, words_snoc hwl (by omega) (by omega), by simp [HN.out], HS.out, hO1, hB1, hsz1⟩
          case measure => simp [intOf]; omega
        · obtain ⟨hx0, rfl⟩ : ix (wd a) k = 0 ∧ cc = 1 := by omega
          rw [hx0] at x1
          have HX := Lib.hid hx0
          clear hx0
          go_wp2_with (at_builtin; refine append_one (w0 := w) w.heap.size rfl _ _ 42 4 rfl Tryz.underlying42 info_u32 (by omega) _ l rfl rfl hO hB hsz ?c5 ?_)
          case c5 => rw [HN.out]; omega
          intro v1 w1 hO1 hB1 hsz1 _ _
          have hst := sub_step (words_wd a) (words_wd b) hc0 hc1 HN.out HL.out (t := 1) (x := 0) (by rw [HZ.out]; omega) HX.out.symm
          rw [if_pos (by omega)] at hst
          have hy : IntKind.u64.wrap (-1) % 4294967296 = ((0 : Int) - 1) % 4294967296 := by rw [wrap_low]; rfl
          have hbr : IntKind.u64.wrap (-1) / 9223372036854775808 = 1 := by decide
          have HBR := Lib.hid hbr
          rw [hy] at hO1
          clear hy hbr
          have HS := Lib.hid hst; clear hst
          go_wp2
          go_roundw
          case rel => exact ⟨k + 1, l ++ [((0 : Int) - 1) % 4294967296], 1, by omega, by go_num, by first | rfl | exact int_int HBR.out, by omega, by omega, words_snoc hwl (by omega) (by omega), by simp [HN.out], HS.out, hO1, hB1, hsz1⟩
          case measure => simp [intOf]; omega
    · have hkn : k = n := by omega
      subst hkn
      obtain ⟨A1, n1, c1, hv, hr⟩ := hO.formN
      subst hv
      go_wp2_with fail
      refine (rtrim_nt A1 _ c1 (a - b) l _ hr hwl ?_).mono ?_
      · have h := HL.out
        rw [lv_take_all (wd a) (by rw [L1.out]; omega), lv_take_all (wd b) (by rw [L2.out]; omega), lv_wd, lv_wd] at h
        have hlt := lv_lt hwl
        rw [HN.out] at hlt
        have hcc : cc.toNat = 0 := by
          rcases Nat.eq_zero_or_pos cc.toNat with h0 | h0
          · exact h0
          · exfalso
            have : cc.toNat = 1 := by omega
            rw [this] at h; omega
        rw [hcc] at h; omega
      rintro e w1 ⟨mm, _, rfl, hn1, rfl⟩
      go_wp2
      go_ret
      exact ⟨A1, mm, c1, rfl, hn1, hB⟩
end Go.Proofs.YtkljejejabikiaaGreatDoor

/- The walks of the reference's whole numbers (cuspref02), fourth part: product. -/
namespace Go.Proofs.YtkljejejabikiaaGreatDoor
open Go Go.RowKit Cusp

set_option maxHeartbeats 2000000 in
set_option maxRecDepth 100000 in
theorem rmul_walk (A B : Option Addr) (n m c d a b : Nat) (w : World) (ha : Nt w A n c a) (hb : Nt w B m d b) (hn : n ≤ 1000000000) (hm : m ≤ 1000000000) (n0 : 0 < n) (m0 : 0 < m) :
    Calls Tryz.prog 94 #[.slice A n c, .slice B m d] w fun e w' => ∃ A' n' c', e = .returned (.slice A' n' c') ∧ Nt w' A' n' c' (a * b) ∧ Ext w w' := by
  have L1 := Lib.hid ha.len
  have L2 := Lib.hid hb.len
  have C1 := ha.cap
  have C2 := ha.big
  have t1 : ((n : Int) == 0) = false := by simp; omega
  have t2 : ((m : Int) == 0) = false := by simp; omega
  have hmk := make_all (P := Tryz.prog) 42 71 .u32 4 Tryz.underlying42 info_u32 (by omega) (n + m) (by omega)
  rw [show ((n + m : Nat) : Int) = (n : Int) + m by omega] at hmk
  go_enter Tryz.func94, Tryz.ntmps94
  go_wp2
  go_loopw [6] (fun i w' => ∃ (k : Nat) (l : List Int), k ≤ n ∧ i = .int .i64 k ∧ Words l ∧ l.length = n + m ∧ lv l = lv ((wd a).take k) * b ∧ (∀ j, k + m ≤ j → ix l j = 0) ∧
      Own w.heap.size w' 71 .u32 (.slice (some ⟨w.heap.size, 0, none⟩) (n + m) (n + m)) l ∧ Below w.heap.size w w' ∧ w.heap.size ≤ w'.heap.size) (fun i _ => n - (intOf i).toNat)
  case atStart => exact ⟨0, List.replicate (n + m) 0, by omega, rfl, words_replicate _, by simp, by simp [lv_replicate, lv], fun j _ => ix_replicate _ _, own_made w _ _ _ _ (Nat.le_refl _) (by omega), (Below.refl _ _).alloc (Nat.le_refl _) _, by simp⟩
  case round =>
    obtain ⟨k, l, hk, rfl, hwl, hlen, hlv, hz, hO, hB, hsz⟩ := hrel
    have HL := Lib.hid hlv; clear hlv
    have HN := Lib.hid hlen; clear hlen
    have HZ := Lib.hid hz; clear hz
    by_cases hlt : k < n
    · obtain ⟨b1, o1, rfl, x1⟩ := (ha.ext (w' := wr) hB).at_ k hlt
      have r1 := ix_words (words_wd a) k
      obtain ⟨wo, rfl⟩ : ∃ wo : World, wo = wr := ⟨_, rfl⟩
      go_wp2
      go_loopw [7, 8] (fun cr i w' => ∃ (k2 : Nat) (l2 : List Int) (cc : Int), k2 ≤ m ∧ i = .int .i64 k2 ∧ cr = .int .u64 cc ∧ 0 ≤ cc ∧ cc ≤ 4294967295 ∧ Words l2 ∧ l2.length = n + m ∧
          lv l2 + 4294967296 ^ (k + k2) * cc.toNat = lv ((wd a).take k) * b + 4294967296 ^ k * ((ix (wd a) k).toNat * lv ((wd b).take k2)) ∧ (∀ j, k + m ≤ j → ix l2 j = 0) ∧
          Own w.heap.size w' 71 .u32 (.slice (some ⟨w.heap.size, 0, none⟩) (n + m) (n + m)) l2 ∧ Below w.heap.size w w' ∧ w.heap.size ≤ w'.heap.size) (fun _ i _ => m - (intOf i).toNat)
      case atStart => exact ⟨0, l, 0, by omega, rfl, rfl, by omega, by omega, hwl, HN.out, by rw [HL.out]; simp [lv], HZ.out, hO, hB, hsz⟩
      case round =>
        obtain ⟨k2, l2, cc, hk2, rfl, rfl, hc0, hc1, hwl2, hlen2, hlv2, hz2, hO2, hB2, hsz2⟩ := hrel
        have HL2 := Lib.hid hlv2; clear hlv2
        have HN2 := Lib.hid hlen2; clear hlen2
        have HZ2 := Lib.hid hz2; clear hz2
        by_cases hlt2 : k2 < m
        · obtain ⟨b2, o2, rfl, x2⟩ := (hb.ext (w' := wr) hB2).at_ k2 hlt2
          obtain ⟨b3, o3, hA3, x0⟩ := (ha.ext (w' := wr) hB2).at_ k hlt
          cases hA3
          have r2 := ix_words (words_wd b) k2
          have r3 := ix_words hwl2 (k + k2)
          have r4 := mul_bound r1.1 r1.2 r2.1 r2.2
          obtain ⟨x3, f3⟩ := hO2.at_ (k + k2) (by rw [HN2.out]; omega)
          have hidx : ((k : Int) + (k2 : Int)).toNat = k + k2 := by omega
          have hms := mul_inner hwl2 HN2.out hlt hlt2 hc0 hc1 HL2.out
          obtain ⟨z, hz⟩ : ∃ z, z = ix l2 (k + k2) := ⟨_, rfl⟩
          obtain ⟨p, hp⟩ : ∃ p, p = ix (wd a) k * ix (wd b) k2 := ⟨_, rfl⟩
          rw [← hz, ← hp, show cc + (p + z) = p + z + cc by omega] at hms
          rw [← hz] at x3 r3
          rw [← hp] at r4
          have HP := Lib.hid hp
          have HZZ := Lib.hid hz
          have HS := Lib.hid hms
          have ep : ix (wd a) k * ix (wd b) k2 = p := hp.symm
          clear hms hp hz
          have e1 : IntKind.i64.wrap ((k : Int) + (k2 : Int)) = (k : Int) + (k2 : Int) := IntWalk.i64_in _ (by omega)
          have e2 : IntKind.u64.wrap p = p := by rw [IntKind.wrap_u64]; omega
          have e3 : IntKind.u64.wrap (p + z) = p + z := by rw [IntKind.wrap_u64]; omega
          have e4 : IntKind.u64.wrap (p + z + cc) = p + z + cc := by rw [IntKind.wrap_u64]; omega
          have e5 : (0 : Int) ≤ (k : Int) + (k2 : Int) := by omega
          have e6 : (k : Int) + (k2 : Int) < (n : Int) + (m : Int) := by omega
          go_wp2
          go_quiet (fail)
          clear e1 e2 e3 e4
          have e7 : 0 ≤ p + z + cc := by omega
          have e8 : p + z + cc ≤ 18446744073709551615 := by omega
          go_wp2
          go_roundw
          case rel => exact ⟨k2 + 1, _, _, by omega, by go_num, rfl, HS.out.2.1, HS.out.2.2.1, HS.out.2.2.2, by simp [HN2.out], HS.out.1, fun j hj => by rw [ix_set_other (by omega)]; exact HZ2.out j hj, (hO2.drew _).store _ _, (Ext.below hB2 hsz2 (Ext.drewN _ _)).setCell (Nat.le_refl _) _, by rw [size_setCell]; exact hsz2⟩
          case measure => simp [intOf]; omega
        · have hkm : k2 = m := by omega
          subst hkm
          obtain ⟨x4, f4⟩ := hO2.at_ (k + k2) (by rw [HN2.out]; omega)
          have hidx : ((k : Int) + (k2 : Int)).toNat = k + k2 := by omega
          have HS := Lib.hid (mul_outer hwl2 HN2.out hlt L2.out hc0 hc1 HL2.out HZ2.out)
          go_wp2
          go_roundw
          case rel => exact ⟨k + 1, _, by omega, by go_num, HS.out.2.1, by simp [HN2.out], HS.out.1, HS.out.2.2, hO2.store _ _, hB2.setCell (Nat.le_refl _) _, by rw [size_setCell]; exact hsz2⟩
          case measure => simp [intOf]; omega
    · have hkn : k = n := by omega
      subst hkn
      go_wp2_with fail
      refine (rtrim_nt _ _ _ (a * b) l _ hO.rd hwl ?_).mono ?_
      · rw [HL.out, lv_take_all _ (by rw [L1.out]; omega), lv_wd]
      rintro e w1 ⟨mm, _, rfl, hn1, rfl⟩
      go_wp2
      go_ret
      exact ⟨_, mm, _, rfl, hn1, hB⟩

set_option maxHeartbeats 400000 in
/-- The product. -/
theorem rmul_calls (A B : Option Addr) (n m c d a b : Nat) (w : World) (ha : Nt w A n c a) (hb : Nt w B m d b) (hn : n ≤ 1000000000) (hm : m ≤ 1000000000) :
    Calls Tryz.prog 94 #[.slice A n c, .slice B m d] w fun e w' => ∃ A' n' c', e = .returned (.slice A' n' c') ∧ Nt w' A' n' c' (a * b) ∧ Ext w w' := by
  by_cases h : 0 < n ∧ 0 < m
  · exact rmul_walk A B n m c d a b w ha hb hn hm h.1 h.2
  · have h0 : a * b = 0 := by
      have e1 := ha.len
      have e2 := hb.len
      rcases Nat.eq_zero_or_pos n with h1 | h1
      · rw [h1] at e1; rw [wd_eq_nil.1 (List.eq_nil_of_length_eq_zero e1)]; simp
      · rw [show m = 0 by omega] at e2; rw [wd_eq_nil.1 (List.eq_nil_of_length_eq_zero e2)]; simp
    have hr : Nt w none 0 0 (a * b) := by rw [h0]; unfold Nt; rw [wd_zero]; exact Rd.nil _ _ _ _ (by omega)
    rcases Nat.eq_zero_or_pos n with h1 | h1
    · subst h1
      go_enter Tryz.func94, Tryz.ntmps94
      go_wp2
      go_ret
      exact ⟨none, 0, 0, rfl, hr, Ext.refl _⟩
    · have h2 : m = 0 := by omega
      subst h2
      have t1 : ((n : Int) == 0) = false := by simp; omega
      go_enter Tryz.func94, Tryz.ntmps94
      go_wp2
      go_ret
      exact ⟨none, 0, 0, rfl, hr, Ext.refl _⟩
end Go.Proofs.YtkljejejabikiaaGreatDoor

/- The walks of the reference's whole numbers (cuspref02), fifth part: up. -/
namespace Go.Proofs.YtkljejejabikiaaGreatDoor
open Go Go.RowKit Cusp

/-- A word shifted up with what went over before, in one number of 64 bits. -/
theorem up_word {x cc : Int} {r : Nat} (hr : r < 32) (h0 : 0 ≤ x) (h1 : x < 4294967296) (c0 : 0 ≤ cc) (c1 : cc < 2 ^ r) :
    bits .or .u64 (x * 2 ^ r) cc = x * 2 ^ r + cc ∧ 0 ≤ x * 2 ^ r ∧ x * 2 ^ r + cc < 18446744073709551616 ∧ (x * 2 ^ r + cc) % 4294967296 = x * 2 ^ r % 4294967296 + cc ∧ (x * 2 ^ r + cc) / 4294967296 = x * 2 ^ r / 4294967296 := by
  have hw := shl_word hr h0 h1 c0 c1
  obtain ⟨a, rfl⟩ := Int.eq_ofNat_of_zero_le h0
  obtain ⟨b, rfl⟩ := Int.eq_ofNat_of_zero_le c0
  have hcp : ((2 : Int) ^ r) = ((2 ^ r : Nat) : Int) := by rw [Int.natCast_pow]; rfl
  have hcast : ((a : Int) * 2 ^ r) = ((a * 2 ^ r : Nat) : Int) := by simp
  have hr31 : 2 ^ r ≤ 2 ^ 31 := Nat.pow_le_pow_right (by omega) (by omega)
  have hb : b < 2 ^ r := by exact_mod_cast c1
  have hbig : a * 2 ^ r ≤ 4294967295 * 2 ^ 31 := Nat.mul_le_mul (by omega) hr31
  rw [hcast] at hw ⊢
  have hor : bits .or .u64 ((a * 2 ^ r : Nat) : Int) (b : Int) = ((a * 2 ^ r : Nat) : Int) + b := by
    refine bits_join .u64 64 (by decide) (fun n h₀ h₁ => by rw [IntKind.wrap_u64]; omega) r _ _ (by omega) ?_ (by omega) (by omega) c1 (by omega)
    rw [hcp, ← Int.natCast_emod, Nat.mul_mod_left]; rfl
  refine ⟨hor, by omega, by omega, by omega, by omega⟩

set_option maxHeartbeats 2000000 in
set_option maxRecDepth 100000 in
theorem up_walk (A : Option Addr) (n c a K : Nat) (w : World) (ha : Nt w A n c a) (hn : n ≤ 1000000000) (hK : K ≤ 10000000000) (n0 : 0 < n) :
    Calls Tryz.prog 149 #[.slice A n c, .int .i64 (K : Int)] w fun e w' => ∃ A' n' c', e = .returned (.slice A' n' c') ∧ Nt w' A' n' c' (a * 2 ^ K) ∧ Ext w w' := by
  have L1 := Lib.hid ha.len
  have C1 := ha.cap
  have C2 := ha.big
  have t1 : ((n : Int) == 0) = false := by simp; omega
  obtain ⟨q, hq⟩ : ∃ q, q = K / 32 := ⟨_, rfl⟩
  obtain ⟨r, hr⟩ : ∃ r, r = K % 32 := ⟨_, rfl⟩
  have hmk := make_all (P := Tryz.prog) 42 71 .u32 4 Tryz.underlying42 info_u32 (by omega) q (by omega)
  rw [show ((q : Nat) : Int) = (K : Int) / 32 by omega] at hmk
  have hr32 : r < 32 := by omega
  have hq9 : q ≤ 400000000 := by omega
  have HQ := Lib.hid hq; clear hq
  have HR := Lib.hid hr; clear hr
  go_enter Tryz.func149, Tryz.ntmps149
  go_wp2
  go_loopw [5, 7, 8] (fun out cr i w' => ∃ (k : Nat) (l : List Int) (cc : Int), k ≤ n ∧ i = .int .i64 k ∧ cr = .int .u32 cc ∧ 0 ≤ cc ∧ cc < 2 ^ r ∧ Words l ∧ l.length = q + k ∧ lv l + 4294967296 ^ (q + k) * cc.toNat = 4294967296 ^ q * (2 ^ r * lv ((wd a).take k)) ∧
      Own w.heap.size w' 71 .u32 out l ∧ Below w.heap.size w w' ∧ w.heap.size ≤ w'.heap.size) (fun _ _ i _ => n - (intOf i).toNat)
  case atStart => exact ⟨0, List.replicate q 0, 0, by omega, rfl, rfl, by omega, Int.pow_pos (by omega), words_replicate _, by simp, by simp [lv_replicate, lv], own_made w _ _ _ _ (Nat.le_refl _) (by omega), (Below.refl _ _).alloc (Nat.le_refl _) _, by simp⟩
  case round =>
    obtain ⟨k, l, cc, hk, rfl, rfl, hc0, hc1, hwl, hlen, hlv, hO, hB, hsz⟩ := hrel
    have HL := Lib.hid hlv; clear hlv
    have HN := Lib.hid hlen; clear hlen
    have hcW : cc < 4294967296 := by
      have h31 : 2 ^ r ≤ 2 ^ 31 := Nat.pow_le_pow_right (by omega) (by omega)
      have hpw : ((2 : Int) ^ r) = ((2 ^ r : Nat) : Int) := by rw [Int.natCast_pow]; rfl
      rw [hpw] at hc1
      omega
    have HC := Lib.hid hc1; clear hc1
    by_cases hlt : k < n
    · obtain ⟨b1, o1, rfl, x1⟩ := (ha.ext (w' := wr) hB).at_ k hlt
      have r1 := ix_words (words_wd a) k
      go_wp2_with (at_builtin; refine append_one (w0 := w) w.heap.size rfl _ _ 42 4 rfl Tryz.underlying42 info_u32 (by omega) _ l rfl rfl hO hB hsz ?c1 ?_)
      case c1 => rw [HN.out]; omega
      intro v1 w1 hO1 hB1 hsz1 _ _
      have HS := Lib.hid (shl_step hr32 (words_wd a) hc0 HC.out HN.out HL.out)
      have hw0 := shl_word hr32 r1.1 r1.2 hc0 HC.out
      have hu0 := up_word hr32 r1.1 r1.2 hc0 HC.out
      have hpr : (2 : Int) ^ r ≤ 4294967296 := by
        have h31 : 2 ^ r ≤ 2 ^ 31 := Nat.pow_le_pow_right (by omega) (by omega)
        rw [show ((2 : Int) ^ r) = ((2 ^ r : Nat) : Int) by rw [Int.natCast_pow]; rfl]
        omega
      have ht : bits .or .u64 (IntKind.u64.wrap (ix (wd a) k * 2 ^ r)) cc = ix (wd a) k * 2 ^ r + cc := by
        have hlow : IntKind.u64.wrap (ix (wd a) k * 2 ^ r) = ix (wd a) k * 2 ^ r := by
          rw [IntKind.wrap_u64]
          have h1 := hu0.2.1
          have h2 := hu0.2.2.1
          generalize ix (wd a) k * 2 ^ r = X at h1 h2 ⊢
          omega
        rw [hlow]; exact hu0.1
      have hcar : (ix (wd a) k * 2 ^ r + cc) / 4294967296 % 4294967296 = ix (wd a) k * 2 ^ r / 4294967296 := by
        rw [hu0.2.2.2.2]
        have h1 := hw0.2.2.2.2.1
        have h2 := hw0.2.2.2.2.2
        generalize ix (wd a) k * 2 ^ r / 4294967296 = X at h1 h2 ⊢
        omega
      rw [← HR.out, ht, hu0.2.2.2.1] at hO1
      have HT := Lib.hid ht
      have HCR := Lib.hid hcar
      have HW := Lib.hid hw0
      clear hw0 hu0 ht hcar hpr
      go_wp2
      go_roundw
      case rel => exact ⟨k + 1, _, _, by omega, by go_num, by rw [← HR.out]; exact int_int (by rw [HT.out, HCR.out]), HW.out.2.2.2.2.1, HW.out.2.2.2.2.2, words_snoc hwl HW.out.2.1 HW.out.2.2.1, by simp [HN.out]; omega, HS.out, hO1, hB1, hsz1⟩
      case measure => simp [intOf]; omega
    · have hkn : k = n := by omega
      subst hkn
      go_wp2_with (at_builtin; refine append_one (w0 := w) w.heap.size rfl _ _ 42 4 rfl Tryz.underlying42 info_u32 (by omega) _ l rfl rfl hO hB hsz ?c2 ?_)
      case c2 => rw [HN.out]; omega
      intro v1 w1 hO1 hB1 hsz1 _ _
      obtain ⟨A1, n1, c1, hv, hr1⟩ := hO1.formN
      subst hv
      go_wp2_with fail
      refine (rtrim_nt A1 n1 c1 (a * 2 ^ K) _ _ hr1 (words_snoc hwl hc0 hcW) ?_).mono ?_
      · rw [lv_snoc, HN.out, HL.out, lv_take_all _ (by rw [L1.out]; omega), lv_wd]
        have hK2 : K = 32 * q + r := by rw [HQ.out, HR.out]; omega
        rw [hK2, Nat.pow_add, Nat.pow_mul, show (2 : Nat) ^ 32 = 4294967296 by decide, ← Nat.mul_assoc, Nat.mul_comm]
      rintro e w2 ⟨mm, _, rfl, hn1, rfl⟩
      go_wp2
      go_ret
      exact ⟨A1, mm, c1, rfl, hn1, hB1⟩

set_option maxHeartbeats 400000 in
/-- Shifted up. -/
theorem up_calls (A : Option Addr) (n c a K : Nat) (w : World) (ha : Nt w A n c a) (hn : n ≤ 1000000000) (hK : K ≤ 10000000000) :
    Calls Tryz.prog 149 #[.slice A n c, .int .i64 (K : Int)] w fun e w' => ∃ A' n' c', e = .returned (.slice A' n' c') ∧ Nt w' A' n' c' (a * 2 ^ K) ∧ Ext w w' := by
  rcases Nat.eq_zero_or_pos n with h | h
  · subst h
    have h0 : a = 0 := wd_eq_nil.1 (List.eq_nil_of_length_eq_zero ha.len)
    have hr : Nt w none 0 0 (a * 2 ^ K) := by rw [h0, Nat.zero_mul]; unfold Nt; rw [wd_zero]; exact Rd.nil _ _ _ _ (by omega)
    go_enter Tryz.func149, Tryz.ntmps149
    go_wp2
    go_ret
    exact ⟨none, 0, 0, rfl, hr, Ext.refl _⟩
  · exact up_walk A n c a K w ha hn hK h
end Go.Proofs.YtkljejejabikiaaGreatDoor

/- The walks of the reference's whole numbers (cuspref02), sixth part: down. -/
namespace Go.Proofs.YtkljejejabikiaaGreatDoor
open Go Go.RowKit Cusp

theorem mod_two_pow_split (L D r q : Nat) (hL : L < 2 ^ q) : (L + 2 ^ q * D) % 2 ^ (q + r) = L + 2 ^ q * (D % 2 ^ r) := by
  rw [Nat.pow_add, Nat.mod_mul, Nat.add_mul_mod_self_left, Nat.mod_eq_of_lt hL, Nat.add_mul_div_left _ _ (Nat.two_pow_pos q), Nat.div_eq_of_lt hL, Nat.zero_add]

/-- What is lost: the words below, and the low part of the next one. -/
theorem down_exact {a q r : Nat} (hr : r < 32) (hq : q ≤ (wd a).length) : a % 2 ^ (32 * q + r) = 0 ↔ lv ((wd a).take q) = 0 ∧ (ix (wd a) q).toNat % 2 ^ r = 0 := by
  have h1 := lv_drop (wd a) q hq
  rw [lv_wd] at h1
  have h2 := lv_take_lt (words_wd a) q
  have e32 : (4294967296 : Nat) ^ q = 2 ^ (32 * q) := by rw [Nat.pow_mul]
  rw [e32] at h1 h2
  have h3 := mod_two_pow_split (lv ((wd a).take q)) (lv ((wd a).drop q)) r (32 * q) h2
  rw [← h1] at h3
  have h4 : lv ((wd a).drop q) % 2 ^ r = (ix (wd a) q).toNat % 2 ^ r := by
    rw [lv_drop_step, two_pow_split hr, Nat.mul_comm (2 ^ (32 - r)), Nat.mul_assoc, Nat.add_mul_mod_self_left]
  rw [h3, h4]
  have hp : 0 < 2 ^ (32 * q) := Nat.two_pow_pos _
  constructor
  · intro h
    refine ⟨by omega, ?_⟩
    rcases Nat.eq_zero_or_pos ((ix (wd a) q).toNat % 2 ^ r) with h5 | h5
    · exact h5
    · have := Nat.mul_pos hp h5
      omega
  · rintro ⟨h5, h6⟩
    rw [h5, h6]; simp

theorem and_low32 {x r : Nat} (hr : r < 32) (hx : x < 4294967296) : bits .and .u32 (x : Int) (((2 : Int) ^ r - 1) % 4294967296) = ((x % 2 ^ r : Nat) : Int) := by
  have hr31 : 2 ^ r ≤ 2 ^ 31 := Nat.pow_le_pow_right (by omega) (by omega)
  have hp : 0 < 2 ^ r := Nat.two_pow_pos r
  have hcp : ((2 : Int) ^ r) = ((2 ^ r : Nat) : Int) := by rw [Int.natCast_pow]; rfl
  have e : ((2 : Int) ^ r - 1) % 4294967296 = ((2 ^ r - 1 : Nat) : Int) := by rw [hcp]; omega
  rw [e]
  have h := @u32_and (x : Int) ((2 ^ r - 1 : Nat) : Int) (by omega) (by omega) (by omega) (by omega)
  rw [h, Int.toNat_natCast, Int.toNat_natCast, Nat.and_two_pow_sub_one_eq_mod]

set_option maxHeartbeats 2000000 in
set_option maxRecDepth 100000 in
theorem down_walk (A : Option Addr) (n c a K : Nat) (w : World) (ha : Nt w A n c a) (hn : n ≤ 1000000000) (hK : K ≤ 10000000000) (n0 : K / 32 < n) :
    Calls Tryz.prog 161 #[.slice A n c, .int .i64 (K : Int)] w fun e w' => ∃ A' n' c', e = .returned (.tuple #[.slice A' n' c', .bool (a % 2 ^ K == 0)]) ∧ Nt w' A' n' c' (a / 2 ^ K) ∧ Ext w w' := by
  have L1 := Lib.hid ha.len
  have C1 := ha.cap
  have C2 := ha.big
  obtain ⟨q, hq⟩ : ∃ q, q = K / 32 := ⟨_, rfl⟩
  obtain ⟨r, hr⟩ : ∃ r, r = K % 32 := ⟨_, rfl⟩
  have hq1 : q < n := by omega
  have hr32 : r < 32 := by omega
  have hqi : (K : Int) / 32 = (q : Int) := by omega
  have HQ := Lib.hid hq; clear hq
  have HR := Lib.hid hr; clear hr
  go_enter Tryz.func161, Tryz.ntmps161
  go_wp2
  go_loop [6, 7] (fun ex i => ∃ (k : Nat) (b : Bool), k ≤ q ∧ i = .int .i64 k ∧ ex = .bool b ∧ (b = true ↔ lv ((wd a).take k) = 0)) (fun _ i => q - (intOf i).toNat)
  case atStart => exact ⟨0, true, by omega, rfl, rfl, by simp [lv]⟩
  case round =>
    obtain ⟨k, b, hk, rfl, rfl, hb⟩ := hrel
    have HB := Lib.hid hb
    clear hb
    obtain ⟨b1, o1, rfl, x1⟩ := ha.at_ k (by omega)
    by_cases hlt : k < q
    · have hkn : (k : Int) < n := by omega
      cases b with
      | true =>
        by_cases hz : ix (wd a) k = 0
        · have z1 : (ix (wd a) k == 0) = true := by simpa using hz
          have HZ := Lib.hid hz
          clear hz
          go_wp2
          go_round
          case rel => exact ⟨k + 1, true, by omega, by go_num, rfl, by rw [lv_take_succ, HZ.out]; simpa using HB.out⟩
          case measure => simp [intOf]; omega
        · have z1 : (ix (wd a) k == 0) = false := by simpa using hz
          have HZ := Lib.hid hz
          clear hz
          go_wp2
          go_round
          case rel =>
            refine ⟨k + 1, false, by omega, by go_num, rfl, ?_⟩
            rw [lv_take_succ]
            have r1 := ix_words (words_wd a) k
            have := HZ.out
            have hp := Nat.mul_pos (Nat.pow_pos (n := k) (show 0 < 4294967296 by omega)) (show 0 < (ix (wd a) k).toNat by omega)
            simp; omega
          case measure => simp [intOf]; omega
      | false =>
        go_wp2
        go_round
        case rel =>
          refine ⟨k + 1, false, by omega, by go_num, rfl, ?_⟩
          rw [lv_take_succ]
          have := HB.out
          simp at this ⊢
          omega
        case measure => simp [intOf]; omega
    · have hkq : k = q := by omega
      subst hkq
      have r1 := ix_words (words_wd a) k
      obtain ⟨T, hT⟩ := Int.eq_ofNat_of_zero_le r1.1
      rw [hT] at x1 r1
      have HT := Lib.hid hT
      clear hT
      have hkn : (k : Int) < n := by omega
      have hK2 : K = 32 * k + r := by rw [HQ.out, HR.out]; omega
      have hex := down_exact (a := a) hr32 (q := k) (by rw [L1.out]; omega)
      rw [← hK2, HT.out] at hex
      have hDl : (wd a).length - k = n - k := by rw [L1.out]
      obtain ⟨fb, hfb⟩ : ∃ fb : Bool, fb = (a % 2 ^ K == 0) := ⟨_, rfl⟩
      obtain ⟨n2, hn2⟩ : ∃ n2, n2 = n - k := ⟨_, rfl⟩
      have hn20 : 0 < n2 := by omega
      have hnk : n = k + n2 := by omega
      have hDw := words_drop (words_wd a) k
      have DL := Lib.hid (show ((wd a).drop k).length = n2 by rw [List.length_drop, L1.out, hn2])
      have HFB := Lib.hid hfb
      have HN2 := Lib.hid hnk
      have hn9 : k + n2 ≤ 1000000000 := by omega
      clear hDl hn2 hnk
      have hpre : b = true → (bits BinOp.and IntKind.u32 (T : Int) (((2 : Int) ^ (K % 32) - 1) % 4294967296) == 0) = fb := by
        intro hbt
        rw [← HR.out, and_low32 hr32 (by omega), hfb, Bool.eq_iff_iff, beq_iff_eq, beq_iff_eq, hex]
        have := HB.out.1 hbt
        rw [show ((T : Int)).toNat = T from rfl]
        constructor
        · intro h; exact ⟨this, by omega⟩
        · rintro ⟨_, h⟩; rw [h]; rfl
      have hpre2 : b = false → fb = false := by
        intro hbf
        rw [hfb, beq_eq_false_iff_ne]
        intro h0
        have := HB.out.2 (hex.1 h0).1
        rw [hbf] at this; cases this
      have HK2 := Lib.hid hK2
      clear hfb hex hK2
      cases b with
      | true =>
        have hp := hpre rfl
        clear hpre hpre2
        go_wp2
        clear hp
        go_loopw [9, 10] (fun out i w' => ∃ (j : Nat) (l : List Int), j ≤ n2 ∧ i = .int .i64 ((k : Int) + (j : Int)) ∧ Words l ∧ l.length = j ∧ lv l = lv ((wd a).drop k) / 2 ^ r % 4294967296 ^ j ∧
            Own w.heap.size w' 71 .u32 out l ∧ Below w.heap.size w w' ∧ w.heap.size ≤ w'.heap.size) (fun _ i _ => k + n2 - (intOf i).toNat)
        case atStart => exact ⟨0, [], by omega, by go_num, words_nil, rfl, by simp [lv, Nat.mod_one], Own.nil _ _ _ _, Below.refl _ _, Nat.le_refl _⟩
        case round =>
          obtain ⟨j, l, hj, rfl, hwl, hlen, hlv, hO, hB, hsz⟩ := hrel
          have HL := Lib.hid hlv; clear hlv
          have HN := Lib.hid hlen; clear hlen
          have hnn : n = k + n2 := HN2.out
          have hi0 : (0 : Int) ≤ (k : Int) + (j : Int) := by omega
          have hidx : ((k : Int) + (j : Int)).toNat = k + j := by omega
          by_cases hlt2 : j < n2
          · have hkj : (k : Int) + (j : Int) < (n : Int) := by omega
            obtain ⟨b3, o3, hA3, y1⟩ := (ha.ext (w' := wr) hB).at_ (k + j) (by omega)
            cases hA3
            rw [← ix_drop] at y1
            have q1 := ix_words hDw j
            have q2 := ix_words hDw (j + 1)
            by_cases hj1 : j + 1 < n2
            · have hkj1 : (k : Int) + (j : Int) + 1 < (n : Int) := by omega
              obtain ⟨b4, o4, hA4, y2⟩ := (ha.ext (w' := wr) hB).at_ (k + (j + 1)) (by omega)
              cases hA4
              rw [← ix_drop] at y2
              have hidx1 : ((k : Int) + (j : Int) + 1).toNat = k + (j + 1) := by omega
              clear hnn
              go_wp2_with (at_builtin; refine append_one (w0 := w) w.heap.size rfl _ _ 42 4 rfl Tryz.underlying42 info_u32 (by omega) _ l rfl rfl hO hB hsz ?c1 ?_)
              case c1 => rw [HN.out]; omega
              intro v1 w1 hO1 hB1 hsz1 _ _
              rw [← HR.out, or_high q1.1 q1.2 q2.1 q2.2] at hO1
              have hs := shr_step hDw hr32 HN.out HL.out (k := j) rfl
              have HS := Lib.hid hs; clear hs
              go_wp2
              go_roundw
              case rel => exact ⟨j + 1, _, by omega, by go_num, words_snoc hwl HS.out.2.1 HS.out.2.2, by simp [HN.out], HS.out.1, hO1, hB1, hsz1⟩
              case measure => simp [intOf]; omega
            · have hkj1 : ¬ (k : Int) + (j : Int) + 1 < (n : Int) := by omega
              have hz : ix ((wd a).drop k) (j + 1) = 0 := ix_of_ge (by rw [DL.out]; omega)
              have HZ := Lib.hid hz; clear hz hnn
              go_wp2_with (at_builtin; refine append_one (w0 := w) w.heap.size rfl _ _ 42 4 rfl Tryz.underlying42 info_u32 (by omega) _ l rfl rfl hO hB hsz ?c2 ?_)
              case c2 => rw [HN.out]; omega
              intro v1 w1 hO1 hB1 hsz1 _ _
              rw [← HR.out] at hO1
              have hs := shr_step hDw hr32 HN.out HL.out (k := j) rfl
              rw [HZ.out, Int.mul_zero, Int.add_zero] at hs
              have HS := Lib.hid hs; clear hs
              go_wp2
              go_roundw
              case rel => exact ⟨j + 1, _, by omega, by go_num, words_snoc hwl HS.out.2.1 HS.out.2.2, by simp [HN.out], HS.out.1, hO1, hB1, hsz1⟩
              case measure => simp [intOf]; omega
          · have hjn : j = n2 := by omega
            subst hjn
            have hkj : ¬ (k : Int) + (j : Int) < (n : Int) := by omega
            clear hnn
            obtain ⟨A2, n3, c3, hv, hr1⟩ := hO.formN
            subst hv
            go_wp2_with fail
            refine (rtrim_nt A2 n3 c3 (a / 2 ^ K) _ _ hr1 hwl ?_).mono ?_
            · have hlt3 : lv ((wd a).drop k) / 2 ^ r < 4294967296 ^ j := by
                have h1 := lv_lt hDw
                rw [DL.out] at h1
                exact Nat.lt_of_le_of_lt (Nat.div_le_self _ _) h1
              rw [HL.out, Nat.mod_eq_of_lt hlt3, ← lv_div (words_wd a), lv_wd, Nat.div_div_eq_div_mul]
              rw [HK2.out, Nat.pow_add, Nat.pow_mul, show (2 : Nat) ^ 32 = 4294967296 by decide]
            rintro e w2 ⟨mm, _, rfl, hn1, rfl⟩
            go_wp2
            go_ret2
            exact ⟨A2, mm, c3, by rw [← HFB.out]; rfl, hn1, hB⟩
      | false =>
        obtain rfl := hpre2 rfl
        clear hpre hpre2
        go_wp2
        go_loopw [9, 10] (fun out i w' => ∃ (j : Nat) (l : List Int), j ≤ n2 ∧ i = .int .i64 ((k : Int) + (j : Int)) ∧ Words l ∧ l.length = j ∧ lv l = lv ((wd a).drop k) / 2 ^ r % 4294967296 ^ j ∧
            Own w.heap.size w' 71 .u32 out l ∧ Below w.heap.size w w' ∧ w.heap.size ≤ w'.heap.size) (fun _ i _ => k + n2 - (intOf i).toNat)
        case atStart => exact ⟨0, [], by omega, by go_num, words_nil, rfl, by simp [lv, Nat.mod_one], Own.nil _ _ _ _, Below.refl _ _, Nat.le_refl _⟩
        case round =>
          obtain ⟨j, l, hj, rfl, hwl, hlen, hlv, hO, hB, hsz⟩ := hrel
          have HL := Lib.hid hlv; clear hlv
          have HN := Lib.hid hlen; clear hlen
          have hnn : n = k + n2 := HN2.out
          have hi0 : (0 : Int) ≤ (k : Int) + (j : Int) := by omega
          have hidx : ((k : Int) + (j : Int)).toNat = k + j := by omega
          by_cases hlt2 : j < n2
          · have hkj : (k : Int) + (j : Int) < (n : Int) := by omega
            obtain ⟨b3, o3, hA3, y1⟩ := (ha.ext (w' := wr) hB).at_ (k + j) (by omega)
            cases hA3
            rw [← ix_drop] at y1
            have q1 := ix_words hDw j
            have q2 := ix_words hDw (j + 1)
            by_cases hj1 : j + 1 < n2
            · have hkj1 : (k : Int) + (j : Int) + 1 < (n : Int) := by omega
              obtain ⟨b4, o4, hA4, y2⟩ := (ha.ext (w' := wr) hB).at_ (k + (j + 1)) (by omega)
              cases hA4
              rw [← ix_drop] at y2
              have hidx1 : ((k : Int) + (j : Int) + 1).toNat = k + (j + 1) := by omega
              clear hnn
              go_wp2_with (at_builtin; refine append_one (w0 := w) w.heap.size rfl _ _ 42 4 rfl Tryz.underlying42 info_u32 (by omega) _ l rfl rfl hO hB hsz ?c1 ?_)
              case c1 => rw [HN.out]; omega
              intro v1 w1 hO1 hB1 hsz1 _ _
              rw [← HR.out, or_high q1.1 q1.2 q2.1 q2.2] at hO1
              have hs := shr_step hDw hr32 HN.out HL.out (k := j) rfl
              have HS := Lib.hid hs; clear hs
              go_wp2
              go_roundw
              case rel => exact ⟨j + 1, _, by omega, by go_num, words_snoc hwl HS.out.2.1 HS.out.2.2, by simp [HN.out], HS.out.1, hO1, hB1, hsz1⟩
              case measure => simp [intOf]; omega
            · have hkj1 : ¬ (k : Int) + (j : Int) + 1 < (n : Int) := by omega
              have hz : ix ((wd a).drop k) (j + 1) = 0 := ix_of_ge (by rw [DL.out]; omega)
              have HZ := Lib.hid hz; clear hz hnn
              go_wp2_with (at_builtin; refine append_one (w0 := w) w.heap.size rfl _ _ 42 4 rfl Tryz.underlying42 info_u32 (by omega) _ l rfl rfl hO hB hsz ?c2 ?_)
              case c2 => rw [HN.out]; omega
              intro v1 w1 hO1 hB1 hsz1 _ _
              rw [← HR.out] at hO1
              have hs := shr_step hDw hr32 HN.out HL.out (k := j) rfl
              rw [HZ.out, Int.mul_zero, Int.add_zero] at hs
              have HS := Lib.hid hs; clear hs
              go_wp2
              go_roundw
              case rel => exact ⟨j + 1, _, by omega, by go_num, words_snoc hwl HS.out.2.1 HS.out.2.2, by simp [HN.out], HS.out.1, hO1, hB1, hsz1⟩
              case measure => simp [intOf]; omega
          · have hjn : j = n2 := by omega
            subst hjn
            have hkj : ¬ (k : Int) + (j : Int) < (n : Int) := by omega
            clear hnn
            obtain ⟨A2, n3, c3, hv, hr1⟩ := hO.formN
            subst hv
            go_wp2_with fail
            refine (rtrim_nt A2 n3 c3 (a / 2 ^ K) _ _ hr1 hwl ?_).mono ?_
            · have hlt3 : lv ((wd a).drop k) / 2 ^ r < 4294967296 ^ j := by
                have h1 := lv_lt hDw
                rw [DL.out] at h1
                exact Nat.lt_of_le_of_lt (Nat.div_le_self _ _) h1
              rw [HL.out, Nat.mod_eq_of_lt hlt3, ← lv_div (words_wd a), lv_wd, Nat.div_div_eq_div_mul]
              rw [HK2.out, Nat.pow_add, Nat.pow_mul, show (2 : Nat) ^ 32 = 4294967296 by decide]
            rintro e w2 ⟨mm, _, rfl, hn1, rfl⟩
            go_wp2
            go_ret2
            exact ⟨A2, mm, c3, by rw [← HFB.out]; rfl, hn1, hB⟩

set_option maxHeartbeats 1000000 in
set_option maxRecDepth 100000 in
/-- Shifted down, cut; whether nothing was lost. -/
theorem down_calls (A : Option Addr) (n c a K : Nat) (w : World) (ha : Nt w A n c a) (hn : n ≤ 1000000000) (hK : K ≤ 10000000000) :
    Calls Tryz.prog 161 #[.slice A n c, .int .i64 (K : Int)] w fun e w' => ∃ A' n' c', e = .returned (.tuple #[.slice A' n' c', .bool (a % 2 ^ K == 0)]) ∧ Nt w' A' n' c' (a / 2 ^ K) ∧ Ext w w' := by
  by_cases h : K / 32 < n
  · exact down_walk A n c a K w ha hn hK h
  · have L1 := Lib.hid ha.len
    have C1 := ha.cap
    have C2 := ha.big
    have hlt : a < 2 ^ K := by
      have h1 := lv_lt (words_wd a)
      rw [lv_wd, ha.len] at h1
      have h2 : (4294967296 : Nat) ^ n ≤ 2 ^ K := by
        rw [show (4294967296 : Nat) = 2 ^ 32 by decide, ← Nat.pow_mul]
        exact Nat.pow_le_pow_right (by omega) (by omega)
      omega
    have h0 : a / 2 ^ K = 0 := Nat.div_eq_of_lt hlt
    have hr : Nt w none 0 0 (a / 2 ^ K) := by rw [h0]; unfold Nt; rw [wd_zero]; exact Rd.nil _ _ _ _ (by omega)
    have hm := Lib.hid (Nat.mod_eq_of_lt hlt)
    clear h0 hlt
    obtain ⟨q, hq⟩ : ∃ q, q = K / 32 := ⟨_, rfl⟩
    have hqn : n ≤ q := by omega
    have hqi : (K : Int) / 32 = (q : Int) := by omega
    clear hq h
    go_enter Tryz.func161, Tryz.ntmps161
    go_wp2
    go_loop [6, 7] (fun ex i => ∃ (k : Nat) (b : Bool), k ≤ n ∧ i = .int .i64 k ∧ ex = .bool b ∧ (b = true ↔ lv ((wd a).take k) = 0)) (fun _ i => n - (intOf i).toNat)
    case atStart => exact ⟨0, true, by omega, rfl, rfl, by simp [lv]⟩
    case round =>
      obtain ⟨k, b, hk, rfl, rfl, hb⟩ := hrel
      have HB := Lib.hid hb
      clear hb
      by_cases hlt : k < n
      · obtain ⟨b1, o1, rfl, x1⟩ := ha.at_ k (by omega)
        have hkn : (k : Int) < q := by omega
        cases b with
        | true =>
          by_cases hz : ix (wd a) k = 0
          · have z1 : (ix (wd a) k == 0) = true := by simpa using hz
            have HZ := Lib.hid hz
            clear hz
            go_wp2
            go_round
            case rel => exact ⟨k + 1, true, by omega, by go_num, rfl, by rw [lv_take_succ, HZ.out]; simpa using HB.out⟩
            case measure => simp [intOf]; omega
          · have z1 : (ix (wd a) k == 0) = false := by simpa using hz
            have HZ := Lib.hid hz
            clear hz
            go_wp2
            go_round
            case rel =>
              refine ⟨k + 1, false, by omega, by go_num, rfl, ?_⟩
              rw [lv_take_succ]
              have r1 := ix_words (words_wd a) k
              have := HZ.out
              have hp := Nat.mul_pos (Nat.pow_pos (n := k) (show 0 < 4294967296 by omega)) (show 0 < (ix (wd a) k).toNat by omega)
              simp; omega
            case measure => simp [intOf]; omega
        | false =>
          go_wp2
          go_round
          case rel =>
            refine ⟨k + 1, false, by omega, by go_num, rfl, ?_⟩
            rw [lv_take_succ]
            have := HB.out
            simp at this ⊢
            omega
          case measure => simp [intOf]; omega
      · have hkn : k = n := by omega
        subst hkn
        have hle : ¬ (k : Int) < k := by omega
        have hge : (k : Int) ≤ q := by omega
        go_wp2
        go_ret2
        refine ⟨none, 0, 0, ?_, hr, Ext.refl _⟩
        have hb : b = (a % 2 ^ K == 0) := by
          rw [hm.out, Bool.eq_iff_iff, beq_iff_eq, HB.out, lv_take_all _ (by rw [L1.out]; omega), lv_wd]
        rw [hb]; rfl
end Go.Proofs.YtkljejejabikiaaGreatDoor

/- The reference's numbers (cuspref02.Num): what lies in memory; norm. -/
namespace Go.Proofs.YtkljejejabikiaaGreatDoor
open Go Go.RowKit Cusp

/-- A Num that lies at block g, to be written. -/
structure NmAt (w : World) (g : Nat) (s : Bool) (A : Option Addr) (n c : Nat) (e : Int) : Prop where
  c0 : w.cell? ⟨g, 0, none⟩ = some (.bool s)
  c1 : w.cell? ⟨g, 1, none⟩ = some (.slice A n c)
  c2 : w.cell? ⟨g, 2, none⟩ = some (.int .i64 e)
  f0 : w.frozen? ⟨g, 0, none⟩ = false
  f1 : w.frozen? ⟨g, 1, none⟩ = false
  f2 : w.frozen? ⟨g, 2, none⟩ = false
section
variable {w w' : World} {g n c : Nat} {s : Bool} {A : Option Addr} {e : Int}
theorem NmAt.ext (h : NmAt w g s A n c e) (k : Ext w w') : NmAt w' g s A n c e :=
  ⟨k.cell h.c0, k.cell h.c1, k.cell h.c2, (k.frozen h.c0).trans h.f0, (k.frozen h.c1).trans h.f1, (k.frozen h.c2).trans h.f2⟩
theorem NmAt.lt (h : NmAt w g s A n c e) : g < w.heap.size := World.block_lt_of_cell? _ _ h.c0
theorem na_ne (g i j : Nat) (h : i ≠ j) : (⟨g, i, none⟩ : Addr) ≠ ⟨g, j, none⟩ := by intro e; injection e with _ e; exact h e
theorem nmAt_new (w : World) (t : TypeId) (s : Bool) (A : Option Addr) (n c : Nat) (e : Int) : NmAt (w.alloc (.cells #[.bool s, .slice A n c, .int .i64 e] t)) w.heap.size s A n c e := by
  refine ⟨cell_new w _ _ 0 _ rfl, cell_new w _ _ 1 _ rfl, cell_new w _ _ 2 _ rfl, ?_, ?_, ?_⟩
  all_goals (simp only [World.frozen?, heap_alloc_new]; rfl)
theorem NmAt.far (h : NmAt w g s A n c e) (p : Addr) (v : Value) (hp : p.block ≠ g) : NmAt (w.setCell p v) g s A n c e := by
  have hn : ∀ i, p ≠ (⟨g, i, none⟩ : Addr) := fun i e => hp (by rw [e])
  refine ⟨?_, ?_, ?_, ?_, ?_, ?_⟩
  all_goals first | (rw [World.cell?_setCell_other _ _ _ _ (hn _)]) | (rw [World.frozen?_setCell])
  all_goals first | exact h.c0 | exact h.c1 | exact h.c2 | exact h.f0 | exact h.f1 | exact h.f2
/-- All three cells stored. -/
theorem NmAt.all (h : NmAt w g s A n c e) (s' : Bool) (A' : Option Addr) (n' c' : Nat) (e' : Int) :
    NmAt (((w.setCell ⟨g, 0, none⟩ (.bool s')).setCell ⟨g, 1, none⟩ (.slice A' n' c')).setCell ⟨g, 2, none⟩ (.int .i64 e')) g s' A' n' c' e' := by
  have h3 := set3 w g (.bool s') (.slice A' n' c') (.int .i64 e') h.c0 h.c1 h.c2
  refine ⟨h3.1, h3.2.1, h3.2.2, ?_, ?_, ?_⟩
  all_goals rw [World.frozen?_setCell, World.frozen?_setCell, World.frozen?_setCell]
  · exact h.f0
  · exact h.f1
  · exact h.f2
theorem NmAt.far3 (h : NmAt w g s A n c e) {g' : Nat} (hg : g' ≠ g) (v0 v1 v2 : Value) :
    NmAt (((w.setCell ⟨g', 0, none⟩ v0).setCell ⟨g', 1, none⟩ v1).setCell ⟨g', 2, none⟩ v2) g s A n c e := ((h.far _ _ hg).far _ _ hg).far _ _ hg
theorem NmAt.nt (h : NmAt w g s A n c e) {B : Option Addr} {m d b : Nat} (k : Nt w B m d b) (v0 v1 v2 : Value) :
    Nt (((w.setCell ⟨g, 0, none⟩ v0).setCell ⟨g, 1, none⟩ v1).setCell ⟨g, 2, none⟩ v2) B m d b :=
  set3_nt k g v0 v1 v2 h.c0 h.c1 h.c2 (by intro y h; cases h) (by intro y h; cases h) (by intro y h; cases h)
end

set_option maxRecDepth 100000 in
theorem load_rn (w : World) (g : Nat) (s : Bool) (A : Option Addr) (n c : Nat) (e : Int) (h : NmAt w g s A n c e) :
    (loadVar 44 ⟨g, 0, none⟩).run Tryz.prog w = .ok (dyn s A n c e) w := by
  have hu := Tryz.underlying44
  have c0 := h.c0
  have c1 := h.c1
  have c2 := h.c2
  unfold dyn
  go_simp
theorem results_rn {fn : Func} {p : Tmp} (h : fn.results = #[.cell p 44]) (tmps : Array Value) (w : World) (g : Nat) (s : Bool) (A : Option Addr) (n c : Nat) (e : Int) (hp : tmps.getD p undef = .pointer (some ⟨g, 0, none⟩))
    (ha : NmAt w g s A n c e) : (results fn tmps).run Tryz.prog w = .ok (dyn s A n c e) w := by
  have hp' : tmps[p]?.getD undef = .pointer (some ⟨g, 0, none⟩) := by simpa using hp
  simp [results, h, hp', asAddr, load_rn w g s A n c e ha]

/-- A whole number with a sign. -/
def sN (s : Bool) (N : Nat) : Int := if s = true then -(N : Int) else (N : Int)
theorem sN_zero (s : Bool) : sN s 0 = 0 := by cases s <;> rfl
/-- A value that is the number x times 2^k: an odd number, times a power of two; nought is nought times 1. -/
structure Nm (w : World) (x k : Int) (s : Bool) (A : Option Addr) (n c : Nat) (e : Int) : Prop where
  ex : ∃ m : Nat, Nt w A n c m ∧ ((m = 0 ∧ x = 0 ∧ s = false ∧ e = 0) ∨ (m % 2 = 1 ∧ ∃ t : Nat, x = sN s (m * 2 ^ t) ∧ e = k + t))
theorem Nm.ext {w w' : World} {x k e : Int} {s : Bool} {A : Option Addr} {n c : Nat} (h : Nm w x k s A n c e) (hx : Ext w w') : Nm w' x k s A n c e := by
  obtain ⟨m, h1, h2⟩ := h.ex
  exact ⟨m, h1.ext hx, h2⟩
theorem nm_zero (w : World) (k : Int) (A : Option Addr) (c : Nat) (hc : c ≤ 9223372036854775807) : Nm w 0 k false A 0 c 0 :=
  ⟨0, by unfold Nt; rw [wd_zero]; exact Rd.nil _ _ _ _ hc, .inl ⟨rfl, rfl, rfl, rfl⟩⟩

theorem bit_at {a j : Nat} : (ix (wd a) (j / 32)).toNat / 2 ^ (j % 32) % 2 = a / 2 ^ j % 2 := by
  have h1 := lv_div (words_wd a) (j / 32)
  rw [lv_wd, show (4294967296 : Nat) = 2 ^ 32 by decide, ← Nat.pow_mul, lv_drop_step] at h1
  have h2 : a / 2 ^ j = a / 2 ^ (32 * (j / 32)) / 2 ^ (j % 32) := by
    rw [Nat.div_div_eq_div_mul, ← Nat.pow_add]; congr 2; omega
  rw [h2, h1]
  generalize lv (List.drop (j / 32 + 1) (wd a)) = Y
  have hr : j % 32 < 32 := by omega
  obtain ⟨r, hr'⟩ : ∃ r, r = j % 32 := ⟨_, rfl⟩
  rw [← hr'] at hr ⊢
  obtain ⟨d, hd⟩ : ∃ d, 32 = r + (d + 1) := ⟨31 - r, by omega⟩
  rw [show (4294967296 : Nat) = 2 ^ 32 by decide, hd, Nat.pow_add, Nat.mul_assoc, Nat.add_mul_div_left _ _ (Nat.two_pow_pos r), Nat.pow_succ, Nat.mul_comm (2 ^ d), Nat.mul_assoc, Nat.add_mul_mod_self_left]
theorem mod_next {a j : Nat} (h : a % 2 ^ j = 0) (hb : a / 2 ^ j % 2 = 0) : a % 2 ^ (j + 1) = 0 := by
  rw [Nat.pow_succ, Nat.mod_mul, h, hb]; simp
theorem lt_bl_of_mod {a j : Nat} (ha : a ≠ 0) (h : a % 2 ^ j = 0) : j < bl a := by
  apply bl_ge_of_le
  exact Nat.le_of_dvd (by omega) (Nat.dvd_of_mod_eq_zero h)
end Go.Proofs.YtkljejejabikiaaGreatDoor

/- The reference's numbers: norm. -/
namespace Go.Proofs.YtkljejejabikiaaGreatDoor
open Go Go.RowKit Cusp

theorem and_one32 (x : Nat) (hx : x < 4294967296) : bits .and .u32 (x : Int) 1 = ((x % 2 : Nat) : Int) := by
  have h1 := bits_and_u32_nat x 1 hx (by omega)
  rw [show ((1 : Nat) : Int) = 1 from rfl] at h1
  rw [h1, Nat.and_one_is_mod]

set_option maxHeartbeats 2000000 in
set_option maxRecDepth 100000 in
theorem rnorm_zero (neg : Bool) (A : Option Addr) (n c : Nat) (l : List Int) (e : Int) (w : World) (h : Rd w .u32 A n c l) (hw : Words l) (h0 : lv l = 0) :
    Calls Tryz.prog 93 #[.bool neg, .slice A n c, .int .i64 e] w fun r w' => r = .returned (dyn false none 0 0 0) ∧ Ext w w' := by
  go_enter Tryz.func93, Tryz.ntmps93
  go_wp2_with fail
  have e1 : Ext w (w.alloc (.cells #[.bool false, .slice none 0 0, .int .i64 0] 44)) := (Ext.refl w).alloc _
  have hR := nmAt_new w 44 false none 0 0 0
  obtain ⟨w1, hw1⟩ : ∃ w1, w1 = w.alloc (.cells #[.bool false, .slice none 0 0, .int .i64 0] 44) := ⟨_, rfl⟩
  rw [← hw1] at e1 hR ⊢
  clear hw1
  refine (rtrim_nt A n c 0 l _ (h.ext e1) hw h0).mono ?_
  rintro r w2 ⟨m, hm, rfl, hn, rfl⟩
  have hm0 : m = 0 := by have := hn.len; rw [wd_zero] at this; exact this.symm
  subst hm0
  have c0 := hR.c0
  have c1 := hR.c1
  have c2 := hR.c2
  have f0 := hR.f0
  have f1 := hR.f1
  have f2 := hR.f2
  go_wp2_with fail
  refine bodyPost_ret (results_rn rfl _ _ w.heap.size false none 0 0 0 rfl (hR.all _ _ _ _ _)) rfl ?_
  exact ⟨rfl, ((e1.setCell (Nat.le_refl _) _).setCell (Nat.le_refl _) _).setCell (Nat.le_refl _) _⟩

set_option maxHeartbeats 4000000 in
set_option maxRecDepth 100000 in
theorem rnorm_walk (neg : Bool) (A : Option Addr) (n c N : Nat) (l : List Int) (e : Int) (w : World) (h : Rd w .u32 A n c l) (hw : Words l) (hN : lv l = N) (h0 : N ≠ 0) (hn : n ≤ 100000000) (he : -1000000000000 ≤ e ∧ e ≤ 1000000000000) :
    Calls Tryz.prog 93 #[.bool neg, .slice A n c, .int .i64 e] w fun r w' => ∃ A' n' c' e', r = .returned (dyn neg A' n' c' e') ∧ Nm w' (sN neg N) e neg A' n' c' e' ∧ Ext w w' := by
  go_enter Tryz.func93, Tryz.ntmps93
  go_wp2_with fail
  have e1 : Ext w (w.alloc (.cells #[.bool false, .slice none 0 0, .int .i64 0] 44)) := (Ext.refl w).alloc _
  have hR := nmAt_new w 44 false none 0 0 0
  obtain ⟨w1, hw1⟩ : ∃ w1, w1 = w.alloc (.cells #[.bool false, .slice none 0 0, .int .i64 0] 44) := ⟨_, rfl⟩
  rw [← hw1] at e1 hR ⊢
  clear hw1
  refine (rtrim_nt A n c N l _ (h.ext e1) hw hN).mono ?_
  rintro r w2 ⟨m, hm, rfl, hnt, rfl⟩
  have L1 := Lib.hid hnt.len
  have C1 := hnt.cap
  have C2 := hnt.big
  have hm0 : 0 < m := by
    rcases Nat.eq_zero_or_pos m with h1 | h1
    · subst h1; exact absurd (wd_eq_nil.1 (List.eq_nil_of_length_eq_zero L1.out)) h0
    · exact h1
  have hmb : m ≤ 100000000 := by omega
  have hbl := bl_len L1.out
  have t1 : ((m : Int) == 0) = false := by simp; omega
  obtain ⟨b1, o1, rfl, hcell⟩ := hnt.cell hm0
  have HC := Lib.hid hcell
  clear hcell hm hn hN h hw
  go_wp2
  go_loop [7] (fun i => ∃ j : Nat, i = .int .i64 (j : Int) ∧ N % 2 ^ j = 0) (fun i => bl N - (intOf i).toNat)
  case atStart => exact ⟨0, rfl, by simp [Nat.mod_one]⟩
  case round =>
    obtain ⟨j, rfl, hj⟩ := hrel
    have hjb := lt_bl_of_mod h0 hj
    obtain ⟨q, hq⟩ : ∃ q, q = j / 32 := ⟨_, rfl⟩
    have hjm : q < m := by omega
    have x1 := HC.out q hjm
    have r1 := ix_words (words_wd N) q
    have hb := bit_at (a := N) (j := j)
    rw [← hq] at hb
    obtain ⟨X, hX⟩ := Int.eq_ofNat_of_zero_le r1.1
    rw [hX] at x1 r1 hb
    have hd : ((j : Int) / 32) = (q : Int) := by omega
    have hlt : X / 2 ^ (j % 32) < 4294967296 := Nat.lt_of_le_of_lt (Nat.div_le_self _ _) (by omega)
    have hand := and_one32 (X / 2 ^ (j % 32)) hlt
    rw [Int.toNat_natCast] at hb
    rw [hb] at hand
    have hjq : j ≤ 3200000000 := by omega
    have hjb2 : j + 1 ≤ bl N := hjb
    have HJ := Lib.hid hj
    clear hj hX hb hq
    rcases Nat.mod_two_eq_zero_or_one (N / 2 ^ j) with hbit | hbit
    · rw [hbit, Int.natCast_ediv, Int.natCast_pow] at hand
      have hand : bits .and .u32 ((X : Int) / 2 ^ (j % 32)) 1 = 0 := hand
      have HB := Lib.hid hbit
      clear hbit
      go_wp2
      go_round
      case rel => exact ⟨j + 1, by go_num, mod_next HJ.out HB.out⟩
      case measure => simp [intOf]; omega
    · rw [hbit, Int.natCast_ediv, Int.natCast_pow] at hand
      have hand : bits .and .u32 ((X : Int) / 2 ^ (j % 32)) 1 = 1 := hand
      have HB := Lib.hid hbit
      clear hbit
      have hmk := make_room (P := Tryz.prog) 42 71 .u32 4 Tryz.underlying42 info_u32 (by omega) 0 (by omega)
      rw [show ((0 : Nat) : Int) = 0 from rfl] at hmk
      go_wp2_with fail
      refine (down_calls _ m c N j _ hnt (by omega) (by omega)).mono ?_
      rintro r w3 ⟨A3, n3, c3, rfl, hn3, e3⟩
      have hR3 := hR.ext e3
      have hl3 := hn3.len
      have hlen3 : n3 ≤ m := by rw [← hl3, ← L1.out]; exact len_wd_mono (Nat.div_le_self _ _)
      have H3 := Lib.hid hl3
      clear hl3 hand
      have hO0 := own_room w3 w3.heap.size 71 .u32 0 (Nat.le_refl _) (by omega)
      have hsz3 : w3.heap.size ≤ (w3.alloc (.cells (madeCells #[.int .u32 0] 0) 71)).heap.size := by simp
      have eA : Ext w3 (w3.alloc (.cells (madeCells #[.int .u32 0] 0) 71)) := (Ext.refl w3).alloc _
      go_wp2_with (at_builtin; refine append_row (w0 := w3) w3.heap.size rfl _ _ 42 4 rfl Tryz.underlying42 info_u32 (by omega) _ [] (wd (N / 2 ^ j)) A3 n3 c3 rfl rfl hO0 (hn3.ext eA) eA hsz3 ?c1 ?_)
      case c1 => simp; omega
      intro v1 w4 hO4 hB4 hs4 hG4 _
      have e4 : Ext w3 w4 := hB4
      have hR4 := hR3.ext e4
      obtain ⟨A4, n4, c4, hv, hr4⟩ := hO4.nt rfl
      subst hv
      have c0 := hR4.c0
      have c1 := hR4.c1
      have c2 := hR4.c2
      have f0 := hR4.f0
      have f1 := hR4.f1
      have f2 := hR4.f2
      have hfin := hR4.all neg A4 n4 c4 (e + (j : Int))
      have hnf := hR4.nt hr4 (.bool neg) (.slice A4 n4 c4) (.int .i64 (e + (j : Int)))
      go_wp2_with fail
      refine bodyPost_ret (results_rn rfl _ _ w.heap.size neg A4 n4 c4 (e + (j : Int)) rfl hfin) rfl ?_
      have hNj : N = N / 2 ^ j * 2 ^ j := by rw [Nat.div_mul_cancel (Nat.dvd_of_mod_eq_zero HJ.out)]
      refine ⟨A4, n4, c4, e + (j : Int), rfl, ⟨N / 2 ^ j, hnf, .inr ⟨HB.out, j, ?_, rfl⟩⟩, (((e1.trans (e3.trans e4)).setCell (Nat.le_refl _) _).setCell (Nat.le_refl _) _).setCell (Nat.le_refl _) _⟩
      rw [← hNj]

set_option maxHeartbeats 1000000 in
/-- norm: words, a sign, a power. -/
theorem rnorm_calls (neg : Bool) (A : Option Addr) (n c N : Nat) (l : List Int) (e : Int) (w : World) (h : Rd w .u32 A n c l) (hw : Words l) (hN : lv l = N) (hn : n ≤ 100000000) (he : -1000000000000 ≤ e ∧ e ≤ 1000000000000) :
    Calls Tryz.prog 93 #[.bool neg, .slice A n c, .int .i64 e] w fun r w' => ∃ s' A' n' c' e', r = .returned (dyn s' A' n' c' e') ∧ Nm w' (sN neg N) e s' A' n' c' e' ∧ Ext w w' := by
  by_cases h0 : N = 0
  · subst h0
    refine (rnorm_zero neg A n c l e w h hw hN).mono ?_
    rintro r w1 ⟨rfl, x1⟩
    refine ⟨_, _, _, _, _, rfl, ?_, x1⟩
    rw [sN_zero]
    exact nm_zero _ _ _ _ (by omega)
  · refine (rnorm_walk neg A n c N l e w h hw hN h0 hn he).mono ?_
    rintro r w1 ⟨A', n', c', e', rfl, hm, x1⟩
    exact ⟨_, _, _, _, _, rfl, hm, x1⟩
end Go.Proofs.YtkljejejabikiaaGreatDoor

/- The reference's numbers: twin, Minus, Scaled, Sgn, one. -/
namespace Go.Proofs.YtkljejejabikiaaGreatDoor
open Go Go.RowKit Cusp

theorem NmAt.set1 {w : World} {g n c : Nat} {s : Bool} {A : Option Addr} {e : Int} (h : NmAt w g s A n c e) (A' : Option Addr) (n' c' : Nat) : NmAt (w.setCell ⟨g, 1, none⟩ (.slice A' n' c')) g s A' n' c' e := by
  refine ⟨?_, World.cell?_setCell_same _ _ _ h.c1, ?_, ?_, ?_, ?_⟩
  all_goals first | (rw [World.cell?_setCell_other _ _ _ _ (na_ne _ _ _ (by decide))]) | (rw [World.frozen?_setCell])
  all_goals first | exact h.c0 | exact h.c1 | exact h.c2 | exact h.f0 | exact h.f1 | exact h.f2

set_option maxHeartbeats 2000000 in
set_option maxRecDepth 100000 in
theorem twin_calls (s : Bool) (A : Option Addr) (n c m : Nat) (e : Int) (w : World) (h : Nt w A n c m) (hn : n ≤ 100000000) :
    Calls Tryz.prog 169 #[dyn s A n c e] w fun r w' => ∃ A' n' c', r = .returned (dyn s A' n' c' e) ∧ Nt w' A' n' c' m ∧ Ext w w' := by
  unfold dyn
  go_enter Tryz.func169, Tryz.ntmps169
  go_upto_region 1 with (fail)
  have e1 : Ext w (w.alloc (.cells #[.bool s, .slice A n c, .int .i64 e] 44)) := (Ext.refl w).alloc _
  have hT := nmAt_new w 44 s A n c e
  obtain ⟨w1, hw1⟩ : ∃ w1, w1 = w.alloc (.cells #[.bool s, .slice A n c, .int .i64 e] 44) := ⟨_, rfl⟩
  have hs1 : w1.heap.size = w.heap.size + 1 := by rw [hw1]; simp
  rw [← hw1] at e1 hT ⊢
  have e2 : Ext w1 (w1.alloc (.cells #[.bool false, .slice none 0 0, .int .i64 0] 44)) := (Ext.refl w1).alloc _
  have hR := nmAt_new w1 44 false none 0 0 0
  have hT2 := hT.ext e2
  obtain ⟨w2, hw2⟩ : ∃ w2, w2 = w1.alloc (.cells #[.bool false, .slice none 0 0, .int .i64 0] 44) := ⟨_, rfl⟩
  rw [← hw2] at e2 hR hT2 ⊢
  rw [hs1] at hR
  have E2 := e1.trans e2
  have hN2 := h.ext E2
  clear hw1 hw2 hs1 hT e1 e2
  have c0 := hT2.c0
  have c1 := hT2.c1
  have c2 := hT2.c2
  go_wp2_with (at_builtin; refine append_row (w0 := w2) w2.heap.size rfl _ _ 42 4 rfl Tryz.underlying42 info_u32 (by omega) (.slice none 0 0) [] (wd m) A n c rfl rfl (Own.nil _ _ _ _) hN2 (Below.refl _ _) (Nat.le_refl _) ?c1 ?_)
  case c1 => simp; omega
  intro v1 w4 hO4 hB4 hs4 hG4 _
  have e4 : Ext w2 w4 := hB4
  obtain ⟨A4, n4, c4, hv, hr4⟩ := hO4.nt rfl
  subst hv
  have hT4 := hT2.ext e4
  have hR4 := hR.ext e4
  have f1 := hT4.f1
  have c1 := hT4.c1
  go_upto_region 3 with (fail)
  have hT5 := hT4.set1 A4 n4 c4
  have hR5 := hR4.far ⟨w.heap.size, 1, none⟩ (.slice A4 n4 c4) (by show w.heap.size ≠ w.heap.size + 1; omega)
  have hn5 : Nt (w4.setCell ⟨w.heap.size, 1, none⟩ (.slice A4 n4 c4)) A4 n4 c4 m := Nt.set (u := .slice A4 n4 c4) hr4 hT4.c1 (by intro y h; cases h)
  have E5 := (E2.trans e4).setCell (p := ⟨w.heap.size, 1, none⟩) (by show w.heap.size ≤ w.heap.size; omega) (.slice A4 n4 c4)
  obtain ⟨w5, hw5⟩ : ∃ w5, w5 = w4.setCell ⟨w.heap.size, 1, none⟩ (.slice A4 n4 c4) := ⟨_, rfl⟩
  rw [← hw5] at hT5 hR5 hn5 E5 ⊢
  clear hw5 hT4 hR4 hr4 hT2 hR hN2 e4 f1 c0 c1 c2
  have c0 := hT5.c0
  have c1 := hT5.c1
  have c2 := hT5.c2
  have r0 := hR5.c0
  have r1 := hR5.c1
  have r2 := hR5.c2
  have f0 := hR5.f0
  have f1 := hR5.f1
  have f2 := hR5.f2
  go_wp2_with fail
  refine bodyPost_ret (results_rn rfl _ _ (w.heap.size + 1) s A4 n4 c4 e rfl (hR5.all _ _ _ _ _)) rfl ?_
  exact ⟨A4, n4, c4, rfl, hR5.nt hn5 _ _ _, ((E5.setCell (by show w.heap.size ≤ w.heap.size + 1; omega) _).setCell (by show w.heap.size ≤ w.heap.size + 1; omega) _).setCell (by show w.heap.size ≤ w.heap.size + 1; omega) _⟩

/-- What lies behind a number's value. -/
theorem Nm.parts {w : World} {x k e : Int} {s : Bool} {A : Option Addr} {n c : Nat} (h : Nm w x k s A n c e) :
    (n = 0 ∧ x = 0 ∧ s = false ∧ e = 0 ∧ Nt w A n c 0) ∨ (0 < n ∧ ∃ m t : Nat, m % 2 = 1 ∧ Nt w A n c m ∧ x = sN s (m * 2 ^ t) ∧ e = k + t) := by
  obtain ⟨m, h1, h2⟩ := h.ex
  rcases h2 with ⟨rfl, h3, h4, h5⟩ | ⟨ho, t, hx, he⟩
  · left
    refine ⟨?_, h3, h4, h5, h1⟩
    have := h1.len
    rw [wd_zero] at this
    exact this.symm
  · right
    refine ⟨?_, m, t, ho, h1, hx, he⟩
    rcases Nat.eq_zero_or_pos n with h0 | h0
    · subst h0
      have := wd_eq_nil.1 (List.eq_nil_of_length_eq_zero h1.len)
      omega
    · exact h0
theorem Nm.of {w : World} {x k e : Int} {s : Bool} {A : Option Addr} {n c m t : Nat} (h1 : Nt w A n c m) (h2 : m % 2 = 1) (hx : x = sN s (m * 2 ^ t)) (he : e = k + t) : Nm w x k s A n c e := ⟨m, h1, .inr ⟨h2, t, hx, he⟩⟩
theorem sN_abs (s : Bool) (a : Nat) : (sN s a).natAbs = a := by unfold sN; cases s <;> simp
theorem sN_not (s : Bool) (a : Nat) : sN (!s) a = - sN s a := by unfold sN; cases s <;> simp
theorem sN_eq_zero {s : Bool} {a : Nat} (h : sN s a = 0) : a = 0 := by have := sN_abs s a; rw [h] at this; exact this.symm
theorem sN_neg {s : Bool} {a : Nat} (h : 0 < a) : (sN s a < 0 ↔ s = true) := by unfold sN; cases s <;> simp <;> omega
theorem sN_mul (s : Bool) (a b : Nat) : sN s (a * b) = sN s a * (b : Int) := by unfold sN; cases s <;> simp [Int.neg_mul]
theorem sN_sN (s u : Bool) (a b : Nat) : sN s a * sN u b = sN (s != u) (a * b) := by unfold sN; cases s <;> cases u <;> simp [Int.neg_mul, Int.mul_neg]
theorem odd_pow_pos {m t : Nat} (h : m % 2 = 1) : 0 < m * 2 ^ t := Nat.mul_pos (by omega) (Nat.two_pow_pos t)
theorem Nm.scale {w : World} {x k e : Int} {s : Bool} {A : Option Addr} {n c : Nat} (h : Nm w x k s A n c e) (d : Nat) : Nm w (x * 2 ^ d) (k - d) s A n c e := by
  obtain ⟨m, h1, h2⟩ := h.ex
  refine ⟨m, h1, ?_⟩
  rcases h2 with ⟨h3, h4, h5, h6⟩ | ⟨ho, t, hx, he⟩
  · exact .inl ⟨h3, by rw [h4, Int.zero_mul], h5, h6⟩
  · refine .inr ⟨ho, t + d, ?_, by omega⟩
    rw [hx, Nat.pow_add, ← Nat.mul_assoc, sN_mul _ _ (2 ^ d), Int.natCast_pow]; rfl
theorem Nm.cast {w : World} {x x' k k' e : Int} {s : Bool} {A : Option Addr} {n c : Nat} (h : Nm w x k s A n c e) (hx : x = x') (hk : k = k') : Nm w x' k' s A n c e := by rw [← hx, ← hk]; exact h
theorem len_of_bl' (m : Nat) : (wd m).length ≤ bl m := by
  rcases Nat.eq_zero_or_pos (wd m).length with h | h
  · omega
  · obtain ⟨k, hk⟩ : ∃ k, (wd m).length = k + 1 := ⟨(wd m).length - 1, by omega⟩
    have h1 := bl_words hk
    have h2 := last_of_trim (trim_wd m) h
    rw [hk] at h2
    simp only [Nat.add_sub_cancel] at h2
    have r1 := ix_words (words_wd m) k
    have h3 := bl_pos (n := (ix (wd m) k).toNat) (by omega)
    omega
/-- The bounds of what lies there. -/
theorem Nm.bounds {w : World} {x k e : Int} {s : Bool} {A : Option Addr} {n c : Nat} (h : Nm w x k s A n c e) : n ≤ bl x.natAbs ∧ (e = 0 ∨ (k ≤ e ∧ e ≤ k + bl x.natAbs)) := by
  rcases h.parts with ⟨h1, h2, _, h3, _⟩ | ⟨_, m, t, ho, h1, hx, he⟩
  · exact ⟨by omega, .inl h3⟩
  · have hb : bl x.natAbs = bl m + t := by rw [hx, sN_abs, bl_mul_pow (by omega)]
    have hl : n ≤ bl m := by rw [← h1.len]; exact len_of_bl' m
    exact ⟨by omega, .inr ⟨by omega, by omega⟩⟩
set_option maxHeartbeats 2000000 in
set_option maxRecDepth 100000 in
theorem minus_zero (A : Option Addr) (c : Nat) (s : Bool) (e : Int) (w : World) (h : Nt w A 0 c 0) :
    Calls Tryz.prog 92 #[dyn s A 0 c e] w fun r w' => r = .returned (dyn false none 0 0 0) ∧ Ext w w' := by
  unfold dyn
  go_enter Tryz.func92, Tryz.ntmps92
  go_upto_region 1 with (fail)
  have e1 : Ext w (w.alloc (.cells #[.bool s, .slice A 0 c, .int .i64 e] 44)) := (Ext.refl w).alloc _
  have hT := nmAt_new w 44 s A 0 c e
  obtain ⟨w1, hw1⟩ : ∃ w1, w1 = w.alloc (.cells #[.bool s, .slice A 0 c, .int .i64 e] 44) := ⟨_, rfl⟩
  have hs1 : w1.heap.size = w.heap.size + 1 := by rw [hw1]; simp
  rw [← hw1] at e1 hT ⊢
  have e2 : Ext w1 (w1.alloc (.cells #[.bool false, .slice none 0 0, .int .i64 0] 44)) := (Ext.refl w1).alloc _
  have hR := nmAt_new w1 44 false none 0 0 0
  have hT2 := hT.ext e2
  obtain ⟨w2, hw2⟩ : ∃ w2, w2 = w1.alloc (.cells #[.bool false, .slice none 0 0, .int .i64 0] 44) := ⟨_, rfl⟩
  rw [← hw2] at e2 hR hT2 ⊢
  rw [hs1] at hR
  have E2 := e1.trans e2
  have hN2 := h.ext E2
  clear hw1 hw2 hs1 hT e1 e2
  have c0 := hT2.c0
  have c1 := hT2.c1
  have c2 := hT2.c2
  have r0 := hR.c0
  have r1 := hR.c1
  have r2 := hR.c2
  have f0 := hR.f0
  have f1 := hR.f1
  have f2 := hR.f2
  go_wp2_with fail
  refine bodyPost_ret (results_rn rfl _ _ (w.heap.size + 1) false none 0 0 0 rfl (hR.all _ _ _ _ _)) rfl ?_
  exact ⟨rfl, ((E2.setCell (by show w.heap.size ≤ w.heap.size + 1; omega) _).setCell (by show w.heap.size ≤ w.heap.size + 1; omega) _).setCell (by show w.heap.size ≤ w.heap.size + 1; omega) _⟩
set_option maxHeartbeats 2000000 in
set_option maxRecDepth 100000 in
theorem minus_walk (s : Bool) (A : Option Addr) (n c m : Nat) (e : Int) (w : World) (h : Nt w A n c m) (hn0 : 0 < n) :
    Calls Tryz.prog 92 #[dyn s A n c e] w fun r w' => r = .returned (dyn (!s) A n c e) ∧ Nt w' A n c m ∧ Ext w w' := by
  have t1 : ((n : Int) == 0) = false := by simp; omega
  unfold dyn
  go_enter Tryz.func92, Tryz.ntmps92
  go_upto_region 1 with (fail)
  have e1 : Ext w (w.alloc (.cells #[.bool s, .slice A n c, .int .i64 e] 44)) := (Ext.refl w).alloc _
  have hT := nmAt_new w 44 s A n c e
  obtain ⟨w1, hw1⟩ : ∃ w1, w1 = w.alloc (.cells #[.bool s, .slice A n c, .int .i64 e] 44) := ⟨_, rfl⟩
  have hs1 : w1.heap.size = w.heap.size + 1 := by rw [hw1]; simp
  rw [← hw1] at e1 hT ⊢
  have e2 : Ext w1 (w1.alloc (.cells #[.bool false, .slice none 0 0, .int .i64 0] 44)) := (Ext.refl w1).alloc _
  have hR := nmAt_new w1 44 false none 0 0 0
  have hT2 := hT.ext e2
  obtain ⟨w2, hw2⟩ : ∃ w2, w2 = w1.alloc (.cells #[.bool false, .slice none 0 0, .int .i64 0] 44) := ⟨_, rfl⟩
  rw [← hw2] at e2 hR hT2 ⊢
  rw [hs1] at hR
  have E2 := e1.trans e2
  have hN2 := h.ext E2
  clear hw1 hw2 hs1 hT e1 e2
  have c0 := hT2.c0
  have c1 := hT2.c1
  have c2 := hT2.c2
  have r0 := hR.c0
  have r1 := hR.c1
  have r2 := hR.c2
  have f0 := hR.f0
  have f1 := hR.f1
  have f2 := hR.f2
  go_wp2_with fail
  refine bodyPost_ret (results_rn rfl _ _ (w.heap.size + 1) (!s) A n c e rfl (hR.all _ _ _ _ _)) rfl ?_
  exact ⟨rfl, hR.nt hN2 _ _ _, ((E2.setCell (by show w.heap.size ≤ w.heap.size + 1; omega) _).setCell (by show w.heap.size ≤ w.heap.size + 1; omega) _).setCell (by show w.heap.size ≤ w.heap.size + 1; omega) _⟩
/-- The sign turned. -/
theorem rminus_calls (x k e : Int) (s : Bool) (A : Option Addr) (n c : Nat) (w : World) (h : Nm w x k s A n c e) :
    Calls Tryz.prog 92 #[dyn s A n c e] w fun r w' => ∃ s' A' n' c' e', r = .returned (dyn s' A' n' c' e') ∧ Nm w' (-x) k s' A' n' c' e' ∧ Ext w w' := by
  rcases h.parts with ⟨rfl, rfl, _, _, h1⟩ | ⟨hn, m, t, ho, h1, hx, he⟩
  · refine (minus_zero A c s e w h1).mono ?_
    rintro r w1 ⟨rfl, x1⟩
    exact ⟨_, _, _, _, _, rfl, nm_zero _ _ _ _ (by omega), x1⟩
  · refine (minus_walk s A n c m e w h1 hn).mono ?_
    rintro r w1 ⟨rfl, h2, x1⟩
    exact ⟨_, _, _, _, _, rfl, Nm.of h2 ho (by rw [hx, sN_not]) he, x1⟩
set_option maxHeartbeats 2000000 in
set_option maxRecDepth 100000 in
theorem scaled_zero (A : Option Addr) (c : Nat) (s : Bool) (e d : Int) (w : World) (h : Nt w A 0 c 0) :
    Calls Tryz.prog 80 #[dyn s A 0 c e, .int .i64 d] w fun r w' => r = .returned (dyn false none 0 0 0) ∧ Ext w w' := by
  unfold dyn
  go_enter Tryz.func80, Tryz.ntmps80
  go_upto_region 1 with (fail)
  have e1 : Ext w (w.alloc (.cells #[.bool s, .slice A 0 c, .int .i64 e] 44)) := (Ext.refl w).alloc _
  have hT := nmAt_new w 44 s A 0 c e
  obtain ⟨w1, hw1⟩ : ∃ w1, w1 = w.alloc (.cells #[.bool s, .slice A 0 c, .int .i64 e] 44) := ⟨_, rfl⟩
  have hs1 : w1.heap.size = w.heap.size + 1 := by rw [hw1]; simp
  rw [← hw1] at e1 hT ⊢
  have e2 : Ext w1 (w1.alloc (.cells #[.bool false, .slice none 0 0, .int .i64 0] 44)) := (Ext.refl w1).alloc _
  have hR := nmAt_new w1 44 false none 0 0 0
  have hT2 := hT.ext e2
  obtain ⟨w2, hw2⟩ : ∃ w2, w2 = w1.alloc (.cells #[.bool false, .slice none 0 0, .int .i64 0] 44) := ⟨_, rfl⟩
  rw [← hw2] at e2 hR hT2 ⊢
  rw [hs1] at hR
  have E2 := e1.trans e2
  have hN2 := h.ext E2
  clear hw1 hw2 hs1 hT e1 e2
  have c0 := hT2.c0
  have c1 := hT2.c1
  have c2 := hT2.c2
  have r0 := hR.c0
  have r1 := hR.c1
  have r2 := hR.c2
  have f0 := hR.f0
  have f1 := hR.f1
  have f2 := hR.f2
  go_wp2_with fail
  refine bodyPost_ret (results_rn rfl _ _ (w.heap.size + 1) false none 0 0 0 rfl (hR.all _ _ _ _ _)) rfl ?_
  exact ⟨rfl, ((E2.setCell (by show w.heap.size ≤ w.heap.size + 1; omega) _).setCell (by show w.heap.size ≤ w.heap.size + 1; omega) _).setCell (by show w.heap.size ≤ w.heap.size + 1; omega) _⟩
set_option maxHeartbeats 2000000 in
set_option maxRecDepth 100000 in
theorem scaled_walk (s : Bool) (A : Option Addr) (n c m : Nat) (e d : Int) (w : World) (h : Nt w A n c m) (hn0 : 0 < n) (he : -1000000000000 ≤ e ∧ e ≤ 1000000000000) (hd : -1000000000000 ≤ d ∧ d ≤ 1000000000000) :
    Calls Tryz.prog 80 #[dyn s A n c e, .int .i64 d] w fun r w' => r = .returned (dyn s A n c (e + d)) ∧ Nt w' A n c m ∧ Ext w w' := by
  have t1 : ((n : Int) == 0) = false := by simp; omega
  unfold dyn
  go_enter Tryz.func80, Tryz.ntmps80
  go_upto_region 1 with (fail)
  have e1 : Ext w (w.alloc (.cells #[.bool s, .slice A n c, .int .i64 e] 44)) := (Ext.refl w).alloc _
  have hT := nmAt_new w 44 s A n c e
  obtain ⟨w1, hw1⟩ : ∃ w1, w1 = w.alloc (.cells #[.bool s, .slice A n c, .int .i64 e] 44) := ⟨_, rfl⟩
  have hs1 : w1.heap.size = w.heap.size + 1 := by rw [hw1]; simp
  rw [← hw1] at e1 hT ⊢
  have e2 : Ext w1 (w1.alloc (.cells #[.bool false, .slice none 0 0, .int .i64 0] 44)) := (Ext.refl w1).alloc _
  have hR := nmAt_new w1 44 false none 0 0 0
  have hT2 := hT.ext e2
  obtain ⟨w2, hw2⟩ : ∃ w2, w2 = w1.alloc (.cells #[.bool false, .slice none 0 0, .int .i64 0] 44) := ⟨_, rfl⟩
  rw [← hw2] at e2 hR hT2 ⊢
  rw [hs1] at hR
  have E2 := e1.trans e2
  have hN2 := h.ext E2
  clear hw1 hw2 hs1 hT e1 e2
  have c0 := hT2.c0
  have c1 := hT2.c1
  have c2 := hT2.c2
  have r0 := hR.c0
  have r1 := hR.c1
  have r2 := hR.c2
  have f0 := hR.f0
  have f1 := hR.f1
  have f2 := hR.f2
  go_wp2_with fail
  refine bodyPost_ret (results_rn rfl _ _ (w.heap.size + 1) s A n c (e + d) rfl (hR.all _ _ _ _ _)) rfl ?_
  exact ⟨rfl, hR.nt hN2 _ _ _, ((E2.setCell (by show w.heap.size ≤ w.heap.size + 1; omega) _).setCell (by show w.heap.size ≤ w.heap.size + 1; omega) _).setCell (by show w.heap.size ≤ w.heap.size + 1; omega) _⟩
/-- Times 2 to the d. -/
theorem rscaled_calls (x k e d : Int) (s : Bool) (A : Option Addr) (n c : Nat) (w : World) (h : Nm w x k s A n c e) (hl : bl x.natAbs ≤ 100000000) (hk : -100000000000 ≤ k ∧ k ≤ 100000000000) (hd : -1000000000000 ≤ d ∧ d ≤ 1000000000000) :
    Calls Tryz.prog 80 #[dyn s A n c e, .int .i64 d] w fun r w' => ∃ s' A' n' c' e', r = .returned (dyn s' A' n' c' e') ∧ Nm w' x (k + d) s' A' n' c' e' ∧ Ext w w' := by
  have hb := h.bounds
  rcases h.parts with ⟨rfl, rfl, _, _, h1⟩ | ⟨hn, m, t, ho, h1, hx, he⟩
  · refine (scaled_zero A c s e d w h1).mono ?_
    rintro r w1 ⟨rfl, x1⟩
    exact ⟨_, _, _, _, _, rfl, nm_zero _ _ _ _ (by omega), x1⟩
  · refine (scaled_walk s A n c m e d w h1 hn (by omega) hd).mono ?_
    rintro r w1 ⟨rfl, h2, x1⟩
    exact ⟨_, _, _, _, _, rfl, Nm.of h2 ho hx (by omega), x1⟩
end Go.Proofs.YtkljejejabikiaaGreatDoor

/- The reference's numbers: Sgn, High, one, Whole. -/
namespace Go.Proofs.YtkljejejabikiaaGreatDoor
open Go Go.RowKit Cusp

set_option maxHeartbeats 2000000 in
set_option maxRecDepth 100000 in
theorem rsgn_walk (s : Bool) (A : Option Addr) (n c : Nat) (e : Int) (w : World) :
    Calls Tryz.prog 34 #[dyn s A n c e] w fun r w' => r = .returned (.int .i64 (if n = 0 then 0 else if s = true then -1 else 1)) ∧ Ext w w' := by
  rcases Nat.eq_zero_or_pos n with h0 | h0
  · subst h0
    rw [if_pos rfl]
    unfold dyn
    go_enter Tryz.func34, Tryz.ntmps34
    go_upto_region 1 with (fail)
    have e1 : Ext w (w.alloc (.cells #[.bool s, .slice A 0 c, .int .i64 e] 44)) := (Ext.refl w).alloc _
    have hT := nmAt_new w 44 s A 0 c e
    obtain ⟨w1, hw1⟩ : ∃ w1, w1 = w.alloc (.cells #[.bool s, .slice A 0 c, .int .i64 e] 44) := ⟨_, rfl⟩
    rw [← hw1] at e1 hT ⊢
    clear hw1
    have c0 := hT.c0
    have c1 := hT.c1
    have c2 := hT.c2
    go_wp2
    go_ret
    exact ⟨rfl, e1⟩
  · rw [if_neg (by omega)]
    have t1 : ((n : Int) == 0) = false := by simp; omega
    cases s with
    | false =>
      rw [if_neg (by simp)]
      unfold dyn
      go_enter Tryz.func34, Tryz.ntmps34
      go_upto_region 1 with (fail)
      have e1 : Ext w (w.alloc (.cells #[.bool false, .slice A n c, .int .i64 e] 44)) := (Ext.refl w).alloc _
      have hT := nmAt_new w 44 false A n c e
      obtain ⟨w1, hw1⟩ : ∃ w1, w1 = w.alloc (.cells #[.bool false, .slice A n c, .int .i64 e] 44) := ⟨_, rfl⟩
      rw [← hw1] at e1 hT ⊢
      clear hw1
      have c0 := hT.c0
      have c1 := hT.c1
      have c2 := hT.c2
      go_wp2
      go_ret
      exact ⟨rfl, e1⟩
    | true =>
      rw [if_pos rfl]
      unfold dyn
      go_enter Tryz.func34, Tryz.ntmps34
      go_upto_region 1 with (fail)
      have e1 : Ext w (w.alloc (.cells #[.bool true, .slice A n c, .int .i64 e] 44)) := (Ext.refl w).alloc _
      have hT := nmAt_new w 44 true A n c e
      obtain ⟨w1, hw1⟩ : ∃ w1, w1 = w.alloc (.cells #[.bool true, .slice A n c, .int .i64 e] 44) := ⟨_, rfl⟩
      rw [← hw1] at e1 hT ⊢
      clear hw1
      have c0 := hT.c0
      have c1 := hT.c1
      have c2 := hT.c2
      go_wp2
      go_ret
      exact ⟨rfl, e1⟩
/-- The sign: -1, 0, 1. -/
theorem rsgn_calls (x k e : Int) (s : Bool) (A : Option Addr) (n c : Nat) (w : World) (h : Nm w x k s A n c e) :
    Calls Tryz.prog 34 #[dyn s A n c e] w fun r w' => r = .returned (.int .i64 (sgn x)) ∧ Ext w w' := by
  refine (rsgn_walk s A n c e w).mono ?_
  rintro r w1 ⟨rfl, x1⟩
  refine ⟨ret_int ?_, x1⟩
  rcases h.parts with ⟨rfl, rfl, _, _, _⟩ | ⟨hn, m, t, ho, _, hx, _⟩
  · rfl
  · have hp := odd_pow_pos (t := t) ho
    have hn' : ¬ n = 0 := by omega
    rw [if_neg hn']
    unfold sgn
    have h1 := sN_abs s (m * 2 ^ t)
    have h2 := sN_neg (s := s) hp
    rw [← hx] at h1 h2
    have hx0 : ¬ x = 0 := by omega
    rw [if_neg hx0]
    by_cases hs : s = true
    · rw [if_pos hs, if_pos (h2.2 hs)]
    · rw [if_neg hs, if_neg (fun h => hs (h2.1 h))]

/-- The place of the highest digit, and 1. -/
def hiN (x k : Int) : Int := if x = 0 then 0 else (bl x.natAbs : Int) + k
set_option maxHeartbeats 2000000 in
set_option maxRecDepth 100000 in
theorem high_zero (s : Bool) (A : Option Addr) (c : Nat) (e : Int) (w : World) :
    Calls Tryz.prog 86 #[dyn s A 0 c e] w fun r w' => r = .returned (.int .i64 0) ∧ Ext w w' := by
  unfold dyn
  go_enter Tryz.func86, Tryz.ntmps86
  go_upto_region 1 with (fail)
  have e1 : Ext w (w.alloc (.cells #[.bool s, .slice A 0 c, .int .i64 e] 44)) := (Ext.refl w).alloc _
  have hT := nmAt_new w 44 s A 0 c e
  obtain ⟨w1, hw1⟩ : ∃ w1, w1 = w.alloc (.cells #[.bool s, .slice A 0 c, .int .i64 e] 44) := ⟨_, rfl⟩
  rw [← hw1] at e1 hT ⊢
  clear hw1
  have c0 := hT.c0
  have c1 := hT.c1
  have c2 := hT.c2
  go_wp2
  go_ret
  exact ⟨rfl, e1⟩
set_option maxHeartbeats 2000000 in
set_option maxRecDepth 100000 in
theorem high_walk (s : Bool) (A : Option Addr) (n c m : Nat) (e : Int) (w : World) (h : Nt w A n c m) (hn0 : 0 < n) (hn : n ≤ 100000000) (he : -1000000000000 ≤ e ∧ e ≤ 1000000000000) :
    Calls Tryz.prog 86 #[dyn s A n c e] w fun r w' => r = .returned (.int .i64 ((bl m : Int) + e)) ∧ Ext w w' := by
  have t1 : ((n : Int) == 0) = false := by simp; omega
  have hb := bl_len h.len
  have e9 : IntKind.i64.wrap ((bl m : Int) + e) = (bl m : Int) + e := IntWalk.i64_in _ (by omega)
  unfold dyn
  go_enter Tryz.func86, Tryz.ntmps86
  go_upto_region 1 with (fail)
  have e1 : Ext w (w.alloc (.cells #[.bool s, .slice A n c, .int .i64 e] 44)) := (Ext.refl w).alloc _
  have hT := nmAt_new w 44 s A n c e
  obtain ⟨w1, hw1⟩ : ∃ w1, w1 = w.alloc (.cells #[.bool s, .slice A n c, .int .i64 e] 44) := ⟨_, rfl⟩
  rw [← hw1] at e1 hT ⊢
  clear hw1
  have c0 := hT.c0
  have c1 := hT.c1
  have c2 := hT.c2
  go_upto_region 3 with (fail)
  go_quiet ((go_at_call 160; exact Calls.quiet_of_same (rsize_calls A n c m _ (h.ext (e1.drewN' _)) (by omega))))
  clear e9
  go_wp2
  go_ret
  exact ⟨rfl, e1.drewN' _⟩
/-- High. -/
theorem rhigh_calls (x k e : Int) (s : Bool) (A : Option Addr) (n c : Nat) (w : World) (h : Nm w x k s A n c e) (hl : bl x.natAbs ≤ 100000000) (hk : -100000000000 ≤ k ∧ k ≤ 100000000000) :
    Calls Tryz.prog 86 #[dyn s A n c e] w fun r w' => r = .returned (.int .i64 (hiN x k)) ∧ Ext w w' := by
  have hb := h.bounds
  rcases h.parts with ⟨rfl, rfl, _, _, _⟩ | ⟨hn, m, t, ho, h1, hx, he⟩
  · refine (high_zero s A c e w).mono ?_
    rintro r w1 ⟨rfl, x1⟩
    exact ⟨rfl, x1⟩
  · refine (high_walk s A n c m e w h1 hn (by omega) (by omega)).mono ?_
    rintro r w1 ⟨rfl, x1⟩
    refine ⟨ret_int ?_, x1⟩
    have h2 := sN_abs s (m * 2 ^ t)
    have hp := odd_pow_pos (t := t) ho
    rw [← hx] at h2
    unfold hiN
    rw [if_neg (by omega), h2, bl_mul_pow (by omega)]
    omega

set_option maxHeartbeats 2000000 in
set_option maxRecDepth 100000 in
/-- one: 2 to the -place. -/
theorem rone_calls (p : Int) (w : World) (hp : -1000000000000 ≤ p ∧ p ≤ 1000000000000) :
    Calls Tryz.prog 162 #[.int .i64 p] w fun r w' => ∃ s' A' n' c' e', r = .returned (dyn s' A' n' c' e') ∧ Nm w' 1 (-p) s' A' n' c' e' ∧ Ext w w' := by
  go_enter Tryz.func162, Tryz.ntmps162
  go_upto_region 1 with (fail)
  have e1 : Ext w (w.alloc (.cells #[.bool false, .slice none 0 0, .int .i64 0] 44)) := (Ext.refl w).alloc _
  have hR := nmAt_new w 44 false none 0 0 0
  obtain ⟨w1, hw1⟩ : ∃ w1, w1 = w.alloc (.cells #[.bool false, .slice none 0 0, .int .i64 0] 44) := ⟨_, rfl⟩
  have hs1 : w1.heap.size = w.heap.size + 1 := by rw [hw1]; simp
  rw [← hw1] at e1 hR ⊢
  clear hw1
  have r0 := hR.c0
  have r1 := hR.c1
  have r2 := hR.c2
  have f0 := hR.f0
  have f1 := hR.f1
  have f2 := hR.f2
  go_wp2_with fail
  have hA := hR.all false (some ⟨w.heap.size + 1, 0, none⟩) 1 1 (-p)
  have E3 : Ext w (((w1.setCell ⟨w.heap.size, 0, none⟩ (.bool false)).setCell ⟨w.heap.size, 1, none⟩ (.slice (some ⟨w.heap.size + 1, 0, none⟩) 1 1)).setCell ⟨w.heap.size, 2, none⟩ (.int .i64 (-p))) := ((e1.setCell (Nat.le_refl _) _).setCell (Nat.le_refl _) _).setCell (Nat.le_refl _) _
  have hs3 : (((w1.setCell ⟨w.heap.size, 0, none⟩ (.bool false)).setCell ⟨w.heap.size, 1, none⟩ (.slice (some ⟨w.heap.size + 1, 0, none⟩) 1 1)).setCell ⟨w.heap.size, 2, none⟩ (.int .i64 (-p))).heap.size = w.heap.size + 1 := by rw [size_setCell, size_setCell, size_setCell, hs1]
  generalize ((w1.setCell ⟨w.heap.size, 0, none⟩ (.bool false)).setCell ⟨w.heap.size, 1, none⟩ (.slice (some ⟨w.heap.size + 1, 0, none⟩) 1 1)).setCell ⟨w.heap.size, 2, none⟩ (.int .i64 (-p)) = w3 at *
  have hl : Rd (w3.alloc (.cells #[.int .u32 1] 71)) .u32 (some ⟨w3.heap.size, 0, none⟩) 1 1 [1] := rd_lit w3 71 .u32 [1] (by simp)
  rw [hs3] at hl
  have hwd : [(1 : Int)] = wd 1 := by rw [wd_pos (by omega)]; rw [show 1 / 4294967296 = 0 from rfl, wd_zero]; rfl
  have hn : Nt (w3.alloc (.cells #[.int .u32 1] 71)) (some ⟨w.heap.size + 1, 0, none⟩) 1 1 1 := by unfold Nt; rw [← hwd]; exact hl
  have e4 : Ext w3 (w3.alloc (.cells #[.int .u32 1] 71)) := (Ext.refl w3).alloc _
  refine bodyPost_ret (results_rn rfl _ _ w.heap.size false (some ⟨w.heap.size + 1, 0, none⟩) 1 1 (-p) rfl (hA.ext e4)) rfl ?_
  exact ⟨_, _, _, _, _, rfl, Nm.of hn (m := 1) (t := 0) rfl rfl (by simp), E3.trans e4⟩
end Go.Proofs.YtkljejejabikiaaGreatDoor

/- The reference's numbers: Whole, Float. -/
namespace Go.Proofs.YtkljejejabikiaaGreatDoor
open Go Go.RowKit Cusp

theorem NmAt.nm {w : World} {g n c : Nat} {s : Bool} {A : Option Addr} {e : Int} (h : NmAt w g s A n c e) {x k : Int} {s' : Bool} {A' : Option Addr} {n' c' : Nat} {e' : Int} (hx : Nm w x k s' A' n' c' e') (v0 v1 v2 : Value) :
    Nm (((w.setCell ⟨g, 0, none⟩ v0).setCell ⟨g, 1, none⟩ v1).setCell ⟨g, 2, none⟩ v2) x k s' A' n' c' e' := by
  obtain ⟨m, h1, h2⟩ := hx.ex
  exact ⟨m, h.nt h1 _ _ _, h2⟩

set_option maxHeartbeats 2000000 in
set_option maxRecDepth 100000 in
/-- A whole number from 0 on. -/
theorem rwhole_calls (N : Nat) (w : World) (hN : N < 9223372036854775808) :
    Calls Tryz.prog 33 #[.int .i64 (N : Int)] w fun r w' => ∃ s' A' n' c' e', r = .returned (dyn s' A' n' c' e') ∧ Nm w' (N : Int) 0 s' A' n' c' e' ∧ Ext w w' := by
  have hn0 : (0 : Int) ≤ (N : Int) := by omega
  go_enter Tryz.func33, Tryz.ntmps33
  go_upto_region 1 with (fail)
  have e1 : Ext w (w.alloc (.cells #[.bool false, .slice none 0 0, .int .i64 0] 44)) := (Ext.refl w).alloc _
  have hR := nmAt_new w 44 false none 0 0 0
  obtain ⟨w1, hw1⟩ : ∃ w1, w1 = w.alloc (.cells #[.bool false, .slice none 0 0, .int .i64 0] 44) := ⟨_, rfl⟩
  have hs1 : w1.heap.size = w.heap.size + 1 := by rw [hw1]; simp
  rw [← hw1] at e1 hR ⊢
  clear hw1
  go_wp2_with fail
  have hw2 : Words [(N : Int) % 4294967296, (N : Int) / 4294967296] := words_cons.2 ⟨by omega, words_cons.2 ⟨by omega, words_nil⟩⟩
  have hv : lv [(N : Int) % 4294967296, (N : Int) / 4294967296] = N := by simp only [lv]; omega
  have hl := rd_lit w1 71 .u32 [(N : Int) % 4294967296, (N : Int) / 4294967296] (by simp)
  rw [hs1] at hl
  refine (rnorm_calls false _ 2 2 N [(N : Int) % 4294967296, (N : Int) / 4294967296] 0 _ hl hw2 hv (by omega) (by omega)).mono ?_
  rintro r w2 ⟨s', A', n', c', e', rfl, hN2, x2⟩
  have e2 : Ext w1 w2 := ((Ext.refl w1).alloc _).trans x2
  have hR2 := hR.ext e2
  have E2 := e1.trans e2
  clear hl hv hw2 x2 hR hs1
  have r0 := hR2.c0
  have r1 := hR2.c1
  have r2 := hR2.c2
  have f0 := hR2.f0
  have f1 := hR2.f1
  have f2 := hR2.f2
  unfold dyn
  go_wp2_with fail
  refine bodyPost_ret (results_rn rfl _ _ w.heap.size s' A' n' c' e' rfl (hR2.all _ _ _ _ _)) rfl ?_
  exact ⟨s', A', n', c', e', rfl, hR2.nm hN2 _ _ _, ((E2.setCell (Nat.le_refl _) _).setCell (Nat.le_refl _) _).setCell (Nat.le_refl _) _⟩
end Go.Proofs.YtkljejejabikiaaGreatDoor

/- The reference's numbers: Times, Plus, Less. -/
namespace Go.Proofs.YtkljejejabikiaaGreatDoor
open Go Go.RowKit Cusp

set_option maxHeartbeats 8000000 in
set_option maxRecDepth 100000 in
theorem times_walk (sa sb : Bool) (A B : Option Addr) (n c m d a b : Nat) (ea eb : Int) (w : World) (ha : Nt w A n c a) (hb : Nt w B m d b) (hn : n ≤ 40000000) (hm : m ≤ 40000000) (hea : -100000000000 ≤ ea ∧ ea ≤ 100000000000) (heb : -100000000000 ≤ eb ∧ eb ≤ 100000000000) :
    Calls Tryz.prog 28 #[dyn sa A n c ea, dyn sb B m d eb] w fun r w' => ∃ s' A' n' c' e', r = .returned (dyn s' A' n' c' e') ∧ Nm w' (sN (sa != sb) (a * b)) (ea + eb) s' A' n' c' e' ∧ Ext w w' := by
  have e9 : IntKind.i64.wrap (ea + eb) = ea + eb := IntWalk.i64_in _ (by omega)
  have hlen : (wd (a * b)).length ≤ 100000000 := by have := len_wd_mul a b; rw [ha.len, hb.len] at this; omega
  unfold dyn
  go_enter Tryz.func28, Tryz.ntmps28
  go_upto_region 1 with (fail)
  have e1 : Ext w (w.alloc (.cells #[.bool sa, .slice A n c, .int .i64 ea] 44)) := (Ext.refl w).alloc _
  have hT := nmAt_new w 44 sa A n c ea
  obtain ⟨w1, hw1⟩ : ∃ w1, w1 = w.alloc (.cells #[.bool sa, .slice A n c, .int .i64 ea] 44) := ⟨_, rfl⟩
  have hs1 : w1.heap.size = w.heap.size + 1 := by rw [hw1]; simp
  rw [← hw1] at e1 hT ⊢
  clear hw1
  have e2 : Ext w1 (w1.alloc (.cells #[.bool sb, .slice B m d, .int .i64 eb] 44)) := (Ext.refl w1).alloc _
  have hU := nmAt_new w1 44 sb B m d eb
  rw [hs1] at hU
  obtain ⟨w2, hw2⟩ : ∃ w2, w2 = w1.alloc (.cells #[.bool sb, .slice B m d, .int .i64 eb] 44) := ⟨_, rfl⟩
  have hs2 : w2.heap.size = w.heap.size + 2 := by rw [hw2]; simp [hs1]
  rw [← hw2] at e2 hU ⊢
  clear hw2 hs1
  have e3 : Ext w2 (w2.alloc (.cells #[.bool false, .slice none 0 0, .int .i64 0] 44)) := (Ext.refl w2).alloc _
  have hR := nmAt_new w2 44 false none 0 0 0
  rw [hs2] at hR
  have hT := (hT.ext e2).ext e3
  have hU := hU.ext e3
  obtain ⟨w3, hw3⟩ : ∃ w3, w3 = w2.alloc (.cells #[.bool false, .slice none 0 0, .int .i64 0] 44) := ⟨_, rfl⟩
  rw [← hw3] at e3 hR hT hU ⊢
  clear hw3 hs2
  have E3 := (e1.trans e2).trans e3
  clear e1 e2 e3
  have a0 := hT.c0
  have a1 := hT.c1
  have a2 := hT.c2
  have b0 := hU.c0
  have b1 := hU.c1
  have b2 := hU.c2
  have r0 := hR.c0
  have r1 := hR.c1
  have r2 := hR.c2
  have f0 := hR.f0
  have f1 := hR.f1
  have f2 := hR.f2
  have hEd : Ext w3 w3.drew := Ext.drew _
  have HT := hT.ext hEd
  have HU := hU.ext hEd
  go_region_held3 (fun w' => w'.cell? ⟨w.heap.size, 0, none⟩ = some (.bool sa) ∧ w'.cell? ⟨w.heap.size, 1, none⟩ = some (.slice A n c) ∧ w'.cell? ⟨w.heap.size, 2, none⟩ = some (.int .i64 ea) ∧ w'.cell? ⟨w.heap.size + 1, 0, none⟩ = some (.bool sb) ∧ w'.cell? ⟨w.heap.size + 1, 1, none⟩ = some (.slice B m d) ∧ w'.cell? ⟨w.heap.size + 1, 2, none⟩ = some (.int .i64 eb))
    (first | (with_reducible exact ⟨(HT).c0, (HT).c1, (HT).c2, (HT).c0, (HT).c1, (HT).c2⟩) | (with_reducible exact ⟨HT.c0, HT.c1, HT.c2, HU.c0, HU.c1, HU.c2⟩) | (with_reducible exact ⟨hT4.c0, hT4.c1, hT4.c2, hU4.c0, hU4.c1, hU4.c2⟩) | (with_reducible exact ⟨hT5.c0, hT5.c1, hT5.c2, hU5.c0, hU5.c1, hU5.c2⟩) | (with_reducible exact ⟨(hT6 _ _ _).c0, (hT6 _ _ _).c1, (hT6 _ _ _).c2, (hU6 _ _ _).c0, (hU6 _ _ _).c1, (hU6 _ _ _).c2⟩) | fail)
    (first | (go_at_call 94; refine (rmul_calls _ _ _ _ _ _ a b _ (ha.ext (E3.trans hEd)) (hb.ext (E3.trans hEd)) (by omega) (by omega)).mono ?_; rintro v w4 ⟨A4, n4, c4, rfl, hn4, x4⟩; have hT4 := HT.ext x4; have hU4 := HU.ext x4; have E4 := (E3.trans hEd).trans x4; have hR4 := (hR.ext hEd).ext x4) | (go_at_call 93; refine (rnorm_calls (sa != sb) _ _ _ (a * b) _ (ea + eb) _ hn4 (words_wd _) (lv_wd _) (by rw [← hn4.len]; exact hlen) (by omega)).mono ?_; rintro v w5 ⟨s5, A5, n5, c5, e5, rfl, hN5, x5⟩; unfold dyn; have hT5 := hT4.ext x5; have hU5 := hU4.ext x5; have E5 := E4.trans x5; have hR5 := hR4.ext x5; have hT6 := fun v0 v1 v2 => hT5.far3 (g' := w.heap.size + 2) (by omega) v0 v1 v2; have hU6 := fun v0 v1 v2 => hU5.far3 (g' := w.heap.size + 2) (by omega) v0 v1 v2; have r0 := hR5.c0; have r1 := hR5.c1; have r2 := hR5.c2; have f0 := hR5.f0; have f1 := hR5.f1; have f2 := hR5.f2) | fail)
  go_wp2_with fail
  refine bodyPost_ret (results_rn rfl _ _ (w.heap.size + 2) s5 A5 n5 c5 e5 rfl (hR5.all _ _ _ _ _)) rfl ?_
  exact ⟨s5, A5, n5, c5, e5, rfl, hR5.nm hN5 _ _ _, ((E5.setCell (by show w.heap.size ≤ w.heap.size + 2; omega) _).setCell (by show w.heap.size ≤ w.heap.size + 2; omega) _).setCell (by show w.heap.size ≤ w.heap.size + 2; omega) _⟩

theorem Nm.zero_any {w : World} {k k' e : Int} {s : Bool} {A : Option Addr} {n c : Nat} (h : Nm w 0 k s A n c e) : Nm w 0 k' s A n c e := by
  obtain ⟨m, h1, h2⟩ := h.ex
  rcases h2 with h3 | ⟨ho, t, hx, he⟩
  · exact ⟨m, h1, .inl h3⟩
  · have := sN_eq_zero hx.symm
    have := odd_pow_pos (t := t) ho
    omega
theorem pow_int (d : Nat) : ((2 ^ d : Nat) : Int) = 2 ^ d := by rw [Int.natCast_pow]; rfl
/-- The product. -/
theorem rtimes_calls (x y k l ea eb : Int) (sa sb : Bool) (A B : Option Addr) (n c m d : Nat) (w : World) (ha : Nm w x k sa A n c ea) (hb : Nm w y l sb B m d eb) (hx : bl x.natAbs ≤ 40000000) (hy : bl y.natAbs ≤ 40000000) (hk : -10000000000 ≤ k ∧ k ≤ 10000000000) (hl : -10000000000 ≤ l ∧ l ≤ 10000000000) :
    Calls Tryz.prog 28 #[dyn sa A n c ea, dyn sb B m d eb] w fun r w' => ∃ s' A' n' c' e', r = .returned (dyn s' A' n' c' e') ∧ Nm w' (x * y) (k + l) s' A' n' c' e' ∧ Ext w w' := by
  have ba := ha.bounds
  have bb := hb.bounds
  rcases ha.parts with ⟨hn0, rfl, _, _, h1⟩ | ⟨hn, a, ta, ho, h1, hxa, hea⟩
  · rcases hb.parts with ⟨_, _, _, _, h2⟩ | ⟨_, b, _, _, h2, _, _⟩
    all_goals
      refine (times_walk sa sb A B n c m d 0 _ ea eb w h1 h2 (by omega) (by omega) (by omega) (by omega)).mono ?_
      rintro r w1 ⟨s', A', n', c', e', rfl, hN, x1⟩
      rw [Nat.zero_mul, sN_zero] at hN
      rw [Int.zero_mul]
      exact ⟨s', A', n', c', e', rfl, hN.zero_any, x1⟩
  · rcases hb.parts with ⟨_, rfl, _, _, h2⟩ | ⟨_, b, tb, ho2, h2, hyb, heb⟩
    · refine (times_walk sa sb A B n c m d a 0 ea eb w h1 h2 (by omega) (by omega) (by omega) (by omega)).mono ?_
      rintro r w1 ⟨s', A', n', c', e', rfl, hN, x1⟩
      rw [Nat.mul_zero, sN_zero] at hN
      rw [Int.mul_zero]
      exact ⟨s', A', n', c', e', rfl, hN.zero_any, x1⟩
    · refine (times_walk sa sb A B n c m d a b ea eb w h1 h2 (by omega) (by omega) (by omega) (by omega)).mono ?_
      rintro r w1 ⟨s', A', n', c', e', rfl, hN, x1⟩
      refine ⟨s', A', n', c', e', rfl, (hN.scale (ta + tb)).cast ?_ (by omega), x1⟩
      rw [hxa, hyb, sN_sN, ← pow_int, ← sN_mul]
      congr 1
      rw [Nat.pow_add]
      simp only [Nat.mul_assoc, Nat.mul_left_comm]

set_option maxHeartbeats 8000000 in
set_option maxRecDepth 100000 in
theorem plus_walk (sa sb : Bool) (A B : Option Addr) (n c m d a b da db : Nat) (ea eb E : Int) (w : World) (ha : Nt w A n c a) (hb : Nt w B m d b) (hn0 : 0 < n) (hm0 : 0 < m) (hn : n ≤ 4000000) (hm : m ≤ 4000000) (hE : -100000000000 ≤ E ∧ E ≤ 100000000000) (hda : da ≤ 100000000) (hdb : db ≤ 100000000) (hea : ea = E + da) (heb : eb = E + db) (hmin : da = 0 ∨ db = 0) :
    Calls Tryz.prog 95 #[dyn sa A n c ea, dyn sb B m d eb] w fun r w' => ∃ s' A' n' c' e', r = .returned (dyn s' A' n' c' e') ∧ Nm w' (sN sa (a * 2 ^ da) + sN sb (b * 2 ^ db)) E s' A' n' c' e' ∧ Ext w w' := by
  have t1 : ((n : Int) == 0) = false := by simp; omega
  have t2 : ((m : Int) == 0) = false := by simp; omega
  have hm1 : min ea eb = E := by omega
  have q1 : ea - E = (da : Int) := by omega
  have q2 : eb - E = (db : Int) := by omega
  have hb1 : -100000000000 ≤ ea ∧ ea ≤ 200000000000 := by omega
  have hb2 : -100000000000 ≤ eb ∧ eb ≤ 200000000000 := by omega
  clear hea heb
  unfold dyn
  go_enter Tryz.func95, Tryz.ntmps95
  go_upto_region 1 with (fail)
  have e1 : Ext w (w.alloc (.cells #[.bool sa, .slice A n c, .int .i64 ea] 44)) := (Ext.refl w).alloc _
  have hT := nmAt_new w 44 sa A n c ea
  obtain ⟨w1, hw1⟩ : ∃ w1, w1 = w.alloc (.cells #[.bool sa, .slice A n c, .int .i64 ea] 44) := ⟨_, rfl⟩
  have hs1 : w1.heap.size = w.heap.size + 1 := by rw [hw1]; simp
  rw [← hw1] at e1 hT ⊢
  clear hw1
  have e2 : Ext w1 (w1.alloc (.cells #[.bool sb, .slice B m d, .int .i64 eb] 44)) := (Ext.refl w1).alloc _
  have hU := nmAt_new w1 44 sb B m d eb
  rw [hs1] at hU
  obtain ⟨w2, hw2⟩ : ∃ w2, w2 = w1.alloc (.cells #[.bool sb, .slice B m d, .int .i64 eb] 44) := ⟨_, rfl⟩
  have hs2 : w2.heap.size = w.heap.size + 2 := by rw [hw2]; simp [hs1]
  rw [← hw2] at e2 hU ⊢
  clear hw2 hs1
  have e3 : Ext w2 (w2.alloc (.cells #[.bool false, .slice none 0 0, .int .i64 0] 44)) := (Ext.refl w2).alloc _
  have hR := nmAt_new w2 44 false none 0 0 0
  rw [hs2] at hR
  have hT := (hT.ext e2).ext e3
  have hU := hU.ext e3
  obtain ⟨w3, hw3⟩ : ∃ w3, w3 = w2.alloc (.cells #[.bool false, .slice none 0 0, .int .i64 0] 44) := ⟨_, rfl⟩
  rw [← hw3] at e3 hR hT hU ⊢
  clear hw3 hs2
  have E3 := (e1.trans e2).trans e3
  clear e1 e2 e3
  have a0 := hT.c0
  have a1 := hT.c1
  have a2 := hT.c2
  have b0 := hU.c0
  have b1 := hU.c1
  have b2 := hU.c2
  have r0 := hR.c0
  have r1 := hR.c1
  have r2 := hR.c2
  have f0 := hR.f0
  have f1 := hR.f1
  have f2 := hR.f2
  go_wp2_with fail
  refine (up_calls A n c a da _ (ha.ext E3) (by omega) (by omega)).mono ?_
  rintro v w4 ⟨A4, n4, c4, rfl, hn4, x4⟩
  have hU4 := hU.ext x4
  have b0 := hU4.c0
  have b1 := hU4.c1
  have b2 := hU4.c2
  go_wp2_with fail
  refine (up_calls B m d b db _ ((hb.ext E3).ext x4) (by omega) (by omega)).mono ?_
  rintro v w5 ⟨A5, n5, c5, rfl, hn5, x5⟩
  have hT5 := (hT.ext x4).ext x5
  have hU5 := hU4.ext x5
  have hR5 := (hR.ext x4).ext x5
  have E5 := (E3.trans x4).trans x5
  have hn4 := hn4.ext x5
  obtain ⟨X, hX⟩ : ∃ X, X = a * 2 ^ da := ⟨_, rfl⟩
  obtain ⟨Y, hY⟩ : ∃ Y, Y = b * 2 ^ db := ⟨_, rfl⟩
  rw [← hX] at hn4
  rw [← hY] at hn5
  have HX := Lib.hid hX
  have HY := Lib.hid hY
  have lX : (wd X).length ≤ 8000000 := by
    have h1 := bl_len ha.len
    have h2 : bl X ≤ 32 * 8000000 := by
      rcases Nat.eq_zero_or_pos a with h | h
      · rw [hX, h, Nat.zero_mul]; exact Nat.zero_le _
      · rw [hX, bl_mul_pow (by omega)]; omega
    exact len_of_bl (n := 8000000) h2
  have lY : (wd Y).length ≤ 8000000 := by
    have h1 := bl_len hb.len
    have h2 : bl Y ≤ 32 * 8000000 := by
      rcases Nat.eq_zero_or_pos b with h | h
      · rw [hY, h, Nat.zero_mul]; exact Nat.zero_le _
      · rw [hY, bl_mul_pow (by omega)]; omega
    exact len_of_bl (n := 8000000) h2
  have n4l : n4 ≤ 8000000 := by rw [← hn4.len]; exact lX
  have n5l : n5 ≤ 8000000 := by rw [← hn5.len]; exact lY
  have LX := Lib.hid lX
  have LY := Lib.hid lY
  have lS := Lib.hid (Nat.le_trans (len_wd_add X Y) (show max (wd X).length (wd Y).length + 1 ≤ 100000000 by omega))
  have lD := Lib.hid (Nat.le_trans (len_wd_mono (Nat.sub_le X Y)) (show (wd X).length ≤ 100000000 by omega))
  have lF := Lib.hid (Nat.le_trans (len_wd_mono (Nat.sub_le Y X)) (show (wd Y).length ≤ 100000000 by omega))
  clear hX hY hT hU hR x4 x5 E3 lX lY ha hb hm1 q1 q2 hU4 a0 a1 a2 b0 b1 b2 r0 r1 r2 f0 f1 f2
  have a0 := hT5.c0
  have a1 := hT5.c1
  have a2 := hT5.c2
  have b0 := hU5.c0
  have b1 := hU5.c1
  have b2 := hU5.c2
  have r0 := hR5.c0
  have r1 := hR5.c1
  have r2 := hR5.c2
  have f0 := hR5.f0
  have f1 := hR5.f1
  have f2 := hR5.f2
  by_cases hs : sa = sb
  · subst hs
    have ts : (sa == sa) = true := by simp
    go_upto_region 9 with (fail)
    have hEd : Ext w5 w5.drew := Ext.drew _
    have HT := hT5.ext hEd
    go_region_held3 (fun w' => w'.cell? ⟨w.heap.size, 0, none⟩ = some (.bool sa)) (first | (with_reducible exact HT.c0) | (with_reducible exact hT7.c0) | (with_reducible exact hT8.c0) | (with_reducible exact (hT9 _ _ _).c0) | fail) (first | (go_at_call 167; refine (rsum_calls _ _ _ _ _ _ X Y _ (hn4.ext hEd) (hn5.ext hEd) (by omega) (by omega)).mono ?_; rintro v w7 ⟨A7, n7, c7, rfl, hn7, x7⟩; have hT7 := HT.ext x7; have E7 := (E5.trans hEd).trans x7; have hR7 := (hR5.ext hEd).ext x7) | (go_at_call 93; refine (rnorm_calls sa _ _ _ (X + Y) _ E _ hn7 (words_wd _) (lv_wd _) (by rw [← hn7.len]; exact lS.out) (by omega)).mono ?_; rintro v w8 ⟨s8, A8, n8, c8, e8, rfl, hN8, x8⟩; unfold dyn; have hT8 := hT7.ext x8; have E8 := E7.trans x8; have hR8 := hR7.ext x8; have hT9 := fun v0 v1 v2 => hT8.far3 (g' := w.heap.size + 2) (by omega) v0 v1 v2; have r0 := hR8.c0; have r1 := hR8.c1; have r2 := hR8.c2; have f0 := hR8.f0; have f1 := hR8.f1; have f2 := hR8.f2) | fail)
    go_wp2_with fail
    refine bodyPost_ret (results_rn rfl _ _ (w.heap.size + 2) s8 A8 n8 c8 e8 rfl (hR8.all _ _ _ _ _)) rfl ?_
    refine ⟨s8, A8, n8, c8, e8, rfl, (hR8.nm hN8 _ _ _).cast ?_ rfl, ((E8.setCell (by show w.heap.size ≤ w.heap.size + 2; omega) _).setCell (by show w.heap.size ≤ w.heap.size + 2; omega) _).setCell (by show w.heap.size ≤ w.heap.size + 2; omega) _⟩
    rw [← HX.out, ← HY.out]; unfold sN; split <;> omega
  · have ts : (sa == sb) = false := by rw [beq_eq_false_iff_ne]; exact hs
    go_wp2_with fail
    refine (rorder_calls _ _ _ _ _ _ X Y _ hn4 hn5).mono ?_
    rintro v w6 ⟨rfl, x6⟩
    have hT5 := hT5.ext x6
    have hU5 := hU5.ext x6
    have hR5 := hR5.ext x6
    have E5 := E5.trans x6
    have hn4 := hn4.ext x6
    have hn5 := hn5.ext x6
    clear x6 a0 a1 a2 b0 b1 b2 r0 r1 r2 f0 f1 f2 ts
    obtain ⟨w5, hw5⟩ : ∃ W, W = w6 := ⟨_, rfl⟩
    subst hw5
    have a0 := hT5.c0
    have a1 := hT5.c1
    have a2 := hT5.c2
    have b0 := hU5.c0
    have b1 := hU5.c1
    have b2 := hU5.c2
    have r0 := hR5.c0
    have r1 := hR5.c1
    have r2 := hR5.c2
    have f0 := hR5.f0
    have f1 := hR5.f1
    have f2 := hR5.f2
    by_cases hlt : X < Y
    · rw [show ord X Y = -1 by unfold ord; rw [if_pos hlt]]
      go_upto_region 11 with (fail)
      have hEd : Ext w5 w5.drew := Ext.drew _
      have HT := hU5.ext hEd
      go_region_held3 (fun w' => w'.cell? ⟨w.heap.size + 1, 0, none⟩ = some (.bool sb)) (first | (with_reducible exact HT.c0) | (with_reducible exact hT7.c0) | (with_reducible exact hT8.c0) | (with_reducible exact (hT9 _ _ _).c0) | fail) (first | (go_at_call 171; refine (rless_calls _ _ _ _ _ _ Y X _ (hn5.ext hEd) (hn4.ext hEd) (by omega) (by omega)).mono ?_; rintro v w7 ⟨A7, n7, c7, rfl, hn7, x7⟩; have hT7 := HT.ext x7; have E7 := (E5.trans hEd).trans x7; have hR7 := (hR5.ext hEd).ext x7) | (go_at_call 93; refine (rnorm_calls sb _ _ _ (Y - X) _ E _ hn7 (words_wd _) (lv_wd _) (by rw [← hn7.len]; exact lF.out) (by omega)).mono ?_; rintro v w8 ⟨s8, A8, n8, c8, e8, rfl, hN8, x8⟩; unfold dyn; have hT8 := hT7.ext x8; have E8 := E7.trans x8; have hR8 := hR7.ext x8; have hT9 := fun v0 v1 v2 => hT8.far3 (g' := w.heap.size + 2) (by omega) v0 v1 v2; have r0 := hR8.c0; have r1 := hR8.c1; have r2 := hR8.c2; have f0 := hR8.f0; have f1 := hR8.f1; have f2 := hR8.f2) | fail)
      go_wp2_with fail
      refine bodyPost_ret (results_rn rfl _ _ (w.heap.size + 2) s8 A8 n8 c8 e8 rfl (hR8.all _ _ _ _ _)) rfl ?_
      refine ⟨s8, A8, n8, c8, e8, rfl, (hR8.nm hN8 _ _ _).cast ?_ rfl, ((E8.setCell (by show w.heap.size ≤ w.heap.size + 2; omega) _).setCell (by show w.heap.size ≤ w.heap.size + 2; omega) _).setCell (by show w.heap.size ≤ w.heap.size + 2; omega) _⟩
      rw [← HX.out, ← HY.out]; unfold sN; cases sa <;> cases sb <;> simp at hs ⊢ <;> omega
    · have h0 : ord X Y = 0 ∨ ord X Y = 1 := by unfold ord; rw [if_neg hlt]; split <;> simp
      obtain ⟨o, ho⟩ : ∃ o, o = ord X Y := ⟨_, rfl⟩
      rw [← ho] at h0 ⊢
      have tor : decide (o < 0) = false := decide_eq_false (by omega)
      clear ho
      go_upto_region 12 with (fail)
      have hEd : Ext w5 w5.drew := Ext.drew _
      have HT := hT5.ext hEd
      go_region_held3 (fun w' => w'.cell? ⟨w.heap.size, 0, none⟩ = some (.bool sa)) (first | (with_reducible exact HT.c0) | (with_reducible exact hT7.c0) | (with_reducible exact hT8.c0) | (with_reducible exact (hT9 _ _ _).c0) | fail) (first | (go_at_call 171; refine (rless_calls _ _ _ _ _ _ X Y _ (hn4.ext hEd) (hn5.ext hEd) (by omega) (by omega)).mono ?_; rintro v w7 ⟨A7, n7, c7, rfl, hn7, x7⟩; have hT7 := HT.ext x7; have E7 := (E5.trans hEd).trans x7; have hR7 := (hR5.ext hEd).ext x7) | (go_at_call 93; refine (rnorm_calls sa _ _ _ (X - Y) _ E _ hn7 (words_wd _) (lv_wd _) (by rw [← hn7.len]; exact lD.out) (by omega)).mono ?_; rintro v w8 ⟨s8, A8, n8, c8, e8, rfl, hN8, x8⟩; unfold dyn; have hT8 := hT7.ext x8; have E8 := E7.trans x8; have hR8 := hR7.ext x8; have hT9 := fun v0 v1 v2 => hT8.far3 (g' := w.heap.size + 2) (by omega) v0 v1 v2; have r0 := hR8.c0; have r1 := hR8.c1; have r2 := hR8.c2; have f0 := hR8.f0; have f1 := hR8.f1; have f2 := hR8.f2) | fail)
      go_wp2_with fail
      refine bodyPost_ret (results_rn rfl _ _ (w.heap.size + 2) s8 A8 n8 c8 e8 rfl (hR8.all _ _ _ _ _)) rfl ?_
      refine ⟨s8, A8, n8, c8, e8, rfl, (hR8.nm hN8 _ _ _).cast ?_ rfl, ((E8.setCell (by show w.heap.size ≤ w.heap.size + 2; omega) _).setCell (by show w.heap.size ≤ w.heap.size + 2; omega) _).setCell (by show w.heap.size ≤ w.heap.size + 2; omega) _⟩
      rw [← HX.out, ← HY.out]; unfold sN; cases sa <;> cases sb <;> simp at hs ⊢ <;> omega
end Go.Proofs.YtkljejejabikiaaGreatDoor
