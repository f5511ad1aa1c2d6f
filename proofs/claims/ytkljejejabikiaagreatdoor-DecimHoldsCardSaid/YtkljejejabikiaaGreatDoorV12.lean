/- Contracts of the program's functions, and plain laws on numbers and texts (joined: RefM, RefN, RefO, RefP, RefQ, HolA, HolB, HolC). -/
import Derived.Test.YtkljejejabikiaaGreatDoorV11
import Derived.Deep.RegionHeld3
import Derived.Test.YtkljejejabikiaaGreatDoorV09

/- The reference's numbers: Plus, Less, Order. -/
namespace Go.Proofs.YtkljejejabikiaaGreatDoor
open Go Go.RowKit Cusp

theorem sN_shift (s : Bool) (m t u : Nat) (h : u ≤ t) : sN s (m * 2 ^ (t - u)) * 2 ^ u = sN s (m * 2 ^ t) := by
  rw [← pow_int, ← sN_mul, Nat.mul_assoc, ← Nat.pow_add]
  congr 3
  omega

set_option maxHeartbeats 4000000 in
set_option maxRecDepth 100000 in
theorem plus_left (sa sb : Bool) (A B : Option Addr) (n c m d b : Nat) (ea eb : Int) (w : World) (h : n = 0) (hb : Nt w B m d b) (hm : m ≤ 100000000) :
    Calls Tryz.prog 95 #[dyn sa A n c ea, dyn sb B m d eb] w fun r w' => ∃ A' n' c', r = .returned (dyn sb A' n' c' eb) ∧ Nt w' A' n' c' b ∧ Ext w w' := by
  subst h
  unfold dyn
  go_enter Tryz.func95, Tryz.ntmps95
  go_upto_region 1 with (fail)
  have e1 : Ext w (w.alloc (.cells #[.bool sa, .slice A 0 c, .int .i64 ea] 44)) := (Ext.refl w).alloc _
  have hT := nmAt_new w 44 sa A 0 c ea
  obtain ⟨w1, hw1⟩ : ∃ w1, w1 = w.alloc (.cells #[.bool sa, .slice A 0 c, .int .i64 ea] 44) := ⟨_, rfl⟩
  have hs1 : w1.heap.size = w.heap.size + 1 := by rw [hw1]; simp
  rw [← hw1] at e1 hT ⊢
  clear hw1
  have e2 : Ext w1 (w1.alloc (.cells #[.bool sb, .slice B m d, .int .i64 eb] 44)) := (Ext.refl w1).alloc _
  have hU := nmAt_new w1 44 sb B m d eb
  rw [hs1] at hU
  obtain ⟨w2, hw2⟩ : ∃ w2, w2 = w1.alloc (.cells #[.bool sb, .slice B m d, .int .i64 eb] 44) := ⟨_, rfl⟩
  have hs2 : w2.heap.size = w.heap.size + 2 := by rw [hw2]; simp [hs1]
  rw [← hw2] at e2 hU ⊢
  clear hw2 hs1
  have e3 : Ext w2 (w2.alloc (.cells #[.bool false, .slice none 0 0, .int .i64 0] 44)) := (Ext.refl w2).alloc _
  have hR := nmAt_new w2 44 false none 0 0 0
  rw [hs2] at hR
  have hT := (hT.ext e2).ext e3
  have hU := hU.ext e3
  obtain ⟨w3, hw3⟩ : ∃ w3, w3 = w2.alloc (.cells #[.bool false, .slice none 0 0, .int .i64 0] 44) := ⟨_, rfl⟩
  rw [← hw3] at e3 hR hT hU ⊢
  clear hw3 hs2
  have E3 := (e1.trans e2).trans e3
  clear e1 e2 e3
  have a0 := hT.c0
  have a1 := hT.c1
  have a2 := hT.c2
  have b0 := hU.c0
  have b1 := hU.c1
  have b2 := hU.c2
  have r0 := hR.c0
  have r1 := hR.c1
  have r2 := hR.c2
  have f0 := hR.f0
  have f1 := hR.f1
  have f2 := hR.f2
  go_wp2_with fail
  refine (twin_calls sb B m d b eb _ (hb.ext E3) hm).mono ?_
  rintro v w4 ⟨A4, n4, c4, rfl, hn4, x4⟩
  have hR4 := hR.ext x4
  have E4 := E3.trans x4
  clear r0 r1 r2 f0 f1 f2
  have r0 := hR4.c0
  have r1 := hR4.c1
  have r2 := hR4.c2
  have f0 := hR4.f0
  have f1 := hR4.f1
  have f2 := hR4.f2
  unfold dyn
  go_wp2_with fail
  refine bodyPost_ret (results_rn rfl _ _ (w.heap.size + 2) sb A4 n4 c4 eb rfl (hR4.all _ _ _ _ _)) rfl ?_
  exact ⟨A4, n4, c4, rfl, hR4.nt hn4 _ _ _, ((E4.setCell (by show w.heap.size ≤ w.heap.size + 2; omega) _).setCell (by show w.heap.size ≤ w.heap.size + 2; omega) _).setCell (by show w.heap.size ≤ w.heap.size + 2; omega) _⟩
set_option maxHeartbeats 4000000 in
set_option maxRecDepth 100000 in
theorem plus_right (sa sb : Bool) (A B : Option Addr) (n c m d b : Nat) (ea eb : Int) (w : World) (hn0 : 0 < n) (h : m = 0) (ha : Nt w A n c b) (hn : n ≤ 100000000) :
    Calls Tryz.prog 95 #[dyn sa A n c ea, dyn sb B m d eb] w fun r w' => ∃ A' n' c', r = .returned (dyn sa A' n' c' ea) ∧ Nt w' A' n' c' b ∧ Ext w w' := by
  subst h
  have t1 : ((n : Int) == 0) = false := by simp; omega
  unfold dyn
  go_enter Tryz.func95, Tryz.ntmps95
  go_upto_region 1 with (fail)
  have e1 : Ext w (w.alloc (.cells #[.bool sa, .slice A n c, .int .i64 ea] 44)) := (Ext.refl w).alloc _
  have hT := nmAt_new w 44 sa A n c ea
  obtain ⟨w1, hw1⟩ : ∃ w1, w1 = w.alloc (.cells #[.bool sa, .slice A n c, .int .i64 ea] 44) := ⟨_, rfl⟩
  have hs1 : w1.heap.size = w.heap.size + 1 := by rw [hw1]; simp
  rw [← hw1] at e1 hT ⊢
  clear hw1
  have e2 : Ext w1 (w1.alloc (.cells #[.bool sb, .slice B 0 d, .int .i64 eb] 44)) := (Ext.refl w1).alloc _
  have hU := nmAt_new w1 44 sb B 0 d eb
  rw [hs1] at hU
  obtain ⟨w2, hw2⟩ : ∃ w2, w2 = w1.alloc (.cells #[.bool sb, .slice B 0 d, .int .i64 eb] 44) := ⟨_, rfl⟩
  have hs2 : w2.heap.size = w.heap.size + 2 := by rw [hw2]; simp [hs1]
  rw [← hw2] at e2 hU ⊢
  clear hw2 hs1
  have e3 : Ext w2 (w2.alloc (.cells #[.bool false, .slice none 0 0, .int .i64 0] 44)) := (Ext.refl w2).alloc _
  have hR := nmAt_new w2 44 false none 0 0 0
  rw [hs2] at hR
  have hT := (hT.ext e2).ext e3
  have hU := hU.ext e3
  obtain ⟨w3, hw3⟩ : ∃ w3, w3 = w2.alloc (.cells #[.bool false, .slice none 0 0, .int .i64 0] 44) := ⟨_, rfl⟩
  rw [← hw3] at e3 hR hT hU ⊢
  clear hw3 hs2
  have E3 := (e1.trans e2).trans e3
  clear e1 e2 e3
  have a0 := hT.c0
  have a1 := hT.c1
  have a2 := hT.c2
  have b0 := hU.c0
  have b1 := hU.c1
  have b2 := hU.c2
  have r0 := hR.c0
  have r1 := hR.c1
  have r2 := hR.c2
  have f0 := hR.f0
  have f1 := hR.f1
  have f2 := hR.f2
  go_wp2_with fail
  refine (twin_calls sa A n c b ea _ (ha.ext E3) hn).mono ?_
  rintro v w4 ⟨A4, n4, c4, rfl, hn4, x4⟩
  have hR4 := hR.ext x4
  have E4 := E3.trans x4
  clear r0 r1 r2 f0 f1 f2
  have r0 := hR4.c0
  have r1 := hR4.c1
  have r2 := hR4.c2
  have f0 := hR4.f0
  have f1 := hR4.f1
  have f2 := hR4.f2
  unfold dyn
  go_wp2_with fail
  refine bodyPost_ret (results_rn rfl _ _ (w.heap.size + 2) sa A4 n4 c4 ea rfl (hR4.all _ _ _ _ _)) rfl ?_
  exact ⟨A4, n4, c4, rfl, hR4.nt hn4 _ _ _, ((E4.setCell (by show w.heap.size ≤ w.heap.size + 2; omega) _).setCell (by show w.heap.size ≤ w.heap.size + 2; omega) _).setCell (by show w.heap.size ≤ w.heap.size + 2; omega) _⟩
/-- The sum. -/
theorem rplus_calls (x y k ea eb : Int) (sa sb : Bool) (A B : Option Addr) (n c m d : Nat) (w : World) (ha : Nm w x k sa A n c ea) (hb : Nm w y k sb B m d eb) (hx : bl x.natAbs ≤ 4000000) (hy : bl y.natAbs ≤ 4000000) (hk : -10000000000 ≤ k ∧ k ≤ 10000000000) :
    Calls Tryz.prog 95 #[dyn sa A n c ea, dyn sb B m d eb] w fun r w' => ∃ s' A' n' c' e', r = .returned (dyn s' A' n' c' e') ∧ Nm w' (x + y) k s' A' n' c' e' ∧ Ext w w' := by
  have ba := ha.bounds
  have bb := hb.bounds
  rcases ha.parts with ⟨rfl, rfl, rfl, rfl, h1⟩ | ⟨hn, a, ta, ho, h1, hxa, hea⟩
  · rcases hb.parts with ⟨h3, rfl, rfl, rfl, h2⟩ | ⟨hm, b, tb, ho2, h2, hyb, heb⟩
    · refine (plus_left false false A B 0 c m d 0 0 0 w rfl h2 (by omega)).mono ?_
      rintro r w1 ⟨A', n', c', rfl, hN, x1⟩
      exact ⟨_, _, _, _, _, rfl, ⟨0, hN, .inl ⟨rfl, rfl, rfl, rfl⟩⟩, x1⟩
    · refine (plus_left false sb A B 0 c m d b 0 eb w rfl h2 (by omega)).mono ?_
      rintro r w1 ⟨A', n', c', rfl, hN, x1⟩
      exact ⟨_, _, _, _, _, rfl, Nm.of hN ho2 (by rw [hyb]; omega) heb, x1⟩
  · rcases hb.parts with ⟨rfl, rfl, rfl, rfl, h2⟩ | ⟨hm, b, tb, ho2, h2, hyb, heb⟩
    · refine (plus_right sa false A B n c 0 d a ea 0 w hn rfl h1 (by omega)).mono ?_
      rintro r w1 ⟨A', n', c', rfl, hN, x1⟩
      exact ⟨_, _, _, _, _, rfl, Nm.of hN ho (by rw [hxa]; omega) hea, x1⟩
    · have hta : bl x.natAbs = bl a + ta := by rw [hxa, sN_abs, bl_mul_pow (by omega)]
      have htb : bl y.natAbs = bl b + tb := by rw [hyb, sN_abs, bl_mul_pow (by omega)]
      obtain ⟨u, hu⟩ : ∃ u, u = min ta tb := ⟨_, rfl⟩
      refine (plus_walk sa sb A B n c m d a b (ta - u) (tb - u) ea eb (k + u) w h1 h2 hn hm (by omega) (by omega) (by omega) (by omega) (by omega) (by omega) (by omega) (by omega)).mono ?_
      rintro r w1 ⟨s', A', n', c', e', rfl, hN, x1⟩
      refine ⟨s', A', n', c', e', rfl, (hN.scale u).cast ?_ (by omega), x1⟩
      rw [Int.add_mul, sN_shift _ _ _ _ (by omega), sN_shift _ _ _ _ (by omega), ← hxa, ← hyb]
set_option maxHeartbeats 8000000 in
set_option maxRecDepth 100000 in
/-- The difference. -/
theorem rless_num (x y k ea eb : Int) (sa sb : Bool) (A B : Option Addr) (n c m d : Nat) (w : World) (ha : Nm w x k sa A n c ea) (hb : Nm w y k sb B m d eb) (hx : bl x.natAbs ≤ 4000000) (hy : bl y.natAbs ≤ 4000000) (hk : -10000000000 ≤ k ∧ k ≤ 10000000000) :
    Calls Tryz.prog 31 #[dyn sa A n c ea, dyn sb B m d eb] w fun r w' => ∃ s' A' n' c' e', r = .returned (dyn s' A' n' c' e') ∧ Nm w' (x - y) k s' A' n' c' e' ∧ Ext w w' := by
  have hyn : bl (-y).natAbs ≤ 4000000 := by rw [Int.natAbs_neg]; exact hy
  unfold dyn
  go_enter Tryz.func31, Tryz.ntmps31
  go_upto_region 1 with (fail)
  have e1 : Ext w (w.alloc (.cells #[.bool sa, .slice A n c, .int .i64 ea] 44)) := (Ext.refl w).alloc _
  have hT := nmAt_new w 44 sa A n c ea
  obtain ⟨w1, hw1⟩ : ∃ w1, w1 = w.alloc (.cells #[.bool sa, .slice A n c, .int .i64 ea] 44) := ⟨_, rfl⟩
  have hs1 : w1.heap.size = w.heap.size + 1 := by rw [hw1]; simp
  rw [← hw1] at e1 hT ⊢
  clear hw1
  have e2 : Ext w1 (w1.alloc (.cells #[.bool sb, .slice B m d, .int .i64 eb] 44)) := (Ext.refl w1).alloc _
  have hU := nmAt_new w1 44 sb B m d eb
  rw [hs1] at hU
  obtain ⟨w2, hw2⟩ : ∃ w2, w2 = w1.alloc (.cells #[.bool sb, .slice B m d, .int .i64 eb] 44) := ⟨_, rfl⟩
  have hs2 : w2.heap.size = w.heap.size + 2 := by rw [hw2]; simp [hs1]
  rw [← hw2] at e2 hU ⊢
  clear hw2 hs1
  have e3 : Ext w2 (w2.alloc (.cells #[.bool false, .slice none 0 0, .int .i64 0] 44)) := (Ext.refl w2).alloc _
  have hR := nmAt_new w2 44 false none 0 0 0
  rw [hs2] at hR
  have hT := (hT.ext e2).ext e3
  have hU := hU.ext e3
  obtain ⟨w3, hw3⟩ : ∃ w3, w3 = w2.alloc (.cells #[.bool false, .slice none 0 0, .int .i64 0] 44) := ⟨_, rfl⟩
  rw [← hw3] at e3 hR hT hU ⊢
  clear hw3 hs2
  have E3 := (e1.trans e2).trans e3
  clear e1 e2 e3
  have a0 := hT.c0
  have a1 := hT.c1
  have a2 := hT.c2
  have b0 := hU.c0
  have b1 := hU.c1
  have b2 := hU.c2
  have r0 := hR.c0
  have r1 := hR.c1
  have r2 := hR.c2
  have f0 := hR.f0
  have f1 := hR.f1
  have f2 := hR.f2
  have hEd : Ext w3 w3.drew := Ext.drew _
  have HT := hT.ext hEd
  have HU := hU.ext hEd
  go_region_held3 (fun w' => w'.cell? ⟨w.heap.size, 0, none⟩ = some (.bool sa) ∧ w'.cell? ⟨w.heap.size, 1, none⟩ = some (.slice A n c) ∧ w'.cell? ⟨w.heap.size, 2, none⟩ = some (.int .i64 ea) ∧ w'.cell? ⟨w.heap.size + 1, 0, none⟩ = some (.bool sb) ∧ w'.cell? ⟨w.heap.size + 1, 1, none⟩ = some (.slice B m d) ∧ w'.cell? ⟨w.heap.size + 1, 2, none⟩ = some (.int .i64 eb))
    (first | (with_reducible exact ⟨HT.c0, HT.c1, HT.c2, HU.c0, HU.c1, HU.c2⟩) | (with_reducible exact ⟨hT4.c0, hT4.c1, hT4.c2, hU4.c0, hU4.c1, hU4.c2⟩) | (with_reducible exact ⟨hT5.c0, hT5.c1, hT5.c2, hU5.c0, hU5.c1, hU5.c2⟩) | (with_reducible exact ⟨(hT6 _ _ _).c0, (hT6 _ _ _).c1, (hT6 _ _ _).c2, (hU6 _ _ _).c0, (hU6 _ _ _).c1, (hU6 _ _ _).c2⟩) | fail)
    (first | (go_at_call 92; refine (rminus_calls y k eb sb B m d _ (hb.ext (E3.trans hEd))).mono ?_; rintro v w4 ⟨s4, A4, n4, c4, e4, rfl, hn4, x4⟩; have hT4 := HT.ext x4; have hU4 := HU.ext x4; have E4 := (E3.trans hEd).trans x4; have hR4 := (hR.ext hEd).ext x4) | (go_at_call 95; refine (rplus_calls x (-y) k ea e4 sa s4 A A4 n c n4 c4 _ (ha.ext E4) hn4 hx hyn hk).mono ?_; rintro v w5 ⟨s5, A5, n5, c5, e5, rfl, hN5, x5⟩; unfold dyn; have hT5 := hT4.ext x5; have hU5 := hU4.ext x5; have E5 := E4.trans x5; have hR5 := hR4.ext x5; have hT6 := fun v0 v1 v2 => hT5.far3 (g' := w.heap.size + 2) (by omega) v0 v1 v2; have hU6 := fun v0 v1 v2 => hU5.far3 (g' := w.heap.size + 2) (by omega) v0 v1 v2; have r0 := hR5.c0; have r1 := hR5.c1; have r2 := hR5.c2; have f0 := hR5.f0; have f1 := hR5.f1; have f2 := hR5.f2) | fail)
  go_wp2_with fail
  refine bodyPost_ret (results_rn rfl _ _ (w.heap.size + 2) s5 A5 n5 c5 e5 rfl (hR5.all _ _ _ _ _)) rfl ?_
  exact ⟨s5, A5, n5, c5, e5, rfl, (hR5.nm hN5 _ _ _).cast (by omega) rfl, ((E5.setCell (by show w.heap.size ≤ w.heap.size + 2; omega) _).setCell (by show w.heap.size ≤ w.heap.size + 2; omega) _).setCell (by show w.heap.size ≤ w.heap.size + 2; omega) _⟩
end Go.Proofs.YtkljejejabikiaaGreatDoor

/- The reference's numbers: magnitude, Order. -/
namespace Go.Proofs.YtkljejejabikiaaGreatDoor
open Go Go.RowKit Cusp

/-- The sign by the words' number and the sign's bit. -/
def sgI (n : Nat) (s : Bool) : Int := if n = 0 then 0 else if s = true then -1 else 1
theorem rsgn_any (s : Bool) (A : Option Addr) (n c : Nat) (e : Int) (w : World) :
    Calls Tryz.prog 34 #[.agg #[.bool s, .slice A n c, .int .i64 e]] w fun r w' => r = .returned (.int .i64 (sgI n s)) ∧ Ext w w' := rsgn_walk s A n c e w
theorem sgI_eq {w : World} {x k e : Int} {s : Bool} {A : Option Addr} {n c : Nat} (h : Nm w x k s A n c e) : sgI n s = sgn x := by
  unfold sgI
  rcases h.parts with ⟨rfl, rfl, _, _, _⟩ | ⟨hn, m, t, ho, _, hx, _⟩
  · rfl
  · have hp := odd_pow_pos (t := t) ho
    have hn' : ¬ n = 0 := by omega
    rw [if_neg hn']
    unfold sgn
    have h1 := sN_abs s (m * 2 ^ t)
    have h2 := sN_neg (s := s) hp
    rw [← hx] at h1 h2
    have hx0 : ¬ x = 0 := by omega
    rw [if_neg hx0]
    by_cases hs : s = true
    · rw [if_pos hs, if_pos (h2.2 hs)]
    · rw [if_neg hs, if_neg (fun h => hs (h2.1 h))]
theorem rhigh_any (x k e : Int) (s : Bool) (A : Option Addr) (n c : Nat) (w : World) (h : Nm w x k s A n c e) (hl : bl x.natAbs ≤ 100000000) (hk : -100000000000 ≤ k ∧ k ≤ 100000000000) :
    Calls Tryz.prog 86 #[.agg #[.bool s, .slice A n c, .int .i64 e]] w fun r w' => r = .returned (.int .i64 (hiN x k)) ∧ Ext w w' := rhigh_calls x k e s A n c w h hl hk

/-- What magnitude says: the sign of |x| - |y|. -/
def MagOk (x y r : Int) : Prop := (r < 0 ↔ x.natAbs < y.natAbs) ∧ (r = 0 ↔ x.natAbs = y.natAbs) ∧ -100000000000 ≤ r ∧ r ≤ 100000000000
set_option maxHeartbeats 8000000 in
set_option maxRecDepth 100000 in
theorem mag_short (x y k ea eb : Int) (sa sb : Bool) (A B : Option Addr) (n c m d : Nat) (w : World) (ha : Nm w x k sa A n c ea) (hb : Nm w y k sb B m d eb) (hx : bl x.natAbs ≤ 4000000) (hy : bl y.natAbs ≤ 4000000) (h0 : n = 0 ∨ m = 0) :
    Calls Tryz.prog 96 #[dyn sa A n c ea, dyn sb B m d eb] w fun r w' => r = .returned (.int .i64 ((n : Int) - m)) ∧ Ext w w' := by
  have ba := ha.bounds
  have bb := hb.bounds
  rcases Nat.eq_zero_or_pos n with h | h
  · subst h
    unfold dyn
    go_enter Tryz.func96, Tryz.ntmps96
    go_upto_region 1 with (fail)
    have e1 : Ext w (w.alloc (.cells #[.bool sa, .slice A 0 c, .int .i64 ea] 44)) := (Ext.refl w).alloc _
    have hT := nmAt_new w 44 sa A 0 c ea
    obtain ⟨w1, hw1⟩ : ∃ w1, w1 = w.alloc (.cells #[.bool sa, .slice A 0 c, .int .i64 ea] 44) := ⟨_, rfl⟩
    have hs1 : w1.heap.size = w.heap.size + 1 := by rw [hw1]; simp
    rw [← hw1] at e1 hT ⊢
    clear hw1
    have e2 : Ext w1 (w1.alloc (.cells #[.bool sb, .slice B m d, .int .i64 eb] 44)) := (Ext.refl w1).alloc _
    have hU := nmAt_new w1 44 sb B m d eb
    rw [hs1] at hU
    obtain ⟨w2, hw2⟩ : ∃ w2, w2 = w1.alloc (.cells #[.bool sb, .slice B m d, .int .i64 eb] 44) := ⟨_, rfl⟩
    have hs2 : w2.heap.size = w.heap.size + 2 := by rw [hw2]; simp [hs1]
    rw [← hw2] at e2 hU ⊢
    clear hw2 hs1
    have hT := hT.ext e2
    have E3 := e1.trans e2
    obtain ⟨w3, hw3⟩ : ∃ w3, w3 = w2 := ⟨_, rfl⟩
    rw [← hw3] at E3 hT hU ⊢
    clear hw3 e1 e2
    have a0 := hT.c0
    have a1 := hT.c1
    have a2 := hT.c2
    have b0 := hU.c0
    have b1 := hU.c1
    have b2 := hU.c2
    go_wp2
    go_ret
    exact ⟨ret_int (by omega), E3⟩
  · obtain rfl : m = 0 := by omega
    have t1 : ((n : Int) == 0) = false := by simp; omega
    unfold dyn
    go_enter Tryz.func96, Tryz.ntmps96
    go_upto_region 1 with (fail)
    have e1 : Ext w (w.alloc (.cells #[.bool sa, .slice A n c, .int .i64 ea] 44)) := (Ext.refl w).alloc _
    have hT := nmAt_new w 44 sa A n c ea
    obtain ⟨w1, hw1⟩ : ∃ w1, w1 = w.alloc (.cells #[.bool sa, .slice A n c, .int .i64 ea] 44) := ⟨_, rfl⟩
    have hs1 : w1.heap.size = w.heap.size + 1 := by rw [hw1]; simp
    rw [← hw1] at e1 hT ⊢
    clear hw1
    have e2 : Ext w1 (w1.alloc (.cells #[.bool sb, .slice B 0 d, .int .i64 eb] 44)) := (Ext.refl w1).alloc _
    have hU := nmAt_new w1 44 sb B 0 d eb
    rw [hs1] at hU
    obtain ⟨w2, hw2⟩ : ∃ w2, w2 = w1.alloc (.cells #[.bool sb, .slice B 0 d, .int .i64 eb] 44) := ⟨_, rfl⟩
    have hs2 : w2.heap.size = w.heap.size + 2 := by rw [hw2]; simp [hs1]
    rw [← hw2] at e2 hU ⊢
    clear hw2 hs1
    have hT := hT.ext e2
    have E3 := e1.trans e2
    obtain ⟨w3, hw3⟩ : ∃ w3, w3 = w2 := ⟨_, rfl⟩
    rw [← hw3] at E3 hT hU ⊢
    clear hw3 e1 e2
    have a0 := hT.c0
    have a1 := hT.c1
    have a2 := hT.c2
    have b0 := hU.c0
    have b1 := hU.c1
    have b2 := hU.c2
    go_wp2
    go_ret
    exact ⟨ret_int (by omega), E3⟩
set_option maxHeartbeats 8000000 in
set_option maxRecDepth 100000 in
theorem mag_high (x y k ea eb : Int) (sa sb : Bool) (A B : Option Addr) (n c m d : Nat) (w : World) (ha : Nm w x k sa A n c ea) (hb : Nm w y k sb B m d eb) (hx : bl x.natAbs ≤ 4000000) (hy : bl y.natAbs ≤ 4000000) (hk : -10000000000 ≤ k ∧ k ≤ 10000000000) (hn : 0 < n) (hm : 0 < m) (hne : hiN x k ≠ hiN y k) (h1 : -200000000000 ≤ hiN x k ∧ hiN x k ≤ 200000000000) (h2 : -200000000000 ≤ hiN y k ∧ hiN y k ≤ 200000000000) :
    Calls Tryz.prog 96 #[dyn sa A n c ea, dyn sb B m d eb] w fun r w' => r = .returned (.int .i64 (hiN x k - hiN y k)) ∧ Ext w w' := by
  have t1 : ((n : Int) == 0) = false := by simp; omega
  have t2 : ((m : Int) == 0) = false := by simp; omega
  have t3 : (hiN x k != hiN y k) = true := by simpa using hne
  have t4 : (hiN x k == hiN y k) = false := by simpa using hne
  have e9 : IntKind.i64.wrap (hiN x k - hiN y k) = hiN x k - hiN y k := IntWalk.i64_in _ (by omega)
  clear hne
  unfold dyn
  go_enter Tryz.func96, Tryz.ntmps96
  go_upto_region 1 with (fail)
  have e1 : Ext w (w.alloc (.cells #[.bool sa, .slice A n c, .int .i64 ea] 44)) := (Ext.refl w).alloc _
  have hT := nmAt_new w 44 sa A n c ea
  obtain ⟨w1, hw1⟩ : ∃ w1, w1 = w.alloc (.cells #[.bool sa, .slice A n c, .int .i64 ea] 44) := ⟨_, rfl⟩
  have hs1 : w1.heap.size = w.heap.size + 1 := by rw [hw1]; simp
  rw [← hw1] at e1 hT ⊢
  clear hw1
  have e2 : Ext w1 (w1.alloc (.cells #[.bool sb, .slice B m d, .int .i64 eb] 44)) := (Ext.refl w1).alloc _
  have hU := nmAt_new w1 44 sb B m d eb
  rw [hs1] at hU
  obtain ⟨w2, hw2⟩ : ∃ w2, w2 = w1.alloc (.cells #[.bool sb, .slice B m d, .int .i64 eb] 44) := ⟨_, rfl⟩
  have hs2 : w2.heap.size = w.heap.size + 2 := by rw [hw2]; simp [hs1]
  rw [← hw2] at e2 hU ⊢
  clear hw2 hs1
  have hT := hT.ext e2
  have E3 := e1.trans e2
  obtain ⟨w3, hw3⟩ : ∃ w3, w3 = w2 := ⟨_, rfl⟩
  rw [← hw3] at E3 hT hU ⊢
  clear hw3 e1 e2
  have a0 := hT.c0
  have a1 := hT.c1
  have a2 := hT.c2
  have b0 := hU.c0
  have b1 := hU.c1
  have b2 := hU.c2
  go_upto_region 3 with (fail)
  have hEd : Ext w3 w3.drew := Ext.drew _
  have HT := hT.ext hEd
  have HU := hU.ext hEd
  have EE := E3.trans hEd
  go_region_held3 (fun w' => w'.cell? ⟨w.heap.size, 0, none⟩ = some (.bool sa) ∧ w'.cell? ⟨w.heap.size, 1, none⟩ = some (.slice A n c) ∧ w'.cell? ⟨w.heap.size, 2, none⟩ = some (.int .i64 ea) ∧ w'.cell? ⟨w.heap.size + 1, 0, none⟩ = some (.bool sb) ∧ w'.cell? ⟨w.heap.size + 1, 1, none⟩ = some (.slice B m d) ∧ w'.cell? ⟨w.heap.size + 1, 2, none⟩ = some (.int .i64 eb))
    (first | (with_reducible exact ⟨HT.c0, HT.c1, HT.c2, HU.c0, HU.c1, HU.c2⟩) | fail)
    (first | (go_at_call 86; (with_reducible refine (rhigh_any x k ea sa A n c _ (ha.ext EE) (by omega) (by omega)).mono ?_); rintro v w4 ⟨rfl, x4⟩; have HT := HT.ext x4; have HU := HU.ext x4; have EE := EE.trans x4) | (go_at_call 86; (with_reducible refine (rhigh_any y k eb sb B m d _ (hb.ext EE) (by omega) (by omega)).mono ?_); rintro v w4 ⟨rfl, x4⟩; have HT := HT.ext x4; have HU := HU.ext x4; have EE := EE.trans x4) | fail)
  all_goals
    go_wp2
    have hEd : Ext w4 w4.drew := Ext.drew _
    have HT := HT.ext hEd
    have HU := HU.ext hEd
    have EE := EE.trans hEd
    go_region_held3 (fun w' => w'.cell? ⟨w.heap.size, 0, none⟩ = some (.bool sa) ∧ w'.cell? ⟨w.heap.size, 1, none⟩ = some (.slice A n c) ∧ w'.cell? ⟨w.heap.size, 2, none⟩ = some (.int .i64 ea) ∧ w'.cell? ⟨w.heap.size + 1, 0, none⟩ = some (.bool sb) ∧ w'.cell? ⟨w.heap.size + 1, 1, none⟩ = some (.slice B m d) ∧ w'.cell? ⟨w.heap.size + 1, 2, none⟩ = some (.int .i64 eb)) (first | (with_reducible exact ⟨HT.c0, HT.c1, HT.c2, HU.c0, HU.c1, HU.c2⟩) | fail) (first | (go_at_call 86; (with_reducible refine (rhigh_any x k ea sa A n c _ (ha.ext EE) (by omega) (by omega)).mono ?_); rintro v w4 ⟨rfl, x4⟩; have HT := HT.ext x4; have HU := HU.ext x4; have EE := EE.trans x4) | (go_at_call 86; (with_reducible refine (rhigh_any y k eb sb B m d _ (hb.ext EE) (by omega) (by omega)).mono ?_); rintro v w4 ⟨rfl, x4⟩; have HT := HT.ext x4; have HU := HU.ext x4; have EE := EE.trans x4) | fail)
    all_goals
      go_wp2
      go_ret
      exact ⟨rfl, EE⟩
set_option maxHeartbeats 8000000 in
set_option maxRecDepth 100000 in
theorem mag_same (sa sb : Bool) (A B : Option Addr) (n c m d a b da db : Nat) (ea eb E H : Int) (x y k : Int) (w : World) (hx : Nm w x k sa A n c ea) (hy : Nm w y k sb B m d eb) (ha : Nt w A n c a) (hb : Nt w B m d b) (hn0 : 0 < n) (hm0 : 0 < m) (hn : n ≤ 4000000) (hm : m ≤ 4000000) (lx : bl x.natAbs ≤ 4000000) (ly : bl y.natAbs ≤ 4000000) (hk : -10000000000 ≤ k ∧ k ≤ 10000000000)
    (hE : -100000000000 ≤ E ∧ E ≤ 100000000000) (hda : da ≤ 100000000) (hdb : db ≤ 100000000) (hea : ea = E + da) (heb : eb = E + db) (hmin : da = 0 ∨ db = 0) (h1 : hiN x k = H) (h2 : hiN y k = H) :
    Calls Tryz.prog 96 #[dyn sa A n c ea, dyn sb B m d eb] w fun r w' => r = .returned (.int .i64 (ord (a * 2 ^ da) (b * 2 ^ db))) ∧ Ext w w' := by
  have t1 : ((n : Int) == 0) = false := by simp; omega
  have t2 : ((m : Int) == 0) = false := by simp; omega
  have t3 : (H != H) = false := by simp
  have t4 : (H == H) = true := by simp
  have hm1 : min ea eb = E := by omega
  have q1 : ea - E = (da : Int) := by omega
  have q2 : eb - E = (db : Int) := by omega
  have q3 : IntKind.i64.wrap (da : Int) = (da : Int) := IntWalk.i64_in _ (by omega)
  have q4 : IntKind.i64.wrap (db : Int) = (db : Int) := IntWalk.i64_in _ (by omega)
  have hb1 : -100000000000 ≤ ea ∧ ea ≤ 200000000000 := by omega
  have hb2 : -100000000000 ≤ eb ∧ eb ≤ 200000000000 := by omega
  have H1 := Lib.hid h1
  have H2 := Lib.hid h2
  have HM := Lib.hid hm1
  have Q1 := Lib.hid q1
  have Q2 := Lib.hid q2
  have Q3 := Lib.hid q3
  have Q4 := Lib.hid q4
  clear hea heb h1 h2 hm1 q1 q2 q3 q4
  unfold dyn
  go_enter Tryz.func96, Tryz.ntmps96
  go_upto_region 1 with (fail)
  have e1 : Ext w (w.alloc (.cells #[.bool sa, .slice A n c, .int .i64 ea] 44)) := (Ext.refl w).alloc _
  have hT := nmAt_new w 44 sa A n c ea
  obtain ⟨w1, hw1⟩ : ∃ w1, w1 = w.alloc (.cells #[.bool sa, .slice A n c, .int .i64 ea] 44) := ⟨_, rfl⟩
  have hs1 : w1.heap.size = w.heap.size + 1 := by rw [hw1]; simp
  rw [← hw1] at e1 hT ⊢
  clear hw1
  have e2 : Ext w1 (w1.alloc (.cells #[.bool sb, .slice B m d, .int .i64 eb] 44)) := (Ext.refl w1).alloc _
  have hU := nmAt_new w1 44 sb B m d eb
  rw [hs1] at hU
  obtain ⟨w2, hw2⟩ : ∃ w2, w2 = w1.alloc (.cells #[.bool sb, .slice B m d, .int .i64 eb] 44) := ⟨_, rfl⟩
  have hs2 : w2.heap.size = w.heap.size + 2 := by rw [hw2]; simp [hs1]
  rw [← hw2] at e2 hU ⊢
  clear hw2 hs1
  have hT := hT.ext e2
  have E3 := e1.trans e2
  obtain ⟨w3, hw3⟩ : ∃ w3, w3 = w2 := ⟨_, rfl⟩
  rw [← hw3] at E3 hT hU ⊢
  clear hw3 e1 e2
  have a0 := hT.c0
  have a1 := hT.c1
  have a2 := hT.c2
  have b0 := hU.c0
  have b1 := hU.c1
  have b2 := hU.c2
  go_upto_region 3 with (fail)
  have hEd : Ext w3 w3.drew := Ext.drew _
  have HT := hT.ext hEd
  have HU := hU.ext hEd
  have EE := E3.trans hEd
  go_region_held3 (fun w' => w'.cell? ⟨w.heap.size, 0, none⟩ = some (.bool sa) ∧ w'.cell? ⟨w.heap.size, 1, none⟩ = some (.slice A n c) ∧ w'.cell? ⟨w.heap.size, 2, none⟩ = some (.int .i64 ea) ∧ w'.cell? ⟨w.heap.size + 1, 0, none⟩ = some (.bool sb) ∧ w'.cell? ⟨w.heap.size + 1, 1, none⟩ = some (.slice B m d) ∧ w'.cell? ⟨w.heap.size + 1, 2, none⟩ = some (.int .i64 eb))
    (first | (with_reducible exact ⟨HT.c0, HT.c1, HT.c2, HU.c0, HU.c1, HU.c2⟩) | fail)
    (first | (go_at_call 86; (with_reducible refine (rhigh_any x k ea sa A n c _ (hx.ext EE) (by omega) (by omega)).mono ?_); rintro v w4 ⟨rfl, x4⟩; (first | rw [H1.out] | rw [H2.out]); have HT := HT.ext x4; have HU := HU.ext x4; have EE := EE.trans x4) | (go_at_call 86; (with_reducible refine (rhigh_any y k eb sb B m d _ (hy.ext EE) (by omega) (by omega)).mono ?_); rintro v w4 ⟨rfl, x4⟩; (first | rw [H1.out] | rw [H2.out]); have HT := HT.ext x4; have HU := HU.ext x4; have EE := EE.trans x4) | fail)
  all_goals
    have hm1 := HM.out
    have q1 := Q1.out
    have q2 := Q2.out
    have q3 := Q3.out
    have q4 := Q4.out
    have a0 := HT.c0
    have a1 := HT.c1
    have a2 := HT.c2
    have b0 := HU.c0
    have b1 := HU.c1
    have b2 := HU.c2
    go_upto_region 6 with (fail)
    have hEd : Ext w4 w4.drew := Ext.drew _
    have HT := HT.ext hEd
    have HU := HU.ext hEd
    have EE := EE.trans hEd
    clear a0 a1 a2 b0 b1 b2
    go_region_held3 (fun w' => w'.cell? ⟨w.heap.size, 0, none⟩ = some (.bool sa) ∧ w'.cell? ⟨w.heap.size, 1, none⟩ = some (.slice A n c) ∧ w'.cell? ⟨w.heap.size, 2, none⟩ = some (.int .i64 ea) ∧ w'.cell? ⟨w.heap.size + 1, 0, none⟩ = some (.bool sb) ∧ w'.cell? ⟨w.heap.size + 1, 1, none⟩ = some (.slice B m d) ∧ w'.cell? ⟨w.heap.size + 1, 2, none⟩ = some (.int .i64 eb)) (first | (with_reducible exact ⟨HT.c0, HT.c1, HT.c2, HU.c0, HU.c1, HU.c2⟩) | fail) (first | (go_at_call 149; (with_reducible refine (up_calls A n c a da _ (ha.ext EE) (by omega) (by omega)).mono ?_); rintro v w4 ⟨A4, n4, c4, rfl, hnA, x4⟩; (try have hnB := hnB.ext x4); have HT := HT.ext x4; have HU := HU.ext x4; have EE := EE.trans x4) | (go_at_call 149; (with_reducible refine (up_calls B m d b db _ (hb.ext EE) (by omega) (by omega)).mono ?_); rintro v w4 ⟨B4, m4, d4, rfl, hnB, x4⟩; (try have hnA := hnA.ext x4); have HT := HT.ext x4; have HU := HU.ext x4; have EE := EE.trans x4) | (go_at_call 170; (with_reducible refine (rorder_calls A4 B4 n4 m4 c4 d4 _ _ _ hnA hnB).mono ?_); rintro v w4 ⟨rfl, x4⟩; have HT := HT.ext x4; have HU := HU.ext x4; have EE := EE.trans x4) | fail)
    all_goals
      go_wp2
      go_ret
      exact ⟨rfl, EE⟩
theorem Nm.zero_iff {w : World} {x k e : Int} {s : Bool} {A : Option Addr} {n c : Nat} (h : Nm w x k s A n c e) : n = 0 ↔ x = 0 := by
  rcases h.parts with ⟨h1, h2, _⟩ | ⟨h1, m, t, ho, _, hx, _⟩
  · exact ⟨fun _ => h2, fun _ => h1⟩
  · have hp := odd_pow_pos (t := t) ho
    have h3 := sN_abs s (m * 2 ^ t)
    rw [← hx] at h3
    constructor <;> intro <;> omega
theorem bl_lt {a b : Nat} (h : bl a < bl b) : a < b := by
  rcases Nat.lt_or_ge a b with h1 | h1
  · exact h1
  · have := bl_mono h1; omega
/-- magnitude. -/
theorem rmag_calls (x y k ea eb : Int) (sa sb : Bool) (A B : Option Addr) (n c m d : Nat) (w : World) (ha : Nm w x k sa A n c ea) (hb : Nm w y k sb B m d eb) (hx : bl x.natAbs ≤ 4000000) (hy : bl y.natAbs ≤ 4000000) (hk : -10000000000 ≤ k ∧ k ≤ 10000000000) :
    Calls Tryz.prog 96 #[dyn sa A n c ea, dyn sb B m d eb] w fun r w' => ∃ i, r = .returned (.int .i64 i) ∧ MagOk x y i ∧ Ext w w' := by
  have za := ha.zero_iff
  have zb := hb.zero_iff
  have ba := ha.bounds
  have bb := hb.bounds
  by_cases h0 : n = 0 ∨ m = 0
  · refine (mag_short x y k ea eb sa sb A B n c m d w ha hb hx hy h0).mono ?_
    rintro r w1 ⟨rfl, x1⟩
    refine ⟨_, rfl, ⟨?_, ?_, by omega, by omega⟩, x1⟩
    · rcases h0 with h | h <;> omega
    · rcases h0 with h | h <;> omega
  · have hn : 0 < n := by omega
    have hm : 0 < m := by omega
    have hx0 : ¬ x = 0 := by omega
    have hy0 : ¬ y = 0 := by omega
    have h1 : hiN x k = bl x.natAbs + k := by unfold hiN; rw [if_neg hx0]
    have h2 : hiN y k = bl y.natAbs + k := by unfold hiN; rw [if_neg hy0]
    by_cases hne : hiN x k = hiN y k
    · rcases ha.parts with ⟨h3, _⟩ | ⟨_, a, ta, ho, h3, hxa, hea⟩
      · omega
      rcases hb.parts with ⟨h4, _⟩ | ⟨_, b, tb, ho2, h4, hyb, heb⟩
      · omega
      have hta : bl x.natAbs = bl a + ta := by rw [hxa, sN_abs, bl_mul_pow (by omega)]
      have htb : bl y.natAbs = bl b + tb := by rw [hyb, sN_abs, bl_mul_pow (by omega)]
      obtain ⟨u, hu⟩ : ∃ u, u = min ta tb := ⟨_, rfl⟩
      refine (mag_same sa sb A B n c m d a b (ta - u) (tb - u) ea eb (k + u) (hiN y k) x y k w ha hb h3 h4 hn hm (by omega) (by omega) hx hy hk (by omega) (by omega) (by omega) (by omega) (by omega) (by omega) hne rfl).mono ?_
      rintro r w1 ⟨rfl, x1⟩
      have e1 : x.natAbs = a * 2 ^ (ta - u) * 2 ^ u := by rw [hxa, sN_abs, Nat.mul_assoc, ← Nat.pow_add]; congr 2; omega
      have e2 : y.natAbs = b * 2 ^ (tb - u) * 2 ^ u := by rw [hyb, sN_abs, Nat.mul_assoc, ← Nat.pow_add]; congr 2; omega
      refine ⟨_, rfl, ?_, x1⟩
      generalize a * 2 ^ (ta - u) = X at e1 ⊢
      generalize b * 2 ^ (tb - u) = Y at e2 ⊢
      have hp : 0 < 2 ^ u := Nat.two_pow_pos u
      rw [MagOk, e1, e2]
      unfold ord
      rcases Nat.lt_trichotomy X Y with h | h | h
      · have := Nat.mul_lt_mul_of_pos_right h hp
        rw [if_pos h]
        refine ⟨⟨fun _ => this, fun _ => by omega⟩, ⟨fun h => by omega, fun h => by omega⟩, by omega, by omega⟩
      · subst h
        rw [if_neg (by omega), if_pos rfl]
        refine ⟨⟨fun h => by omega, fun h => by omega⟩, ⟨fun _ => rfl, fun _ => rfl⟩, by omega, by omega⟩
      · have := Nat.mul_lt_mul_of_pos_right h hp
        rw [if_neg (by omega), if_neg (by omega)]
        refine ⟨⟨fun h => by omega, fun h => by omega⟩, ⟨fun h => by omega, fun h => by omega⟩, by omega, by omega⟩
    · refine (mag_high x y k ea eb sa sb A B n c m d w ha hb hx hy hk hn hm hne (by omega) (by omega)).mono ?_
      rintro r w1 ⟨rfl, x1⟩
      refine ⟨_, rfl, ?_, x1⟩
      rw [h1, h2] at hne ⊢
      rcases Nat.lt_trichotomy (bl x.natAbs) (bl y.natAbs) with h | h | h
      · have := bl_lt h
        refine ⟨⟨fun _ => this, fun _ => by omega⟩, ⟨fun h => by omega, fun h => by omega⟩, by omega, by omega⟩
      · omega
      · have := bl_lt h
        refine ⟨⟨fun h => by omega, fun h => by omega⟩, ⟨fun h => by omega, fun h => by omega⟩, by omega, by omega⟩

set_option maxHeartbeats 8000000 in
set_option maxRecDepth 100000 in
/-- The order of two numbers. -/
theorem rorderN_calls (x y k ea eb : Int) (sa sb : Bool) (A B : Option Addr) (n c m d : Nat) (w : World) (ha : Nm w x k sa A n c ea) (hb : Nm w y k sb B m d eb) (hx : bl x.natAbs ≤ 4000000) (hy : bl y.natAbs ≤ 4000000) (hk : -10000000000 ≤ k ∧ k ≤ 10000000000) :
    Calls Tryz.prog 32 #[dyn sa A n c ea, dyn sb B m d eb] w fun r w' => r = .returned (.int .i64 (sgn (x - y))) ∧ Ext w w' := by
  obtain ⟨σ, hσ⟩ : ∃ σ, σ = sgn x := ⟨_, rfl⟩
  obtain ⟨τ, hτ⟩ : ∃ τ, τ = sgn y := ⟨_, rfl⟩
  have HA := Lib.hid ((sgI_eq ha).trans hσ.symm)
  have HB := Lib.hid ((sgI_eq hb).trans hτ.symm)
  have s1 : (σ = 0 ∧ x = 0) ∨ (σ = -1 ∧ x < 0) ∨ (σ = 1 ∧ 0 < x) := by rw [hσ]; unfold sgn; (split; omega; (split <;> omega))
  have s2 : (τ = 0 ∧ y = 0) ∨ (τ = -1 ∧ y < 0) ∨ (τ = 1 ∧ 0 < y) := by rw [hτ]; unfold sgn; (split; omega; (split <;> omega))
  have S1 := Lib.hid s1
  have S2 := Lib.hid s2
  clear hσ hτ s1 s2
  unfold dyn
  go_enter Tryz.func32, Tryz.ntmps32
  go_upto_region 1 with (fail)
  have e1 : Ext w (w.alloc (.cells #[.bool sa, .slice A n c, .int .i64 ea] 44)) := (Ext.refl w).alloc _
  have hT := nmAt_new w 44 sa A n c ea
  obtain ⟨w1, hw1⟩ : ∃ w1, w1 = w.alloc (.cells #[.bool sa, .slice A n c, .int .i64 ea] 44) := ⟨_, rfl⟩
  have hs1 : w1.heap.size = w.heap.size + 1 := by rw [hw1]; simp
  rw [← hw1] at e1 hT ⊢
  clear hw1
  have e2 : Ext w1 (w1.alloc (.cells #[.bool sb, .slice B m d, .int .i64 eb] 44)) := (Ext.refl w1).alloc _
  have hU := nmAt_new w1 44 sb B m d eb
  rw [hs1] at hU
  obtain ⟨w2, hw2⟩ : ∃ w2, w2 = w1.alloc (.cells #[.bool sb, .slice B m d, .int .i64 eb] 44) := ⟨_, rfl⟩
  have hs2 : w2.heap.size = w.heap.size + 2 := by rw [hw2]; simp [hs1]
  rw [← hw2] at e2 hU ⊢
  clear hw2 hs1
  have hT := hT.ext e2
  have E3 := e1.trans e2
  obtain ⟨w3, hw3⟩ : ∃ w3, w3 = w2 := ⟨_, rfl⟩
  rw [← hw3] at E3 hT hU ⊢
  clear hw3 e1 e2
  have a0 := hT.c0
  have a1 := hT.c1
  have a2 := hT.c2
  have b0 := hU.c0
  have b1 := hU.c1
  have b2 := hU.c2
  go_upto_region 1 with (fail)
  have hEd : Ext w3 w3.drew := Ext.drew _
  have HT := hT.ext hEd
  have HU := hU.ext hEd
  have EE := E3.trans hEd
  go_region_held3 (fun w' => w'.cell? ⟨w.heap.size, 0, none⟩ = some (.bool sa) ∧ w'.cell? ⟨w.heap.size, 1, none⟩ = some (.slice A n c) ∧ w'.cell? ⟨w.heap.size, 2, none⟩ = some (.int .i64 ea) ∧ w'.cell? ⟨w.heap.size + 1, 0, none⟩ = some (.bool sb) ∧ w'.cell? ⟨w.heap.size + 1, 1, none⟩ = some (.slice B m d) ∧ w'.cell? ⟨w.heap.size + 1, 2, none⟩ = some (.int .i64 eb))
    (first | (with_reducible exact ⟨HT.c0, HT.c1, HT.c2, HU.c0, HU.c1, HU.c2⟩) | fail)
    (first | (go_at_call 34; refine (rsgn_any _ _ _ _ _ _).mono ?_; rintro v w4 ⟨rfl, x4⟩; (first | rw [HA.out] | rw [HB.out]); have HT := HT.ext x4; have HU := HU.ext x4; have EE := EE.trans x4) | fail)
  all_goals
    have hr : ∃ i, i = sgn (x - y) := ⟨_, rfl⟩
    obtain ⟨i, hi⟩ := hr
    have HI := Lib.hid hi
    clear hi
    by_cases hne : σ = τ
    · subst hne
      have t1 : (σ != σ) = false := by simp
      have a0 := HT.c0
      have a1 := HT.c1
      have a2 := HT.c2
      have b0 := HU.c0
      have b1 := HU.c1
      have b2 := HU.c2
      go_wp2_with fail
      refine (rmag_calls x y k ea eb sa sb A B n c m d _ (ha.ext EE) (hb.ext EE) hx hy hk).mono ?_
      rintro v w5 ⟨j, rfl, hj, x5⟩
      have EE := EE.trans x5
      have HJ := Lib.hid hj
      have j1 : -100000000000 ≤ j := hj.2.2.1
      have j2 : j ≤ 100000000000 := hj.2.2.2
      clear hj
      rcases S1.out with ⟨rfl, h1⟩ | ⟨rfl, h1⟩ | ⟨rfl, h1⟩
      all_goals
        rcases Int.lt_trichotomy j 0 with h2 | h2 | h2
        all_goals
          have hfin : ∀ v, v = sgn (x - y) → v = i := fun v hv => by rw [hv, HI.out]
          have HF := Lib.hid hfin
          have H1 := Lib.hid h1
          have H2 := Lib.hid h2
          clear hfin h1
          (try subst h2)
          go_wp2
          go_ret
          refine ⟨ret_int (by rw [← HI.out]; symm; have q1 := S2.out; have q2 := HJ.out; have q3 := H1.out; have q4 := H2.out; unfold MagOk at q2; rw [HI.out]; unfold sgn; (split; omega; (split <;> omega))), EE⟩
    · have t1 : (σ != τ) = true := by simpa using hne
      by_cases hlt : σ < τ
      · go_wp2
        go_ret
        refine ⟨ret_int ?_, EE⟩
        have q1 := S1.out
        have q2 := S2.out
        unfold sgn
        (split; omega; (split <;> omega))
      · go_wp2
        go_ret
        refine ⟨ret_int ?_, EE⟩
        have q1 := S1.out
        have q2 := S2.out
        unfold sgn
        (split; omega; (split <;> omega))
end Go.Proofs.YtkljejejabikiaaGreatDoor

/- The reference's numbers: Float, Digits, Ten. -/
namespace Go.Proofs.YtkljejejabikiaaGreatDoor
open Go Go.RowKit Cusp

theorem and_2047 (x : Nat) (hx : x < 18446744073709551616) : bits .and .u64 (x : Int) 2047 = ((x % 2048 : Nat) : Int) := by
  have h := u64_and_nat x 2047 hx (by omega)
  rw [show ((2047 : Nat) : Int) = 2047 from rfl] at h
  rw [h, show 2047 = 2 ^ 11 - 1 by decide, Nat.and_two_pow_sub_one_eq_mod]
theorem and_frac (x : Nat) (hx : x < 18446744073709551616) : bits .and .u64 (x : Int) 4503599627370495 = ((x % 4503599627370496 : Nat) : Int) := by
  have h := u64_and_nat x 4503599627370495 hx (by omega)
  rw [show ((4503599627370495 : Nat) : Int) = 4503599627370495 from rfl] at h
  rw [h, show 4503599627370495 = 2 ^ 52 - 1 by decide, Nat.and_two_pow_sub_one_eq_mod]
theorem or_hidden (x : Nat) (hx : x < 4503599627370496) : bits .or .u64 (x : Int) 4503599627370496 = ((4503599627370496 + x : Nat) : Int) := by
  have h := u64_or_nat x 4503599627370496 (by omega) (by omega)
  rw [show ((4503599627370496 : Nat) : Int) = 4503599627370496 from rfl] at h
  have h2 := Nat.two_pow_add_eq_or_of_lt (b := x) (i := 52) hx 1
  rw [h, Nat.or_comm, show 4503599627370496 = 2 ^ 52 * 1 by decide, ← h2]

set_option maxHeartbeats 4000000 in
set_option maxRecDepth 100000 in
/-- A finite float's number. -/
theorem rfloat_calls (b : Nat) (hb : b < 18446744073709551616) (hf : b % 9223372036854775808 < 9218868437227405312) (w : World) :
    Calls Tryz.prog 29 #[.float .f64 b] w fun r w' => ∃ s' A' n' c' e', r = .returned (dyn s' A' n' c' e') ∧ Nm w' (sN (decide (9223372036854775808 ≤ b)) (V (b % 9223372036854775808))) (-1074) s' A' n' c' e' ∧ Ext w w' := by
  obtain ⟨E, hE⟩ : ∃ E, E = b / 4503599627370496 % 2048 := ⟨_, rfl⟩
  obtain ⟨F, hF⟩ : ∃ F, F = b % 4503599627370496 := ⟨_, rfl⟩
  have q1 := and_2047 (b / 4503599627370496) (by omega)
  rw [← hE] at q1
  have q2 := and_frac b hb
  rw [← hF] at q2
  have hFl : F < 4503599627370496 := by omega
  have q3 := or_hidden F hFl
  have hEl : E ≤ 2046 := by omega
  have hV : V (b % 9223372036854775808) = (if E = 0 then F else 4503599627370496 + F) * 2 ^ (max E 1 - 1) := by
    have e : b % 9223372036854775808 = E * 4503599627370496 + F := by omega
    rw [e]
    by_cases h0 : E = 0
    · subst h0
      rw [if_pos rfl, Nat.zero_mul, Nat.zero_add]
      unfold V
      rw [if_pos hFl]; simp
    · rw [if_neg h0, V_normal (by omega) hFl]
      congr 2
      omega
  have hfb := run_fbits b
  obtain ⟨sg, hsg⟩ : ∃ sg : Bool, sg = decide (9223372036854775808 ≤ b) := ⟨_, rfl⟩
  have q4 : ((b : Int) / 9223372036854775808 == 1) = sg := by
    rw [hsg, Bool.eq_iff_iff, beq_iff_eq, decide_eq_true_iff]; omega
  rw [← hsg]
  have q1' : bits .and .u64 ((b : Int) / 4503599627370496) 2047 = (E : Int) := by
    rw [show ((b : Int) / 4503599627370496) = ((b / 4503599627370496 : Nat) : Int) by omega]; exact q1
  clear hE hF hsg q1
  have HV := Lib.hid hV
  clear hV
  by_cases h0 : E = 0
  · subst h0
    go_enter Tryz.func29, Tryz.ntmps29
    go_upto_region 1 with (fail)
    have e1 : Ext w (w.alloc (.cells #[.bool false, .slice none 0 0, .int .i64 0] 44)) := (Ext.refl w).alloc _
    have hR := nmAt_new w 44 false none 0 0 0
    obtain ⟨w1, hw1⟩ : ∃ w1, w1 = w.alloc (.cells #[.bool false, .slice none 0 0, .int .i64 0] 44) := ⟨_, rfl⟩
    have hs1 : w1.heap.size = w.heap.size + 1 := by rw [hw1]; simp
    rw [← hw1] at e1 hR ⊢
    clear hw1
    go_wp2_with fail
    have hw2 : Words [(F : Int) % 4294967296, (F : Int) / 4294967296] := words_cons.2 ⟨by omega, words_cons.2 ⟨by omega, words_nil⟩⟩
    have hv : lv [(F : Int) % 4294967296, (F : Int) / 4294967296] = F := by simp only [lv]; omega
    have hl := rd_lit w1 71 .u32 [(F : Int) % 4294967296, (F : Int) / 4294967296] (by simp)
    rw [hs1] at hl
    refine (rnorm_calls sg _ 2 2 F [(F : Int) % 4294967296, (F : Int) / 4294967296] (-1074) _ hl hw2 hv (by omega) (by omega)).mono ?_
    rintro r w2 ⟨s', A', n', c', e', rfl, hN2, x2⟩
    have e2 : Ext w1 w2 := ((Ext.refl w1).alloc _).trans x2
    have hR2 := hR.ext e2
    have E2 := e1.trans e2
    clear hl hv hw2 x2 hR hs1
    have r0 := hR2.c0
    have r1 := hR2.c1
    have r2 := hR2.c2
    have f0 := hR2.f0
    have f1 := hR2.f1
    have f2 := hR2.f2
    unfold dyn
    go_wp2_with fail
    refine bodyPost_ret (results_rn rfl _ _ w.heap.size s' A' n' c' e' rfl (hR2.all _ _ _ _ _)) rfl ?_
    refine ⟨s', A', n', c', e', rfl, ((hR2.nm hN2 _ _ _).scale (0)).cast ?_ (by omega), ((E2.setCell (Nat.le_refl _) _).setCell (Nat.le_refl _) _).setCell (Nat.le_refl _) _⟩
    rw [HV.out, ← pow_int, ← sN_mul]; rfl
  · have t1 : ((E : Int) == 0) = false := by rw [beq_eq_false_iff_ne]; omega
    obtain ⟨M, hM⟩ : ∃ M, M = 4503599627370496 + F := ⟨_, rfl⟩
    rw [← hM] at q3
    have hMl : M < 9007199254740992 := by omega
    have HM := Lib.hid hM
    clear hM
    go_enter Tryz.func29, Tryz.ntmps29
    go_upto_region 1 with (fail)
    have e1 : Ext w (w.alloc (.cells #[.bool false, .slice none 0 0, .int .i64 0] 44)) := (Ext.refl w).alloc _
    have hR := nmAt_new w 44 false none 0 0 0
    obtain ⟨w1, hw1⟩ : ∃ w1, w1 = w.alloc (.cells #[.bool false, .slice none 0 0, .int .i64 0] 44) := ⟨_, rfl⟩
    have hs1 : w1.heap.size = w.heap.size + 1 := by rw [hw1]; simp
    rw [← hw1] at e1 hR ⊢
    clear hw1
    go_wp2_with fail
    have hw2 : Words [(M : Int) % 4294967296, (M : Int) / 4294967296] := words_cons.2 ⟨by omega, words_cons.2 ⟨by omega, words_nil⟩⟩
    have hv : lv [(M : Int) % 4294967296, (M : Int) / 4294967296] = M := by simp only [lv]; omega
    have hl := rd_lit w1 71 .u32 [(M : Int) % 4294967296, (M : Int) / 4294967296] (by simp)
    rw [hs1] at hl
    refine (rnorm_calls sg _ 2 2 M [(M : Int) % 4294967296, (M : Int) / 4294967296] ((E : Int) - 1075) _ hl hw2 hv (by omega) (by omega)).mono ?_
    rintro r w2 ⟨s', A', n', c', e', rfl, hN2, x2⟩
    have e2 : Ext w1 w2 := ((Ext.refl w1).alloc _).trans x2
    have hR2 := hR.ext e2
    have E2 := e1.trans e2
    clear hl hv hw2 x2 hR hs1
    have r0 := hR2.c0
    have r1 := hR2.c1
    have r2 := hR2.c2
    have f0 := hR2.f0
    have f1 := hR2.f1
    have f2 := hR2.f2
    unfold dyn
    go_wp2_with fail
    refine bodyPost_ret (results_rn rfl _ _ w.heap.size s' A' n' c' e' rfl (hR2.all _ _ _ _ _)) rfl ?_
    refine ⟨s', A', n', c', e', rfl, ((hR2.nm hN2 _ _ _).scale (E - 1)).cast ?_ (by omega), ((E2.setCell (Nat.le_refl _) _).setCell (Nat.le_refl _) _).setCell (Nat.le_refl _) _⟩
    rw [HV.out, ← pow_int, ← sN_mul]
    congr 1
    rw [if_neg h0, HM.out, show max E 1 - 1 = E - 1 by omega]
end Go.Proofs.YtkljejejabikiaaGreatDoor

/- The reference's numbers: Ten. -/
namespace Go.Proofs.YtkljejejabikiaaGreatDoor
open Go Go.RowKit Cusp

theorem bl_ten4 (Y : Nat) : bl (10 ^ Y) ≤ 4 * Y + 1 := by
  apply bl_le_of_lt
  have h : 10 ^ Y ≤ (2 ^ 4) ^ Y := Nat.pow_le_pow_left (by omega) Y
  rw [← Nat.pow_mul] at h
  exact Nat.lt_of_le_of_lt h (Nat.pow_lt_pow_right (by omega) (by omega))
theorem bl_ten_int (Y : Nat) : bl ((10 : Int) ^ Y).natAbs ≤ 4 * Y + 1 := by
  rw [Int.natAbs_pow]; exact bl_ten4 Y

/-- The loop's state. -/
structure TenInv (w wr : World) (n0 g2 g3 g4 k i j : Nat) (s : Bool) (A : Option Addr) (m c : Nat) (e : Int) (s' : Bool) (A' : Option Addr) (m' c' : Nat) (e' : Int) : Prop where
  ext : Ext w wr
  res : NmAt wr g2 false none 0 0 0
  out : NmAt wr g3 s A m c e
  pow : NmAt wr g4 s' A' m' c' e'
  nout : Nm wr (10 ^ i) 0 s A m c e
  npow : Nm wr (10 ^ 2 ^ j) 0 s' A' m' c' e'
  sum : i + k * 2 ^ j = n0
  lim : 2 ^ j ≤ 2 * n0 + 1

section
variable {w wr w' : World} {n0 g2 g3 g4 k i j : Nat} {s : Bool} {A : Option Addr} {m c : Nat} {e : Int} {s' : Bool} {A' : Option Addr} {m' c' : Nat} {e' : Int}
theorem TenInv.ex (h : TenInv w wr n0 g2 g3 g4 k i j s A m c e s' A' m' c' e') (x : Ext wr w') : TenInv w w' n0 g2 g3 g4 k i j s A m c e s' A' m' c' e' :=
  ⟨h.ext.trans x, h.res.ext x, h.out.ext x, h.pow.ext x, h.nout.ext x, h.npow.ext x, h.sum, h.lim⟩
theorem TenInv.even {q : Nat} (h : TenInv w wr n0 g2 g3 g4 k i j s A m c e s' A' m' c' e') (hk : k = 2 * q) : TenInv w wr n0 g2 g3 g4 (2 * q) i j s A m c e s' A' m' c' e' := by rw [← hk]; exact h
theorem TenInv.room (h : TenInv w wr n0 g2 g3 g4 k i j s A m c e s' A' m' c' e') (hk : 0 < k) : 2 ^ j ≤ n0 := by
  have h1 := h.sum
  have h2 := Nat.mul_le_mul_right (2 ^ j) hk
  omega
theorem TenInv.mul {q n6 c6 : Nat} {s6 : Bool} {A6 : Option Addr} {e6 : Int} (h : TenInv w wr n0 w.heap.size g3 g4 k i j s A m c e s' A' m' c' e') (hk : k = 2 * q + 1) (hg : g3 < g4) (hw : w.heap.size < g3) (hN : Nm wr (10 ^ i * 10 ^ 2 ^ j) (0 + 0) s6 A6 n6 c6 e6) :
    TenInv w (((wr.setCell ⟨g3, 0, none⟩ (.bool s6)).setCell ⟨g3, 1, none⟩ (.slice A6 n6 c6)).setCell ⟨g3, 2, none⟩ (.int .i64 e6)) n0 w.heap.size g3 g4 (2 * q) (i + 2 ^ j) j s6 A6 n6 c6 e6 s' A' m' c' e' := by
  refine ⟨((h.ext.setCell (by show _ ≤ g3; omega) _).setCell (by show _ ≤ g3; omega) _).setCell (by show _ ≤ g3; omega) _, h.res.far3 (by omega) _ _ _, h.out.all _ _ _ _ _, h.pow.far3 (by omega) _ _ _, (h.out.nm hN _ _ _).cast (by rw [Int.pow_add]) rfl, h.out.nm h.npow _ _ _, ?_, h.lim⟩
  have h1 := h.sum
  rw [hk, Nat.add_mul, Nat.one_mul] at h1
  omega
theorem TenInv.sq {q n6 c6 : Nat} {s6 : Bool} {A6 : Option Addr} {e6 : Int} (h : TenInv w wr n0 w.heap.size g3 g4 (2 * q) i j s A m c e s' A' m' c' e') (hg : g3 < g4) (hw : w.heap.size < g3) (hm : 2 ^ j ≤ n0) (hN : Nm wr (10 ^ 2 ^ j * 10 ^ 2 ^ j) (0 + 0) s6 A6 n6 c6 e6) :
    TenInv w (((wr.setCell ⟨g4, 0, none⟩ (.bool s6)).setCell ⟨g4, 1, none⟩ (.slice A6 n6 c6)).setCell ⟨g4, 2, none⟩ (.int .i64 e6)) n0 w.heap.size g3 g4 q i (j + 1) s A m c e s6 A6 n6 c6 e6 := by
  refine ⟨((h.ext.setCell (by show _ ≤ g4; omega) _).setCell (by show _ ≤ g4; omega) _).setCell (by show _ ≤ g4; omega) _, h.res.far3 (by omega) _ _ _, h.out.far3 (by omega) _ _ _, h.pow.all _ _ _ _ _, h.pow.nm h.nout _ _ _, (h.pow.nm hN _ _ _).cast ?_ rfl, ?_, ?_⟩
  · rw [← Int.pow_add, Nat.pow_succ]; congr 1; omega
  · have h1 := h.sum
    rw [Nat.pow_succ, ← h1, Nat.mul_comm 2 q, Nat.mul_assoc, Nat.mul_comm 2]
  · rw [Nat.pow_succ]; omega
end

theorem one_word (x : Nat) (h0 : 0 < x) (h : x < 4294967296) : wd x = [(x : Int)] := by
  rw [wd_pos (by omega), show x / 4294967296 = 0 by omega, wd_zero, Nat.mod_eq_of_lt h]

set_option maxHeartbeats 4000000 in
set_option maxRecDepth 100000 in
/-- 10 to the n. -/
theorem rten_calls (n0 : Nat) (w : World) (hn : n0 ≤ 100000) :
    Calls Tryz.prog 30 #[.int .i64 (n0 : Int)] w fun r w' => ∃ s' A' n' c' e', r = .returned (dyn s' A' n' c' e') ∧ Nm w' ((10 : Int) ^ n0) 0 s' A' n' c' e' ∧ Ext w w' := by
  go_enter Tryz.func30, Tryz.ntmps30
  go_upto_region 1 with (fail)
  have e1 : Ext w (w.alloc (.cells #[.bool false, .slice none 0 0, .int .i64 0] 44)) := (Ext.refl w).alloc _
  have hR := nmAt_new w 44 false none 0 0 0
  obtain ⟨w1, hw1⟩ : ∃ w1, w1 = w.alloc (.cells #[.bool false, .slice none 0 0, .int .i64 0] 44) := ⟨_, rfl⟩
  have hs1 : w1.heap.size = w.heap.size + 1 := by rw [hw1]; simp
  rw [← hw1] at e1 hR ⊢
  clear hw1
  have hl1 := rd_lit w1 71 .u32 [1] (by simp)
  rw [hs1] at hl1
  go_wp2_with fail
  refine (rnorm_calls false _ 1 1 1 [1] 0 _ hl1 (words_cons.2 ⟨by omega, words_nil⟩) (by rfl) (by omega) (by omega)).mono ?_
  rintro r w2 ⟨s2, A2, n2, c2, e2, rfl, hN2, x2⟩
  have E2 : Ext w w2 := e1.trans (((Ext.refl w1).alloc _).trans x2)
  have hR2 := hR.ext (((Ext.refl w1).alloc _).trans x2)
  unfold dyn
  clear hl1 hR x2 e1 hs1
  go_upto_region 2 with (fail)
  have e3 : Ext w2 (w2.alloc (.cells #[.bool s2, .slice A2 n2 c2, .int .i64 e2] 44)) := (Ext.refl w2).alloc _
  have hO := nmAt_new w2 44 s2 A2 n2 c2 e2
  obtain ⟨g3, hg3⟩ : ∃ g3, g3 = w2.heap.size := ⟨_, rfl⟩
  obtain ⟨w3, hw3⟩ : ∃ w3, w3 = w2.alloc (.cells #[.bool s2, .slice A2 n2 c2, .int .i64 e2] 44) := ⟨_, rfl⟩
  have hs3 : w3.heap.size = g3 + 1 := by rw [hw3, hg3]; simp
  have hgw : w.heap.size < g3 := by rw [hg3]; exact hR2.lt
  rw [← hw3] at e3 hO ⊢
  rw [← hg3] at hO ⊢
  have hR3 := hR2.ext e3
  have hN3 := hN2.ext e3
  have E3 := E2.trans e3
  clear hw3 hg3 e3 hR2 hN2 E2
  have hl1 := rd_lit w3 71 .u32 [10] (by simp)
  rw [hs3] at hl1
  go_wp2_with fail
  refine (rnorm_calls false _ 1 1 10 [10] 0 _ hl1 (words_cons.2 ⟨by omega, words_nil⟩) (by rfl) (by omega) (by omega)).mono ?_
  rintro r w4 ⟨s4, A4, n4, c4, e4, rfl, hN4, x4⟩
  have x34 : Ext w3 w4 := ((Ext.refl w3).alloc _).trans x4
  have hR4 := hR3.ext x34
  have hO4 := hO.ext x34
  have hN34 := hN3.ext x34
  have E4 := E3.trans x34
  unfold dyn
  clear hl1 hR3 x4 hO hN3 E3 hs3 x34
  go_upto_region 3 with (fail)
  have e5 : Ext w4 (w4.alloc (.cells #[.bool s4, .slice A4 n4 c4, .int .i64 e4] 44)) := (Ext.refl w4).alloc _
  have hP := nmAt_new w4 44 s4 A4 n4 c4 e4
  obtain ⟨g4, hg4⟩ : ∃ g4, g4 = w4.heap.size := ⟨_, rfl⟩
  obtain ⟨w5, hw5⟩ : ∃ w5, w5 = w4.alloc (.cells #[.bool s4, .slice A4 n4 c4, .int .i64 e4] 44) := ⟨_, rfl⟩
  have hg34 : g3 < g4 := by rw [hg4]; exact hO4.lt
  rw [← hw5] at e5 hP ⊢
  rw [← hg4] at hP ⊢
  have hstart : TenInv w w5 n0 w.heap.size g3 g4 n0 0 0 s2 A2 n2 c2 e2 s4 A4 n4 c4 e4 :=
    ⟨E4.trans e5, hR4.ext e5, hO4.ext e5, hP, hN34.ext e5, hN4.ext e5, by simp, by simp⟩
  clear hw5 hg4 e5 hP hR4 hO4 hN34 hN4 E4
  go_loopw [0] (fun nv wr => ∃ (k i j : Nat) (s : Bool) (A : Option Addr) (m c : Nat) (e : Int) (s' : Bool) (A' : Option Addr) (m' c' : Nat) (e' : Int), nv = .int .i64 (k : Int) ∧ TenInv w wr n0 w.heap.size g3 g4 k i j s A m c e s' A' m' c' e') (fun nv _ => (intOf nv).toNat)
  case atStart => exact ⟨n0, 0, 0, _, _, _, _, _, _, _, _, _, _, rfl, hstart⟩
  case round =>
    obtain ⟨k, i, j, s, A, m, c, e, s', A', m', c', e', rfl, hI⟩ := hrel
    clear hstart
    have hk2 : k ≤ 100000 := by have h1 := hI.sum; have h2 := Nat.le_mul_of_pos_right k (Nat.two_pow_pos j); omega
    have l1 : bl ((10 : Int) ^ i).natAbs ≤ 400001 := by have h1 := bl_ten_int i; have h3 : i ≤ n0 := (by rw [← hI.sum]; exact Nat.le_add_right _ _); omega
    have l2 : bl ((10 : Int) ^ 2 ^ j).natAbs ≤ 800005 := by have h1 := bl_ten_int (2 ^ j); have h2 := hI.lim; omega
    have a0 := hI.out.c0
    have a1 := hI.out.c1
    have a2 := hI.out.c2
    have b0 := hI.pow.c0
    have b1 := hI.pow.c1
    have b2 := hI.pow.c2
    rcases Nat.eq_zero_or_pos k with h0 | h0
    · subst h0
      have r0 := hI.res.c0
      have r1 := hI.res.c1
      have r2 := hI.res.c2
      have f0 := hI.res.f0
      have f1 := hI.res.f1
      have f2 := hI.res.f2
      go_wp2_with fail
      refine bodyPost_ret (results_rn rfl _ _ w.heap.size s A m c e rfl (hI.res.all _ _ _ _ _)) rfl ?_
      refine ⟨s, A, m, c, e, rfl, (hI.res.nm hI.nout _ _ _).cast ?_ rfl, ((hI.ext.setCell (Nat.le_refl _) _).setCell (Nat.le_refl _) _).setCell (Nat.le_refl _) _⟩
      have h1 := hI.sum
      rw [Nat.zero_mul, Nat.add_zero] at h1
      rw [h1]
    · obtain ⟨q, hq⟩ : ∃ q, q = k / 2 := ⟨_, rfl⟩
      have hk1 : (0 : Int) < (k : Int) := by omega
      have hmore : 2 ^ j ≤ n0 := hI.room h0
      by_cases hodd : k % 2 = 1
      · have t1 : ((k : Int) % 2 == 1) = true := by rw [beq_iff_eq]; omega
        have hkq : k = 2 * q + 1 := by omega
        have HKQ := Lib.hid hkq
        clear hq hodd hkq
        go_wp2_with fail
        refine (rtimes_calls _ _ 0 0 e e' s s' A A' m c m' c' _ hI.nout hI.npow (by omega) (by omega) (by omega) (by omega)).mono ?_
        rintro r w5 ⟨s5, A5, n5, c5, e5, rfl, hN5, x5⟩
        have hI5 := hI.ex x5
        unfold dyn
        clear a0 a1 a2 b0 b1 b2
        have a0 := hI5.out.c0
        have a1 := hI5.out.c1
        have a2 := hI5.out.c2
        have f0 := hI5.out.f0
        have f1 := hI5.out.f1
        have f2 := hI5.out.f2
        go_upto_region 6 with (fail)
        have hI := hI5.mul HKQ.out hg34 hgw hN5
        clear hI5 hN5 x5 a0 a1 a2 f0 f1 f2
        generalize ((w5.setCell ⟨g3, 0, none⟩ (.bool s5)).setCell ⟨g3, 1, none⟩ (.slice A5 n5 c5)).setCell ⟨g3, 2, none⟩ (.int .i64 e5) = w8 at *
        have b0 := hI.pow.c0
        have b1 := hI.pow.c1
        have b2 := hI.pow.c2
        go_wp2_with fail
        refine (rtimes_calls _ _ 0 0 e' e' s' s' A' A' m' c' m' c' _ hI.npow hI.npow (by omega) (by omega) (by omega) (by omega)).mono ?_
        rintro r w6 ⟨s6, A6, n6, c6, e6, rfl, hN6, x6⟩
        have hI6 := hI.ex x6
        unfold dyn
        clear b0 b1 b2
        have b0 := hI6.pow.c0
        have b1 := hI6.pow.c1
        have b2 := hI6.pow.c2
        have f0 := hI6.pow.f0
        have f1 := hI6.pow.f1
        have f2 := hI6.pow.f2
        go_upto_region 7 with (fail)
        have hnx := hI6.sq hg34 hgw hmore hN6
        clear hI6 hN6 x6 b0 b1 b2 f0 f1 f2 hI
        generalize ((w6.setCell ⟨g4, 0, none⟩ (.bool s6)).setCell ⟨g4, 1, none⟩ (.slice A6 n6 c6)).setCell ⟨g4, 2, none⟩ (.int .i64 e6) = w7 at *
        go_wp2
        go_roundw
        case rel => exact ⟨q, _, j + 1, _, _, _, _, _, _, _, _, _, _, int_int (by have h1 := HKQ.out; omega), hnx⟩
        case measure => (have h1 := HKQ.out; simp [intOf]; omega)
      · have t1 : ((k : Int) % 2 == 1) = false := by rw [beq_eq_false_iff_ne]; omega
        have hkq : k = 2 * q := by omega
        have HKQ := Lib.hid hkq
        have hI := hI.even hkq
        clear hq hodd hkq a0 a1 a2
        go_wp2_with fail
        refine (rtimes_calls _ _ 0 0 e' e' s' s' A' A' m' c' m' c' _ hI.npow hI.npow (by omega) (by omega) (by omega) (by omega)).mono ?_
        rintro r w6 ⟨s6, A6, n6, c6, e6, rfl, hN6, x6⟩
        have hI6 := hI.ex x6
        unfold dyn
        clear b0 b1 b2
        have b0 := hI6.pow.c0
        have b1 := hI6.pow.c1
        have b2 := hI6.pow.c2
        have f0 := hI6.pow.f0
        have f1 := hI6.pow.f1
        have f2 := hI6.pow.f2
        go_upto_region 7 with (fail)
        have hnx := hI6.sq hg34 hgw hmore hN6
        clear hI6 hN6 x6 b0 b1 b2 f0 f1 f2 hI
        generalize ((w6.setCell ⟨g4, 0, none⟩ (.bool s6)).setCell ⟨g4, 1, none⟩ (.slice A6 n6 c6)).setCell ⟨g4, 2, none⟩ (.int .i64 e6) = w7 at *
        go_wp2
        go_roundw
        case rel => exact ⟨q, _, j + 1, _, _, _, _, _, _, _, _, _, _, int_int (by have h1 := HKQ.out; omega), hnx⟩
        case measure => (have h1 := HKQ.out; simp [intOf]; omega)
end Go.Proofs.YtkljejejabikiaaGreatDoor

/- The reference's numbers: Digits. -/
namespace Go.Proofs.YtkljejejabikiaaGreatDoor
open Go Go.RowKit Cusp

/-- What decimal digits tell, up to the k-th. -/
def decV (l : List UInt8) : Nat := l.foldl (fun n b => n * 10 + (b.toNat - 48)) 0
theorem decV_take (l : List UInt8) (k : Nat) (h : k < l.length) : decV (l.take (k + 1)) = decV (l.take k) * 10 + ((l[k]).toNat - 48) := by
  unfold decV
  rw [List.take_succ_eq_append_getElem h, List.foldl_append]
  rfl

theorem lit10 {w : World} {A : Option Addr} (h : Rd w .u32 A 1 1 [10]) : Nt w A 1 1 10 := by unfold Nt; rw [one_word 10 (by omega) (by omega)]; exact h

set_option linter.unusedSimpArgs false in
set_option maxHeartbeats 8000000 in
set_option maxRecDepth 100000 in
theorem rdigits_calls (s : ByteArray) (w : World) (hs : s.size ≤ 100000) (hd : ∀ (k : Nat) (h : k < s.size), 48 ≤ (s[k]'h).toNat ∧ (s[k]'h).toNat ≤ 57) :
    Calls Tryz.prog 91 #[.string s] w fun r w' => ∃ s' A' n' c' e', r = .returned (dyn s' A' n' c' e') ∧ Nm w' (decV s.data.toList : Int) 0 s' A' n' c' e' ∧ Ext w w' := by
  go_enter Tryz.func91, Tryz.ntmps91
  go_upto_region 1 with (fail)
  have e1 : Ext w (w.alloc (.cells #[.bool false, .slice none 0 0, .int .i64 0] 44)) := (Ext.refl w).alloc _
  have hR := nmAt_new w 44 false none 0 0 0
  obtain ⟨w1, hw1⟩ : ∃ w1, w1 = w.alloc (.cells #[.bool false, .slice none 0 0, .int .i64 0] 44) := ⟨_, rfl⟩
  rw [← hw1] at e1 hR ⊢
  clear hw1
  go_wp2
  go_loopw [3, 4] (fun m i wr => ∃ (k : Nat) (A : Option Addr) (n c : Nat), k ≤ s.size ∧ i = .int .i64 (k : Int) ∧ m = .slice A n c ∧ Nt wr A n c (decV (s.data.toList.take k)) ∧ decV (s.data.toList.take k) < 10 ^ k ∧ Ext w1 wr) (fun _ i _ => s.size - (intOf i).toNat)
  case atStart => exact ⟨0, none, 0, 0, Nat.zero_le _, rfl, rfl, by unfold Nt; rw [show decV (List.take 0 s.data.toList) = 0 from rfl, wd_zero]; exact Rd.nil _ _ _ _ (by omega), by simp [decV], Ext.refl _⟩
  case round =>
    obtain ⟨k, A, n, c, hk, rfl, rfl, hN, hlt, hE⟩ := hrel
    have hlen : n ≤ 100000 * 4 + 1 := by
      have h1 := len_of_bl' (decV (s.data.toList.take k))
      rw [hN.len] at h1
      have h2 := bl_mono (Nat.le_of_lt hlt)
      have h3 := bl_ten4 k
      omega
    by_cases hks : k < s.size
    · obtain ⟨h48, h57⟩ := hd k hks
      obtain ⟨x, hx⟩ : ∃ x : Nat, x = (s[k]'hks).toNat := ⟨_, rfl⟩
      rw [← hx] at h48 h57
      have hstep := decV_take s.data.toList k (by rw [← Lib.size_eq]; exact hks)
      obtain ⟨d, hdx⟩ : ∃ d, d = x - 48 := ⟨_, rfl⟩
      have hxd : (s[k]'hks).toNat = 48 + d := by omega
      have hd9 : d ≤ 9 := by omega
      have hst : decV (s.data.toList.take (k + 1)) = decV (s.data.toList.take k) * 10 + d := by
        rw [hstep]
        have h1 : (s.data.toList[k]'(by rw [← Lib.size_eq]; exact hks)) = s[k]'hks := rfl
        rw [h1, hxd]; omega
      have hlt' : decV (s.data.toList.take (k + 1)) < 10 ^ (k + 1) := by rw [hst, Nat.pow_succ]; omega
      have hml : (wd (decV (s.data.toList.take k) * 10)).length ≤ 500000 := by
        have h1 := len_wd_mul (decV (s.data.toList.take k)) 10
        rw [hN.len, one_word 10 (by omega) (by omega)] at h1
        simp only [List.length_cons, List.length_nil] at h1
        omega
      have HST := Lib.hid hst
      have HLT := Lib.hid hlt'
      have HML := Lib.hid hml
      have hxi : ((s[k]'hks).toNat : Int) = 48 + (d : Int) := by omega
      have hw8 : IntKind.u8.wrap (48 + (d : Int) - 48) = (d : Int) := by rw [show 48 + (d : Int) - 48 = d by omega, IntKind.wrap_u8]; omega
      have hw32 : IntKind.u32.wrap (d : Int) = (d : Int) := by rw [IntKind.wrap_u32]; omega
      clear hstep hst hlt' hml hlt hdx hx h48 h57 hxd
      go_upto_region 5 with (fail)
      refine wp_region_noPanic ?_
      refine wp_region_held_drew (S := (fun _ => True)) (by kernel_rfl) trivial (fun hHeld => ?_)
      have E : Ext wr wr.drew := Ext.drew _
      generalize wr.drew = wx at *
      refine wpAnyH_take (i := 0) (v := ?vn0x1) rfl (by kernel_rfl) (by kernel_rfl) (by kernel_rfl) (fun _ _ _ h => h) (Or.inl ⟨by rfl, ?hyn0x1⟩) (by assumption) ?_
      case hyn0x1 => (intro w hSw; (try dsimp only at hSw); go_simp; try with_reducible rfl)
      try simp only [Act.put, List.getElem_toArray, List.getElem_cons_succ, List.getElem_cons_zero, List.setIfInBounds_toArray, List.set_cons_zero, List.set_cons_succ]
      refine wpAnyH_take (i := 3) (v := ?vn3x2) rfl (by kernel_rfl) (by kernel_rfl) (by kernel_rfl) (fun _ _ _ h => h) (Or.inl ⟨by rfl, ?hyn3x2⟩) (by assumption) ?_
      case hyn3x2 => (intro w hSw; (try dsimp only at hSw); go_simp; try with_reducible rfl)
      try simp only [Act.put, List.getElem_toArray, List.getElem_cons_succ, List.getElem_cons_zero, List.setIfInBounds_toArray, List.set_cons_zero, List.set_cons_succ]
      refine wpAnyH_take (i := 4) (v := ?vn4x3) rfl (by kernel_rfl) (by kernel_rfl) (by kernel_rfl) (fun _ _ _ h => h) (Or.inl ⟨by rfl, ?hyn4x3⟩) (by assumption) ?_
      case hyn4x3 => (intro w hSw; (try dsimp only at hSw); go_simp; try with_reducible rfl)
      try simp only [Act.put, List.getElem_toArray, List.getElem_cons_succ, List.getElem_cons_zero, List.setIfInBounds_toArray, List.set_cons_zero, List.set_cons_succ]
      refine wpAnyH_take (i := 5) (v := ?vn5x4) rfl (by kernel_rfl) (by kernel_rfl) (by kernel_rfl) (fun _ _ _ h => h) (Or.inl ⟨by rfl, ?hyn5x4⟩) (by assumption) ?_
      case hyn5x4 => (intro w hSw; (try dsimp only at hSw); go_simp; try with_reducible rfl)
      try simp only [Act.put, List.getElem_toArray, List.getElem_cons_succ, List.getElem_cons_zero, List.setIfInBounds_toArray, List.set_cons_zero, List.set_cons_succ]
      refine wpAnyH_take (i := 6) (v := ?vn6x5) rfl (by kernel_rfl) (by kernel_rfl) (by kernel_rfl) (fun _ _ _ h => h) (Or.inl ⟨by rfl, ?hyn6x5⟩) (by assumption) ?_
      case hyn6x5 => (intro w hSw; (try dsimp only at hSw); go_simp; try with_reducible rfl)
      try simp only [Act.put, List.getElem_toArray, List.getElem_cons_succ, List.getElem_cons_zero, List.setIfInBounds_toArray, List.set_cons_zero, List.set_cons_succ]
      refine wpAnyH_take (i := 7) (v := ?vn7x6) rfl (by kernel_rfl) (by kernel_rfl) (by kernel_rfl) (fun _ _ _ h => h) (Or.inl ⟨by rfl, ?hyn7x6⟩) (by assumption) ?_
      case hyn7x6 => (intro w hSw; (try dsimp only at hSw); go_simp; try with_reducible rfl)
      try simp only [Act.put, List.getElem_toArray, List.getElem_cons_succ, List.getElem_cons_zero, List.setIfInBounds_toArray, List.set_cons_zero, List.set_cons_succ]
      refine wpAnyH_ready (rs := [1, 8]) (by kernel_rfl) (by simp) ?_
      refine AllReadyH.cons (o := _) rfl (fun K hK => ?_) (AllReadyH.cons (o := _) rfl (fun K hK => ?_) AllReadyH.nil)
      · skip
        go_simp
        have xE : Ext wx (wx.alloc (.cells #[.int .u32 10] 71)) := (Ext.refl wx).alloc _
        have hL0 := rd_lit wx 71 .u32 [10] (by simp)
        obtain ⟨g10, hg10⟩ : ∃ g, g = wx.heap.size := ⟨_, rfl⟩
        obtain ⟨wy, hwy⟩ : ∃ wy, wy = wx.alloc (.cells #[.int .u32 10] 71) := ⟨_, rfl⟩
        have hL1 : Rd wy .u32 (some ⟨g10, 0, none⟩) 1 1 [10] := by rw [hwy, hg10]; exact hL0
        rw [← hwy] at xE ⊢
        rw [← hg10]
        clear hL0 hwy hg10
        have E := E.trans xE
        (try have hL10 := hL10.ext xE)
        (try have hLd := hLd.ext xE)
        (try have hP := hP.ext xE)
        (try have hD := hD.ext xE)
        have hL10 := hL1
        clear hL1 xE
        obtain ⟨wx, hwx⟩ : ∃ W, W = wy := ⟨_, rfl⟩
        subst hwx
        refine hK.out _ _ trivial (fun hHeld => ?_)
        clear hK K
        try simp only [Act.put, List.getElem_toArray, List.getElem_cons_succ, List.getElem_cons_zero, List.setIfInBounds_toArray, List.set_cons_zero, List.set_cons_succ]
        refine wpAnyH_ready (rs := [2, 8]) (by kernel_rfl) (by simp) ?_
        refine AllReadyH.cons (o := _) rfl (fun K hK => ?_) (AllReadyH.cons (o := _) rfl (fun K hK => ?_) AllReadyH.nil)
        · skip
          go_simp
          refine (rmul_calls A _ n 1 c 1 (decV (s.data.toList.take k)) 10 _ (hN.ext E) (lit10 hL10) (by omega) (by omega)).mono ?_
          rintro v wy ⟨A4, n4, c4, rfl, hQ, xE⟩
          go_wp2_with fail
          have E := E.trans xE
          (try have hL10 := hL10.ext xE)
          (try have hLd := hLd.ext xE)
          (try have hP := hP.ext xE)
          (try have hD := hD.ext xE)
          have hP := hQ
          clear hQ xE
          obtain ⟨wx, hwx⟩ : ∃ W, W = wy := ⟨_, rfl⟩
          subst hwx
          refine hK.out _ _ trivial (fun hHeld => ?_)
          clear hK K
          try simp only [Act.put, List.getElem_toArray, List.getElem_cons_succ, List.getElem_cons_zero, List.setIfInBounds_toArray, List.set_cons_zero, List.set_cons_succ]
          refine wpAnyH_ready (rs := [8]) (by kernel_rfl) (by simp) ?_
          refine AllReadyH.cons (o := _) rfl (fun K hK => ?_) AllReadyH.nil
          go_simp
          have xE : Ext wx (wx.alloc (.cells #[.int .u32 (d : Int)] 71)) := (Ext.refl wx).alloc _
          have hL0 := rd_lit wx 71 .u32 [(d : Int)] (by simp)
          obtain ⟨gd, hgd⟩ : ∃ g, g = wx.heap.size := ⟨_, rfl⟩
          obtain ⟨wy, hwy⟩ : ∃ wy, wy = wx.alloc (.cells #[.int .u32 (d : Int)] 71) := ⟨_, rfl⟩
          have hL1 : Rd wy .u32 (some ⟨gd, 0, none⟩) 1 1 [(d : Int)] := by rw [hwy, hgd]; exact hL0
          rw [← hwy] at xE ⊢
          rw [← hgd]
          clear hL0 hwy hgd
          have E := E.trans xE
          (try have hL10 := hL10.ext xE)
          (try have hLd := hLd.ext xE)
          (try have hP := hP.ext xE)
          (try have hD := hD.ext xE)
          have hLd := hL1
          clear hL1 xE
          obtain ⟨wx, hwx⟩ : ∃ W, W = wy := ⟨_, rfl⟩
          subst hwx
          refine hK.out _ _ trivial (fun hHeld => ?_)
          clear hK K
          try simp only [Act.put, List.getElem_toArray, List.getElem_cons_succ, List.getElem_cons_zero, List.setIfInBounds_toArray, List.set_cons_zero, List.set_cons_succ]
          refine wpAnyH_ready (rs := [9]) (by kernel_rfl) (by simp) ?_
          refine AllReadyH.cons (o := _) rfl (fun K hK => ?_) AllReadyH.nil
          go_simp
          refine (rtrim_nt _ 1 1 d [(d : Int)] _ hLd (words_cons.2 ⟨by omega, words_nil⟩) (by simp [lv])).mono ?_
          rintro v wy ⟨m5, hm5, rfl, hD, hwy⟩
          have hwy2 := hwy.symm
          subst hwy2
          go_wp2_with fail
          refine hK.out _ _ trivial (fun hHeld => ?_)
          clear hK K
          try simp only [Act.put, List.getElem_toArray, List.getElem_cons_succ, List.getElem_cons_zero, List.setIfInBounds_toArray, List.set_cons_zero, List.set_cons_succ]
          refine wpAnyH_ready (rs := [10]) (by kernel_rfl) (by simp) ?_
          refine AllReadyH.cons (o := _) rfl (fun K hK => ?_) AllReadyH.nil
          go_simp
          refine (rsum_calls A4 _ n4 m5 c4 1 (decV (s.data.toList.take k) * 10) d _ hP hD (by have h1 := HML.out; have h2 := hP.len; omega) (by omega)).mono ?_
          rintro v wy ⟨A6, n6, c6, rfl, hS, xE⟩
          go_wp2_with fail
          have E := E.trans xE
          clear xE
          refine hK.out _ _ trivial (fun hHeld => ?_)
          clear hK K
          try simp only [Act.put, List.getElem_toArray, List.getElem_cons_succ, List.getElem_cons_zero, List.setIfInBounds_toArray, List.set_cons_zero, List.set_cons_succ]
          refine wpAnyH_take (i := 11) (v := ?vn11x7) rfl (by kernel_rfl) (by kernel_rfl) (by kernel_rfl) (fun _ _ _ h => h) (Or.inl ⟨by rfl, ?hyn11x7⟩) (by assumption) ?_
          case hyn11x7 => (intro w hSw; (try dsimp only at hSw); go_simp; try with_reducible rfl)
          try simp only [Act.put, List.getElem_toArray, List.getElem_cons_succ, List.getElem_cons_zero, List.setIfInBounds_toArray, List.set_cons_zero, List.set_cons_succ]
          refine wpAnyH_done (by kernel_rfl) ?_ _
          refine NoPanic.normal ?_
          go_wp2
          go_roundw
          case rel => exact ⟨k + 1, A6, n6, c6, by omega, by go_num, rfl, by rw [HST.out]; exact hS, HLT.out, hE.trans E⟩
          case measure => simp [intOf]; omega
        · skip
          go_simp
          have xE : Ext wx (wx.alloc (.cells #[.int .u32 (d : Int)] 71)) := (Ext.refl wx).alloc _
          have hL0 := rd_lit wx 71 .u32 [(d : Int)] (by simp)
          obtain ⟨gd, hgd⟩ : ∃ g, g = wx.heap.size := ⟨_, rfl⟩
          obtain ⟨wy, hwy⟩ : ∃ wy, wy = wx.alloc (.cells #[.int .u32 (d : Int)] 71) := ⟨_, rfl⟩
          have hL1 : Rd wy .u32 (some ⟨gd, 0, none⟩) 1 1 [(d : Int)] := by rw [hwy, hgd]; exact hL0
          rw [← hwy] at xE ⊢
          rw [← hgd]
          clear hL0 hwy hgd
          have E := E.trans xE
          (try have hL10 := hL10.ext xE)
          (try have hLd := hLd.ext xE)
          (try have hP := hP.ext xE)
          (try have hD := hD.ext xE)
          have hLd := hL1
          clear hL1 xE
          obtain ⟨wx, hwx⟩ : ∃ W, W = wy := ⟨_, rfl⟩
          subst hwx
          refine hK.out _ _ trivial (fun hHeld => ?_)
          clear hK K
          try simp only [Act.put, List.getElem_toArray, List.getElem_cons_succ, List.getElem_cons_zero, List.setIfInBounds_toArray, List.set_cons_zero, List.set_cons_succ]
          refine wpAnyH_ready (rs := [2]) (by kernel_rfl) (by simp) ?_
          refine AllReadyH.cons (o := _) rfl (fun K hK => ?_) AllReadyH.nil
          go_simp
          refine (rmul_calls A _ n 1 c 1 (decV (s.data.toList.take k)) 10 _ (hN.ext E) (lit10 hL10) (by omega) (by omega)).mono ?_
          rintro v wy ⟨A4, n4, c4, rfl, hQ, xE⟩
          go_wp2_with fail
          have E := E.trans xE
          (try have hL10 := hL10.ext xE)
          (try have hLd := hLd.ext xE)
          (try have hP := hP.ext xE)
          (try have hD := hD.ext xE)
          have hP := hQ
          clear hQ xE
          obtain ⟨wx, hwx⟩ : ∃ W, W = wy := ⟨_, rfl⟩
          subst hwx
          refine hK.out _ _ trivial (fun hHeld => ?_)
          clear hK K
          try simp only [Act.put, List.getElem_toArray, List.getElem_cons_succ, List.getElem_cons_zero, List.setIfInBounds_toArray, List.set_cons_zero, List.set_cons_succ]
          refine wpAnyH_ready (rs := [9]) (by kernel_rfl) (by simp) ?_
          refine AllReadyH.cons (o := _) rfl (fun K hK => ?_) AllReadyH.nil
          go_simp
          refine (rtrim_nt _ 1 1 d [(d : Int)] _ hLd (words_cons.2 ⟨by omega, words_nil⟩) (by simp [lv])).mono ?_
          rintro v wy ⟨m5, hm5, rfl, hD, hwy⟩
          have hwy2 := hwy.symm
          subst hwy2
          go_wp2_with fail
          refine hK.out _ _ trivial (fun hHeld => ?_)
          clear hK K
          try simp only [Act.put, List.getElem_toArray, List.getElem_cons_succ, List.getElem_cons_zero, List.setIfInBounds_toArray, List.set_cons_zero, List.set_cons_succ]
          refine wpAnyH_ready (rs := [10]) (by kernel_rfl) (by simp) ?_
          refine AllReadyH.cons (o := _) rfl (fun K hK => ?_) AllReadyH.nil
          go_simp
          refine (rsum_calls A4 _ n4 m5 c4 1 (decV (s.data.toList.take k) * 10) d _ hP hD (by have h1 := HML.out; have h2 := hP.len; omega) (by omega)).mono ?_
          rintro v wy ⟨A6, n6, c6, rfl, hS, xE⟩
          go_wp2_with fail
          have E := E.trans xE
          clear xE
          refine hK.out _ _ trivial (fun hHeld => ?_)
          clear hK K
          try simp only [Act.put, List.getElem_toArray, List.getElem_cons_succ, List.getElem_cons_zero, List.setIfInBounds_toArray, List.set_cons_zero, List.set_cons_succ]
          refine wpAnyH_take (i := 11) (v := ?vn11x8) rfl (by kernel_rfl) (by kernel_rfl) (by kernel_rfl) (fun _ _ _ h => h) (Or.inl ⟨by rfl, ?hyn11x8⟩) (by assumption) ?_
          case hyn11x8 => (intro w hSw; (try dsimp only at hSw); go_simp; try with_reducible rfl)
          try simp only [Act.put, List.getElem_toArray, List.getElem_cons_succ, List.getElem_cons_zero, List.setIfInBounds_toArray, List.set_cons_zero, List.set_cons_succ]
          refine wpAnyH_done (by kernel_rfl) ?_ _
          refine NoPanic.normal ?_
          go_wp2
          go_roundw
          case rel => exact ⟨k + 1, A6, n6, c6, by omega, by go_num, rfl, by rw [HST.out]; exact hS, HLT.out, hE.trans E⟩
          case measure => simp [intOf]; omega
      · skip
        go_simp
        have xE : Ext wx (wx.alloc (.cells #[.int .u32 (d : Int)] 71)) := (Ext.refl wx).alloc _
        have hL0 := rd_lit wx 71 .u32 [(d : Int)] (by simp)
        obtain ⟨gd, hgd⟩ : ∃ g, g = wx.heap.size := ⟨_, rfl⟩
        obtain ⟨wy, hwy⟩ : ∃ wy, wy = wx.alloc (.cells #[.int .u32 (d : Int)] 71) := ⟨_, rfl⟩
        have hL1 : Rd wy .u32 (some ⟨gd, 0, none⟩) 1 1 [(d : Int)] := by rw [hwy, hgd]; exact hL0
        rw [← hwy] at xE ⊢
        rw [← hgd]
        clear hL0 hwy hgd
        have E := E.trans xE
        (try have hL10 := hL10.ext xE)
        (try have hLd := hLd.ext xE)
        (try have hP := hP.ext xE)
        (try have hD := hD.ext xE)
        have hLd := hL1
        clear hL1 xE
        obtain ⟨wx, hwx⟩ : ∃ W, W = wy := ⟨_, rfl⟩
        subst hwx
        refine hK.out _ _ trivial (fun hHeld => ?_)
        clear hK K
        try simp only [Act.put, List.getElem_toArray, List.getElem_cons_succ, List.getElem_cons_zero, List.setIfInBounds_toArray, List.set_cons_zero, List.set_cons_succ]
        refine wpAnyH_ready (rs := [1]) (by kernel_rfl) (by simp) ?_
        refine AllReadyH.cons (o := _) rfl (fun K hK => ?_) AllReadyH.nil
        go_simp
        have xE : Ext wx (wx.alloc (.cells #[.int .u32 10] 71)) := (Ext.refl wx).alloc _
        have hL0 := rd_lit wx 71 .u32 [10] (by simp)
        obtain ⟨g10, hg10⟩ : ∃ g, g = wx.heap.size := ⟨_, rfl⟩
        obtain ⟨wy, hwy⟩ : ∃ wy, wy = wx.alloc (.cells #[.int .u32 10] 71) := ⟨_, rfl⟩
        have hL1 : Rd wy .u32 (some ⟨g10, 0, none⟩) 1 1 [10] := by rw [hwy, hg10]; exact hL0
        rw [← hwy] at xE ⊢
        rw [← hg10]
        clear hL0 hwy hg10
        have E := E.trans xE
        (try have hL10 := hL10.ext xE)
        (try have hLd := hLd.ext xE)
        (try have hP := hP.ext xE)
        (try have hD := hD.ext xE)
        have hL10 := hL1
        clear hL1 xE
        obtain ⟨wx, hwx⟩ : ∃ W, W = wy := ⟨_, rfl⟩
        subst hwx
        refine hK.out _ _ trivial (fun hHeld => ?_)
        clear hK K
        try simp only [Act.put, List.getElem_toArray, List.getElem_cons_succ, List.getElem_cons_zero, List.setIfInBounds_toArray, List.set_cons_zero, List.set_cons_succ]
        refine wpAnyH_ready (rs := [2]) (by kernel_rfl) (by simp) ?_
        refine AllReadyH.cons (o := _) rfl (fun K hK => ?_) AllReadyH.nil
        go_simp
        refine (rmul_calls A _ n 1 c 1 (decV (s.data.toList.take k)) 10 _ (hN.ext E) (lit10 hL10) (by omega) (by omega)).mono ?_
        rintro v wy ⟨A4, n4, c4, rfl, hQ, xE⟩
        go_wp2_with fail
        have E := E.trans xE
        (try have hL10 := hL10.ext xE)
        (try have hLd := hLd.ext xE)
        (try have hP := hP.ext xE)
        (try have hD := hD.ext xE)
        have hP := hQ
        clear hQ xE
        obtain ⟨wx, hwx⟩ : ∃ W, W = wy := ⟨_, rfl⟩
        subst hwx
        refine hK.out _ _ trivial (fun hHeld => ?_)
        clear hK K
        try simp only [Act.put, List.getElem_toArray, List.getElem_cons_succ, List.getElem_cons_zero, List.setIfInBounds_toArray, List.set_cons_zero, List.set_cons_succ]
        refine wpAnyH_ready (rs := [9]) (by kernel_rfl) (by simp) ?_
        refine AllReadyH.cons (o := _) rfl (fun K hK => ?_) AllReadyH.nil
        go_simp
        refine (rtrim_nt _ 1 1 d [(d : Int)] _ hLd (words_cons.2 ⟨by omega, words_nil⟩) (by simp [lv])).mono ?_
        rintro v wy ⟨m5, hm5, rfl, hD, hwy⟩
        have hwy2 := hwy.symm
        subst hwy2
        go_wp2_with fail
        refine hK.out _ _ trivial (fun hHeld => ?_)
        clear hK K
        try simp only [Act.put, List.getElem_toArray, List.getElem_cons_succ, List.getElem_cons_zero, List.setIfInBounds_toArray, List.set_cons_zero, List.set_cons_succ]
        refine wpAnyH_ready (rs := [10]) (by kernel_rfl) (by simp) ?_
        refine AllReadyH.cons (o := _) rfl (fun K hK => ?_) AllReadyH.nil
        go_simp
        refine (rsum_calls A4 _ n4 m5 c4 1 (decV (s.data.toList.take k) * 10) d _ hP hD (by have h1 := HML.out; have h2 := hP.len; omega) (by omega)).mono ?_
        rintro v wy ⟨A6, n6, c6, rfl, hS, xE⟩
        go_wp2_with fail
        have E := E.trans xE
        clear xE
        refine hK.out _ _ trivial (fun hHeld => ?_)
        clear hK K
        try simp only [Act.put, List.getElem_toArray, List.getElem_cons_succ, List.getElem_cons_zero, List.setIfInBounds_toArray, List.set_cons_zero, List.set_cons_succ]
        refine wpAnyH_take (i := 11) (v := ?vn11x9) rfl (by kernel_rfl) (by kernel_rfl) (by kernel_rfl) (fun _ _ _ h => h) (Or.inl ⟨by rfl, ?hyn11x9⟩) (by assumption) ?_
        case hyn11x9 => (intro w hSw; (try dsimp only at hSw); go_simp; try with_reducible rfl)
        try simp only [Act.put, List.getElem_toArray, List.getElem_cons_succ, List.getElem_cons_zero, List.setIfInBounds_toArray, List.set_cons_zero, List.set_cons_succ]
        refine wpAnyH_done (by kernel_rfl) ?_ _
        refine NoPanic.normal ?_
        go_wp2
        go_roundw
        case rel => exact ⟨k + 1, A6, n6, c6, by omega, by go_num, rfl, by rw [HST.out]; exact hS, HLT.out, hE.trans E⟩
        case measure => simp [intOf]; omega
    · have hke : k = s.size := by omega
      have hall : decV (s.data.toList.take k) = decV s.data.toList := by rw [List.take_of_length_le (by rw [← Lib.size_eq]; omega)]
      rw [hall] at hN
      clear hall hlt
      go_wp2_with fail
      refine (rnorm_calls false A n c (decV s.data.toList) _ 0 _ hN (words_wd _) (lv_wd _) (by omega) (by omega)).mono ?_
      rintro r w2 ⟨s', A', n', c', e', rfl, hN2, x2⟩
      have hR2 := hR.ext (hE.trans x2)
      have E2 := e1.trans (hE.trans x2)
      have r0 := hR2.c0
      have r1 := hR2.c1
      have r2 := hR2.c2
      have f0 := hR2.f0
      have f1 := hR2.f1
      have f2 := hR2.f2
      unfold dyn
      go_wp2_with fail
      refine bodyPost_ret (results_rn rfl _ _ w.heap.size s' A' n' c' e' rfl (hR2.all _ _ _ _ _)) rfl ?_
      exact ⟨s', A', n', c', e', rfl, hR2.nm hN2 _ _ _, ((E2.setCell (Nat.le_refl _) _).setCell (Nat.le_refl _) _).setCell (Nat.le_refl _) _⟩
end Go.Proofs.YtkljejejabikiaaGreatDoor

/- The statements' value: a decimal's digits as a whole number. -/
namespace Go.Proofs.YtkljejejabikiaaGreatDoor
open Go Go.RowKit Cusp

def isD (b : UInt8) : Bool := decide (48 ≤ b.toNat) && decide (b.toNat ≤ 57)
def toI (l : List UInt8) : List Int := l.map fun b => (b.toNat : Int)
theorem st_toI (l : List UInt8) : (strOfNums (toI l)).data.toList = l := by
  rw [bytes_list]
  unfold toI
  rw [List.map_map]
  have : ((fun n : Int => UInt8.ofNat n.toNat) ∘ fun b : UInt8 => (b.toNat : Int)) = id := by
    funext b
    simp
  rw [this, List.map_id]
theorem filt_snoc (l : List UInt8) (k : Nat) (h : k < l.length) : (l.take (k + 1)).filter isD = (l.take k).filter isD ++ (if isD l[k] = true then [l[k]] else []) := by
  rw [List.take_succ_eq_append_getElem h, List.filter_append, List.filter_cons, List.filter_nil]
theorem filt_len (l : List UInt8) (k : Nat) : ((l.take k).filter isD).length ≤ k := Nat.le_trans (List.length_filter_le _ _) (List.length_take_le _ _)

set_option maxHeartbeats 8000000 in
set_option maxRecDepth 100000 in
theorem lawvalue_calls (s : ByteArray) (w : World) (h0 : 0 < s.size) (hdg : s.data.toList.filter isD ≠ []) (hs : s.size ≤ 1000) (neg : Bool) (hneg : ((((s[0]'h0).toNat : Nat) : Int) == 45) = neg) :
    Calls Tryz.prog 27 #[.string s] w fun r w' => ∃ s' A' n' c' e', r = .returned (dyn s' A' n' c' e') ∧ Nm w' (sN neg (decV (s.data.toList.filter isD))) 0 s' A' n' c' e' ∧ Ext w w' := by
  have he := emp_false h0
  go_enter Tryz.func27, Tryz.ntmps27
  go_upto_region 1 with (fail)
  have e1 : Ext w (w.alloc (.cells #[.bool false, .slice none 0 0, .int .i64 0] 44)) := (Ext.refl w).alloc _
  have hR := nmAt_new w 44 false none 0 0 0
  obtain ⟨w1, hw1⟩ : ∃ w1, w1 = w.alloc (.cells #[.bool false, .slice none 0 0, .int .i64 0] 44) := ⟨_, rfl⟩
  rw [← hw1] at e1 hR ⊢
  clear hw1
  go_wp2
  clear he hneg
  go_loopw [4, 5] (fun d i wr => ∃ (k : Nat), k ≤ s.size ∧ i = .int .i64 (k : Int) ∧ Own w1.heap.size wr 5 .u8 d (toI ((s.data.toList.take k).filter isD)) ∧ Below w1.heap.size w1 wr ∧ w1.heap.size ≤ wr.heap.size) (fun _ i _ => s.size - (intOf i).toNat)
  case atStart => exact ⟨0, Nat.zero_le _, rfl, Own.nil _ _ _ _, Below.refl _ _, Nat.le_refl _⟩
  case round =>
    obtain ⟨k, hk, rfl, hO, hB, hsz⟩ := hrel
    have hll : s.data.toList.length = s.size := (Lib.size_eq s).symm
    have hfl := filt_len s.data.toList k
    have hfl2 : (toI ((s.data.toList.take k).filter isD)).length ≤ k := by unfold toI; rw [List.length_map]; exact hfl
    by_cases hks : k < s.size
    · have hsn := filt_snoc s.data.toList k (by omega)
      have hat : s.data.toList[k]'(by omega) = s[k]'hks := rfl
      rw [hat] at hsn
      obtain ⟨x, hx⟩ : ∃ x : Nat, x = (s[k]'hks).toNat := ⟨_, rfl⟩
      have hxi : ((s[k]'hks).toNat : Int) = (x : Int) := by omega
      have hxb : x < 256 := by rw [hx]; exact UInt8.toNat_lt _
      obtain ⟨A, c, hv, hr⟩ := hO.form
      subst hv
      obtain ⟨L, hL⟩ : ∃ L, L = (toI ((s.data.toList.take k).filter isD)).length := ⟨_, rfl⟩
      rw [← hL] at hO hfl2 ⊢
      have HL := Lib.hid hL
      have hL1 : (L : Int) < 1000 := by omega
      have HSN := Lib.hid hsn
      have HX := Lib.hid hx
      clear hL hsn hr hx hll hfl hat
      by_cases h1 : 48 ≤ x
      · by_cases h2 : x ≤ 57
        · have hdig : isD (s[k]'hks) = true := by unfold isD; rw [← HX.out, decide_eq_true h1, decide_eq_true h2]; rfl
          have HD := Lib.hid hdig
          clear hdig
          go_wp2_with (at_builtin; refine append_one (w0 := w1) w1.heap.size rfl _ _ 116 1 rfl Tryz.underlying116 info_u8 (by omega) _ (toI ((s.data.toList.take k).filter isD)) rfl rfl hO hB hsz ?c1 ?_)
          case c1 => rw [← HL.out]; omega
          intro v1 w2 hO2 hB2 hs2 _ _
          go_wp2
          go_roundw
          case rel => exact ⟨k + 1, by omega, by go_num, by rw [HSN.out, if_pos HD.out]; unfold toI at hO2 ⊢; rw [List.map_append]; simpa [HX.out] using hO2, hB2, hs2⟩
          case measure => simp [intOf]; omega
        · have hdig : isD (s[k]'hks) = false := by unfold isD; rw [← HX.out, decide_eq_false h2, Bool.and_false]
          have HD := Lib.hid hdig
          clear hdig
          go_wp2
          go_roundw
          case rel => exact ⟨k + 1, by omega, by go_num, by rw [HSN.out, HD.out, if_neg (by simp), List.append_nil]; exact hO, hB, hsz⟩
          case measure => simp [intOf]; omega
      · have hdig : isD (s[k]'hks) = false := by unfold isD; rw [← HX.out, decide_eq_false h1, Bool.false_and]
        have HD := Lib.hid hdig
        clear hdig
        go_wp2
        go_roundw
        case rel => exact ⟨k + 1, by omega, by go_num, by rw [HSN.out, HD.out, if_neg (by simp), List.append_nil]; exact hO, hB, hsz⟩
        case measure => simp [intOf]; omega
    · have hke : k = s.size := by omega
      have hall : s.data.toList.take k = s.data.toList := List.take_of_length_le (by omega)
      rw [hall] at hO hfl2
      obtain ⟨F, hF⟩ : ∃ F, F = s.data.toList.filter isD := ⟨_, rfl⟩
      rw [← hF] at hO hfl2 hdg
      have hFl : (toI F).length = F.length := by unfold toI; rw [List.length_map]
      have hFp : 0 < (toI F).length := by rw [hFl]; exact List.length_pos_iff.2 hdg
      obtain ⟨g, cc, hv, hgB⟩ := hO.form_pos hFp
      subst hv
      obtain ⟨L, hL⟩ : ∃ L, L = (toI F).length := ⟨_, rfl⟩
      rw [← hL] at hO hFp hfl2 hFl ⊢
      have hcv := run_convert_bytes_arg (P := Tryz.prog) wr 116 5 Tryz.underlying116 Tryz.underlying5 g 0 L cc (toI F) hL.symm (fun i hi => by
        have := (hO.at_ i (by rw [← hL]; exact hi)).1
        rw [Nat.zero_add, this]; rfl) 9 Tryz.underlying9
      have HL := Lib.hid hL
      have HF := Lib.hid hF
      have HFL := Lib.hid hFl
      clear hL hF hFl hall hke hll
      go_wp2_with fail
      obtain ⟨D, hD⟩ : ∃ D, D = strOfNums (toI F) := ⟨_, rfl⟩
      have hDl : D.data.toList = F := by rw [hD]; exact st_toI F
      have hDs : D.size = L := by rw [Lib.size_eq, hDl, HFL.out]
      rw [← hD]
      have HDL := Lib.hid hDl
      clear hD hDl hcv
      have hdig : ∀ (k : Nat) (h : k < D.size), 48 ≤ (D[k]'h).toNat ∧ (D[k]'h).toNat ≤ 57 := by
        intro i hi
        have hm : D[i]'hi ∈ D.data.toList := by
          have : D[i]'hi = D.data.toList[i]'(by rw [← Lib.size_eq]; exact hi) := rfl
          rw [this]; exact List.getElem_mem _
        rw [HDL.out, HF.out] at hm
        have := (List.mem_filter.1 hm).2
        unfold isD at this
        simp only [Bool.and_eq_true, decide_eq_true_eq] at this
        exact this
      refine (rdigits_calls D _ (by omega) hdig).mono ?_
      rintro r w2 ⟨s2, A2, n2, c2, e2, rfl, hN2, x2⟩
      rw [HDL.out] at hN2
      clear hdig
      have E2 : Ext w w2 := e1.trans (Ext.trans hB x2)
      have hR2 := hR.ext (Ext.trans hB x2)
      unfold dyn
      clear hR hO hB x2 hsz e1
      go_upto_region 9 with (fail)
      have e3 : Ext w2 (w2.alloc (.cells #[.bool s2, .slice A2 n2 c2, .int .i64 e2] 44)) := (Ext.refl w2).alloc _
      have hO := nmAt_new w2 44 s2 A2 n2 c2 e2
      obtain ⟨w3, hw3⟩ : ∃ w3, w3 = w2.alloc (.cells #[.bool s2, .slice A2 n2 c2, .int .i64 e2] 44) := ⟨_, rfl⟩
      rw [← hw3] at e3 hO ⊢
      have hR3 := hR2.ext e3
      have hN3 := hN2.ext e3
      have E3 := E2.trans e3
      clear hw3 e3 hR2 hN2 E2
      have a0 := hO.c0
      have a1 := hO.c1
      have a2 := hO.c2
      have r0 := hR3.c0
      have r1 := hR3.c1
      have r2 := hR3.c2
      have f0 := hR3.f0
      have f1 := hR3.f1
      have f2 := hR3.f2
      cases neg with
      | false =>
        go_wp2_with fail
        refine bodyPost_ret (results_rn rfl _ _ w.heap.size s2 A2 n2 c2 e2 rfl (hR3.all _ _ _ _ _)) rfl ?_
        exact ⟨s2, A2, n2, c2, e2, rfl, (hR3.nm hN3 _ _ _).cast (by rw [← HF.out]; rfl) rfl, ((E3.setCell (Nat.le_refl _) _).setCell (Nat.le_refl _) _).setCell (Nat.le_refl _) _⟩
      | true =>
        go_wp2_with fail
        refine (rminus_calls _ 0 e2 s2 A2 n2 c2 _ hN3).mono ?_
        rintro r w4 ⟨s4, A4, n4, c4, e4, rfl, hN4, x4⟩
        have hR4 := hR3.ext x4
        have E4 := E3.trans x4
        unfold dyn
        clear r0 r1 r2 f0 f1 f2
        have r0 := hR4.c0
        have r1 := hR4.c1
        have r2 := hR4.c2
        have f0 := hR4.f0
        have f1 := hR4.f1
        have f2 := hR4.f2
        go_wp2_with fail
        refine bodyPost_ret (results_rn rfl _ _ w.heap.size s4 A4 n4 c4 e4 rfl (hR4.all _ _ _ _ _)) rfl ?_
        exact ⟨s4, A4, n4, c4, e4, rfl, (hR4.nm hN4 _ _ _).cast (by rw [← HF.out]; rfl) rfl, ((E4.setCell (Nat.le_refl _) _).setCell (Nat.le_refl _) _).setCell (Nat.le_refl _) _⟩
end Go.Proofs.YtkljejejabikiaaGreatDoor

/- DecimHolds: the plain law, and what a decimal's digits tell. -/
namespace Go.Proofs.YtkljejejabikiaaGreatDoor
open Go Go.RowKit Cusp

def u8s (l : List Int) : List UInt8 := l.map fun n => UInt8.ofNat n.toNat
theorem decV_snoc (l : List UInt8) (b : UInt8) : decV (l ++ [b]) = decV l * 10 + (b.toNat - 48) := by unfold decV; rw [List.foldl_append]; rfl
theorem u8_dig {d : Nat} (h : d < 10) : (UInt8.ofNat ((48 + (d : Int)).toNat)).toNat = 48 + d := by
  rw [show (48 + (d : Int)).toNat = 48 + d by omega, UInt8.toNat_ofNat']
  omega
theorem decV_dg (n : Nat) : decV (u8s (dg n).reverse) = n := by
  induction n using Nat.strongRecOn with
  | _ n ih =>
    rcases Nat.eq_zero_or_pos n with h | h
    · subst h; rw [dg_zero]; rfl
    · rw [dg_pos (by omega), List.reverse_cons]
      unfold u8s
      rw [List.map_append, List.map_cons, List.map_nil, decV_snoc]
      have := ih (n / 10) (by omega)
      unfold u8s at this
      rw [this, u8_dig (by omega)]
      omega
theorem decV_dec (n : Nat) : decV (u8s (dec n)) = n := by
  unfold dec
  split
  · rename_i h; subst h; rfl
  · exact decV_dg n
def AllDig (l : List Int) : Prop := ∀ x ∈ l, 48 ≤ x ∧ x ≤ 57
theorem dg_dig (n : Nat) : AllDig (dg n) := by
  induction n using Nat.strongRecOn with
  | _ n ih =>
    rcases Nat.eq_zero_or_pos n with h | h
    · subst h; rw [dg_zero]; intro x hx; cases hx
    · rw [dg_pos (by omega)]
      intro x hx
      rcases List.mem_cons.1 hx with rfl | hx
      · omega
      · exact ih (n / 10) (by omega) x hx
theorem dec_dig (n : Nat) : AllDig (dec n) := by
  unfold dec
  split
  · intro x hx; rcases List.mem_cons.1 hx with rfl | hx
    · omega
    · cases hx
  · intro x hx; exact dg_dig n x (List.mem_reverse.1 hx)
theorem padL_dig {l : List Int} (p : Nat) (h : AllDig l) : AllDig (padL l p) := by
  unfold padL
  split
  · intro x hx
    rcases List.mem_append.1 hx with hx | hx
    · rw [(List.mem_replicate.1 hx).2]; omega
    · exact h x hx
  · exact h
theorem filt_dig {l : List Int} (h : AllDig l) : (u8s l).filter isD = u8s l := by
  rw [List.filter_eq_self]
  intro b hb
  obtain ⟨x, hx, rfl⟩ := List.mem_map.1 hb
  have := h x hx
  have e : (UInt8.ofNat x.toNat).toNat = x.toNat := by rw [UInt8.toNat_ofNat']; omega
  unfold isD
  rw [e, decide_eq_true (by omega), decide_eq_true (by omega)]; rfl
theorem u8s_append (a b : List Int) : u8s (a ++ b) = u8s a ++ u8s b := by unfold u8s; rw [List.map_append]
theorem filt_point {l : List Int} (p : Nat) (h : AllDig l) (neg : Bool) : (u8s (minusB neg ++ pointL l p)).filter isD = u8s (padL l p) := by
  have hp := padL_dig p h
  have h1 : (u8s (minusB neg)).filter isD = [] := by cases neg <;> rfl
  rw [u8s_append, List.filter_append, h1, List.nil_append]
  unfold pointL
  split
  · exact filt_dig hp
  · have ha : AllDig ((padL l p).take ((padL l p).length - p)) := fun x hx => hp x (List.mem_of_mem_take hx)
    have hb : AllDig ((padL l p).drop ((padL l p).length - p)) := fun x hx => hp x (List.mem_of_mem_drop hx)
    rw [u8s_append, List.filter_append, filt_dig ha]
    have h2 : (u8s (46 :: (padL l p).drop ((padL l p).length - p))).filter isD = u8s ((padL l p).drop ((padL l p).length - p)) := by
      unfold u8s
      rw [List.map_cons, List.filter_cons]
      rw [if_neg (by decide)]
      exact filt_dig hb
    rw [h2, ← u8s_append, List.take_append_drop]
theorem decV_zeros (k : Nat) (l : List UInt8) : decV (u8s (List.replicate k 48) ++ l) = decV l := by
  unfold decV
  rw [List.foldl_append]
  congr 1
  induction k with
  | zero => rfl
  | succ k ih => rw [List.replicate_succ]; unfold u8s at ih ⊢; rw [List.map_cons, List.foldl_cons]; exact ih
theorem decV_pad (N p : Nat) : decV (u8s (padL (dec N) p)) = N := by
  unfold padL
  split
  · rw [u8s_append, decV_zeros, decV_dec]
  · exact decV_dec N
theorem dec_len10 {N k : Nat} (hk : 0 < k) (h : N < 10 ^ k) : (dec N).length ≤ k := by
  have hdg : ∀ (k N : Nat), N < 10 ^ k → (dg N).length ≤ k := by
    intro k
    induction k with
    | zero => intro N h; rw [show N = 0 by simp at h; omega, dg_zero]; simp
    | succ k ih =>
      intro N h
      rcases Nat.eq_zero_or_pos N with h0 | h0
      · subst h0; rw [dg_zero]; simp
      · rw [dg_pos (by omega), List.length_cons]
        have := ih (N / 10) (by rw [Nat.pow_succ] at h; omega)
        omega
  unfold dec
  split
  · simp; omega
  · rw [List.length_reverse]; exact hdg k N h

/-- What is known of the two roundings of A / D. -/
theorem holds_core {Vb D a T P : Nat} (hD : 0 < D) (hT : 0 < T) (h : Vb * D = a * T) :
    (a * P / D) * T ≤ Vb * P ∧ Vb * P ≤ (a * P / D + 1) * T ∧ (a * P % D = 0 ↔ (a * P / D) * T = Vb * P) ∧ (0 < a * P % D → (a * P / D) * T < Vb * P ∧ Vb * P < (a * P / D + 1) * T) := by
  have hQ : Vb * P * D = a * P * T := by
    rw [Nat.mul_assoc, Nat.mul_comm P D, ← Nat.mul_assoc, h]
    simp only [Nat.mul_comm, Nat.mul_left_comm]
  have hdm := Nat.div_add_mod (a * P) D
  have hml := Nat.mod_lt (a * P) hD
  generalize a * P = A at hQ hdm hml ⊢
  generalize Vb * P = Q at hQ ⊢
  generalize A / D = q at hdm ⊢
  generalize A % D = r at hdm hml ⊢
  subst hdm
  have e1 : q * T * D + r * T = Q * D := by rw [hQ, Nat.add_mul]; simp only [Nat.mul_comm, Nat.mul_left_comm]
  have e2 : (q + 1) * T * D = q * T * D + D * T := by rw [Nat.add_mul, Nat.one_mul, Nat.add_mul, Nat.mul_comm T D]
  have hrT : r * T + T ≤ D * T := by
    have := Nat.mul_le_mul_right T (show r + 1 ≤ D from hml)
    rwa [Nat.add_mul, Nat.one_mul] at this
  refine ⟨?_, ?_, ⟨?_, ?_⟩, ?_⟩
  · apply Nat.le_of_mul_le_mul_right _ hD; omega
  · apply Nat.le_of_mul_le_mul_right _ hD; omega
  · intro h0
    subst h0
    apply Nat.eq_of_mul_eq_mul_right hD
    omega
  · intro h0
    rw [h0] at e1
    have : r * T = 0 := by omega
    rcases Nat.mul_eq_zero.1 this with h1 | h1
    · exact h1
    · omega
  · intro h0
    have hp := Nat.mul_pos h0 hT
    exact ⟨Nat.lt_of_mul_lt_mul_right (a := D) (by omega), Nat.lt_of_mul_lt_mul_right (a := D) (by omega)⟩

theorem round_down (N D : Nat) (sg : Bool) : roundN N D sg 1 = if sg = true ∧ 0 < N % D then N / D + 1 else N / D := by
  unfold roundN DueN upM
  cases sg <;> simp
theorem round_up (N D : Nat) (sg : Bool) : roundN N D sg 3 = if sg = false ∧ 0 < N % D then N / D + 1 else N / D := by
  unfold roundN DueN upM
  cases sg <;> simp

/-- What the law asks of the two numbers x, y and of v = w / T. -/
structure HoldsSay (X Y W : Int) (T : Nat) : Prop where
  lo : X * T - W ≤ 0
  hi : W - Y * T ≤ 0
  one : Y - X - 1 ≤ 0
  eq : Y - X = 0 ↔ (X * T - W = 0 ∧ Y * T - W = 0)
set_option linter.unusedSimpArgs false in
theorem holds_say {Vb D a T P : Nat} (hD : 0 < D) (hT : 0 < T) (h : Vb * D = a * T) (sg : Bool) :
    HoldsSay (sN sg (roundN (a * P) D sg 1)) (sN sg (roundN (a * P) D sg 3)) (sN sg (Vb * P)) T := by
  obtain ⟨h1, h2, h3, h4⟩ := holds_core (P := P) hD hT h
  rw [round_down, round_up]
  generalize a * P / D = q at h1 h2 h3 h4 ⊢
  generalize a * P % D = r at h3 h4 ⊢
  generalize Vb * P = Q at h1 h2 h3 h4 ⊢
  have e1 : ((q * T : Nat) : Int) = (q : Int) * T := Int.natCast_mul q T
  have e2 : (((q + 1) * T : Nat) : Int) = ((q : Int) + 1) * T := by rw [Int.natCast_mul]; rfl
  have e3 : ((q : Int) + 1) * T = (q : Int) * T + T := by rw [Int.add_mul, Int.one_mul]
  have e4 : (q + 1) * T = q * T + T := by rw [Nat.add_mul, Nat.one_mul]
  rw [e3] at e2
  generalize (q : Int) * T = qT at e1 e2 e3
  generalize hqt : q * T = qt at h1 h3 h4 e1 e4
  rw [e4] at h2 h4 e2
  rcases Nat.eq_zero_or_pos r with h0 | h0
  · have h5 := h3.1 h0
    have hn : ¬ (0 < r) := by omega
    cases sg
    all_goals
      simp only [hn, and_false, if_false, sN, if_true, Bool.false_eq_true]
      have e5 : (q : Int) * T = qt := by rw [← hqt, Int.natCast_mul]
      constructor <;> (try simp only [Int.neg_mul, e5]) <;> omega
  · have h5 := h4 h0
    cases sg
    · simp only [h0, and_true, if_true, sN, if_false, Bool.false_eq_true, Bool.true_eq_false]
      have e5 : (q : Int) * T = qt := by rw [← hqt, Int.natCast_mul]
      have e6 : ((q + 1 : Nat) : Int) * T = (qt : Int) + T := by rw [← e5, Int.natCast_add, Int.add_mul]; simp
      constructor <;> (try simp only [e5, e6]) <;> omega
    · simp only [h0, and_true, if_true, sN, if_false, Bool.false_eq_true, Bool.true_eq_false]
      have e5 : (q : Int) * T = qt := by rw [← hqt, Int.natCast_mul]
      have e6 : ((q + 1 : Nat) : Int) * T = (qt : Int) + T := by rw [← e5, Int.natCast_add, Int.add_mul]; simp
      constructor <;> (try simp only [Int.neg_mul, e5, e6]) <;> omega
end Go.Proofs.YtkljejejabikiaaGreatDoor

/- DecimHolds: what the law's value says of a text of Fixed. -/
namespace Go.Proofs.YtkljejejabikiaaGreatDoor
open Go Go.RowKit Cusp

theorem u8s_bytes (l : List Int) : (strOfNums l).data.toList = u8s l := bytes_list l
theorem point_ne (l : List Int) (p : Nat) (h : AllDig l) : ∀ x ∈ pointL l p, x = 46 ∨ (48 ≤ x ∧ x ≤ 57) := by
  have hp := padL_dig p h
  unfold pointL
  split
  · intro x hx; exact .inr (hp x hx)
  · intro x hx
    rcases List.mem_append.1 hx with hx | hx
    · exact .inr (hp x (List.mem_of_mem_take hx))
    · rcases List.mem_cons.1 hx with hx | hx
      · exact .inl hx
      · exact .inr (hp x (List.mem_of_mem_drop hx))
theorem point_len (l : List Int) (p : Nat) : 0 < (pointL l p).length ∧ (pointL l p).length ≤ l.length + p + 2 := by
  have h := padL_len l p
  unfold pointL
  split
  · omega
  · rw [List.length_append, List.length_cons, List.length_take, List.length_drop]; omega

set_option maxHeartbeats 2000000 in
theorem value_fixed (sg : Bool) (N p : Nat) (hN : N < 10 ^ 416) (hp : p ≤ 400) (w : World) :
    Calls Tryz.prog 27 #[.string (strOfNums (minusB sg ++ pointL (dec N) p))] w fun r w' => ∃ s' A' n' c' e', r = .returned (dyn s' A' n' c' e') ∧ Nm w' (sN sg N) 0 s' A' n' c' e' ∧ Ext w w' := by
  obtain ⟨s, hs⟩ : ∃ s, s = strOfNums (minusB sg ++ pointL (dec N) p) := ⟨_, rfl⟩
  have hl : s.data.toList = u8s (minusB sg ++ pointL (dec N) p) := by rw [hs]; exact u8s_bytes _
  have h1 := point_len (dec N) p
  have h2 := dec_len10 (by omega) hN
  have hm : (minusB sg).length ≤ 1 := by unfold minusB; split <;> simp
  have hsz : s.size = (minusB sg).length + (pointL (dec N) p).length := by rw [Lib.size_eq, hl]; unfold u8s; rw [List.length_map, List.length_append]
  have h0 : 0 < s.size := by omega
  have hf : s.data.toList.filter isD = u8s (padL (dec N) p) := by rw [hl]; exact filt_point p (dec_dig N) sg
  have hne : s.data.toList.filter isD ≠ [] := by
    rw [hf]
    intro h
    have := congrArg List.length h
    unfold u8s at this
    rw [List.length_map] at this
    have h9 := (padL_len (dec N) p).1
    rw [List.length_nil] at this
    omega
  have hhead : ((((s[0]'h0).toNat : Nat) : Int) == 45) = sg := by
    have e : s[0]'h0 = (s.data.toList)[0]'(by rw [← Lib.size_eq]; exact h0) := rfl
    have e2 : (s.data.toList)[0]? = some (s[0]'h0) := by rw [e]; exact List.getElem?_eq_getElem _
    rw [hl] at e2
    cases sg with
    | true =>
      unfold minusB u8s at e2
      simp at e2
      rw [← e2]
      rfl
    | false =>
      have hx := point_ne (dec N) p (dec_dig N)
      unfold minusB u8s at e2
      simp only [Bool.false_eq_true, if_false, List.nil_append] at e2
      cases hq : pointL (dec N) p with
      | nil => rw [hq] at e2; cases e2
      | cons y t =>
        have hy := hx y (by rw [hq]; simp)
        rw [hq] at e2
        simp only [List.map_cons, List.getElem?_cons_zero, Option.some.injEq] at e2
        rw [← e2]
        have : (UInt8.ofNat y.toNat).toNat = y.toNat := by rw [UInt8.toNat_ofNat']; omega
        rw [this, beq_eq_false_iff_ne]
        omega
  rw [← hs]
  refine (lawvalue_calls s w h0 hne (by omega) sg hhead).mono ?_
  rintro r w1 ⟨s', A', n', c', e', rfl, hNm, x1⟩
  rw [hf, decV_pad] at hNm
  exact ⟨s', A', n', c', e', rfl, hNm, x1⟩

set_option exponentiation.threshold 2000 in
theorem V_15 {e : Nat} (h : e = 1074) : V 4831355200913801216 = 1000000000000000 * 2 ^ e := by
  have h1 := V_normal (E := 1072) (f := 3496400372629504) (by omega) (by omega)
  rw [show 1072 * 4503599627370496 + 3496400372629504 = 4831355200913801216 from rfl] at h1
  subst h
  exact h1.trans (by decide)
theorem ten15 (q : Nat) : 1000000000000000 * 10 ^ q = 10 ^ (15 + q) := by rw [Nat.pow_add]
set_option exponentiation.threshold 2000 in
/-- The rounded numbers are short. -/
theorem holds_small {B a j n : Nat} (hF : FracOf B a j) (hB : B ≤ 4831355200913801216) (hn : n ≤ 400) (sg : Bool) (mode : Nat) : roundN (a * 10 ^ n) (2 ^ j) sg mode < 10 ^ 416 := by
  obtain ⟨e, he⟩ : ∃ e, e = 1074 := ⟨_, rfl⟩
  have h1 := hF.1 e he
  have h2 := V_le hB
  rw [V_15 he] at h2
  have hp : 0 < 2 ^ e := Nat.two_pow_pos e
  have hq : 0 < 2 ^ j := Nat.two_pow_pos j
  have h3 : a ≤ 1000000000000000 * 2 ^ j := by
    apply Nat.le_of_mul_le_mul_right _ hp
    rw [← h1]
    have := Nat.mul_le_mul_right (2 ^ j) h2
    rw [Nat.mul_assoc, Nat.mul_comm (2 ^ e), ← Nat.mul_assoc] at this
    exact this
  have h4 : a * 10 ^ n / 2 ^ j ≤ 10 ^ 415 := by
    apply Nat.div_le_of_le_mul
    have h5 := Nat.mul_le_mul h3 (Nat.pow_le_pow_right (show 0 < 10 by omega) hn)
    refine Nat.le_trans h5 ?_
    rw [Nat.mul_comm _ (2 ^ j), Nat.mul_assoc]
    apply Nat.mul_le_mul_left
    exact Nat.le_of_eq (ten15 400)
  have h5 : roundN (a * 10 ^ n) (2 ^ j) sg mode ≤ a * 10 ^ n / 2 ^ j + 1 := by unfold roundN; split <;> omega
  have h6 : (10 : Nat) ^ 416 = 10 ^ 415 * 10 := Nat.pow_succ (n := 10) (m := 415)
  have h7 : 0 < 10 ^ 415 := Nat.pow_pos (by omega)
  generalize (10 : Nat) ^ 415 = Z at h4 h6 h7
  omega
end Go.Proofs.YtkljejejabikiaaGreatDoor
