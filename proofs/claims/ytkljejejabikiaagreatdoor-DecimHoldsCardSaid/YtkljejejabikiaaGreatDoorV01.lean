/- Contracts of the program's functions, and plain laws on numbers and texts (joined: Num, Mem, NumB, NatA, NatB, NatC, NatD, NatE, NatF, NumC, NatG, NumD). -/
import Derived.Below
import Derived.Deep.Draws
import Derived.Deep.AppendLies
import Derived.Maps.AppendAt
import Derived.OwnWalk
import Derived.Laws.BytesArg
import Derived.Laws.MakeOwn
import Derived.Laws.OwnMore
import Derived.Deep.OwnRows
import Derived.Tactics
import Derived.Lib.ConvBytes
import Derived.Laws.Slices
import Derived.WalkKit
import Derived.WalkLawsBesides
import Derived.WalkSpells
import Derived.KernelRfl
import Derived.RowKit3
import Derived.Deep.LoopGhost
import Derived.Deep.QuietTactic
import Derived.BigQuiet
import Derived.Deep.RegionHeld3
import Derived.Deep.RegionWith
import Derived.Laws.Rows
import Derived.Lib.AppendStr
import Derived.Lib.Hide
import Derived.Outline
import Derived.Test.YtkljejejabikiaaGreatDoorProg
import Derived.Lib.BitFns
import Derived.Test.YtkljejejabikiaaGreatDoorShelf

/- Plain facts about numbers as lists of words of 32 bits, the lowest first; nothing of Go in it. -/
namespace Cusp

/-- The base. -/
def W32 : Nat := 4294967296

/-- A number's words, the lowest first, none of them nought at the end. -/
def wd (n : Nat) : List Int :=
  if h : n = 0 then [] else ((n % 4294967296 : Nat) : Int) :: wd (n / 4294967296)
  termination_by n
  decreasing_by omega

/-- What words tell. -/
def lv : List Int → Nat
  | [] => 0
  | x :: r => x.toNat + 4294967296 * lv r

/-- Words in their range. -/
def Words (l : List Int) : Prop := ∀ x ∈ l, 0 ≤ x ∧ x < 4294967296

/-- None of them nought at the end. -/
def Trim (l : List Int) : Prop := ∀ x, l.getLast? = some x → x ≠ 0

theorem wd_zero : wd 0 = [] := by rw [wd]; simp
theorem wd_pos {n : Nat} (h : n ≠ 0) : wd n = ((n % 4294967296 : Nat) : Int) :: wd (n / 4294967296) := by
  rw [wd]; simp [h]

theorem lv_wd (n : Nat) : lv (wd n) = n := by
  induction n using Nat.strongRecOn with
  | _ n ih =>
    by_cases h : n = 0
    · subst h; rw [wd_zero]; rfl
    · rw [wd_pos h]
      simp only [lv]
      rw [ih (n / 4294967296) (by omega)]
      omega

theorem words_nil : Words [] := fun x hx => by cases hx
theorem words_cons {x : Int} {l : List Int} : Words (x :: l) ↔ (0 ≤ x ∧ x < 4294967296) ∧ Words l := by
  constructor
  · intro h; exact ⟨h x (by simp), fun y hy => h y (by simp [hy])⟩
  · rintro ⟨h1, h2⟩ y hy
    rcases List.mem_cons.1 hy with rfl | hy
    · exact h1
    · exact h2 y hy
theorem words_append {l m : List Int} : Words (l ++ m) ↔ Words l ∧ Words m := by
  constructor
  · intro h; exact ⟨fun x hx => h x (by simp [hx]), fun x hx => h x (by simp [hx])⟩
  · rintro ⟨h1, h2⟩ x hx
    rcases List.mem_append.1 hx with hx | hx
    · exact h1 x hx
    · exact h2 x hx
theorem words_wd (n : Nat) : Words (wd n) := by
  induction n using Nat.strongRecOn with
  | _ n ih =>
    by_cases h : n = 0
    · subst h; rw [wd_zero]; exact words_nil
    · rw [wd_pos h, words_cons]
      exact ⟨by omega, ih _ (by omega)⟩

theorem trim_nil : Trim [] := fun x hx => by simp at hx
theorem trim_cons {x : Int} {l : List Int} (hl : l ≠ []) : Trim (x :: l) ↔ Trim l := by
  unfold Trim
  cases l with
  | nil => exact absurd rfl hl
  | cons y r => simp [List.getLast?_cons_cons]
theorem trim_one {x : Int} : Trim [x] ↔ x ≠ 0 := by simp [Trim]
theorem trim_tail {x : Int} {l : List Int} (h : Trim (x :: l)) : Trim l := by
  cases l with
  | nil => exact trim_nil
  | cons y r => exact (trim_cons (by simp)).1 h

theorem wd_ne_nil {n : Nat} (h : n ≠ 0) : wd n ≠ [] := by rw [wd_pos h]; simp
theorem trim_wd (n : Nat) : Trim (wd n) := by
  induction n using Nat.strongRecOn with
  | _ n ih =>
    by_cases h : n = 0
    · subst h; rw [wd_zero]; exact trim_nil
    · rw [wd_pos h]
      by_cases h2 : n / 4294967296 = 0
      · rw [h2, wd_zero, trim_one]; omega
      · exact (trim_cons (wd_ne_nil h2)).2 (ih _ (by omega))

theorem lv_pos_of_trim {l : List Int} (hw : Words l) (ht : Trim l) (hn : l ≠ []) : lv l ≠ 0 := by
  induction l with
  | nil => exact absurd rfl hn
  | cons x r ih =>
    rw [words_cons] at hw
    simp only [lv]
    by_cases hr : r = []
    · subst hr
      have := trim_one.1 ht
      omega
    · have := ih hw.2 (trim_tail ht) hr
      omega

/-- Words that are trimmed are the words of what they tell. -/
theorem eq_wd {l : List Int} (hw : Words l) (ht : Trim l) : l = wd (lv l) := by
  induction l with
  | nil => rw [show lv [] = 0 from rfl, wd_zero]
  | cons x r ih =>
    have h0 := lv_pos_of_trim hw ht (by simp)
    rw [words_cons] at hw
    have ih := ih hw.2 (trim_tail ht)
    rw [wd_pos h0]
    simp only [lv] at h0 ⊢
    have e1 : ((x.toNat + 4294967296 * lv r) % 4294967296 : Nat) = x.toNat := by omega
    have e2 : (x.toNat + 4294967296 * lv r) / 4294967296 = lv r := by omega
    rw [e1, e2, ← ih]
    congr 1
    omega
theorem eq_wd_of {l : List Int} {n : Nat} (hw : Words l) (ht : Trim l) (h : lv l = n) : l = wd n := h ▸ eq_wd hw ht

theorem lv_append (l m : List Int) : lv (l ++ m) = lv l + 4294967296 ^ l.length * lv m := by
  induction l with
  | nil => simp [lv]
  | cons x r ih =>
    simp only [List.cons_append, lv, ih, List.length_cons, Nat.pow_succ, Nat.mul_add]
    rw [show 4294967296 ^ r.length * 4294967296 * lv m = 4294967296 * (4294967296 ^ r.length * lv m) by
      rw [Nat.mul_comm (4294967296 ^ r.length), Nat.mul_assoc]]
    omega
theorem lv_lt {l : List Int} (h : Words l) : lv l < 4294967296 ^ l.length := by
  induction l with
  | nil => simp [lv]
  | cons x r ih =>
    rw [words_cons] at h
    have := ih h.2
    simp only [lv, List.length_cons, Nat.pow_succ]
    omega
theorem lv_ge {l : List Int} (hw : Words l) (ht : Trim l) (hn : l ≠ []) : 4294967296 ^ (l.length - 1) ≤ lv l := by
  induction l with
  | nil => exact absurd rfl hn
  | cons x r ih =>
    rw [words_cons] at hw
    by_cases hr : r = []
    · subst hr
      have := trim_one.1 ht
      simp only [List.length_cons, List.length_nil, lv]
      simp; omega
    · have := ih hw.2 (trim_tail ht) hr
      simp only [lv, List.length_cons, Nat.add_sub_cancel]
      cases r with
      | nil => exact absurd rfl hr
      | cons y s =>
        simp only [List.length_cons, Nat.add_sub_cancel] at this ⊢
        rw [Nat.pow_succ]
        omega
theorem len_wd_le {n k : Nat} (h : n < 4294967296 ^ k) : (wd n).length ≤ k := by
  rcases Nat.lt_or_ge k (wd n).length with hk | hk
  · exfalso
    have hn : wd n ≠ [] := by intro e; rw [e] at hk; simp at hk
    have h1 := lv_ge (words_wd n) (trim_wd n) hn
    rw [lv_wd] at h1
    have h2 : 4294967296 ^ k ≤ 4294967296 ^ ((wd n).length - 1) := Nat.pow_le_pow_right (by omega) (by omega)
    omega
  · exact hk
theorem wd_eq_nil {n : Nat} : wd n = [] ↔ n = 0 := by
  constructor
  · intro h; have := lv_wd n; rw [h] at this; exact this.symm
  · rintro rfl; exact wd_zero
end Cusp

/- Words for what lies in memory: slices of whole numbers that are read, rows of the call's own, worlds that only grow. No Go function is named here. -/
namespace Cusp
open Go Go.RowKit

/-- An element of a list, nought beyond its end (a word of its own, so that nothing rewrites it). -/
def ix (l : List Int) (k : Nat) : Int := l.getD k 0
def nums (k : IntKind) (xs : List Int) : List Value := xs.map fun x => .int k x

theorem ret_val {a b : Value} (h : a = b) : Ending.returned a = .returned b := by rw [h]
theorem ret_int {k : IntKind} {a b : Int} (h : a = b) : Ending.returned (.int k a) = .returned (.int k b) := by rw [h]
theorem int_int {k : IntKind} {a b : Int} (h : a = b) : Value.int k a = .int k b := by rw [h]

/-! ### Worlds -/
/-- What was there is as it was; new blocks and draws may have come. -/
def Ext (w w' : World) : Prop := Below w.heap.size w w'
theorem Ext.refl (w : World) : Ext w w := Below.refl _ _
theorem Ext.size {w w' : World} (h : Ext w w') : w.heap.size ≤ w'.heap.size := Below.size h
theorem Ext.trans {a b c : World} (h : Ext a b) (k : Ext b c) : Ext a c := Below.trans h (Below.mono k h.size)
theorem Ext.below {B : Nat} {a w w' : World} (h : Below B a w) (hB : B ≤ w.heap.size) (k : Ext w w') : Below B a w' := h.trans (Below.mono k hB)
theorem Ext.drewN (w : World) (n : Nat) : Ext w (w.drewN n) := ⟨rfl, rfl, rfl, Nat.le_refl _, fun _ _ => rfl⟩
theorem Ext.drewN' {a w : World} (h : Ext a w) (n : Nat) : Ext a (w.drewN n) := h.trans (Ext.drewN w n)
theorem Ext.drew (w : World) : Ext w w.drew := ⟨rfl, rfl, rfl, Nat.le_refl _, fun _ _ => rfl⟩
theorem Ext.alloc {a w : World} (h : Ext a w) (o : Obj) : Ext a (w.alloc o) := Below.alloc h h.size o
theorem Ext.setCell {a w : World} (h : Ext a w) {p : Addr} (hp : a.heap.size ≤ p.block) (u : Value) : Ext a (w.setCell p u) := Below.setCell h hp u
theorem Ext.cell {w w' : World} (h : Ext w w') {a : Addr} {v : Value} (hc : w.cell? a = some v) : w'.cell? a = some v := (Below.cell h (World.block_lt_of_cell? w a hc)).trans hc
theorem Ext.frozen {w w' : World} (h : Ext w w') {a : Addr} {v : Value} (hc : w.cell? a = some v) : w'.frozen? a = w.frozen? a := Below.frozen h (World.block_lt_of_cell? w a hc)
theorem Ext.tape {w w' : World} (h : Ext w w') : w'.tape = w.tape := Below.tape h

/-! ### A slice of whole numbers that is read -/
structure Rd (w : World) (k : IntKind) (A : Option Addr) (n c : Nat) (l : List Int) : Prop where
  len : l.length = n
  cap : n ≤ c
  big : c ≤ 9223372036854775807
  cell : 0 < n → ∃ b off, A = some ⟨b, off, none⟩ ∧ ∀ j, j < n → w.cell? ⟨b, off + j, none⟩ = some (.int k (ix l j))
theorem Rd.ext {w w' : World} {k : IntKind} {A : Option Addr} {n c : Nat} {l : List Int} (h : Rd w k A n c l) (e : Ext w w') : Rd w' k A n c l :=
  ⟨h.len, h.cap, h.big, fun hn => by
    obtain ⟨b, off, ha, hc⟩ := h.cell hn
    exact ⟨b, off, ha, fun j hj => e.cell (hc j hj)⟩⟩
theorem Rd.at_ {w : World} {k : IntKind} {A : Option Addr} {n c : Nat} {l : List Int} (h : Rd w k A n c l) (j : Nat) (hj : j < n) :
    ∃ b off, A = some ⟨b, off, none⟩ ∧ w.cell? ⟨b, off + j, none⟩ = some (.int k (ix l j)) := by
  obtain ⟨b, off, ha, hc⟩ := h.cell (by omega)
  exact ⟨b, off, ha, hc j hj⟩
theorem Rd.nil (w : World) (k : IntKind) (A : Option Addr) (c : Nat) (hc : c ≤ 9223372036854775807) : Rd w k A 0 c [] := ⟨rfl, Nat.zero_le _, hc, fun h => absurd h (by omega)⟩
theorem ix_take {l : List Int} {i j : Nat} (h : j < i) : ix (l.take i) j = ix l j := by
  unfold ix; simp [List.getD_eq_getElem?_getD, h]
theorem ix_drop {l : List Int} {i j : Nat} : ix (l.drop i) j = ix l (i + j) := by
  unfold ix; simp [List.getD_eq_getElem?_getD, List.getElem?_drop]
theorem Rd.take {w : World} {k : IntKind} {A : Option Addr} {n c : Nat} {l : List Int} (h : Rd w k A n c l) (i : Nat) (hi : i ≤ n) : Rd w k A i c (l.take i) := by
  refine ⟨by rw [List.length_take, h.len]; omega, by have := h.cap; omega, h.big, fun hp => ?_⟩
  obtain ⟨b, off, e, hc⟩ := h.cell (by omega)
  exact ⟨b, off, e, fun j hj => by rw [hc j (by omega), ix_take hj]⟩
theorem Rd.drop {w : World} {k : IntKind} {A : Option Addr} {n c : Nat} {l : List Int} (h : Rd w k A n c l) (i : Nat) (hi : i ≤ n) : Rd w k (if c = i then A else A.map (·.add i)) (n - i) (c - i) (l.drop i) := by
  have hc' := h.cap
  refine ⟨by rw [List.length_drop, h.len], by omega, by have := h.big; omega, fun hp => ?_⟩
  obtain ⟨b, off, rfl, hc⟩ := h.cell (by omega)
  rw [if_neg (by omega)]
  refine ⟨b, off + i, ?_, fun j hj => ?_⟩
  · simp only [Option.map_some, Addr.add]; split
    · rename_i h0; subst h0; rfl
    · rfl
  · rw [ix_drop, Nat.add_assoc]; exact hc (i + j) (by omega)
/-- 'xs[m:]' without a case on the capacity. -/
theorem cut_from {P : Program} (t e : TypeId) (kl : IntKind) {i : TypeInfo} (ht : P.underlying t = some (.slice e)) (hi : P.info? e = some i) (hsz : i.size = 1) (A : Option Addr) (n c m : Nat) (hm : m ≤ n) :
    ∃ A' : Option Addr, (∀ W : World, (Instr.slice t (.slice A n c) (some (.int kl (m : Int))) none none).run P W = .ok (.slice A' (n - m) (c - m)) W) ∧
      ∀ (w : World) (k : IntKind) (xs : List Int), Rd w k A n c xs → Rd w k A' (n - m) (c - m) (xs.drop m) := by
  refine ⟨if c = m then A else A.map (·.add m), fun W => ?_, fun w k xs h => h.drop m hm⟩
  have hel : P.elem t = e := by simp [Program.elem, ht]
  have hu : P.underlying t = some (.slice (P.elem t)) := by rw [hel]; exact ht
  rw [run_slice_l W t A n c hu kl (m : Int) (Int.natCast_nonneg _) (by omega), hel]
  simp [Go.sizeOf, typeInfo, hi, hsz, sliced, Result.andThen]

/-! ### A row of the call's own -/
theorem nums_length (k : IntKind) (xs : List Int) : (nums k xs).length = xs.length := by simp [nums]
theorem nums_append (k : IntKind) (xs ys : List Int) : nums k (xs ++ ys) = nums k xs ++ nums k ys := by simp [nums]
theorem nums_at {k : IntKind} {xs : List Int} {j : Nat} (h : j < xs.length) : (nums k xs)[j]? = some (.int k (ix xs j)) := by
  simp [nums, ix, List.getElem?_eq_getElem h, List.getD_eq_getElem?_getD]
theorem add_plain (g j : Nat) : (⟨g, 0, none⟩ : Addr).add j = ⟨g, j, none⟩ := by unfold Addr.add; split <;> simp_all

/-- A slice whose array the call itself has made, at block 'base' or behind it: a row whose elements are these. -/
structure Own (base : Nat) (w : World) (e : TypeId) (k : IntKind) (v : Value) (l : List Int) : Prop where
  own : w.ownsRow base e 1 v l.length (nums k l)
theorem Own.nil (base : Nat) (w : World) (e : TypeId) (k : IntKind) : Own base w e k (.slice none 0 0) [] := ⟨by simp [nums], .inl ⟨rfl, rfl⟩⟩
theorem Own.base_le {w : World} {base : Nat} {e : TypeId} {k : IntKind} {v : Value} {l : List Int} (h : Own base w e k v l) (b : Nat) (hk : v.ownBlock = some b) : base ≤ b := (h.own.lt b hk).1
theorem Own.form {w : World} {base : Nat} {e : TypeId} {k : IntKind} {v : Value} {l : List Int} (h : Own base w e k v l) :
    ∃ A c, v = .slice A l.length c ∧ Rd w k A l.length c l := by
  rcases h.own.2 with ⟨rfl, h0⟩ | ⟨g, cap, cur, rfl, hb, hh, h1, h2, h3, h4⟩
  · have : l = [] := List.eq_nil_of_length_eq_zero h0
    subst this
    exact ⟨none, 0, rfl, Rd.nil _ _ _ _ (by omega)⟩
  · refine ⟨_, cap, rfl, rfl, h1, by simpa [maxLen] using h2, fun _ => ⟨g, 0, rfl, fun j hj => ?_⟩⟩
    have := h.own.cells (g := g) rfl j _ (nums_at hj)
    rw [add_plain] at this
    rw [Nat.zero_add]; exact this
theorem Own.formN {w : World} {base : Nat} {e : TypeId} {k : IntKind} {v : Value} {l : List Int} (h : Own base w e k v l) :
    ∃ A n c, v = .slice A n c ∧ Rd w k A n c l := by
  obtain ⟨A, c, hv, hr⟩ := h.form
  exact ⟨A, _, c, hv, hr⟩
theorem Own.form_pos {w : World} {base : Nat} {e : TypeId} {k : IntKind} {v : Value} {l : List Int} (h : Own base w e k v l) (hn : 0 < l.length) :
    ∃ g c, v = .slice (some ⟨g, 0, none⟩) l.length c ∧ base ≤ g := by
  obtain ⟨g, c, he, hb, _⟩ := h.own.form hn
  exact ⟨g, c, he, hb⟩
theorem Own.at_ {w : World} {base g n c : Nat} {e : TypeId} {k : IntKind} {l : List Int} (h : Own base w e k (.slice (some ⟨g, 0, none⟩) n c) l) (j : Nat) (hj : j < l.length) :
    w.cell? ⟨g, j, none⟩ = some (.int k (ix l j)) ∧ w.frozen? ⟨g, j, none⟩ = false := by
  constructor
  · have hc := h.own.cells (g := g) rfl j _ (nums_at hj)
    rwa [add_plain] at hc
  · rcases h.own.2 with ⟨h', _⟩ | ⟨g', cap', cur, h', _, hh, _⟩
    · cases h'
    · have : g = g' := by injection h' with h'; injection h' with h'; injection h' with h'
      subst this
      simp [World.frozen?, hh]
theorem Own.store {w : World} {base g n c : Nat} {e : TypeId} {k : IntKind} {l : List Int} (h : Own base w e k (.slice (some ⟨g, 0, none⟩) n c) l) (j : Nat) (x : Int) :
    Own base (w.setCell ⟨g, j, none⟩ (.int k x)) e k (.slice (some ⟨g, 0, none⟩) n c) (l.set j x) := by
  have hn : n = l.length := by
    rcases h.own.2 with ⟨h', _⟩ | ⟨g', cap', cur, h', _⟩
    · cases h'
    · injection h' with _ h'
  subst hn
  have hs := (h.own.stored j (.int k x)).1
  have he : (nums k l).set j (.int k x) = nums k (l.set j x) := by simp [nums, List.map_set]
  rw [he] at hs
  exact ⟨by simpa using hs⟩
theorem Own.ext {w w' : World} {base : Nat} {e : TypeId} {k : IntKind} {v : Value} {l : List Int} (h : Own base w e k v l) (hb : Ext w w') : Own base w' e k v l :=
  ⟨h.own.kept (row := none) ⟨Below.os hb, Below.tape hb, Below.output hb, Below.size hb, fun i hi _ => Below.block hb i hi⟩ (by cases v.ownBlock <;> simp)⟩
theorem Own.drew {w : World} {base : Nat} {e : TypeId} {k : IntKind} {v : Value} {l : List Int} (h : Own base w e k v l) (n : Nat) : Own base (w.drewN n) e k v l := ⟨h.own⟩
theorem Own.alloc {w : World} {base : Nat} {e : TypeId} {k : IntKind} {v : Value} {l : List Int} (h : Own base w e k v l) (o : Obj) : Own base (w.alloc o) e k v l := h.ext ((Ext.refl w).alloc o)
/-- A store into another block. -/
theorem Own.other {w : World} {base : Nat} {e : TypeId} {k : IntKind} {v : Value} {l : List Int} (h : Own base w e k v l) (p : Addr) (u : Value) (hp : v.ownBlock ≠ some p.block) : Own base (w.setCell p u) e k v l :=
  ⟨h.own.kept (row := some p.block) ⟨rfl, rfl, rfl, by simp [World.setCell], fun i _ hr => Below.heap_setCell _ _ _ _ (fun e => hr (by rw [e]))⟩ (.inr hp)⟩

section
variable {P : Program} {ops : Array Oper} {rest : List Oper} {o : Oper} {a : Act} {Q : Exit → Act → World → Prop}
/-- append(v, x), behind 'at_builtin'; the goal's world is 'W.alloc' of the variadic's box. -/
theorem append_one {w0 W : World} {e : TypeId} {k : IntKind} {y : Int} (base : Nat) (hgd : o.guard = none) (s x : Operand) (t : TypeId) (bytes : Nat)
    (ho : o.op = .call { callee := .builtin .append, args := #[s, x], argTypes := #[t, t] })
    (ht : P.underlying t = some (.slice e)) (hinfo : (P.info? e).map (fun i => (i.zero, i.size, i.bytes)) = some (some (.int k 0), 1, bytes)) (hb0 : 0 < bytes)
    (v : Value) (l : List Int) (hs : a.eval s = v) (hx : a.eval x = .slice (some ⟨W.heap.size, 0, none⟩) 1 1)
    (HO : Own base W e k v l) (HB : Below base w0 W) (hbase : base ≤ W.heap.size) (hl : (l.length + 1) * bytes ≤ 140737488355328)
    (h : ∀ v1 w1, Own base w1 e k v1 (l ++ [y]) → Below base w0 w1 → base ≤ w1.heap.size → W.grownBy w1 v.ownBlock → (v1.ownBlock = v.ownBlock ∨ ∃ b, v1.ownBlock = some b ∧ W.heap.size ≤ b) → wpList P ops Q rest (a.put o.dst v1) w1) :
    wpList P ops Q (o :: rest) a (W.alloc (.cells #[.int k y] e)) := by
  obtain ⟨i0, hi, hzz⟩ := Option.map_eq_some_iff.1 hinfo
  simp only [Prod.mk.injEq] at hzz
  obtain ⟨hz0, hz1, hz2⟩ := hzz
  have hlen : l.length + 1 ≤ 140737488355328 := Nat.le_trans (Nat.le_mul_of_pos_right _ hb0) hl
  refine wpList_append_own_at (W.alloc (.cells #[.int k y] e)) hgd s x t ho base e i0 (.int k 0) 1 bytes ht hi hz0 hz1 hz2 rfl (by omega) v l.length (nums k l) hs (HO.alloc _).own ⟨W.heap.size, 0, none⟩ 1 1 [.int k y] hx rfl
    (World.news_of_block (cs := #[.int k y]) (t := e) (fr := (0, 0)) (heap_alloc_new W _)) (by simp; rfl) (by simp only [maxLen]; omega) hl (by simp; omega) ?_
  intro v1 w1 hown hg _ hat
  have HB1 := (HB.alloc hbase (Obj.cells #[.int k y] e)).grown hg (by simp; omega) HO.base_le
  have hsz : W.heap.size + 1 ≤ w1.heap.size := by have := hg.size; simpa using this
  refine h v1 w1 ⟨by simpa [nums] using hown⟩ HB1 (by omega) (World.grownBy.trans (World.grownBy_alloc W _ _) hg) ?_
  rcases hat with hat | hat
  · exact .inl hat
  · exact .inr ⟨_, hat, by simp⟩
end

/-- 'make([]T, n)'. -/
theorem make_all {P : Program} (t e : TypeId) (k : IntKind) (bytes : Nat) (ht : P.underlying t = some (.slice e)) (hinfo : (P.info? e).map (fun i => (i.zero, i.size, i.bytes)) = some (some (.int k 0), 1, bytes)) (hb0 : 0 < bytes)
    (m : Nat) (hn : m * bytes ≤ 281474976710656) :
    ∀ W : World, (Instr.makeSlice t (.int .i64 (m : Int)) (.int .i64 (m : Int))).run P W = .ok (.slice (some ⟨W.heap.size, 0, none⟩) m m) (W.alloc (.cells (madeCells #[.int k 0] m) e)) := by
  intro W
  have hm : m ≤ 281474976710656 := Nat.le_trans (Nat.le_mul_of_pos_right _ hb0) hn
  exact run_make_row' t e (.int k 0) bytes ht hinfo rfl .i64 .i64 m (by rw [Nat.mul_comm]; exact hn) (by omega) W
/-- 'make([]T, 0, n)'. -/
theorem make_room {P : Program} (t e : TypeId) (k : IntKind) (bytes : Nat) (ht : P.underlying t = some (.slice e)) (hinfo : (P.info? e).map (fun i => (i.zero, i.size, i.bytes)) = some (some (.int k 0), 1, bytes)) (hb0 : 0 < bytes)
    (m : Nat) (hn : m * bytes ≤ 281474976710656) :
    ∀ W : World, (Instr.makeSlice t (.int .i64 0) (.int .i64 (m : Int))).run P W = .ok (.slice (some ⟨W.heap.size, 0, none⟩) 0 m) (W.alloc (.cells (madeCells #[.int k 0] m) e)) := by
  intro W
  have hm : m ≤ 281474976710656 := Nat.le_trans (Nat.le_mul_of_pos_right _ hb0) hn
  obtain ⟨i, hi, hzz⟩ := Option.map_eq_some_iff.1 hinfo
  simp only [Prod.mk.injEq] at hzz
  obtain ⟨hz, hs, hb⟩ := hzz
  have hb' : (i.bytes : Int) * (m : Int) ≤ 281474976710656 := by
    have h : ((i.bytes * m : Nat) : Int) ≤ 281474976710656 := by rw [hb, Nat.mul_comm]; omega
    rwa [Int.natCast_mul] at h
  have hr := run_make (P := P) W t e i (.int k 0) ht hi hz .i64 .i64 0 m (Int.le_refl _) (by omega) hb' (by omega)
  simp only [Int.toNat_zero, Int.toNat_natCast, hs, Nat.mul_one] at hr
  exact hr
theorem own_room (W : World) (base : Nat) (e : TypeId) (k : IntKind) (m : Nat) (hb : base ≤ W.heap.size) (hm : m ≤ 9223372036854775807) :
    Own base (W.alloc (.cells (madeCells #[.int k 0] m) e)) e k (.slice (some ⟨W.heap.size, 0, none⟩) 0 m) [] :=
  ⟨World.ownsRow_made W _ m hb (by simpa [maxLen] using hm) (by simp [size_madeCells])⟩
/-- 'make([]T, n, m)'. -/
theorem make_part {P : Program} (t e : TypeId) (k : IntKind) (bytes : Nat) (ht : P.underlying t = some (.slice e)) (hinfo : (P.info? e).map (fun i => (i.zero, i.size, i.bytes)) = some (some (.int k 0), 1, bytes)) (hb0 : 0 < bytes)
    (n m : Nat) (hnm : n ≤ m) (hn : m * bytes ≤ 281474976710656) :
    ∀ W : World, (Instr.makeSlice t (.int .i64 (n : Int)) (.int .i64 (m : Int))).run P W = .ok (.slice (some ⟨W.heap.size, 0, none⟩) n m) (W.alloc (.cells (madeCells #[.int k 0] m) e)) := by
  intro W
  have hm : m ≤ 281474976710656 := Nat.le_trans (Nat.le_mul_of_pos_right _ hb0) hn
  obtain ⟨i, hi, hzz⟩ := Option.map_eq_some_iff.1 hinfo
  simp only [Prod.mk.injEq] at hzz
  obtain ⟨hz, hs, hb⟩ := hzz
  have hb' : (i.bytes : Int) * (m : Int) ≤ 281474976710656 := by
    have h : ((i.bytes * m : Nat) : Int) ≤ 281474976710656 := by rw [hb, Nat.mul_comm]; omega
    rwa [Int.natCast_mul] at h
  have hr := run_make (P := P) W t e i (.int k 0) ht hi hz .i64 .i64 n m (by omega) (by omega) hb' (by omega)
  simp only [Int.toNat_natCast, hs, Nat.mul_one] at hr
  exact hr
theorem own_part (W : World) (base : Nat) (e : TypeId) (k : IntKind) (n m : Nat) (hnm : n ≤ m) (hb : base ≤ W.heap.size) (hm : m ≤ 9223372036854775807) :
    Own base (W.alloc (.cells (madeCells #[.int k 0] m) e)) e k (.slice (some ⟨W.heap.size, 0, none⟩) n m) (List.replicate n 0) := by
  refine ⟨⟨by simp [nums], .inr ⟨W.heap.size, m, _, by simp, hb, heap_alloc_new W _, by simpa using hnm, by simpa [maxLen] using hm, by simp [size_madeCells], ?_⟩⟩⟩
  apply List.ext_getElem
  · simp [nums, madeCells]; omega
  · intro i h1 h2
    simp [nums, madeCells, Nat.mod_one]
theorem own_made (W : World) (base : Nat) (e : TypeId) (k : IntKind) (m : Nat) (hb : base ≤ W.heap.size) (hm : m ≤ 9223372036854775807) :
    Own base (W.alloc (.cells (madeCells #[.int k 0] m) e)) e k (.slice (some ⟨W.heap.size, 0, none⟩) m m) (List.replicate m 0) := by
  have h := World.ownsRow_lit (base := base) (e := e) (size := 1) W (madeCells #[.int k 0] m) m hb (by simpa [maxLen] using hm) (by simp [size_madeCells])
  have hl : (madeCells #[Value.int k 0] m).toList = nums k (List.replicate m 0) := by
    apply List.ext_getElem
    · simp [nums, madeCells]
    · intro i h1 h2
      simp [nums, madeCells, Nat.mod_one]
  rw [hl] at h
  exact ⟨by simpa using h⟩
theorem own_lit (W : World) (base : Nat) (e : TypeId) (k : IntKind) (xs : List Int) (hb : base ≤ W.heap.size) (hm : xs.length ≤ 9223372036854775807) :
    Own base (W.alloc (.cells (nums k xs).toArray e)) e k (.slice (some ⟨W.heap.size, 0, none⟩) xs.length xs.length) xs := by
  have h := World.ownsRow_lit (base := base) (e := e) (size := 1) W (nums k xs).toArray xs.length hb (by simpa [maxLen] using hm) (by simp [nums])
  exact ⟨by simpa using h⟩
theorem Own.rd {w : World} {base : Nat} {e : TypeId} {k : IntKind} {A : Option Addr} {n c : Nat} {l : List Int} (h : Own base w e k (.slice A n c) l) : Rd w k A n c l := by
  obtain ⟨A', c', he, hr⟩ := h.form
  injection he with h1 h2 h3
  subst h1; subst h2; subst h3
  exact hr
theorem rd_lit (W : World) (e : TypeId) (k : IntKind) (xs : List Int) (hm : xs.length ≤ 9223372036854775807) :
    Rd (W.alloc (.cells (nums k xs).toArray e)) k (some ⟨W.heap.size, 0, none⟩) xs.length xs.length xs := (own_lit W 0 e k xs (Nat.zero_le _) hm).rd
end Cusp

/- Plain facts about the steps by which words are added, taken off, multiplied, shifted and divided; nothing of Go in it. -/
namespace Cusp

theorem pow32 (k : Nat) : 0 < 4294967296 ^ k := Nat.pow_pos (by omega)

theorem lv_snoc (l : List Int) (x : Int) : lv (l ++ [x]) = lv l + 4294967296 ^ l.length * x.toNat := by
  rw [lv_append]; simp [lv]

theorem ix_of_ge {l : List Int} {k : Nat} (h : l.length ≤ k) : ix l k = 0 := by
  unfold ix; simp [List.getD_eq_getElem?_getD, List.getElem?_eq_none h]
theorem ix_of_lt {l : List Int} {k : Nat} (h : k < l.length) : ix l k = l[k] := by
  unfold ix; simp [List.getD_eq_getElem?_getD, List.getElem?_eq_getElem h]
theorem ix_words {l : List Int} (h : Words l) (k : Nat) : 0 ≤ ix l k ∧ ix l k < 4294967296 := by
  rcases Nat.lt_or_ge k l.length with hk | hk
  · rw [ix_of_lt hk]; exact h _ (List.getElem_mem hk)
  · rw [ix_of_ge hk]; omega
theorem take_succ {l : List Int} {k : Nat} (h : k < l.length) : l.take (k + 1) = l.take k ++ [ix l k] := by
  rw [ix_of_lt h, List.take_succ_eq_append_getElem h]
theorem lv_take_succ (l : List Int) (k : Nat) : lv (l.take (k + 1)) = lv (l.take k) + 4294967296 ^ k * (ix l k).toNat := by
  rcases Nat.lt_or_ge k l.length with hk | hk
  · rw [take_succ hk, lv_snoc, List.length_take, Nat.min_eq_left (by omega)]
  · rw [ix_of_ge hk, List.take_of_length_le (by omega), List.take_of_length_le hk]; simp
theorem lv_take_all (l : List Int) {k : Nat} (h : l.length ≤ k) : lv (l.take k) = lv l := by rw [List.take_of_length_le h]
theorem lv_drop (l : List Int) (k : Nat) (h : k ≤ l.length) : lv l = lv (l.take k) + 4294967296 ^ k * lv (l.drop k) := by
  have := lv_append (l.take k) (l.drop k)
  rw [List.take_append_drop, List.length_take, Nat.min_eq_left h] at this
  exact this
theorem words_take {l : List Int} (h : Words l) (k : Nat) : Words (l.take k) := fun x hx => h x (List.mem_of_mem_take hx)
theorem words_drop {l : List Int} (h : Words l) (k : Nat) : Words (l.drop k) := fun x hx => h x (List.mem_of_mem_drop hx)
theorem lv_take_lt {l : List Int} (h : Words l) (k : Nat) : lv (l.take k) < 4294967296 ^ k := by
  have h1 := lv_lt (words_take h k)
  have h2 : 4294967296 ^ (l.take k).length ≤ 4294967296 ^ k := Nat.pow_le_pow_right (by omega) (by rw [List.length_take]; omega)
  omega
theorem words_snoc {l : List Int} {x : Int} (h : Words l) (h0 : 0 ≤ x) (h1 : x < 4294967296) : Words (l ++ [x]) :=
  words_append.2 ⟨h, words_cons.2 ⟨⟨h0, h1⟩, words_nil⟩⟩
theorem words_set {l : List Int} {x : Int} (h : Words l) (k : Nat) (h0 : 0 ≤ x) (h1 : x < 4294967296) : Words (l.set k x) := by
  intro y hy
  rcases List.mem_or_eq_of_mem_set hy with hy | rfl
  · exact h y hy
  · exact ⟨h0, h1⟩
theorem words_replicate (k : Nat) : Words (List.replicate k 0) := fun x hx => by rw [(List.mem_replicate.1 hx).2]; omega
theorem lv_replicate (k : Nat) : lv (List.replicate k 0) = 0 := by
  induction k with
  | zero => rfl
  | succ k ih => rw [List.replicate_succ]; simp [lv, ih]

theorem lv_set (l : List Int) (k : Nat) (x : Int) (h : k < l.length) : lv (l.set k x) + 4294967296 ^ k * (ix l k).toNat = lv l + 4294967296 ^ k * x.toNat := by
  induction l generalizing k with
  | nil => simp at h
  | cons y r ih =>
    cases k with
    | zero => simp [lv, ix]; omega
    | succ k =>
      have hk : k < r.length := by simpa using h
      have ih := ih k hk
      have e1 : ix (y :: r) (k + 1) = ix r k := by simp [ix]
      rw [e1]
      simp only [List.set_cons_succ, lv, Nat.pow_succ]
      have m1 : 4294967296 ^ k * 4294967296 * (ix r k).toNat = 4294967296 * (4294967296 ^ k * (ix r k).toNat) := by
        rw [Nat.mul_comm (4294967296 ^ k) 4294967296, Nat.mul_assoc]
      have m2 : 4294967296 ^ k * 4294967296 * x.toNat = 4294967296 * (4294967296 ^ k * x.toNat) := by
        rw [Nat.mul_comm (4294967296 ^ k) 4294967296, Nat.mul_assoc]
      rw [m1, m2]; omega
theorem ix_set_same {l : List Int} {k : Nat} {x : Int} (h : k < l.length) : ix (l.set k x) k = x := by
  rw [ix_of_lt (by simpa using h)]; simp
theorem ix_set_other {l : List Int} {k j : Nat} {x : Int} (h : k ≠ j) : ix (l.set k x) j = ix l j := by
  unfold ix; simp [List.getD_eq_getElem?_getD, List.getElem?_set_ne h]
theorem ix_append_left {l m : List Int} {k : Nat} (h : k < l.length) : ix (l ++ m) k = ix l k := by
  unfold ix; simp [List.getD_eq_getElem?_getD, List.getElem?_append_left h]
theorem ix_replicate (k j : Nat) : ix (List.replicate k 0) j = 0 := by
  rcases Nat.lt_or_ge j k with h | h
  · rw [ix_of_lt (by simpa using h)]; simp
  · exact ix_of_ge (by simpa using h)

/-- The last word of trimmed words. -/
theorem trim_of_last {l : List Int} (h : 0 < l.length → ix l (l.length - 1) ≠ 0) : Trim l := by
  intro x hx
  cases l with
  | nil => simp at hx
  | cons y r =>
    have h := h (by simp)
    rw [ix_of_lt (by simp)] at h
    rw [List.getLast?_eq_getElem?, List.getElem?_eq_getElem (by simp)] at hx
    simp only [Option.some.injEq] at hx
    rw [← hx]; exact h
theorem last_of_trim {l : List Int} (h : Trim l) (hl : 0 < l.length) : ix l (l.length - 1) ≠ 0 := by
  have hx := h (ix l (l.length - 1)) (by
    rw [List.getLast?_eq_getElem?, List.getElem?_eq_getElem (by omega), ix_of_lt (by omega)])
  exact hx
theorem trim_take {l : List Int} {k : Nat} (hk : k ≤ l.length) (h : 0 < k → ix l (k - 1) ≠ 0) : Trim (l.take k) := by
  refine trim_of_last fun hp => ?_
  rw [List.length_take, Nat.min_eq_left hk] at hp ⊢
  rw [ix_take (by omega)]
  exact h hp

/-! ### Adding -/
/-- One word of a sum. -/
theorem add_step {out n m : List Int} {i : Nat} {c s : Int} (hn : Words n) (hm : Words m) (hc0 : 0 ≤ c) (hc1 : c ≤ 1) (hlen : out.length = i)
    (h : lv out + 4294967296 ^ i * c.toNat = lv (n.take i) + lv (m.take i)) (hs : s = c + ix n i + ix m i) :
    lv (out ++ [s % 4294967296]) + 4294967296 ^ (i + 1) * (s / 4294967296).toNat = lv (n.take (i + 1)) + lv (m.take (i + 1)) ∧ 0 ≤ s / 4294967296 ∧ s / 4294967296 ≤ 1 ∧ 0 ≤ s % 4294967296 ∧ s % 4294967296 < 4294967296 := by
  have h1 := ix_words hn i
  have h2 := ix_words hm i
  have hs1 : 0 ≤ s := by omega
  have hs2 : s ≤ 8589934591 := by omega
  refine ⟨?_, by omega, by omega, by omega, by omega⟩
  rw [lv_snoc, hlen, lv_take_succ, lv_take_succ, Nat.pow_succ, Nat.mul_assoc]
  have e : (s % 4294967296).toNat + 4294967296 * (s / 4294967296).toNat = c.toNat + (ix n i).toNat + (ix m i).toNat := by omega
  have e2 := congrArg (4294967296 ^ i * ·) e
  simp only [Nat.mul_add] at e2
  omega

/-! ### Taking off -/
theorem sub_step {out n m : List Int} {i : Nat} {b t x : Int} (hn : Words n) (hm : Words m) (hb0 : 0 ≤ b) (hb1 : b ≤ 1) (hlen : out.length = i)
    (h : lv out + lv (m.take i) = lv (n.take i) + 4294967296 ^ i * b.toNat) (ht : t = b + ix m i) (hx : x = ix n i) :
    lv (out ++ [(x - t) % 4294967296]) + lv (m.take (i + 1)) = lv (n.take (i + 1)) + 4294967296 ^ (i + 1) * (if x < t then (1 : Int) else 0).toNat := by
  have h1 := ix_words hn i
  have h2 := ix_words hm i
  rw [lv_snoc, hlen, lv_take_succ, lv_take_succ, Nat.pow_succ, Nat.mul_assoc]
  have e : ((x - t) % 4294967296).toNat + b.toNat + (ix m i).toNat = (ix n i).toNat + 4294967296 * (if x < t then (1 : Int) else 0).toNat := by
    split
    · have : (x - t) % 4294967296 = x - t + 4294967296 := by omega
      rw [this]; omega
    · have : (x - t) % 4294967296 = x - t := by omega
      rw [this]; omega
  have e2 := congrArg (4294967296 ^ i * ·) e
  simp only [Nat.mul_add] at e2
  omega

/-! ### The bounds of a number by the number of its words -/
theorem lv_mono_len {l m : List Int} (hw : Words m) (ht : Trim m) (hl : Words l) (h : l.length < m.length) : lv l < lv m := by
  have h1 := lv_lt hl
  have h2 := lv_ge hw ht (by intro e; rw [e] at h; simp at h)
  have h3 : 4294967296 ^ l.length ≤ 4294967296 ^ (m.length - 1) := Nat.pow_le_pow_right (by omega) (by omega)
  omega
theorem len_le_of_lv_le {l m : List Int} (hl : Words l) (ht : Trim l) (hm : Words m) (h : lv l ≤ lv m) : l.length ≤ m.length := by
  rcases Nat.lt_or_ge m.length l.length with hk | hk
  · have := lv_mono_len hl ht hm hk; omega
  · exact hk
theorem len_wd_mono {a b : Nat} (h : a ≤ b) : (wd a).length ≤ (wd b).length :=
  len_le_of_lv_le (words_wd a) (trim_wd a) (words_wd b) (by rw [lv_wd, lv_wd]; exact h)
theorem len_wd_add (a b : Nat) : (wd (a + b)).length ≤ max (wd a).length (wd b).length + 1 := by
  refine len_wd_le ?_
  have h1 := lv_lt (words_wd a)
  have h2 := lv_lt (words_wd b)
  rw [lv_wd] at h1 h2
  have h3 : 4294967296 ^ (wd a).length ≤ 4294967296 ^ (max (wd a).length (wd b).length) := Nat.pow_le_pow_right (by omega) (by omega)
  have h4 : 4294967296 ^ (wd b).length ≤ 4294967296 ^ (max (wd a).length (wd b).length) := Nat.pow_le_pow_right (by omega) (by omega)
  rw [Nat.pow_succ]; omega
theorem len_wd_mul (a b : Nat) : (wd (a * b)).length ≤ (wd a).length + (wd b).length := by
  refine len_wd_le ?_
  have h1 := lv_lt (words_wd a)
  have h2 := lv_lt (words_wd b)
  rw [lv_wd] at h1 h2
  rw [Nat.pow_add]
  exact Nat.mul_lt_mul'' h1 h2
theorem len_wd_small {a : Nat} (h : a < 18446744073709551616) : (wd a).length ≤ 2 := len_wd_le (by simpa using h)

/-- Comparing by the highest word that differs. -/
theorem lv_lt_of_high {l m : List Int} (hl : Words l) (k : Nat) (hk : k < m.length) (hlen : l.length = m.length) (he : l.drop (k + 1) = m.drop (k + 1)) (hlt : ix l k < ix m k) (hm : Words m) : lv l < lv m := by
  have a1 := lv_drop l (k + 1) (by omega)
  have a2 := lv_drop m (k + 1) (by omega)
  rw [lv_take_succ] at a1 a2
  have b1 := lv_take_lt hl k
  have h1 := ix_words hl k
  have h2 := ix_words hm k
  have c1 : 4294967296 ^ k * (ix l k).toNat + 4294967296 ^ k ≤ 4294967296 ^ k * (ix m k).toNat := by
    rw [← Nat.mul_succ]; exact Nat.mul_le_mul_left _ (by omega)
  rw [a1, a2, he]; omega
theorem lv_drop_step (l : List Int) (k : Nat) : lv (l.drop k) = (ix l k).toNat + 4294967296 * lv (l.drop (k + 1)) := by
  rcases Nat.lt_or_ge k l.length with h | h
  · rw [List.drop_eq_getElem_cons h, ← ix_of_lt h]; rfl
  · rw [List.drop_eq_nil_of_le h, List.drop_eq_nil_of_le (by omega), ix_of_ge h]; rfl
theorem lv_div {l : List Int} (hw : Words l) (k : Nat) : lv l / 4294967296 ^ k = lv (l.drop k) := by
  rcases Nat.lt_or_ge l.length k with h | h
  · rw [List.drop_eq_nil_of_le (by omega), Nat.div_eq_of_lt]
    · rfl
    · exact Nat.lt_of_lt_of_le (lv_lt hw) (Nat.pow_le_pow_right (by omega) (by omega))
  · rw [lv_drop l k h, Nat.add_comm, Nat.mul_add_div (pow32 k), Nat.div_eq_of_lt (lv_take_lt hw k)]; simp

end Cusp

/- The walks of package big's numbers from 0 on, first part: trim, small, cmp. -/
namespace Go.Proofs.YtkljejejabikiaaGreatDoor
open Go Go.RowKit Cusp

/-- A slice that reads as a number: its words. -/
def Nt (w : World) (A : Option Addr) (n c a : Nat) : Prop := Rd w .u32 A n c (wd a)
theorem Nt.ext {w w' : World} {A : Option Addr} {n c a : Nat} (h : Nt w A n c a) (e : Ext w w') : Nt w' A n c a := Rd.ext h e

theorem _root_.Cusp.Own.nt {w : World} {base : Nat} {e : TypeId} {v : Value} {l : List Int} {a : Nat} (h : Own base w e .u32 v l) (ha : l = wd a) : ∃ A n c, v = .slice A n c ∧ Nt w A n c a := by
  obtain ⟨A, c, hv, hr⟩ := h.form
  exact ⟨A, _, c, hv, by unfold Nt; rw [← ha]; exact hr⟩

set_option maxHeartbeats 400000 in
theorem trim_calls (A : Option Addr) (n c : Nat) (l : List Int) (w : World) (h : Rd w .u32 A n c l) :
    Calls Tryz.prog 214 #[.slice A n c] w fun e w' => ∃ m, m ≤ n ∧ e = .returned (.slice A m c) ∧ Trim (l.take m) ∧ lv (l.take m) = lv l ∧ Ext w w' := by
  have hcap := h.cap
  have hbig := h.big
  go_enter Tryz.func214, Tryz.ntmps214
  go_wp2
  go_loopw [0] (fun v w' => ∃ k : Nat, k ≤ n ∧ v = .slice A k c ∧ lv (l.take k) = lv l ∧ Ext w w') (fun v _ => match v with | .slice _ k _ => k | _ => 0)
  case atStart => exact ⟨n, Nat.le_refl _, rfl, by rw [List.take_of_length_le (by rw [h.len]; omega)], Ext.refl _⟩
  case round =>
    obtain ⟨k, hk, rfl, hl, he⟩ := hrel
    have HL := Lib.hid hl; clear hl
    cases k with
    | zero =>
      go_wp2
      go_ret
      exact ⟨0, by omega, rfl, trim_nil, HL.out, he⟩
    | succ k =>
      obtain ⟨b, off, rfl, hx⟩ := (h.ext he).at_ k (by omega)
      by_cases hz : ix l k = 0
      · have z1 : (ix l k == 0) = true := by simpa using hz
        have HZ := Lib.hid hz; clear hz
        go_wp2
        go_roundw
        case rel => exact ⟨k, by omega, rfl, by rw [← HL.out, lv_take_succ, HZ.out]; simp, he⟩
        case measure => simp
      · have z1 : (ix l k == 0) = false := by simpa using hz
        have HZ := Lib.hid hz; clear hz
        go_wp2
        go_ret
        exact ⟨k + 1, hk, rfl, trim_take (by rw [h.len]; exact hk) (fun _ => HZ.out), HL.out, he⟩

set_option maxHeartbeats 400000 in
/-- trim of words: those of what they tell. -/
theorem trim_nt (A : Option Addr) (n c a : Nat) (l : List Int) (w : World) (h : Rd w .u32 A n c l) (hw : Words l) (ha : lv l = a) :
    Calls Tryz.prog 214 #[.slice A n c] w fun e w' => ∃ m, m ≤ n ∧ e = .returned (.slice A m c) ∧ Nt w' A m c a ∧ Ext w w' := by
  refine (trim_calls A n c l w h).mono ?_
  rintro e w' ⟨m, hm, rfl, ht, hl, hx⟩
  refine ⟨m, hm, rfl, ?_, hx⟩
  have := (h.ext hx).take m hm
  rw [eq_wd_of (words_take hw m) ht (hl.trans ha)] at this
  exact this

set_option maxHeartbeats 400000 in
theorem small_calls (x : Int) (w : World) (h0 : 0 ≤ x) (h1 : x < 18446744073709551616) :
    Calls Tryz.prog 182 #[.int .u64 x] w fun e w' => ∃ A n c, e = .returned (.slice A n c) ∧ Nt w' A n c x.toNat ∧ Ext w w' := by
  go_enter Tryz.func182, Tryz.ntmps182
  go_wp2_with fail
  refine (trim_nt _ 2 2 x.toNat [x % 4294967296, x / 4294967296] _ (rd_lit w 71 .u32 [x % 4294967296, x / 4294967296] (by simp)) ?_ ?_).mono ?_
  · exact words_cons.2 ⟨by omega, words_cons.2 ⟨by omega, words_nil⟩⟩
  · simp only [lv]; omega
  rintro e w1 ⟨m, hm, rfl, hn, hx⟩
  go_wp2
  go_ret
  exact ⟨_, _, _, rfl, hn, ((Ext.refl w).alloc _).trans hx⟩

/-- The order of two numbers. -/
def ord (a b : Nat) : Int := if a < b then -1 else if a = b then 0 else 1
theorem ord_len {a b : Nat} (h : (wd a).length ≠ (wd b).length) : ord a b = if (wd a).length < (wd b).length then -1 else 1 := by
  unfold ord
  split
  · rename_i h1
    have := len_wd_mono (Nat.le_of_lt h1)
    rw [if_pos (by omega)]
  · rename_i h1
    have := len_wd_mono (Nat.le_of_not_lt h1)
    have hne : ¬ a = b := by intro e; rw [e] at h; exact h rfl
    have hlt : ¬ (wd a).length < (wd b).length := by omega
    rw [if_neg hne, if_neg hlt]
theorem drop_pred {l m : List Int} {k : Nat} (hk : k < l.length) (hk2 : k < m.length) (he : l.drop (k + 1) = m.drop (k + 1)) (hx : ix l k = ix m k) : l.drop k = m.drop k := by
  rw [List.drop_eq_getElem_cons hk, List.drop_eq_getElem_cons hk2, he, ← ix_of_lt hk, ← ix_of_lt hk2, hx]
theorem eq_of_drop_zero {l m : List Int} (h : l.drop 0 = m.drop 0) : l = m := by simpa using h

set_option maxHeartbeats 1000000 in
theorem cmp_calls (A B : Option Addr) (n m c d a b : Nat) (w : World) (ha : Nt w A n c a) (hb : Nt w B m d b) :
    Calls Tryz.prog 185 #[.slice A n c, .slice B m d] w fun e w' => e = .returned (.int .i64 (ord a b)) ∧ Ext w w' := by
  have L1 := Lib.hid ha.len
  have L2 := Lib.hid hb.len
  have C1 := ha.cap
  have C2 := ha.big
  by_cases hnm : n = m
  · subst hnm
    have t1 : ((n : Int) == n) = true := by simp
    have t2 : ((n : Int) != n) = false := by simp
    go_enter Tryz.func185, Tryz.ntmps185
    go_wp2
    go_loopw [5] (fun i w' => ∃ k : Nat, k ≤ n ∧ i = .int .i64 ((k : Int) - 1) ∧ (wd a).drop k = (wd b).drop k ∧ Ext w w') (fun i _ => (intOf i + 1).toNat)
    case atStart => exact ⟨n, Nat.le_refl _, rfl, by rw [List.drop_eq_nil_of_le (by rw [L1.out]; omega), List.drop_eq_nil_of_le (by rw [L2.out]; omega)], Ext.refl _⟩
    case round =>
      obtain ⟨k, hk, rfl, hl, he⟩ := hrel
      have HL := Lib.hid hl; clear hl
      cases k with
      | zero =>
        go_wp2
        go_ret
        refine ⟨ret_int ?_, he⟩
        have : a = b := by rw [← lv_wd a, ← lv_wd b, eq_of_drop_zero HL.out]
        simp [ord, this]
      | succ k =>
        rw [show ((k + 1 : Nat) : Int) - 1 = (k : Int) by omega]
        obtain ⟨b1, o1, rfl, x1⟩ := (ha.ext he).at_ k (by omega)
        obtain ⟨b2, o2, rfl, x2⟩ := (hb.ext he).at_ k (by omega)
        have hkn : (k : Int) < n := by omega
        have K1 : k < (wd a).length := by rw [L1.out]; omega
        have K2 : k < (wd b).length := by rw [L2.out]; omega
        by_cases hz : ix (wd a) k = ix (wd b) k
        · have e1 : (ix (wd a) k == ix (wd b) k) = true := by simpa using hz
          have e2 : (ix (wd a) k != ix (wd b) k) = false := by simpa using hz
          have HD := Lib.hid (drop_pred K1 K2 HL.out hz)
          clear hz K1 K2
          go_wp2
          go_quiet (fail)
          go_wp2
          go_roundw
          case rel => exact ⟨k, by omega, rfl, HD.out, he.drewN' _⟩
          case measure => simp [intOf]
        · have e1 : (ix (wd a) k == ix (wd b) k) = false := by simpa using hz
          have e2 : (ix (wd a) k != ix (wd b) k) = true := by simpa using hz
          by_cases hlt : ix (wd a) k < ix (wd b) k
          · have hab := lv_lt_of_high (words_wd a) k K2 (by rw [L1.out, L2.out]) HL.out hlt (words_wd b)
            rw [lv_wd, lv_wd] at hab
            clear hz K1 K2
            go_wp2
            go_quiet (fail)
            go_wp2
            go_quiet (fail)
            go_wp2
            go_ret
            exact ⟨ret_int (by unfold ord; rw [if_pos hab]), (he.drewN' _).drewN' _⟩
          · have hab := lv_lt_of_high (words_wd b) k K1 (by rw [L1.out, L2.out]) HL.out.symm (by omega) (words_wd a)
            rw [lv_wd, lv_wd] at hab
            clear hz K1 K2
            go_wp2
            go_quiet (fail)
            go_wp2
            go_quiet (fail)
            go_wp2
            go_ret
            exact ⟨ret_int (by unfold ord; rw [if_neg (by omega), if_neg (by omega)]), (he.drewN' _).drewN' _⟩
  · have t1 : ((n : Int) == m) = false := by simp; omega
    have t2 : ((n : Int) != m) = true := by simp; omega
    have HO := Lib.hid (ord_len (a := a) (b := b) (by rw [L1.out, L2.out]; exact hnm))
    rw [L1.out, L2.out] at HO
    by_cases hlt : n < m
    · go_enter Tryz.func185, Tryz.ntmps185
      go_wp2
      go_ret
      exact ⟨ret_int (by rw [HO.out, if_pos hlt]), Ext.refl _⟩
    · go_enter Tryz.func185, Tryz.ntmps185
      go_wp2
      go_ret
      exact ⟨ret_int (by rw [HO.out, if_neg hlt]), Ext.refl _⟩
end Go.Proofs.YtkljejejabikiaaGreatDoor

/- The walks of package big's numbers from 0 on, second part: add, sub. -/
namespace Go.Proofs.YtkljejejabikiaaGreatDoor
open Go Go.RowKit Cusp

theorem info_u32 : (Tryz.prog.info? 71).map (fun i => (i.zero, i.size, i.bytes)) = some (some (.int .u32 0), 1, 4) := by kernel_rfl

/-- The add's loop, from the longer one. -/
theorem add_end {out : List Int} {a b i : Nat} {c : Int} (hc0 : 0 ≤ c) (hc1 : c ≤ 1) (hlen : out.length = i) (hi : i = (wd a).length) (hle : (wd b).length ≤ (wd a).length)
    (h : lv out + 4294967296 ^ i * c.toNat = lv ((wd a).take i) + lv ((wd b).take i)) (hw : Words out) :
    (c > 0 → out ++ [c] = wd (a + b)) ∧ (¬ c > 0 → out = wd (a + b)) := by
  rw [lv_take_all _ (by omega), lv_take_all _ (by omega), lv_wd, lv_wd] at h
  constructor
  · intro hc
    have : c = 1 := by omega
    subst this
    refine eq_wd_of (words_snoc hw (by omega) (by omega)) (trim_of_last fun _ => ?_) ?_
    · simp [ix]
    · rw [lv_snoc, hlen]; simpa using h
  · intro hc
    have : c = 0 := by omega
    subst this
    have h : lv out = a + b := by simpa using h
    refine eq_wd_of hw (trim_of_last fun hp hz => ?_) h
    -- the number is at least a, so it has as many words
    have hlast : 0 < a := by
      rcases Nat.eq_zero_or_pos a with h0 | h0
      · subst h0; rw [wd_zero] at hi; simp at hi; omega
      · exact h0
    have g1 := lv_ge (words_wd a) (trim_wd a) (wd_ne_nil (by omega))
    rw [lv_wd] at g1
    have g2 := lv_take_succ out (out.length - 1)
    rw [show out.length - 1 + 1 = out.length by omega, hz, lv_take_all _ (Nat.le_refl _), h] at g2
    have g3 := lv_take_lt hw (out.length - 1)
    rw [hlen, hi] at g2 g3
    simp at g2
    omega

set_option maxHeartbeats 1000000 in
set_option maxRecDepth 100000 in
theorem add_walk (A B : Option Addr) (n m c d a b : Nat) (w : World) (ha : Nt w A n c a) (hb : Nt w B m d b) (hn : n ≤ 1000000000) (hm : m ≤ n) :
    Calls Tryz.prog 183 #[.slice A n c, .slice B m d] w fun e w' => ∃ A' n' c', e = .returned (.slice A' n' c') ∧ Nt w' A' n' c' (a + b) ∧ Ext w w' := by
  have L1 := Lib.hid ha.len
  have L2 := Lib.hid hb.len
  have C1 := ha.cap
  have C2 := ha.big
  have hmk := make_room (P := Tryz.prog) 103 71 .u32 4 Tryz.underlying103 info_u32 (by omega) (n + 1) (by omega)
  rw [show ((n + 1 : Nat) : Int) = (n : Int) + 1 by omega] at hmk
  have hmn : ¬ ((n : Int) < m) := by omega
  go_enter Tryz.func183, Tryz.ntmps183
  go_wp2
  go_loopw [5, 6, 22] (fun out cr i w' => ∃ (k : Nat) (l : List Int) (cc : Int), k ≤ n ∧ i = .int .i64 k ∧ cr = .int .u64 cc ∧ 0 ≤ cc ∧ cc ≤ 1 ∧ Words l ∧ l.length = k ∧ lv l + 4294967296 ^ k * cc.toNat = lv ((wd a).take k) + lv ((wd b).take k) ∧
      Own w.heap.size w' 71 .u32 out l ∧ Below w.heap.size w w' ∧ w.heap.size ≤ w'.heap.size) (fun _ _ i _ => n - (intOf i).toNat)
  case atStart => exact ⟨0, [], 0, by omega, rfl, rfl, by omega, by omega, words_nil, rfl, by simp [lv], own_room w _ _ _ _ (Nat.le_refl _) (by omega), (Below.refl _ _).alloc (Nat.le_refl _) _, by simp⟩
  case round =>
    obtain ⟨k, l, cc, hk, rfl, rfl, hc0, hc1, hwl, hlen, hlv, hO, hB, hsz⟩ := hrel
    have HL := Lib.hid hlv; clear hlv
    have HN := Lib.hid hlen; clear hlen
    by_cases hlt : k < n
    · obtain ⟨b1, o1, rfl, x1⟩ := (ha.ext (w' := wr) hB).at_ k hlt
      have r1 := ix_words (words_wd a) k
      have r2 := ix_words (words_wd b) k
      by_cases hkm : k < m
      · obtain ⟨b2, o2, rfl, x2⟩ := (hb.ext (w' := wr) hB).at_ k hkm
        go_wp2_with (at_builtin; refine append_one (w0 := w) w.heap.size rfl _ _ 103 4 rfl Tryz.underlying103 info_u32 (by omega) _ l rfl rfl hO hB hsz ?c1 ?_)
        case c1 => rw [HN.out]; omega
        intro v1 w1 hO1 hB1 hsz1 _ _
        have hst := add_step (words_wd a) (words_wd b) hc0 hc1 HN.out HL.out (s := cc + ix (wd a) k + ix (wd b) k) rfl
        have HS := Lib.hid hst; clear hst
        go_wp2
        go_roundw
        case rel => exact ⟨k + 1, l ++ [(cc + ix (wd a) k + ix (wd b) k) % 4294967296], _, by omega, by go_num, rfl, HS.out.2.1, HS.out.2.2.1, words_snoc hwl HS.out.2.2.2.1 HS.out.2.2.2.2, by simp [HN.out], HS.out.1, hO1, hB1, hsz1⟩
        case measure => simp [intOf]; omega
      · have hz : ix (wd b) k = 0 := ix_of_ge (by rw [L2.out]; omega)
        have HZ := Lib.hid hz; clear hz
        go_wp2_with (at_builtin; refine append_one (w0 := w) w.heap.size rfl _ _ 103 4 rfl Tryz.underlying103 info_u32 (by omega) _ l rfl rfl hO hB hsz ?c2 ?_)
        case c2 => rw [HN.out]; omega
        intro v1 w1 hO1 hB1 hsz1 _ _
        have hst := add_step (words_wd a) (words_wd b) hc0 hc1 HN.out HL.out (s := cc + ix (wd a) k) (by rw [HZ.out]; omega)
        have HS := Lib.hid hst; clear hst
        go_wp2
        go_roundw
        case rel => exact ⟨k + 1, l ++ [(cc + ix (wd a) k) % 4294967296], _, by omega, by go_num, rfl, HS.out.2.1, HS.out.2.2.1, words_snoc hwl HS.out.2.2.2.1 HS.out.2.2.2.2, by simp [HN.out], HS.out.1, hO1, hB1, hsz1⟩
        case measure => simp [intOf]; omega
    · have hkn : k = n := by omega
      subst hkn
      have hend := add_end hc0 hc1 HN.out (by rw [L1.out]) (by rw [L1.out, L2.out]; exact hm) HL.out hwl
      have HE := Lib.hid hend; clear hend
      by_cases hcp : cc > 0
      · go_wp2_with (at_builtin; refine append_one (w0 := w) w.heap.size rfl _ _ 103 4 rfl Tryz.underlying103 info_u32 (by omega) _ l rfl rfl hO hB hsz ?c3 ?_)
        case c3 => rw [HN.out]; omega
        intro v1 w1 hO1 hB1 hsz1 _ _
        go_wp2
        go_ret
        obtain ⟨A', n', c', hv, hr⟩ := hO1.nt (HE.out.1 hcp)
        exact ⟨A', n', c', ret_val hv, hr, hB1⟩
      · go_wp2
        go_ret
        obtain ⟨A', n', c', hv, hr⟩ := hO.nt (HE.out.2 hcp)
        exact ⟨A', n', c', ret_val hv, hr, hB⟩
set_option maxHeartbeats 1000000 in
set_option maxRecDepth 100000 in
theorem add_walk2 (A B : Option Addr) (n m c d a b : Nat) (w : World) (ha : Nt w A n c a) (hb : Nt w B m d b) (hn : n ≤ 1000000000) (hm : m < n) :
    Calls Tryz.prog 183 #[.slice B m d, .slice A n c] w fun e w' => ∃ A' n' c', e = .returned (.slice A' n' c') ∧ Nt w' A' n' c' (a + b) ∧ Ext w w' := by
  have L1 := Lib.hid ha.len
  have L2 := Lib.hid hb.len
  have C1 := ha.cap
  have C2 := ha.big
  have hmk := make_room (P := Tryz.prog) 103 71 .u32 4 Tryz.underlying103 info_u32 (by omega) (n + 1) (by omega)
  rw [show ((n + 1 : Nat) : Int) = (n : Int) + 1 by omega] at hmk
  have hmn : (m : Int) < n := by omega
  go_enter Tryz.func183, Tryz.ntmps183
  go_wp2
  go_loopw [5, 6, 22] (fun out cr i w' => ∃ (k : Nat) (l : List Int) (cc : Int), k ≤ n ∧ i = .int .i64 k ∧ cr = .int .u64 cc ∧ 0 ≤ cc ∧ cc ≤ 1 ∧ Words l ∧ l.length = k ∧ lv l + 4294967296 ^ k * cc.toNat = lv ((wd a).take k) + lv ((wd b).take k) ∧
      Own w.heap.size w' 71 .u32 out l ∧ Below w.heap.size w w' ∧ w.heap.size ≤ w'.heap.size) (fun _ _ i _ => n - (intOf i).toNat)
  case atStart => exact ⟨0, [], 0, by omega, rfl, rfl, by omega, by omega, words_nil, rfl, by simp [lv], own_room w _ _ _ _ (Nat.le_refl _) (by omega), (Below.refl _ _).alloc (Nat.le_refl _) _, by simp⟩
  case round =>
    obtain ⟨k, l, cc, hk, rfl, rfl, hc0, hc1, hwl, hlen, hlv, hO, hB, hsz⟩ := hrel
    have HL := Lib.hid hlv; clear hlv
    have HN := Lib.hid hlen; clear hlen
    by_cases hlt : k < n
    · obtain ⟨b1, o1, rfl, x1⟩ := (ha.ext (w' := wr) hB).at_ k hlt
      have r1 := ix_words (words_wd a) k
      have r2 := ix_words (words_wd b) k
      by_cases hkm : k < m
      · obtain ⟨b2, o2, rfl, x2⟩ := (hb.ext (w' := wr) hB).at_ k hkm
        go_wp2_with (at_builtin; refine append_one (w0 := w) w.heap.size rfl _ _ 103 4 rfl Tryz.underlying103 info_u32 (by omega) _ l rfl rfl hO hB hsz ?c1 ?_)
        case c1 => rw [HN.out]; omega
        intro v1 w1 hO1 hB1 hsz1 _ _
        have hst := add_step (words_wd a) (words_wd b) hc0 hc1 HN.out HL.out (s := cc + ix (wd a) k + ix (wd b) k) rfl
        have HS := Lib.hid hst; clear hst
        go_wp2
        go_roundw
        case rel => exact ⟨k + 1, l ++ [(cc + ix (wd a) k + ix (wd b) k) % 4294967296], _, by omega, by go_num, rfl, HS.out.2.1, HS.out.2.2.1, words_snoc hwl HS.out.2.2.2.1 HS.out.2.2.2.2, by simp [HN.out], HS.out.1, hO1, hB1, hsz1⟩
        case measure => simp [intOf]; omega
      · have hz : ix (wd b) k = 0 := ix_of_ge (by rw [L2.out]; omega)
        have HZ := Lib.hid hz; clear hz
        go_wp2_with (at_builtin; refine append_one (w0 := w) w.heap.size rfl _ _ 103 4 rfl Tryz.underlying103 info_u32 (by omega) _ l rfl rfl hO hB hsz ?c2 ?_)
        case c2 => rw [HN.out]; omega
        intro v1 w1 hO1 hB1 hsz1 _ _
        have hst := add_step (words_wd a) (words_wd b) hc0 hc1 HN.out HL.out (s := cc + ix (wd a) k) (by rw [HZ.out]; omega)
        have HS := Lib.hid hst; clear hst
        go_wp2
        go_roundw
        case rel => exact ⟨k + 1, l ++ [(cc + ix (wd a) k) % 4294967296], _, by omega, by go_num, rfl, HS.out.2.1, HS.out.2.2.1, words_snoc hwl HS.out.2.2.2.1 HS.out.2.2.2.2, by simp [HN.out], HS.out.1, hO1, hB1, hsz1⟩
        case measure => simp [intOf]; omega
    · have hkn : k = n := by omega
      subst hkn
      have hend := add_end hc0 hc1 HN.out (by rw [L1.out]) (by rw [L1.out, L2.out]; omega) HL.out hwl
      have HE := Lib.hid hend; clear hend
      by_cases hcp : cc > 0
      · go_wp2_with (at_builtin; refine append_one (w0 := w) w.heap.size rfl _ _ 103 4 rfl Tryz.underlying103 info_u32 (by omega) _ l rfl rfl hO hB hsz ?c3 ?_)
        case c3 => rw [HN.out]; omega
        intro v1 w1 hO1 hB1 hsz1 _ _
        go_wp2
        go_ret
        obtain ⟨A', n', c', hv, hr⟩ := hO1.nt (HE.out.1 hcp)
        exact ⟨A', n', c', ret_val hv, hr, hB1⟩
      · go_wp2
        go_ret
        obtain ⟨A', n', c', hv, hr⟩ := hO.nt (HE.out.2 hcp)
        exact ⟨A', n', c', ret_val hv, hr, hB⟩
/-- The sum. -/
theorem add_calls (A B : Option Addr) (n m c d a b : Nat) (w : World) (ha : Nt w A n c a) (hb : Nt w B m d b) (hn : n ≤ 1000000000) (hm : m ≤ 1000000000) :
    Calls Tryz.prog 183 #[.slice A n c, .slice B m d] w fun e w' => ∃ A' n' c', e = .returned (.slice A' n' c') ∧ Nt w' A' n' c' (a + b) ∧ Ext w w' := by
  rcases Nat.lt_or_ge n m with h | h
  · refine (add_walk2 B A m n d c b a w hb ha hm h).mono ?_
    rintro e w' ⟨A', n', c', h1, h2, h3⟩
    exact ⟨A', n', c', h1, by rw [Nat.add_comm]; exact h2, h3⟩
  · exact add_walk A B n m c d a b w ha hb hn h
end Go.Proofs.YtkljejejabikiaaGreatDoor

/- The walks of package big's numbers from 0 on, third part: sub. -/
namespace Go.Proofs.YtkljejejabikiaaGreatDoor
open Go Go.RowKit Cusp

theorem wrap_low (z : Int) : IntKind.u64.wrap z % 4294967296 = z % 4294967296 := by
  simp only [IntKind.wrap, IntKind.bits, IntKind.signed]
  simp

set_option maxHeartbeats 1000000 in
set_option maxRecDepth 100000 in
theorem sub_calls (A B : Option Addr) (n m c d a b : Nat) (w : World) (ha : Nt w A n c a) (hb : Nt w B m d b) (hn : n ≤ 1000000000) (hab : b ≤ a) :
    Calls Tryz.prog 231 #[.slice A n c, .slice B m d] w fun e w' => ∃ A' n' c', e = .returned (.slice A' n' c') ∧ Nt w' A' n' c' (a - b) ∧ Ext w w' := by
  have L1 := Lib.hid ha.len
  have L2 := Lib.hid hb.len
  have C1 := ha.cap
  have C2 := ha.big
  have hm : m ≤ n := by rw [← L1.out, ← L2.out]; exact len_wd_mono hab
  have hmk := make_room (P := Tryz.prog) 103 71 .u32 4 Tryz.underlying103 info_u32 (by omega) n (by omega)
  go_enter Tryz.func231, Tryz.ntmps231
  go_wp2
  go_loopw [5, 6, 15] (fun out br i w' => ∃ (k : Nat) (l : List Int) (bb : Int), k ≤ n ∧ i = .int .i64 k ∧ br = .int .u64 bb ∧ 0 ≤ bb ∧ bb ≤ 1 ∧ Words l ∧ l.length = k ∧ lv l + lv ((wd b).take k) = lv ((wd a).take k) + 4294967296 ^ k * bb.toNat ∧
      Own w.heap.size w' 71 .u32 out l ∧ Below w.heap.size w w' ∧ w.heap.size ≤ w'.heap.size) (fun _ _ i _ => n - (intOf i).toNat)
  case atStart => exact ⟨0, [], 0, by omega, rfl, rfl, by omega, by omega, words_nil, rfl, by simp [lv], own_room w _ _ _ _ (Nat.le_refl _) (by omega), (Below.refl _ _).alloc (Nat.le_refl _) _, by simp⟩
  case round =>
    obtain ⟨k, l, cc, hk, rfl, rfl, hc0, hc1, hwl, hlen, hlv, hO, hB, hsz⟩ := hrel
    have HL := Lib.hid hlv; clear hlv
    have HN := Lib.hid hlen; clear hlen
    by_cases hlt : k < n
    · obtain ⟨b1, o1, rfl, x1⟩ := (ha.ext (w' := wr) hB).at_ k hlt
      have r1 := ix_words (words_wd a) k
      have r2 := ix_words (words_wd b) k
      by_cases hkm : k < m
      · obtain ⟨b2, o2, rfl, x2⟩ := (hb.ext (w' := wr) hB).at_ k hkm
        by_cases hbr : ix (wd a) k < cc + ix (wd b) k
        · go_wp2_with (at_builtin; refine append_one (w0 := w) w.heap.size rfl _ _ 103 4 rfl Tryz.underlying103 info_u32 (by omega) _ l rfl rfl hO hB hsz ?c1 ?_)
          case c1 => rw [HN.out]; omega
          intro v1 w1 hO1 hB1 hsz1 _ _
          have hst := sub_step (words_wd a) (words_wd b) hc0 hc1 HN.out HL.out (t := cc + ix (wd b) k) (x := ix (wd a) k) rfl rfl
          rw [if_pos hbr] at hst
          have hy : IntKind.u64.wrap (ix (wd a) k - (cc + ix (wd b) k)) % 4294967296 = (ix (wd a) k - (cc + ix (wd b) k)) % 4294967296 := wrap_low _
          rw [hy] at hO1
          have HS := Lib.hid hst; clear hst hy
          go_wp2
          go_roundw
          case rel => exact ⟨k + 1, l ++ [(ix (wd a) k - (cc + ix (wd b) k)) % 4294967296], 1, by omega, by go_num, rfl, by omega, by omega, words_snoc hwl (by omega) (by omega), by simp [HN.out], HS.out, hO1, hB1, hsz1⟩
          case measure => simp [intOf]; omega
        · go_wp2_with (at_builtin; refine append_one (w0 := w) w.heap.size rfl _ _ 103 4 rfl Tryz.underlying103 info_u32 (by omega) _ l rfl rfl hO hB hsz ?c2 ?_)
          case c2 => rw [HN.out]; omega
          intro v1 w1 hO1 hB1 hsz1 _ _
          have hst := sub_step (words_wd a) (words_wd b) hc0 hc1 HN.out HL.out (t := cc + ix (wd b) k) (x := ix (wd a) k) rfl rfl
          rw [if_neg (by omega)] at hst
          have hy : ix (wd a) k - (cc + ix (wd b) k) = (ix (wd a) k - (cc + ix (wd b) k)) % 4294967296 := by omega
          rw [hy] at hO1
          have HS := Lib.hid hst; clear hst hy
          go_wp2
          go_roundw
          case rel => exact ⟨k + 1, l ++ [(ix (wd a) k - (cc + ix (wd b) k)) % 4294967296], 0, by omega, by go_num, rfl, by omega, by omega, words_snoc hwl (by omega) (by omega), by simp [HN.out], HS.out, hO1, hB1, hsz1⟩
          case measure => simp [intOf]; omega
      · have hz : ix (wd b) k = 0 := ix_of_ge (by rw [L2.out]; omega)
        have HZ := Lib.hid hz; clear hz
        by_cases hbr : ix (wd a) k < cc
        · go_wp2_with (at_builtin; refine append_one (w0 := w) w.heap.size rfl _ _ 103 4 rfl Tryz.underlying103 info_u32 (by omega) _ l rfl rfl hO hB hsz ?c3 ?_)
          case c3 => rw [HN.out]; omega
          intro v1 w1 hO1 hB1 hsz1 _ _
          have hst := sub_step (words_wd a) (words_wd b) hc0 hc1 HN.out HL.out (t := cc) (x := ix (wd a) k) (by rw [HZ.out]; omega) rfl
          rw [if_pos hbr] at hst
          have hy : IntKind.u64.wrap (ix (wd a) k - cc) % 4294967296 = (ix (wd a) k - (cc)) % 4294967296 := wrap_low _
          rw [hy] at hO1
          have HS := Lib.hid hst; clear hst hy
          go_wp2
          go_roundw
          case rel => exact ⟨k + 1, l ++ [(ix (wd a) k - (cc)) % 4294967296], 1, by omega, by go_num, rfl, by omega, by omega, words_snoc hwl (by omega) (by omega), by simp [HN.out], HS.out, hO1, hB1, hsz1⟩
          case measure => simp [intOf]; omega
        · go_wp2_with (at_builtin; refine append_one (w0 := w) w.heap.size rfl _ _ 103 4 rfl Tryz.underlying103 info_u32 (by omega) _ l rfl rfl hO hB hsz ?c4 ?_)
          case c4 => rw [HN.out]; omega
          intro v1 w1 hO1 hB1 hsz1 _ _
          have hst := sub_step (words_wd a) (words_wd b) hc0 hc1 HN.out HL.out (t := cc) (x := ix (wd a) k) (by rw [HZ.out]; omega) rfl
          rw [if_neg (by omega)] at hst
          have hy : ix (wd a) k - cc = (ix (wd a) k - (cc)) % 4294967296 := by omega
          rw [hy] at hO1
          have HS := Lib.hid hst; clear hst hy
          go_wp2
          go_roundw
          case rel => exact ⟨k + 1, l ++ [(ix (wd a) k - (cc)) % 4294967296], 0, by omega, by go_num, rfl, by omega, by omega, words_snoc hwl (by omega) (by omega), by simp [HN.out], HS.out, hO1, hB1, hsz1⟩
          case measure => simp [intOf]; omega
    · have hkn : k = n := by omega
      subst hkn
      obtain ⟨A1, c1, hv, hr⟩ := hO.form
      subst hv
      go_wp2_with fail
      refine (trim_nt A1 _ c1 (a - b) l _ hr hwl ?_).mono ?_
      · have h := HL.out
        rw [lv_take_all (wd a) (by rw [L1.out]; omega), lv_take_all (wd b) (by rw [L2.out]; omega), lv_wd, lv_wd] at h
        have hlt := lv_lt hwl
        rw [HN.out] at hlt
        have hcc : cc.toNat = 0 := by
          rcases Nat.eq_zero_or_pos cc.toNat with h0 | h0
          · exact h0
          · exfalso
            have : cc.toNat = 1 := by omega
            rw [this] at h; omega
        rw [hcc] at h; omega
      rintro e w1 ⟨mm, _, rfl, hn1, hx⟩
      go_wp2
      go_ret
      exact ⟨A1, mm, c1, rfl, hn1, Ext.trans hB hx⟩
end Go.Proofs.YtkljejejabikiaaGreatDoor

/- The walks of package big's numbers from 0 on, fourth part: mul. -/
namespace Go.Proofs.YtkljejejabikiaaGreatDoor
open Go Go.RowKit Cusp

theorem mul_bound {x y : Int} (hx0 : 0 ≤ x) (hx1 : x < 4294967296) (hy0 : 0 ≤ y) (hy1 : y < 4294967296) : 0 ≤ x * y ∧ x * y ≤ 18446744065119617025 := by
  constructor
  · exact Int.mul_nonneg hx0 hy0
  · have h1 : x * y ≤ 4294967295 * y := Int.mul_le_mul_of_nonneg_right (by omega) hy0
    omega

/-- One word of a product. -/
theorem mul_step {l : List Int} {p : Nat} {cc x q : Int} (hp : p < l.length) (hw : Words l) (hc : 0 ≤ cc) (hq : 0 ≤ q) (hx : x = cc + (q + ix l p)) :
    lv (l.set p (x % 4294967296)) + 4294967296 ^ (p + 1) * (x / 4294967296).toNat = lv l + 4294967296 ^ p * cc.toNat + 4294967296 ^ p * q.toNat := by
  have h1 := lv_set l p (x % 4294967296) hp
  have h2 := ix_words hw p
  rw [Nat.pow_succ, Nat.mul_assoc]
  have e : (x % 4294967296).toNat + 4294967296 * (x / 4294967296).toNat = cc.toNat + q.toNat + (ix l p).toNat := by omega
  have e2 := congrArg (4294967296 ^ p * ·) e
  simp only [Nat.mul_add] at e2
  omega

theorem size_setCell (w : World) (p : Addr) (u : Value) : (w.setCell p u).heap.size = w.heap.size := by simp [World.setCell]

/-- The inner round's sums. -/
theorem mul_inner {l : List Int} {a b k k2 m n : Nat} {cc : Int} (hw : Words l) (hlen : l.length = n + m) (hk : k < n) (hk2 : k2 < m) (hc0 : 0 ≤ cc) (hc1 : cc ≤ 4294967295)
    (h : lv l + 4294967296 ^ (k + k2) * cc.toNat = lv ((wd a).take k) * b + 4294967296 ^ k * ((ix (wd a) k).toNat * lv ((wd b).take k2))) :
    lv (l.set (k + k2) ((cc + (ix (wd a) k * ix (wd b) k2 + ix l (k + k2))) % 4294967296)) + 4294967296 ^ (k + (k2 + 1)) * ((cc + (ix (wd a) k * ix (wd b) k2 + ix l (k + k2))) / 4294967296).toNat =
      lv ((wd a).take k) * b + 4294967296 ^ k * ((ix (wd a) k).toNat * lv ((wd b).take (k2 + 1))) ∧
    0 ≤ (cc + (ix (wd a) k * ix (wd b) k2 + ix l (k + k2))) / 4294967296 ∧ (cc + (ix (wd a) k * ix (wd b) k2 + ix l (k + k2))) / 4294967296 ≤ 4294967295 ∧
    Words (l.set (k + k2) ((cc + (ix (wd a) k * ix (wd b) k2 + ix l (k + k2))) % 4294967296)) := by
  have r1 := ix_words (words_wd a) k
  have r2 := ix_words (words_wd b) k2
  have r3 := ix_words hw (k + k2)
  have r4 := mul_bound r1.1 r1.2 r2.1 r2.2
  refine ⟨?_, by omega, by omega, words_set hw _ (by omega) (by omega)⟩
  have hs := mul_step (p := k + k2) (cc := cc) (q := ix (wd a) k * ix (wd b) k2) (by rw [hlen]; omega) hw hc0 r4.1 rfl
  rw [← Nat.add_assoc k k2 1, hs, h, lv_take_succ, Int.toNat_mul r1.1 r2.1, Nat.mul_add, Nat.mul_add, Nat.pow_add, Nat.add_assoc]
  congr 2
  rw [Nat.mul_assoc]
  congr 1
  rw [Nat.mul_left_comm]

/-- The inner loop's end. -/
theorem mul_outer {l : List Int} {a b k m n : Nat} {cc : Int} (hw : Words l) (hlen : l.length = n + m) (hk : k < n) (hm : (wd b).length = m) (hc0 : 0 ≤ cc) (hc1 : cc ≤ 4294967295)
    (h : lv l + 4294967296 ^ (k + m) * cc.toNat = lv ((wd a).take k) * b + 4294967296 ^ k * ((ix (wd a) k).toNat * lv ((wd b).take m))) (hz : ∀ j, k + m ≤ j → ix l j = 0) :
    lv (l.set (k + m) cc) = lv ((wd a).take (k + 1)) * b ∧ Words (l.set (k + m) cc) ∧ (∀ j, k + 1 + m ≤ j → ix (l.set (k + m) cc) j = 0) := by
  refine ⟨?_, words_set hw _ hc0 (by omega), fun j hj => by rw [ix_set_other (by omega)]; exact hz j (by omega)⟩
  have hs := lv_set l (k + m) cc (by rw [hlen]; omega)
  rw [hz _ (Nat.le_refl _)] at hs
  rw [lv_take_all (wd b) (by omega), lv_wd] at h
  rw [lv_take_succ, Nat.add_mul, Nat.mul_assoc]
  simp only [Int.toNat_zero, Nat.mul_zero, Nat.add_zero] at hs
  rw [hs, h]

set_option maxHeartbeats 2000000 in
set_option maxRecDepth 100000 in
theorem mul_walk (A B : Option Addr) (n m c d a b : Nat) (w : World) (ha : Nt w A n c a) (hb : Nt w B m d b) (hn : n ≤ 1000000000) (hm : m ≤ 1000000000) (n0 : 0 < n) (m0 : 0 < m) :
    Calls Tryz.prog 146 #[.slice A n c, .slice B m d] w fun e w' => ∃ A' n' c', e = .returned (.slice A' n' c') ∧ Nt w' A' n' c' (a * b) ∧ Ext w w' := by
  have L1 := Lib.hid ha.len
  have L2 := Lib.hid hb.len
  have C1 := ha.cap
  have C2 := ha.big
  have t1 : ((n : Int) == 0) = false := by simp; omega
  have t2 : ((m : Int) == 0) = false := by simp; omega
  have hmk := make_all (P := Tryz.prog) 103 71 .u32 4 Tryz.underlying103 info_u32 (by omega) (n + m) (by omega)
  rw [show ((n + m : Nat) : Int) = (n : Int) + m by omega] at hmk
  go_enter Tryz.func146, Tryz.ntmps146
  go_wp2
  go_loopw [27] (fun i w' => ∃ (k : Nat) (l : List Int), k ≤ n ∧ i = .int .i64 k ∧ Words l ∧ l.length = n + m ∧ lv l = lv ((wd a).take k) * b ∧ (∀ j, k + m ≤ j → ix l j = 0) ∧
      Own w.heap.size w' 71 .u32 (.slice (some ⟨w.heap.size, 0, none⟩) (n + m) (n + m)) l ∧ Below w.heap.size w w' ∧ w.heap.size ≤ w'.heap.size) (fun i _ => n - (intOf i).toNat)
  case atStart => exact ⟨0, List.replicate (n + m) 0, by omega, rfl, words_replicate _, by simp, by simp [lv_replicate, lv], fun j _ => ix_replicate _ _, own_made w _ _ _ _ (Nat.le_refl _) (by omega), (Below.refl _ _).alloc (Nat.le_refl _) _, by simp⟩
  case round =>
    obtain ⟨k, l, hk, rfl, hwl, hlen, hlv, hz, hO, hB, hsz⟩ := hrel
    have HL := Lib.hid hlv; clear hlv
    have HN := Lib.hid hlen; clear hlen
    have HZ := Lib.hid hz; clear hz
    by_cases hlt : k < n
    · obtain ⟨b1, o1, rfl, x1⟩ := (ha.ext (w' := wr) hB).at_ k hlt
      have r1 := ix_words (words_wd a) k
      obtain ⟨wo, rfl⟩ : ∃ wo : World, wo = wr := ⟨_, rfl⟩
      go_wp2
      go_loopw [8, 34] (fun cr i w' => ∃ (k2 : Nat) (l2 : List Int) (cc : Int), k2 ≤ m ∧ i = .int .i64 k2 ∧ cr = .int .u64 cc ∧ 0 ≤ cc ∧ cc ≤ 4294967295 ∧ Words l2 ∧ l2.length = n + m ∧
          lv l2 + 4294967296 ^ (k + k2) * cc.toNat = lv ((wd a).take k) * b + 4294967296 ^ k * ((ix (wd a) k).toNat * lv ((wd b).take k2)) ∧ (∀ j, k + m ≤ j → ix l2 j = 0) ∧
          Own w.heap.size w' 71 .u32 (.slice (some ⟨w.heap.size, 0, none⟩) (n + m) (n + m)) l2 ∧ Below w.heap.size w w' ∧ w.heap.size ≤ w'.heap.size) (fun _ i _ => m - (intOf i).toNat)
      case atStart => exact ⟨0, l, 0, by omega, rfl, rfl, by omega, by omega, hwl, HN.out, by rw [HL.out]; simp [lv], HZ.out, hO, hB, hsz⟩
      case round =>
        obtain ⟨k2, l2, cc, hk2, rfl, rfl, hc0, hc1, hwl2, hlen2, hlv2, hz2, hO2, hB2, hsz2⟩ := hrel
        have HL2 := Lib.hid hlv2; clear hlv2
        have HN2 := Lib.hid hlen2; clear hlen2
        have HZ2 := Lib.hid hz2; clear hz2
        by_cases hlt2 : k2 < m
        · obtain ⟨b2, o2, rfl, x2⟩ := (hb.ext (w' := wr) hB2).at_ k2 hlt2
          have r2 := ix_words (words_wd b) k2
          have r3 := ix_words hwl2 (k + k2)
          have r4 := mul_bound r1.1 r1.2 r2.1 r2.2
          obtain ⟨x3, f3⟩ := hO2.at_ (k + k2) (by rw [HN2.out]; omega)
          have hidx : ((k : Int) + (k2 : Int)).toNat = k + k2 := by omega
          have HS := Lib.hid (mul_inner hwl2 HN2.out hlt hlt2 hc0 hc1 HL2.out)
          go_wp2
          go_roundw
          case rel => exact ⟨k2 + 1, _, _, by omega, by go_num, rfl, HS.out.2.1, HS.out.2.2.1, HS.out.2.2.2, by simp [HN2.out], HS.out.1, fun j hj => by rw [ix_set_other (by omega)]; exact HZ2.out j hj, hO2.store _ _, hB2.setCell (Nat.le_refl _) _, by rw [size_setCell]; exact hsz2⟩
          case measure => simp [intOf]; omega
        · have hkm : k2 = m := by omega
          subst hkm
          obtain ⟨x4, f4⟩ := hO2.at_ (k + k2) (by rw [HN2.out]; omega)
          have hidx : ((k : Int) + (k2 : Int)).toNat = k + k2 := by omega
          have HS := Lib.hid (mul_outer hwl2 HN2.out hlt L2.out hc0 hc1 HL2.out HZ2.out)
          go_wp2
          go_roundw
          case rel => exact ⟨k + 1, _, by omega, by go_num, HS.out.2.1, by simp [HN2.out], HS.out.1, HS.out.2.2, hO2.store _ _, hB2.setCell (Nat.le_refl _) _, by rw [size_setCell]; exact hsz2⟩
          case measure => simp [intOf]; omega
    · have hkn : k = n := by omega
      subst hkn
      go_wp2_with fail
      refine (trim_nt _ _ _ (a * b) l _ hO.rd hwl ?_).mono ?_
      · rw [HL.out, lv_take_all _ (by rw [L1.out]; omega), lv_wd]
      rintro e w1 ⟨mm, _, rfl, hn1, hx⟩
      go_wp2
      go_ret
      exact ⟨_, mm, _, rfl, hn1, Ext.trans hB hx⟩

set_option maxHeartbeats 400000 in
/-- The product. -/
theorem mul_calls (A B : Option Addr) (n m c d a b : Nat) (w : World) (ha : Nt w A n c a) (hb : Nt w B m d b) (hn : n ≤ 1000000000) (hm : m ≤ 1000000000) :
    Calls Tryz.prog 146 #[.slice A n c, .slice B m d] w fun e w' => ∃ A' n' c', e = .returned (.slice A' n' c') ∧ Nt w' A' n' c' (a * b) ∧ Ext w w' := by
  by_cases h : 0 < n ∧ 0 < m
  · exact mul_walk A B n m c d a b w ha hb hn hm h.1 h.2
  · have h0 : a * b = 0 := by
      have e1 := ha.len
      have e2 := hb.len
      rcases Nat.eq_zero_or_pos n with h1 | h1
      · rw [h1] at e1; rw [wd_eq_nil.1 (List.eq_nil_of_length_eq_zero e1)]; simp
      · rw [show m = 0 by omega] at e2; rw [wd_eq_nil.1 (List.eq_nil_of_length_eq_zero e2)]; simp
    have hr : Nt w none 0 0 (a * b) := by rw [h0]; unfold Nt; rw [wd_zero]; exact Rd.nil _ _ _ _ (by omega)
    rcases Nat.eq_zero_or_pos n with h1 | h1
    · subst h1
      go_enter Tryz.func146, Tryz.ntmps146
      go_wp2
      go_ret
      exact ⟨none, 0, 0, rfl, hr, Ext.refl _⟩
    · have h2 : m = 0 := by omega
      subst h2
      have t1 : ((n : Int) == 0) = false := by simp; omega
      go_enter Tryz.func146, Tryz.ntmps146
      go_wp2
      go_ret
      exact ⟨none, 0, 0, rfl, hr, Ext.refl _⟩
end Go.Proofs.YtkljejejabikiaaGreatDoor

/- The walks of package big's numbers from 0 on, fifth part: shl, shr, bitLen, zeros, short. -/
namespace Go.Proofs.YtkljejejabikiaaGreatDoor
open Go Go.RowKit Cusp

theorem two_pow_split {r : Nat} (h : r < 32) : (4294967296 : Nat) = 2 ^ (32 - r) * 2 ^ r := by
  rw [← Nat.pow_add, show 32 - r + r = 32 by omega]
theorem wraps_u32 (n : Int) (h₀ : 0 ≤ n) (h₁ : n < 2 ^ 32) : IntKind.u32.wrap n = n := by rw [IntKind.wrap_u32]; omega

/-- A word shifted up, and what went over before. -/
theorem shl_word {x cc : Int} {r : Nat} (hr : r < 32) (h0 : 0 ≤ x) (h1 : x < 4294967296) (c0 : 0 ≤ cc) (c1 : cc < 2 ^ r) :
    bits .or .u32 (x * 2 ^ r % 4294967296) cc = x * 2 ^ r % 4294967296 + cc ∧ 0 ≤ x * 2 ^ r % 4294967296 + cc ∧ x * 2 ^ r % 4294967296 + cc < 4294967296 ∧
    IntKind.u64.wrap (x * 2 ^ r) / 4294967296 % 4294967296 = x * 2 ^ r / 4294967296 ∧ 0 ≤ x * 2 ^ r / 4294967296 ∧ x * 2 ^ r / 4294967296 < 2 ^ r := by
  obtain ⟨a, rfl⟩ := Int.eq_ofNat_of_zero_le h0
  obtain ⟨b, rfl⟩ := Int.eq_ofNat_of_zero_le c0
  have ha : a < 4294967296 := by omega
  have hb : b < 2 ^ r := by exact_mod_cast c1
  have hs := two_pow_split hr
  have hp : 0 < 2 ^ r := Nat.two_pow_pos r
  have hcp : ((2 : Int) ^ r) = ((2 ^ r : Nat) : Int) := by rw [Int.natCast_pow]; rfl
  have hcast : ((a : Int) * 2 ^ r) = ((a * 2 ^ r : Nat) : Int) := by simp
  have hmod : a * 2 ^ r % 4294967296 = a % 2 ^ (32 - r) * 2 ^ r := by rw [hs, Nat.mul_mod_mul_right]
  have hle : a % 2 ^ (32 - r) * 2 ^ r + 2 ^ r ≤ 4294967296 := by
    have : a % 2 ^ (32 - r) + 1 ≤ 2 ^ (32 - r) := Nat.mod_lt _ (Nat.two_pow_pos _)
    calc a % 2 ^ (32 - r) * 2 ^ r + 2 ^ r = (a % 2 ^ (32 - r) + 1) * 2 ^ r := by rw [Nat.add_mul, Nat.one_mul]
      _ ≤ 2 ^ (32 - r) * 2 ^ r := Nat.mul_le_mul_right _ this
      _ = 4294967296 := hs.symm
  have hr31 : 2 ^ r ≤ 2 ^ 31 := Nat.pow_le_pow_right (by omega) (by omega)
  have hdiv : a * 2 ^ r / 4294967296 < 2 ^ r := by
    rw [Nat.div_lt_iff_lt_mul (by omega), Nat.mul_comm]
    exact Nat.mul_lt_mul_of_pos_left ha hp
  have hbig : a * 2 ^ r < 18446744073709551616 := by
    calc a * 2 ^ r ≤ a * 2 ^ 31 := Nat.mul_le_mul_left _ hr31
      _ < 18446744073709551616 := by omega
  have hm2 : a % 2 ^ (32 - r) * 2 ^ r = a * 2 ^ r % 4294967296 := hmod.symm
  refine ⟨?_, ?_, ?_, ?_, ?_, ?_⟩
  · rw [hcast]
    refine bits_join .u32 32 (by decide) wraps_u32 r _ _ (by omega) ?_ (by omega) (by omega) c1 (by omega)
    have : a * 2 ^ r % 4294967296 % 2 ^ r = 0 := by rw [hmod]; simp
    show (((a * 2 ^ r : Nat) : Int) % ((4294967296 : Nat) : Int)) % ((2 : Int) ^ r) = 0
    rw [hcp, ← Int.natCast_emod, ← Int.natCast_emod, this]; rfl
  · rw [hcast]; omega
  · rw [hcast]; omega
  · rw [hcast, IntKind.wrap_u64]; omega
  · rw [hcast]; omega
  · rw [hcast, hcp]; omega

theorem shl_step {out a : List Int} {k q r : Nat} {cc : Int} (hr : r < 32) (hw : Words a) (c0 : 0 ≤ cc) (c1 : cc < 2 ^ r) (hlen : out.length = q + k)
    (h : lv out + 4294967296 ^ (q + k) * cc.toNat = 4294967296 ^ q * (2 ^ r * lv (a.take k))) :
    lv (out ++ [ix a k * 2 ^ r % 4294967296 + cc]) + 4294967296 ^ (q + (k + 1)) * (ix a k * 2 ^ r / 4294967296).toNat = 4294967296 ^ q * (2 ^ r * lv (a.take (k + 1))) := by
  have hx := ix_words hw k
  obtain ⟨x, hx2⟩ := Int.eq_ofNat_of_zero_le hx.1
  have hs := shl_word hr hx.1 hx.2 c0 c1
  rw [lv_snoc, hlen, lv_take_succ, Nat.mul_add, Nat.mul_add, ← h, ← Nat.add_assoc q k 1, Nat.pow_succ, Nat.mul_assoc]
  have e : (ix a k * 2 ^ r % 4294967296 + cc).toNat + 4294967296 * (ix a k * 2 ^ r / 4294967296).toNat = cc.toNat + (ix a k * 2 ^ r).toNat := by
    have h1 : 0 ≤ ix a k * 2 ^ r := Int.mul_nonneg hx.1 (Int.pow_nonneg (by omega))
    omega
  have e1 : (ix a k * 2 ^ r).toNat = (ix a k).toNat * 2 ^ r := by
    rw [hx2]; exact_mod_cast (Int.toNat_natCast (x * 2 ^ r))
  rw [e1] at e
  have e2 := congrArg (4294967296 ^ (q + k) * ·) e
  simp only [Nat.mul_add] at e2
  have e3 : 4294967296 ^ q * (2 ^ r * (4294967296 ^ k * (ix a k).toNat)) = 4294967296 ^ (q + k) * ((ix a k).toNat * 2 ^ r) := by
    rw [Nat.pow_add, Nat.mul_assoc, Nat.mul_left_comm (2 ^ r), Nat.mul_comm (2 ^ r)]
  rw [e3]; omega

set_option maxHeartbeats 2000000 in
set_option maxRecDepth 100000 in
theorem shl_walk (A : Option Addr) (n c a K : Nat) (w : World) (ha : Nt w A n c a) (hn : n ≤ 1000000000) (hK : K ≤ 10000000000) (n0 : 0 < n) :
    Calls Tryz.prog 220 #[.slice A n c, .int .u64 (K : Int)] w fun e w' => ∃ A' n' c', e = .returned (.slice A' n' c') ∧ Nt w' A' n' c' (a * 2 ^ K) ∧ Ext w w' := by
  have L1 := Lib.hid ha.len
  have C1 := ha.cap
  have C2 := ha.big
  have t1 : ((n : Int) == 0) = false := by simp; omega
  obtain ⟨q, hq⟩ : ∃ q, q = K / 32 := ⟨_, rfl⟩
  obtain ⟨r, hr⟩ : ∃ r, r = K % 32 := ⟨_, rfl⟩
  have hmk := make_part (P := Tryz.prog) 103 71 .u32 4 Tryz.underlying103 info_u32 (by omega) q (n + q + 1) (by omega) (by omega)
  rw [show ((n + q + 1 : Nat) : Int) = (n : Int) + (K : Int) / 32 + 1 by omega, show ((q : Nat) : Int) = (K : Int) / 32 by omega] at hmk
  have hr32 : r < 32 := by omega
  have hq9 : q ≤ 400000000 := by omega
  have HQ := Lib.hid hq; clear hq
  have HR := Lib.hid hr; clear hr
  go_enter Tryz.func220, Tryz.ntmps220
  go_wp2
  go_loopw [5, 7, 28] (fun out cr i w' => ∃ (k : Nat) (l : List Int) (cc : Int), k ≤ n ∧ i = .int .i64 k ∧ cr = .int .u32 cc ∧ 0 ≤ cc ∧ cc < 2 ^ r ∧ Words l ∧ l.length = q + k ∧ lv l + 4294967296 ^ (q + k) * cc.toNat = 4294967296 ^ q * (2 ^ r * lv ((wd a).take k)) ∧
      Own w.heap.size w' 71 .u32 out l ∧ Below w.heap.size w w' ∧ w.heap.size ≤ w'.heap.size) (fun _ _ i _ => n - (intOf i).toNat)
  case atStart => exact ⟨0, List.replicate q 0, 0, by omega, rfl, rfl, by omega, Int.pow_pos (by omega), words_replicate _, by simp, by simp [lv_replicate, lv], own_part w _ _ _ _ _ (by omega) (Nat.le_refl _) (by omega), (Below.refl _ _).alloc (Nat.le_refl _) _, by simp⟩
  case round =>
    obtain ⟨k, l, cc, hk, rfl, rfl, hc0, hc1, hwl, hlen, hlv, hO, hB, hsz⟩ := hrel
    have HL := Lib.hid hlv; clear hlv
    have HN := Lib.hid hlen; clear hlen
    have HC := Lib.hid hc1; clear hc1
    by_cases hlt : k < n
    · obtain ⟨b1, o1, rfl, x1⟩ := (ha.ext (w' := wr) hB).at_ k hlt
      have r1 := ix_words (words_wd a) k
      go_wp2_with (at_builtin; refine append_one (w0 := w) w.heap.size rfl _ _ 103 4 rfl Tryz.underlying103 info_u32 (by omega) _ l rfl rfl hO hB hsz ?c1 ?_)
      case c1 => rw [HN.out]; omega
      intro v1 w1 hO1 hB1 hsz1 _ _
      have HS := Lib.hid (shl_step hr32 (words_wd a) hc0 HC.out HN.out HL.out)
      have HW := Lib.hid (shl_word hr32 r1.1 r1.2 hc0 HC.out)
      rw [← HR.out, HW.out.1] at hO1
      go_wp2
      go_roundw
      case rel => exact ⟨k + 1, _, _, by omega, by go_num, by rw [← HR.out]; exact int_int HW.out.2.2.2.1, HW.out.2.2.2.2.1, HW.out.2.2.2.2.2, words_snoc hwl HW.out.2.1 HW.out.2.2.1, by simp [HN.out]; omega, HS.out, hO1, hB1, hsz1⟩
      case measure => simp [intOf]; omega
    · have hkn : k = n := by omega
      subst hkn
      go_wp2_with (at_builtin; refine append_one (w0 := w) w.heap.size rfl _ _ 103 4 rfl Tryz.underlying103 info_u32 (by omega) _ l rfl rfl hO hB hsz ?c2 ?_)
      case c2 => rw [HN.out]; omega
      intro v1 w1 hO1 hB1 hsz1 _ _
      obtain ⟨A1, n1, c1, hv, hr1⟩ := hO1.formN
      subst hv
      have hpw : (2 : Int) ^ r ≤ 4294967296 := by
        have h31 : 2 ^ r ≤ 2 ^ 31 := Nat.pow_le_pow_right (by omega) (by omega)
        rw [show ((2 : Int) ^ r) = ((2 ^ r : Nat) : Int) by rw [Int.natCast_pow]; rfl]
        omega
      have hcW : cc < 4294967296 := Int.lt_of_lt_of_le HC.out hpw
      go_wp2_with fail
      refine (trim_nt A1 n1 c1 (a * 2 ^ K) _ _ hr1 (words_snoc hwl hc0 hcW) ?_).mono ?_
      · rw [lv_snoc, HN.out, HL.out, lv_take_all _ (by rw [L1.out]; omega), lv_wd]
        have hK2 : K = 32 * q + r := by rw [HQ.out, HR.out]; omega
        rw [hK2, Nat.pow_add, Nat.pow_mul, show (2 : Nat) ^ 32 = 4294967296 by decide, ← Nat.mul_assoc, Nat.mul_comm]
      rintro e w2 ⟨mm, _, rfl, hn1, hx⟩
      go_wp2
      go_ret
      exact ⟨A1, mm, c1, rfl, hn1, Ext.trans hB1 hx⟩
end Go.Proofs.YtkljejejabikiaaGreatDoor

/- The walks of package big's numbers from 0 on, sixth part: shr, bitLen, zeros, short. -/
namespace Go.Proofs.YtkljejejabikiaaGreatDoor
open Go Go.RowKit Cusp

/-- A word shifted down, with the one above. -/
theorem shr_step {D : List Int} (hw : Words D) {out : List Int} {k r : Nat} (hr : r < 32) (hlen : out.length = k) (h : lv out = lv D / 2 ^ r % 4294967296 ^ k) {v : Int} (hv : v = ix D k + 4294967296 * ix D (k + 1)) :
    lv (out ++ [v / 2 ^ r % 4294967296]) = lv D / 2 ^ r % 4294967296 ^ (k + 1) ∧ 0 ≤ v / 2 ^ r % 4294967296 ∧ v / 2 ^ r % 4294967296 < 4294967296 := by
  have h1 := ix_words hw k
  have h2 := ix_words hw (k + 1)
  obtain ⟨V, hV⟩ := Int.eq_ofNat_of_zero_le (show 0 ≤ v by omega)
  have hcp : ((2 : Int) ^ r) = ((2 ^ r : Nat) : Int) := by rw [Int.natCast_pow]; rfl
  refine ⟨?_, by omega, by omega⟩
  rw [lv_snoc, hlen, h, Nat.pow_succ, Nat.mod_mul]
  congr 1
  congr 1
  have e0 : (v / 2 ^ r % 4294967296).toNat = V / 2 ^ r % 4294967296 := by
    rw [hV, hcp, ← Int.natCast_ediv]; omega
  rw [e0, Nat.div_div_eq_div_mul, Nat.mul_comm, ← Nat.div_div_eq_div_mul, lv_div hw k, lv_drop_step, lv_drop_step]
  have eV : V = (ix D k).toNat + 4294967296 * (ix D (k + 1)).toNat := by omega
  generalize lv (List.drop (k + 1 + 1) D) = Y
  have e1 : (ix D k).toNat + 4294967296 * ((ix D (k + 1)).toNat + 4294967296 * Y) = V + 2 ^ r * (4294967296 * (2 ^ (32 - r) * Y)) := by
    have hs := two_pow_split hr
    have : 2 ^ r * (4294967296 * (2 ^ (32 - r) * Y)) = 4294967296 * (2 ^ (32 - r) * 2 ^ r * Y) := by
      rw [Nat.mul_left_comm, Nat.mul_comm (2 ^ (32 - r)) (2 ^ r), Nat.mul_assoc]
    rw [this, ← hs, eV]; omega
  rw [e1, Nat.add_mul_div_left _ _ (Nat.two_pow_pos r)]
  omega

/-- A word and the one above it. -/
theorem or_high {x y : Int} (hx0 : 0 ≤ x) (hx1 : x < 4294967296) (hy0 : 0 ≤ y) (hy1 : y < 4294967296) : bits .or .u64 x (y * 4294967296) = x + 4294967296 * y := by
  rw [u64_or x (y * 4294967296) hx0 (by omega) (by omega) (by omega)]
  have h := Nat.two_pow_add_eq_or_of_lt (i := 32) (b := x.toNat) (by omega) y.toNat
  have e : (y * 4294967296).toNat = 2 ^ 32 * y.toNat := by omega
  rw [e, Nat.or_comm, ← h]; omega

set_option maxHeartbeats 2000000 in
set_option maxRecDepth 100000 in
theorem shr_walk (A : Option Addr) (n c a K : Nat) (w : World) (ha : Nt w A n c a) (hn : n ≤ 1000000000) (hK : K ≤ 10000000000) (n0 : K / 32 < n) :
    Calls Tryz.prog 278 #[.slice A n c, .int .u64 (K : Int)] w fun e w' => ∃ A' n' c', e = .returned (.slice A' n' c') ∧ Nt w' A' n' c' (a / 2 ^ K) ∧ Ext w w' := by
  have L1 := Lib.hid ha.len
  have C1 := ha.cap
  have C2 := ha.big
  obtain ⟨q, hq⟩ : ∃ q, q = K / 32 := ⟨_, rfl⟩
  obtain ⟨r, hr⟩ : ∃ r, r = K % 32 := ⟨_, rfl⟩
  have hq1 : q < n := by omega
  obtain ⟨i0, hi, hz0⟩ := Option.map_eq_some_iff.1 info_u32
  simp only [Prod.mk.injEq] at hz0
  obtain ⟨A1, hcut, hA1⟩ := cut_from (P := Tryz.prog) 103 71 .u64 Tryz.underlying103 hi hz0.2.1 A n c q (by omega)
  rw [show ((q : Nat) : Int) = (K : Int) / 32 by omega] at hcut
  clear hi hz0 i0
  obtain ⟨n2, hn2⟩ : ∃ n2, n2 = n - q := ⟨_, rfl⟩
  obtain ⟨c2, hc2⟩ : ∃ c2, c2 = c - q := ⟨_, rfl⟩
  rw [← hn2, ← hc2] at hcut
  have hD := hA1 w .u32 (wd a) ha
  rw [← hn2, ← hc2] at hD
  clear hA1
  have hmk := make_room (P := Tryz.prog) 103 71 .u32 4 Tryz.underlying103 info_u32 (by omega) n2 (by omega)
  have hr32 : r < 32 := by omega
  have hn20 : 0 < n2 := by omega
  have hn29 : n2 ≤ 1000000000 := by omega
  have hle : (n : Int) ≤ (K : Int) / 32 ↔ False := by simp; omega
  have HQ := Lib.hid hq; clear hq
  have HR := Lib.hid hr; clear hr
  have H2 := Lib.hid hn2; clear hn2
  have H3 := Lib.hid hc2; clear hc2
  go_enter Tryz.func278, Tryz.ntmps278
  go_wp2
  have hDw := words_drop (words_wd a) q
  have DL := Lib.hid hD.len
  go_loopw [5, 27] (fun out i w' => ∃ (k : Nat) (l : List Int), k ≤ n2 ∧ i = .int .i64 k ∧ Words l ∧ l.length = k ∧ lv l = lv ((wd a).drop q) / 2 ^ r % 4294967296 ^ k ∧
      Own w.heap.size w' 71 .u32 out l ∧ Below w.heap.size w w' ∧ w.heap.size ≤ w'.heap.size) (fun _ i _ => n2 - (intOf i).toNat)
  case atStart => exact ⟨0, [], by omega, rfl, words_nil, rfl, by simp [lv, Nat.mod_one], own_room w _ _ _ _ (Nat.le_refl _) (by omega), (Below.refl _ _).alloc (Nat.le_refl _) _, by simp⟩
  case round =>
    obtain ⟨k, l, hk, rfl, hwl, hlen, hlv, hO, hB, hsz⟩ := hrel
    have HL := Lib.hid hlv; clear hlv
    have HN := Lib.hid hlen; clear hlen
    by_cases hlt : k < n2
    · obtain ⟨b1, o1, rfl, hx⟩ := (hD.ext (w' := wr) hB).cell hn20
      have x1 := hx k hlt
      have r1 := ix_words hDw k
      have r2 := ix_words hDw (k + 1)
      by_cases hk1 : k + 1 < n2
      · have x2 := hx (k + 1) hk1
        clear hx
        have hk1' : (k : Int) + 1 < n2 := by omega
        have hidx : ((k : Int) + 1).toNat = k + 1 := by omega
        go_wp2_with (at_builtin; refine append_one (w0 := w) w.heap.size rfl _ _ 103 4 rfl Tryz.underlying103 info_u32 (by omega) _ l rfl rfl hO hB hsz ?c1 ?_)
        case c1 => rw [HN.out]; omega
        intro v1 w1 hO1 hB1 hsz1 _ _
        rw [← HR.out, or_high r1.1 r1.2 r2.1 r2.2] at hO1
        have hs := shr_step hDw hr32 HN.out HL.out (k := k) rfl
        have HS := Lib.hid hs; clear hs
        go_wp2
        go_roundw
        case rel => exact ⟨k + 1, _, by omega, by go_num, words_snoc hwl HS.out.2.1 HS.out.2.2, by simp [HN.out], HS.out.1, hO1, hB1, hsz1⟩
        case measure => simp [intOf]; omega
      · have hz : ix ((wd a).drop q) (k + 1) = 0 := ix_of_ge (by rw [DL.out]; omega)
        have HZ := Lib.hid hz; clear hz
        clear hx
        have hk1' : ¬ (k : Int) + 1 < n2 := by omega
        go_wp2_with (at_builtin; refine append_one (w0 := w) w.heap.size rfl _ _ 103 4 rfl Tryz.underlying103 info_u32 (by omega) _ l rfl rfl hO hB hsz ?c2 ?_)
        case c2 => rw [HN.out]; omega
        intro v1 w1 hO1 hB1 hsz1 _ _
        rw [← HR.out] at hO1
        have hs := shr_step hDw hr32 HN.out HL.out (k := k) rfl
        rw [HZ.out, Int.mul_zero, Int.add_zero] at hs
        have HS := Lib.hid hs; clear hs
        go_wp2
        go_roundw
        case rel => exact ⟨k + 1, _, by omega, by go_num, words_snoc hwl HS.out.2.1 HS.out.2.2, by simp [HN.out], HS.out.1, hO1, hB1, hsz1⟩
        case measure => simp [intOf]; omega
    · have hkn : k = n2 := by omega
      subst hkn
      obtain ⟨A2, n3, c3, hv, hr1⟩ := hO.formN
      subst hv
      go_wp2_with fail
      refine (trim_nt A2 n3 c3 (a / 2 ^ K) _ _ hr1 hwl ?_).mono ?_
      · have hlt2 : lv ((wd a).drop q) / 2 ^ r < 4294967296 ^ k := by
          have h1 := lv_lt hDw
          rw [DL.out] at h1
          exact Nat.lt_of_le_of_lt (Nat.div_le_self _ _) h1
        rw [HL.out, Nat.mod_eq_of_lt hlt2, ← lv_div (words_wd a), lv_wd, Nat.div_div_eq_div_mul]
        have hK2 : K = 32 * q + r := by rw [HQ.out, HR.out]; omega
        rw [hK2, Nat.pow_add, Nat.pow_mul, show (2 : Nat) ^ 32 = 4294967296 by decide]
      rintro e w2 ⟨mm, _, rfl, hn1, hx⟩
      go_wp2
      go_ret
      exact ⟨A2, mm, c3, rfl, hn1, Ext.trans hB hx⟩

set_option maxHeartbeats 400000 in
/-- Shifted down, cut. -/
theorem shr_calls (A : Option Addr) (n c a K : Nat) (w : World) (ha : Nt w A n c a) (hn : n ≤ 1000000000) (hK : K ≤ 10000000000) :
    Calls Tryz.prog 278 #[.slice A n c, .int .u64 (K : Int)] w fun e w' => ∃ A' n' c', e = .returned (.slice A' n' c') ∧ Nt w' A' n' c' (a / 2 ^ K) ∧ Ext w w' := by
  by_cases h : K / 32 < n
  · exact shr_walk A n c a K w ha hn hK h
  · have h0 : a / 2 ^ K = 0 := by
      refine Nat.div_eq_of_lt ?_
      have h1 := lv_lt (words_wd a)
      rw [lv_wd, ha.len] at h1
      have h2 : (4294967296 : Nat) ^ n ≤ 2 ^ K := by
        rw [show (4294967296 : Nat) = 2 ^ 32 by decide, ← Nat.pow_mul]
        exact Nat.pow_le_pow_right (by omega) (by omega)
      omega
    have hr : Nt w none 0 0 (a / 2 ^ K) := by rw [h0]; unfold Nt; rw [wd_zero]; exact Rd.nil _ _ _ _ (by omega)
    have hle : (n : Int) ≤ (K : Int) / 32 := by omega
    go_enter Tryz.func278, Tryz.ntmps278
    go_wp2
    go_ret
    exact ⟨none, 0, 0, rfl, hr, Ext.refl _⟩

set_option maxHeartbeats 400000 in
/-- Shifted up. -/
theorem shl_calls (A : Option Addr) (n c a K : Nat) (w : World) (ha : Nt w A n c a) (hn : n ≤ 1000000000) (hK : K ≤ 10000000000) :
    Calls Tryz.prog 220 #[.slice A n c, .int .u64 (K : Int)] w fun e w' => ∃ A' n' c', e = .returned (.slice A' n' c') ∧ Nt w' A' n' c' (a * 2 ^ K) ∧ Ext w w' := by
  rcases Nat.eq_zero_or_pos n with h | h
  · subst h
    have h0 : a = 0 := wd_eq_nil.1 (List.eq_nil_of_length_eq_zero ha.len)
    have hr : Nt w none 0 0 (a * 2 ^ K) := by rw [h0, Nat.zero_mul]; unfold Nt; rw [wd_zero]; exact Rd.nil _ _ _ _ (by omega)
    go_enter Tryz.func220, Tryz.ntmps220
    go_wp2
    go_ret
    exact ⟨none, 0, 0, rfl, hr, Ext.refl _⟩
  · exact shl_walk A n c a K w ha hn hK h
end Go.Proofs.YtkljejejabikiaaGreatDoor

/- Plain facts: how many bits a number has; how many noughts stand at its end; dividing by one word. -/
namespace Cusp
open Go

/-- How many bits a number has. -/
def bl (n : Nat) : Nat := if n = 0 then 0 else Nat.log2 n + 1
theorem bl_zero : bl 0 = 0 := rfl
theorem lt_bl (n : Nat) : n < 2 ^ bl n := by
  unfold bl; split
  · rename_i h; subst h; decide
  · exact Nat.lt_log2_self
theorem bl_le {n : Nat} (h : n ≠ 0) : 2 ^ (bl n - 1) ≤ n := by
  unfold bl; rw [if_neg h]; exact Nat.log2_self_le h
theorem bl_pos {n : Nat} (h : n ≠ 0) : 0 < bl n := by unfold bl; rw [if_neg h]; omega
theorem bl_le_of_lt {n k : Nat} (h : n < 2 ^ k) : bl n ≤ k := by
  rcases Nat.eq_zero_or_pos n with h0 | h0
  · subst h0; rw [bl_zero]; omega
  · have h1 := bl_le (n := n) (by omega)
    have h2 : 2 ^ (bl n - 1) < 2 ^ k := Nat.lt_of_le_of_lt h1 h
    have := (Nat.pow_lt_pow_iff_right (a := 2) (by omega)).1 h2
    omega
theorem bl_ge_of_le {n k : Nat} (h : 2 ^ k ≤ n) : k < bl n := by
  have h1 := lt_bl n
  have h2 : 2 ^ k < 2 ^ bl n := Nat.lt_of_le_of_lt h h1
  exact (Nat.pow_lt_pow_iff_right (a := 2) (by omega)).1 h2
theorem bl_eq {n k : Nat} (h1 : 2 ^ k ≤ n) (h2 : n < 2 ^ (k + 1)) : bl n = k + 1 := by
  have := bl_ge_of_le h1
  have := bl_le_of_lt h2
  omega
theorem bl_mul_pow {n : Nat} (h : n ≠ 0) (k : Nat) : bl (n * 2 ^ k) = bl n + k := by
  have h1 := lt_bl n
  have h2 := bl_le h
  have h3 := bl_pos h
  have e : bl n + k = bl n - 1 + k + 1 := by omega
  rw [e]
  refine bl_eq ?_ ?_
  · rw [Nat.pow_add]; exact Nat.mul_le_mul_right _ h2
  · rw [show bl n - 1 + k + 1 = bl n + k by omega, Nat.pow_add]; exact Nat.mul_lt_mul_of_pos_right h1 (Nat.two_pow_pos k)
theorem bl_mono {a b : Nat} (h : a ≤ b) : bl a ≤ bl b := bl_le_of_lt (Nat.lt_of_le_of_lt h (lt_bl b))

theorem bitLenAux_spec : ∀ (f x : Nat), x < 2 ^ f → Lib.bitLenAux f x = bl x
  | 0, x, h => by
    have : x = 0 := by simpa using h
    subst this; rfl
  | f + 1, x, h => by
    unfold Lib.bitLenAux
    split
    · rename_i h0; subst h0; rfl
    · rename_i h0
      rw [bitLenAux_spec f (x / 2) (by rw [Nat.pow_succ] at h; omega)]
      rcases Nat.lt_or_ge x 2 with h2 | h2
      · have : x = 1 := by omega
        subst this; rfl
      · have e : bl (x / 2) = Nat.log2 (x / 2) + 1 := by unfold bl; rw [if_neg (by omega)]
        have e2 : bl x = Nat.log2 x + 1 := by unfold bl; rw [if_neg h0]
        rw [e, e2, Nat.log2_def x, if_pos h2]; omega
theorem bitLen_eq {x : Nat} (h : x < 18446744073709551616) : Lib.bitLen x = bl x := bitLenAux_spec 64 x (by simpa using h)

/-- The bits of words: by the highest one. -/
theorem bl_words {a n : Nat} (hn : (wd a).length = n + 1) : bl a = 32 * n + bl (ix (wd a) n).toNat := by
  have hw := words_wd a
  have hlast := last_of_trim (trim_wd a) (by omega)
  rw [hn, Nat.add_sub_cancel] at hlast
  have hx := ix_words hw n
  have ha := lv_drop (wd a) n (by omega)
  rw [lv_wd, List.drop_eq_getElem_cons (by omega), List.drop_eq_nil_of_le (by omega), ← ix_of_lt (by omega)] at ha
  simp only [lv, Nat.mul_zero, Nat.add_zero] at ha
  have hlo := lv_take_lt hw n
  have e32 : (4294967296 : Nat) ^ n = 2 ^ (32 * n) := by rw [Nat.pow_mul]
  generalize hX : (ix (wd a) n).toNat = X at *
  have hX0 : X ≠ 0 := by omega
  have h1 := lt_bl X
  have h2 := bl_le hX0
  have h3 := bl_pos hX0
  have e : 32 * n + bl X = 32 * n + (bl X - 1) + 1 := by omega
  rw [e]
  rw [e32] at ha hlo
  refine bl_eq ?_ ?_
  · rw [Nat.pow_add]
    have := Nat.mul_le_mul_left (2 ^ (32 * n)) h2
    omega
  · rw [show 32 * n + (bl X - 1) + 1 = 32 * n + bl X by omega, Nat.pow_add]
    have : 2 ^ (32 * n) * X + 2 ^ (32 * n) ≤ 2 ^ (32 * n) * 2 ^ bl X := by
      rw [← Nat.mul_succ]; exact Nat.mul_le_mul_left _ h1
    omega

/-! ### Dividing by one word -/
theorem short_step {a out : List Int} {k d rest : Nat} (hw : Words a) (hd : 0 < d) (hr : rest < d) (h : lv (out.drop (k + 1)) * d + rest = lv (a.drop (k + 1))) (hk : k < out.length) {x : Nat} (hx : x = rest * 4294967296 + (ix a k).toNat) :
    lv ((out.set k ((x / d : Nat) : Int)).drop k) * d + x % d = lv (a.drop k) ∧ x % d < d ∧ (d < 4294967296 → x / d < 4294967296) := by
  have h1 := ix_words hw k
  refine ⟨?_, Nat.mod_lt _ hd, fun hd2 => ?_⟩
  · rw [lv_drop_step, lv_drop_step a k, ix_set_same hk, ← h]
    have e : (out.set k ((x / d : Nat) : Int)).drop (k + 1) = out.drop (k + 1) := by
      rw [List.drop_set, if_pos (by omega)]
    rw [e]
    have hdm := Nat.div_add_mod x d
    simp only [Int.toNat_natCast, Nat.add_mul]
    have e2 : 4294967296 * lv (List.drop (k + 1) out) * d = 4294967296 * (lv (List.drop (k + 1) out) * d) := by rw [Nat.mul_assoc]
    rw [e2, Nat.mul_comm (x / d) d, Nat.mul_add]; omega
  · rw [Nat.div_lt_iff_lt_mul hd]
    have : (rest + 1) * 4294967296 ≤ d * 4294967296 := Nat.mul_le_mul_right _ hr
    rw [Nat.mul_comm 4294967296 d]; omega
end Cusp

/- The walks of package big's numbers from 0 on, seventh part: bitLen, short. -/
namespace Go.Proofs.YtkljejejabikiaaGreatDoor
open Go Go.RowKit Cusp

set_option maxHeartbeats 400000 in
theorem bitLen_calls (A : Option Addr) (n c a : Nat) (w : World) (ha : Nt w A n c a) (hn : n ≤ 1000000000) :
    Calls Tryz.prog 144 #[.slice A n c] w fun e w' => e = .returned (.int .i64 (bl a)) ∧ Ext w w' := by
  have L1 := Lib.hid ha.len
  cases n with
  | zero =>
    have h0 : a = 0 := wd_eq_nil.1 (List.eq_nil_of_length_eq_zero L1.out)
    go_enter Tryz.func144, Tryz.ntmps144
    go_wp2
    go_ret
    exact ⟨by rw [h0, bl_zero]; rfl, Ext.refl _⟩
  | succ n =>
    obtain ⟨b1, o1, rfl, x1⟩ := ha.at_ n (by omega)
    have r1 := ix_words (words_wd a) n
    have t1 : (((n + 1 : Nat) : Int) == 0) = false := by simp; omega
    rw [show ((n + 1 : Nat) : Int) = (n : Int) + 1 by omega] at t1
    go_enter Tryz.func144, Tryz.ntmps144
    go_wp2_with fail
    refine (Tryz.bits_Len32 _ _ r1.1 (by omega)).mono ?_
    rintro e w' ⟨rfl, rfl⟩
    have hb := bl_le_of_lt (n := (ix (wd a) n).toNat) (k := 32) (by omega)
    have hl := Lib.hid (bitLen_eq (x := (ix (wd a) n).toNat) (by omega))
    rw [hl.out]
    go_wp2
    go_ret
    refine ⟨ret_int ?_, Ext.refl _⟩
    rw [bl_words L1.out]; omega

/-- A word with what is left above it. -/
theorem or_low {r : Nat} {x : Int} (hr : r < 4294967296) (h0 : 0 ≤ x) (h1 : x < 4294967296) : bits .or .u64 ((r : Int) * 4294967296) x = ((r * 4294967296 + x.toNat : Nat) : Int) := by
  rw [u64_or _ x (by omega) (by omega) h0 (by omega)]
  have h := Nat.two_pow_add_eq_or_of_lt (i := 32) (b := x.toNat) (by omega) r
  have e : ((r : Int) * 4294967296).toNat = 2 ^ 32 * r := by omega
  rw [e, ← h]; omega

set_option maxHeartbeats 2000000 in
set_option maxRecDepth 100000 in
/-- Divided by one word. -/
theorem short_calls (A : Option Addr) (n c a d : Nat) (w : World) (ha : Nt w A n c a) (hn : n ≤ 1000000000) (d0 : 0 < d) (d1 : d < 4294967296) :
    Calls Tryz.prog 272 #[.slice A n c, .int .u32 (d : Int)] w fun e w' => ∃ n' c', e = .returned (.tuple #[.slice (some ⟨w.heap.size, 0, none⟩) n' c', .int .u32 ((a % d : Nat) : Int)]) ∧ Nt w' (some ⟨w.heap.size, 0, none⟩) n' c' (a / d) ∧ Ext w w' := by
  have L1 := Lib.hid ha.len
  have C1 := ha.cap
  have C2 := ha.big
  have hmk := make_all (P := Tryz.prog) 103 71 .u32 4 Tryz.underlying103 info_u32 (by omega) n (by omega)
  go_enter Tryz.func272, Tryz.ntmps272
  go_wp2
  go_loopw [7, 8] (fun rs i w' => ∃ (k : Nat) (l : List Int) (rest : Nat), k ≤ n ∧ i = .int .i64 ((k : Int) - 1) ∧ rs = .int .u64 (rest : Int) ∧ rest < d ∧ Words l ∧ l.length = n ∧ lv (l.drop k) * d + rest = lv ((wd a).drop k) ∧
      Own w.heap.size w' 71 .u32 (.slice (some ⟨w.heap.size, 0, none⟩) n n) l ∧ Below w.heap.size w w' ∧ w.heap.size ≤ w'.heap.size) (fun _ i _ => (intOf i + 1).toNat)
  case atStart => exact ⟨n, List.replicate n 0, 0, by omega, rfl, rfl, d0, words_replicate _, by simp, by rw [List.drop_eq_nil_of_le (by simp), List.drop_eq_nil_of_le (by rw [L1.out]; omega)]; simp [lv], own_made w _ _ _ _ (Nat.le_refl _) (by omega), (Below.refl _ _).alloc (Nat.le_refl _) _, by simp⟩
  case round =>
    obtain ⟨k, l, rest, hk, rfl, rfl, hrd, hwl, hlen, hlv, hO, hB, hsz⟩ := hrel
    have HL := Lib.hid hlv; clear hlv
    have HN := Lib.hid hlen; clear hlen
    cases k with
    | zero =>
      rw [show ((0 : Nat) : Int) - 1 = -1 from rfl]
      go_wp2_with fail
      have hq : lv l = a / d ∧ rest = a % d := by
        have h := HL.out
        simp only [List.drop_zero, lv_wd] at h
        have h1 : a / d = lv l := by
          rw [← h, Nat.mul_comm, Nat.mul_add_div d0, Nat.div_eq_of_lt hrd, Nat.add_zero]
        have h2 : a % d = rest := by
          rw [← h, Nat.mul_comm, Nat.mul_add_mod, Nat.mod_eq_of_lt hrd]
        exact ⟨h1.symm, h2.symm⟩
      have HQ := Lib.hid hq; clear hq
      refine (trim_nt _ _ _ (a / d) l _ hO.rd hwl HQ.out.1).mono ?_
      rintro e w1 ⟨mm, _, rfl, hn1, hx⟩
      go_wp2
      go_ret2
      refine ⟨mm, _, ?_, hn1, Ext.trans hB hx⟩
      rw [← HQ.out.2]; rfl
    | succ k =>
      rw [show ((k + 1 : Nat) : Int) - 1 = (k : Int) by omega]
      obtain ⟨b1, o1, rfl, x1⟩ := (ha.ext (w' := wr) hB).at_ k (by omega)
      have r1 := ix_words (words_wd a) k
      have hkn : (k : Int) < n := by omega
      obtain ⟨x3, f3⟩ := hO.at_ k (by rw [HN.out]; omega)
      have hor := or_low (r := rest) (by omega) r1.1 r1.2
      have hst := short_step (words_wd a) d0 hrd HL.out (by rw [HN.out]; omega) rfl
      obtain ⟨X, hX⟩ : ∃ X, X = rest * 4294967296 + (ix (wd a) k).toNat := ⟨_, rfl⟩
      rw [← hX] at hor hst
      have hq1 := hst.2.2 d1
      have HS := Lib.hid hst; clear hst hX
      have hdv : (X : Int).tdiv (d : Int) = ((X / d : Nat) : Int) := (Int.ofNat_tdiv X d).symm
      have hmd : (X : Int).tmod (d : Int) = ((X % d : Nat) : Int) := (Int.ofNat_tmod X d).symm
      go_wp2
      go_roundw
      case rel =>
        have hval : IntKind.u64.wrap ((X : Int) / (d : Int)) % 4294967296 = ((X / d : Nat) : Int) := by
          rw [IntKind.wrap_u64, ← Int.natCast_ediv]; generalize X / d = q at hq1 ⊢; omega
        rw [hval]
        have hq0 : (0 : Int) ≤ ((X / d : Nat) : Int) ∧ ((X / d : Nat) : Int) < 4294967296 := by generalize X / d = q at hq1 ⊢; omega
        exact ⟨k, _, X % d, by omega, rfl, rfl, HS.out.2.1, words_set hwl _ hq0.1 hq0.2, by simp [HN.out], HS.out.1, hO.store _ _, hB.setCell (Nat.le_refl _) _, by rw [size_setCell]; exact hsz⟩
      case measure => simp [intOf]
end Go.Proofs.YtkljejejabikiaaGreatDoor

/- Plain facts for long division: the guess of a digit; taking off so many times the divisor; putting it back. Nothing of Go in it. -/
namespace Cusp
open Go

/-- The guess by three digits against two is the digit, or one more. -/
theorem guess_good {U V U3 V2 P g : Nat} (hU1 : U3 * P ≤ U) (hU2 : U < (U3 + 1) * P) (hV1 : V2 * P ≤ V) (hV2 : V < (V2 + 1) * P)
    (hg : g * V2 ≤ U3) (hmax : ∀ x, x * V2 ≤ U3 → x ≤ U / V → x ≤ g) (hgW : g * P ≤ V) (hV : 0 < V) : U / V ≤ g ∧ g ≤ U / V + 1 := by
  constructor
  · refine hmax _ ?_ (Nat.le_refl _)
    have h1 : U / V * V ≤ U := Nat.div_mul_le_self U V
    have h2 : U / V * V2 * P ≤ U := by
      rw [Nat.mul_assoc]; exact Nat.le_trans (Nat.mul_le_mul_left _ hV1) h1
    have h3 : U / V * V2 * P < (U3 + 1) * P := Nat.lt_of_le_of_lt h2 hU2
    have := Nat.lt_of_mul_lt_mul_right h3
    omega
  · have h1 : g * V ≤ U + V := by
      have h2 : g * V ≤ g * ((V2 + 1) * P) := Nat.mul_le_mul_left _ (Nat.le_of_lt hV2)
      have h3 : g * ((V2 + 1) * P) = g * V2 * P + g * P := by rw [Nat.add_mul, Nat.mul_add, Nat.one_mul, Nat.mul_assoc]
      have h4 : g * V2 * P ≤ U3 * P := Nat.mul_le_mul_right _ hg
      omega
    have h5 : U < (U / V + 1) * V := by
      have := Nat.div_add_mod U V
      have := Nat.mod_lt U hV
      rw [Nat.add_mul, Nat.one_mul, Nat.mul_comm (U / V) V]; omega
    have h6 : g * V < (U / V + 2) * V := by
      rw [show U / V + 2 = (U / V + 1) + 1 by omega, Nat.add_mul (U / V + 1), Nat.one_mul]; omega
    have := Nat.lt_of_mul_lt_mul_right h6
    omega

theorem guess_less' {W g v1 v2 top u2 : Nat} (hle : g * v1 ≤ top) (h : (top - g * v1) * W + u2 < g * v2) : top * W + u2 < g * (v1 * W + v2) := by
  obtain ⟨r, hr⟩ : ∃ r, top = g * v1 + r := ⟨top - g * v1, by omega⟩
  subst hr
  rw [Nat.add_sub_cancel_left] at h
  rw [Nat.mul_add, ← Nat.mul_assoc, Nat.add_mul]; omega
theorem guess_fits' {W g v1 v2 top u2 : Nat} (hle : g * v1 ≤ top) (hg : g < W) (hv : v2 < W) (h : W ≤ top - g * v1 ∨ g * v2 ≤ (top - g * v1) * W + u2) : g * (v1 * W + v2) ≤ top * W + u2 := by
  obtain ⟨r, hr⟩ : ∃ r, top = g * v1 + r := ⟨top - g * v1, by omega⟩
  subst hr
  rw [Nat.add_sub_cancel_left] at h
  rw [Nat.mul_add, ← Nat.mul_assoc, Nat.add_mul]
  rcases h with h | h
  · have h1 : g * v2 ≤ W * W := Nat.mul_le_mul (Nat.le_of_lt hg) (Nat.le_of_lt hv)
    have h2 : W * W ≤ r * W := Nat.mul_le_mul_right _ h
    omega
  · omega
/-- One round of the guess: too great. -/
theorem guess_less {g v1 v2 top u2 : Nat} (hle : g * v1 ≤ top) (h : (top - g * v1) * 4294967296 + u2 < g * v2) : top * 4294967296 + u2 < g * (v1 * 4294967296 + v2) := guess_less' hle h
/-- It fits. -/
theorem guess_fits {g v1 v2 top u2 : Nat} (hle : g * v1 ≤ top) (hg : g < 4294967296) (hv : v2 < 4294967296) (h : 4294967296 ≤ top - g * v1 ∨ g * v2 ≤ (top - g * v1) * 4294967296 + u2) : g * (v1 * 4294967296 + v2) ≤ top * 4294967296 + u2 := guess_fits' hle hg hv h

/-- One word of what is taken off. -/
theorem off_step {u u0 v : List Int} {i g carry borrow : Nat} (hu0 : Words u0) (hv : Words v) (hg : g < 4294967296) (hc : carry < 4294967296) (hb : borrow ≤ 1) (hi : i < u.length)
    (h : lv (u.take i) + g * lv (v.take i) = lv (u0.take i) + 4294967296 ^ i * (borrow + carry))
    {c2 t : Nat} (hc2 : c2 = carry + g * (ix v i).toNat) (ht : t = c2 % 4294967296 + borrow) :
    lv ((u.set i (((ix u0 i) - t) % 4294967296)).take (i + 1)) + g * lv (v.take (i + 1)) = lv (u0.take (i + 1)) + 4294967296 ^ (i + 1) * ((if (ix u0 i) < t then 1 else 0) + c2 / 4294967296) ∧ c2 / 4294967296 < 4294967296 ∧ c2 < 18446744073709551616 := by
  have h1 := ix_words hu0 i
  have h2 := ix_words hv i
  have hprod : g * (ix v i).toNat ≤ 4294967295 * 4294967295 := Nat.mul_le_mul (by omega) (by omega)
  refine ⟨?_, by omega, by omega⟩
  rw [lv_take_succ, lv_take_succ v, lv_take_succ u0, ix_set_same hi]
  have e0 : (u.set i ((ix u0 i - t) % 4294967296)).take i = u.take i := by rw [List.take_set_of_le (by omega)]
  rw [e0, Nat.mul_add, Nat.pow_succ, Nat.mul_assoc]
  have e : ((ix u0 i - t) % 4294967296).toNat + borrow + carry + g * (ix v i).toNat = (ix u0 i).toNat + 4294967296 * ((if ix u0 i < t then 1 else 0) + c2 / 4294967296) := by
    split
    · have : (ix u0 i - t) % 4294967296 = ix u0 i - t + 4294967296 := by omega
      rw [this]; omega
    · have : (ix u0 i - t) % 4294967296 = ix u0 i - t := by omega
      rw [this]; omega
  have e2 := congrArg (4294967296 ^ i * ·) e
  simp only [Nat.mul_add] at e2
  have e3 : g * (4294967296 ^ i * (ix v i).toNat) = 4294967296 ^ i * (g * (ix v i).toNat) := by rw [Nat.mul_left_comm]
  rw [e3]
  simp only [Nat.mul_add] at h ⊢
  omega

/-- One word of what is put back. -/
theorem back_step {u u0 v : List Int} {i back : Nat} (hu0 : Words u0) (hv : Words v) (hb : back ≤ 1) (hi : i < u.length)
    (h : lv (u.take i) + 4294967296 ^ i * back = lv (u0.take i) + lv (v.take i)) {b2 : Nat} (hb2 : b2 = back + (ix u0 i).toNat + (ix v i).toNat) :
    lv ((u.set i ((b2 % 4294967296 : Nat) : Int)).take (i + 1)) + 4294967296 ^ (i + 1) * (b2 / 4294967296) = lv (u0.take (i + 1)) + lv (v.take (i + 1)) ∧ b2 / 4294967296 ≤ 1 := by
  have h1 := ix_words hu0 i
  have h2 := ix_words hv i
  refine ⟨?_, by omega⟩
  rw [lv_take_succ, lv_take_succ v, lv_take_succ u0, ix_set_same hi, Int.toNat_natCast]
  have e0 : (u.set i ((b2 % 4294967296 : Nat) : Int)).take i = u.take i := by rw [List.take_set_of_le (by omega)]
  rw [e0, Nat.pow_succ, Nat.mul_assoc]
  have e : b2 % 4294967296 + 4294967296 * (b2 / 4294967296) = back + (ix u0 i).toNat + (ix v i).toNat := by omega
  have e2 := congrArg (4294967296 ^ i * ·) e
  simp only [Nat.mul_add] at e2
  omega
end Cusp
