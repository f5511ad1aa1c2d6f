/- Contracts of the program's functions, and plain laws on numbers and texts (joined: Head). -/
import Derived.Test.YtkljejejabikiaaGreatDoorV06
import Derived.Test.YtkljejejabikiaaGreatDoorCards
import Derived.Test.YtkljejejabikiaaGreatDoorTie
import Derived.WalkKit
import Derived.ProofKit
import Derived.OpenShut
import Derived.LaidMore
import Derived.Lay
import Derived.SevenTiedAt
import Derived.Stop.Joined
import Derived.Lib.LaidU8
import GoSem.PinnedTables
import Derived.Deep.DeepHandedRow

/- What a row's list of variables gives to the walks, and a world in which the list is met. -/
namespace Go.Proofs.YtkljejejabikiaaGreatDoor
open Go Go.RowKit Cusp Go.Lib

/-- The list: every row of the seat bears it. -/
def laidL : List (String × DataW Unit) := Rows.decimModesRow.laid

theorem laid_plain {W : World} (h : laidMetH Tryz.prog laidL W) : laidMet Tryz.prog laidL W := by
  rw [MakeChecks.laidMetH_plain _ _ _ (by kernel_rfl)] at h
  exact h

/-- An array of integers, wherever it stands on the list. -/
theorem tab_of {W : World} {n : String} {d : DataW Unit} {k : IntKind} {zs : List Int} {g : Nat} {t e : TypeId} {m : Nat} (h : VarReads Tryz.prog W n d) (hd0 : d = tabData k zs)
    (hg : Tryz.prog.globalNamed n = some g) (hty : (Tryz.prog.globals[g]?).map (·.type) = some t) (ht : Tryz.prog.underlying t = some (.array m e)) (he : Tryz.prog.underlying e = some (.int k)) (hce : Tryz.prog.cellsOf e = 1) (hct : Tryz.prog.cellsOf t = m) : TabIs Tryz.prog W n k zs := by
  subst hd0
  obtain ⟨g', t', cs, fuel, p, hg', ht', hvar, hd⟩ := h
  obtain rfl := Option.some.inj (hg.symm.trans hg')
  obtain rfl := Option.some.inj (hty.symm.trans ht')
  unfold TabIs
  rw [hvar, ← cells_of_tab ht he hce hct hd]

/-- An array of structs of integers of one kind, wherever it stands on the list. -/
theorem rows_of {W : World} {n : String} {ds : List (DataW Unit)} {k : IntKind} {g : Nat} {t e ei : TypeId} {m : Nat} {fs : Array Field} (h : VarReads Tryz.prog W n (.agg ds))
    (hg : Tryz.prog.globalNamed n = some g) (hty : (Tryz.prog.globals[g]?).map (·.type) = some t) (ht : Tryz.prog.underlying t = some (.array m e)) (he : Tryz.prog.underlying e = some (.struct fs))
    (hfs : ∀ (i : Nat) (f : Field), fs[i]? = some f → f.type = ei ∧ f.offset = i) (hei : Tryz.prog.underlying ei = some (.int k)) (hce : Tryz.prog.cellsOf ei = 1) (hct : Tryz.prog.cellsOf e = 2) (h2 : fs.size = 2)
    (i : Nat) (hi : i < m) (x y : Int) (hx : ds[i]? = some (.agg [.lit (.int k x), .lit (.int k y)])) : W.cell? ⟨g, 2 * i, none⟩ = some (.int k x) ∧ W.cell? ⟨g, 2 * i + 1, none⟩ = some (.int k y) := by
  obtain ⟨g', t', cs, fuel, p, hg', ht', hvar, hd⟩ := h
  obtain rfl := Option.some.inj (hg.symm.trans hg')
  obtain rfl := Option.some.inj (hty.symm.trans ht')
  obtain ⟨fuel', d, q, hdi, hel⟩ := array_elem ht hd i hi
  rw [hx] at hdi
  obtain rfl := Option.some.inj hdi
  rw [hct] at hel
  have hcs := ints_of_struct (zs := [x, y]) he (fun j f hj => by
    obtain ⟨a, b⟩ := hfs j f hj
    rw [a]
    exact ⟨hei, b, hce⟩) (by rw [hct, h2]) hel
  have e0 := congrArg (·[0]?) hcs
  have e1 := congrArg (·[1]?) hcs
  simp only [List.getElem?_take, List.getElem?_drop] at e0 e1
  constructor
  · rw [World.var?_cell hg hvar (2 * i), ← Array.getElem?_toList]
    simpa [Nat.mul_comm] using e0
  · rw [World.var?_cell hg hvar (2 * i + 1), ← Array.getElem?_toList]
    simpa [Nat.mul_comm] using e1

set_option maxRecDepth 100000 in
theorem MaxLen_cell {W : World} (hs : W.ShapedOpen Tryz.prog) : ∃ m, W.cell? ⟨2, 0, none⟩ = some (.int .i64 m) := by
  have hb : Tryz.prog.buildable 3 = true := by kernel_rfl
  have hc : Tryz.prog.cellTypes Tryz.prog.depth 3 = some [3] := by kernel_rfl
  have hu : Tryz.prog.underlying 3 = some (.int .i64) := by kernel_rfl
  obtain ⟨cs, hh, hsz, hr⟩ := hs.1 2 (zero := #[.int .i64 0]) (t := 3) (by decide +kernel) (by kernel_rfl)
  obtain ⟨ts, hts, _, hall⟩ := hr hb
  rw [hc] at hts
  cases hts
  have h1 : 0 < cs.size := by rw [hsz]; decide
  obtain ⟨u, hu', hok⟩ := hall 0 cs[0] (by simp [h1])
  have : u = 3 := by simpa using hu'.symm
  subst this
  have hcell : W.cell? ⟨2, 0, none⟩ = some cs[0] := by simp [World.cell?, hh, h1]
  rw [hcell]
  unfold Cell.ok at hok
  rw [hu] at hok
  cases hv : cs[0] <;> rw [hv] at hok <;> first | (rename_i k x; cases k <;> first | exact ⟨_, rfl⟩ | simp at hok) | simp at hok

theorem size_of {W : World} (hs : W.ShapedOpen Tryz.prog) : 13 ≤ W.heap.size := by
  obtain ⟨cs, hh, _⟩ := hs.1 12 (zero := Array.replicate 64 (.int .u8 0)) (t := 316) (by decide +kernel) (by kernel_rfl)
  have := (Array.getElem?_eq_some_iff.1 hh).1
  exact this

theorem first_eq : Go.Pinned.utf8First = firstData := by kernel_rfl
theorem accept_eq : Rows.laid_unicode_utf8_acceptRanges = acceptData := by kernel_rfl

set_option maxRecDepth 100000 in
theorem glib_of {W : World} (h : laidMetH Tryz.prog laidL W) (hs : W.ShapedOpen Tryz.prog) : Glib 13 W := by
  have hr := fun n d (hm : (n, d) ∈ laidL) => laidMet.reads (laid_plain h) hm
  have r32 := hr "math/bits.deBruijn32tab" Rows.laid_math_bits_deBruijn32tab (.head _)
  have r10 := hr "internal/strconv.uint64pow10" Rows.laid_internal_strconv_uint64pow10 (.tail _ (.tail _ (.tail _ (.head _))))
  have ropt := hr "internal/strconv.optimize" Rows.laid_internal_strconv_optimize (.tail _ (.tail _ (.head _)))
  have racc := hr "unicode/utf8.acceptRanges" Rows.laid_unicode_utf8_acceptRanges (.tail _ (.tail _ (.tail _ (.tail _ (.head _)))))
  have rpt := hr "internal/strconv.pow10Tab" Rows.laid_internal_strconv_pow10Tab (.tail _ (.tail _ (.tail _ (.tail _ (.tail _ (.tail _ (.tail _ (.tail _ (.head _)))))))))
  have rfst := hr "unicode/utf8.first" Rows.laid_unicode_utf8_first (.tail _ (.tail _ (.tail _ (.tail _ (.tail _ (.tail _ (.tail _ (.tail _ (.tail _ (.tail _ (.head _)))))))))))
  have t32 := tab_of (k := .u8) (zs := Lib.deBruijn32tab.map (fun (n : Nat) => (n : Int))) (g := 11) (t := 233) (e := 5) (m := 32) r32 (by kernel_rfl) (by kernel_rfl) (by kernel_rfl) (by kernel_rfl) (by kernel_rfl) (by kernel_rfl) (by kernel_rfl)
  have t10 := tab_of (k := .u64) (zs := Lib.pow10Tab) (g := 7) (t := 287) (e := 86) (m := 20) r10 (by kernel_rfl) (by kernel_rfl) (by kernel_rfl) (by kernel_rfl) (by kernel_rfl) (by kernel_rfl) (by kernel_rfl)
  have tf := tab_of (k := .u8) (zs := firstTab) (g := 5) (t := 255) (e := 5) (m := 256) rfst first_eq (by kernel_rfl) (by kernel_rfl) (by kernel_rfl) (by kernel_rfl) (by kernel_rfl) (by kernel_rfl)
  refine ⟨⟨size_of hs, by omega, ?_⟩, ⟨?_, ?_⟩, MaxLen_cell hs, t10, ?_, ?_⟩
  · intro j hj
    have := t32.cell (g := 11) (by kernel_rfl) j (by simpa using hj)
    rw [this, List.getD_eq_getElem?_getD, List.getD_eq_getElem?_getD, List.getElem?_map, List.getElem?_eq_getElem hj]
    rfl
  · intro c hc
    have := tf.cell (g := 5) (by kernel_rfl) c (by simp [firstTab]; omega)
    rw [this]
    simp [firstTab, List.getD_eq_getElem?_getD, hc]
  · intro i hi
    rw [accept_eq] at racc
    refine rows_of racc (t := 258) (e := 257) (ei := 5) (m := 16) (by kernel_rfl) (by kernel_rfl) (by kernel_rfl) Tryz.underlying257 (fun j f hj => by
      match j, hj with
      | 0, hj => simp at hj; subst hj; exact ⟨rfl, rfl⟩
      | 1, hj => simp at hj; subst hj; exact ⟨rfl, rfl⟩
      | j + 2, hj => simp at hj) (by kernel_rfl) (by kernel_rfl) (by kernel_rfl) rfl i hi (accLo i) (accHi i) ?_
    rw [List.getElem?_map, List.getElem?_range hi]
    rfl
  · intro i r hi
    have hi696 : i < 696 := by
      have h1 := (List.getElem?_eq_some_iff.1 hi).1
      have h2 : Go.Pinned.pow10Rows.length = 696 := by kernel_rfl
      omega
    refine rows_of (ds := Go.Pinned.pow10Rows.map fun x => .agg [.lit (.int .u64 x.1), .lit (.int .u64 x.2)]) rpt (t := 306) (e := 305) (ei := 86) (m := 696) (by kernel_rfl) (by kernel_rfl) (by kernel_rfl) Tryz.underlying305 (fun j f hj => by
      match j, hj with
      | 0, hj => simp at hj; subst hj; exact ⟨rfl, rfl⟩
      | 1, hj => simp at hj; subst hj; exact ⟨rfl, rfl⟩
      | j + 2, hj => simp at hj) (by kernel_rfl) (by kernel_rfl) (by kernel_rfl) rfl i hi696 (r.1 : Int) (r.2 : Int) ?_
    rw [List.getElem?_map, hi]
    rfl
  · obtain ⟨g', t', cs, fuel, p, hg', ht', hvar, hd⟩ := ropt
    obtain rfl := Option.some.inj ((show Tryz.prog.globalNamed "internal/strconv.optimize" = some 1 by kernel_rfl).symm.trans hg')
    obtain rfl := Option.some.inj ((show (Tryz.prog.globals[1]?).map (·.type) = some 4 by kernel_rfl).symm.trans ht')
    obtain ⟨b, hcs, hx⟩ := DataW.trod_bool Tryz.underlying4 hd
    have hb : b = true := by
      have h1 : (Rows.laid_internal_strconv_optimize : DataW Unit) = .lit (.bool b) := congrArg Prod.fst hx
      have h2 : (DataW.lit (.bool true) : DataW Unit) = .lit (.bool b) := h1
      injection h2 with h3
      injection h3 with h4
      exact h4.symm
    rw [World.var?_cell hg' hvar 0, ← Array.getElem?_toList, hcs, hb]
    rfl

/-! ### A world for the witness -/
set_option maxRecDepth 100000 in
theorem laid_fits (os : Os) : (World.holding Tryz.prog os ⟨#[], #[], []⟩).layFits Tryz.prog laidL [] = true := by kernel_rfl
set_option maxRecDepth 100000 in
theorem laid_ifaces (os : Os) : (World.holding Tryz.prog os ⟨#[], #[], []⟩).layIfaces Tryz.prog laidL (World.laidAll Tryz.prog os laidL) = true := by kernel_rfl
theorem laid_all (os : Os) (args : Array Value) : laidMetH Tryz.prog laidL ((World.laidAll Tryz.prog os laidL).forCall (fun _ _ => 0) ⟨#[], args, []⟩).memory := by
  rw [MakeChecks.laidMetH_plain _ _ _ (by kernel_rfl)]
  exact laidMet_laidAll _ (laid_fits os) (laid_ifaces os)
theorem own : ownKnob Tryz.prog.godebug = none := by kernel_rfl
end Go.Proofs.YtkljejejabikiaaGreatDoor
