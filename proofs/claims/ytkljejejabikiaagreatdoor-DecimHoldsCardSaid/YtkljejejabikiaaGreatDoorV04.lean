/- Contracts of the program's functions, and plain laws on numbers and texts (joined: IntM). -/
import Derived.Test.YtkljejejabikiaaGreatDoorV02

/- Package big's Int: Mul. -/
namespace Go.Proofs.YtkljejejabikiaaGreatDoor
open Go Go.RowKit Cusp

set_option maxHeartbeats 4000000 in
set_option maxRecDepth 100000 in
theorem intMul_calls (zb zo xb xo yb yo : Nat) (z x y : Int) (w : World) (hz : IsInt w zb zo z) (hx : IsInt w xb xo x) (hy : IsInt w yb yo y) (hl1 : (wd x.natAbs).length ≤ 1000000000) (hl2 : (wd y.natAbs).length ≤ 1000000000) :
    Calls Tryz.prog 73 #[.pointer (some ⟨zb, zo, none⟩), .pointer (some ⟨xb, xo, none⟩), .pointer (some ⟨yb, yo, none⟩)] w fun e w' => e = .returned (.pointer (some ⟨zb, zo, none⟩)) ∧ IsInt w' zb zo (x * y) ∧ Wr zb zo w w' := by
  obtain ⟨A, n, c, h1, h2, h3⟩ := hx.ex
  obtain ⟨B, m, d, k1, k2, k3⟩ := hy.ex
  rw [h3.len] at hl1
  rw [k3.len] at hl2
  have hlt := hz.lt
  go_enter Tryz.func73, Tryz.ntmps73
  go_wp2
  go_region_with (first | (go_at_call 146; refine (mul_calls _ _ _ _ _ _ x.natAbs y.natAbs _ (h3.ext (Ext.drew _)) (k3.ext (Ext.drew _)) hl1 hl2).mono ?_; rintro e w1 ⟨A1, n1, c1, rfl, hn1, hx1⟩; have g1 := hx1.cell h1; have g2 := hx1.cell h2; have g3 := hx1.cell k1; have g4 := hx1.cell k2) | (go_at_call 145; refine (put_calls zb zo z _ (hz.ext (Ext.trans (Ext.drew _) hx1)) _ _ _ _ _ hn1 _ (sgn_mul2 x y)).mono ?_; rintro e w2 ⟨rfl, hI2, hW2⟩))
  all_goals (go_wp2; go_ret; exact ⟨rfl, hI2, Wr.ext_left (Ext.trans (Ext.drew _) hx1) hlt hW2⟩)
end Go.Proofs.YtkljejejabikiaaGreatDoor
