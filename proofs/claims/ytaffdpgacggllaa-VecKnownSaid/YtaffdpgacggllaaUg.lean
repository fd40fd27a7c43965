/- An array of four vectors by value, opened. -/
import Derived.OpenShut
import Derived.WalkKit
import Derived.ProofKit
import Derived.ChangeOld
import Derived.Below
import Derived.SizedLaws
import Derived.Lib.SmallJoins
import Derived.Test.YtaffdpgacggllaaUa
namespace Go.Proofs.Ytaffdpgacggllaa.V
open Go.RowKit Go.ChangeShapes Go.WideShapes Go.ChangeAt Go.Joins
set_option linter.unusedVariables false
section
variable {H : Type} {enc : TypeId × Value → H} {W : World} {b0 : Nat} {r : Reach}
theorem open_bits_cell {m : Nat} {c0 : Value} {y : DataW H × List MemPlace} (h : DataW.trod enc Try.prog W 0 (fun _ => true) true m 29 [c0] = some y) :
    ∃ (xs : List Int) (a : Option Addr) (c : Nat), c0 = .slice a xs.length c ∧ xs.length ≤ c ∧ Rd W a xs := by
  rcases open_ints Try.underlying29 Try.underlying37 (by kernel_rfl) h with ⟨hcs, _⟩ | ⟨x, l, c, zs, hcs, _, hl, hm, hz, _, hcell, hwz⟩
  · simp at hcs
    subst hcs
    exact ⟨[], none, 0, rfl, Nat.le_refl _, Rd.nil _ _⟩
  · simp at hcs
    subst hcs
    obtain ⟨xs, e, h1, h2⟩ := rd_of_row W x _ _ zs hl hm (by simpa using hz) hcell hwz
    subst e
    exact ⟨xs, some x, c, rfl, h1, h2⟩
theorem open_four {v : Value} {d : DataW H} {p : List MemPlace} (hv : Value.okWide Try.prog W r b0 35 v) (h : DataW.Trod enc Try.prog W 0 (fun _ => true) true 35 v d p) :
    ∃ (x0 : List Int) (a0 : Option Addr) (c0 : Nat) (x1 : List Int) (a1 : Option Addr) (c1 : Nat) (x2 : List Int) (a2 : Option Addr) (c2 : Nat) (x3 : List Int) (a3 : Option Addr) (c3 : Nat),
      v = .agg #[.slice a0 x0.length c0, .slice a1 x1.length c1, .slice a2 x2.length c2, .slice a3 x3.length c3] ∧ Rd W a0 x0 ∧ Rd W a1 x1 ∧ Rd W a2 x2 ∧ Rd W a3 x3 := by
  obtain ⟨cs, rfl, hsz, _⟩ : ∃ cs, v = .agg cs ∧ cs.size = Try.prog.cellsOf 35 ∧ Row.okWide Try.prog W r b0 35 cs := by
    simpa [Value.okWide, Try.underlying35] using hv
  have c35 : Try.prog.cellsOf 35 = 4 := by kernel_rfl
  have c29 : Try.prog.cellsOf 29 = 1 := by kernel_rfl
  rw [c35] at hsz
  obtain ⟨e0, e1, e2, e3, rfl⟩ := array4 hsz
  obtain ⟨fuel, hf⟩ := h
  obtain ⟨xs, m, _, _, _, hl, hx⟩ := DataW.trod_array Try.underlying35 hf
  have h0 := hx 0 (by omega)
  have h1 := hx 1 (by omega)
  have h2 := hx 2 (by omega)
  have h3 := hx 3 (by omega)
  match xs, hl with
  | [y0, y1, y2, y3], _ =>
    simp [c29, Value.cells] at h0 h1 h2 h3
    obtain ⟨x0, a0, k0, rfl, _, r0⟩ := open_bits_cell h0
    obtain ⟨x1, a1, k1, rfl, _, r1⟩ := open_bits_cell h1
    obtain ⟨x2, a2, k2, rfl, _, r2⟩ := open_bits_cell h2
    obtain ⟨x3, a3, k3, rfl, _, r3⟩ := open_bits_cell h3
    exact ⟨x0, a0, k0, x1, a1, k1, x2, a2, k2, x3, a3, k3, rfl, r0, r1, r2, r3⟩
end
end Go.Proofs.Ytaffdpgacggllaa.V
