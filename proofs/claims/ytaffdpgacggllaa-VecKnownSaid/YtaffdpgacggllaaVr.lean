/- Small words for the laws' walks. -/
import Derived.Test.YtaffdpgacggllaaVq
namespace Go.Proofs.Ytaffdpgacggllaa.V
open Go.RowKit Go.Proofs.YtaffdpgacggllaaW.PrintWords Go.Proofs.YtaffdpgacggllaaW.PrintLast Go.Proofs.YtaffdpgacggllaaW.PrintMore
set_option linter.unusedVariables false
theorem Same_below (xs ys : List Int) (A B : Option Addr) (c d : Nat) (w : World) (hx : Rd w A xs) (hy : Rd w B ys) :
    Calls Try.prog 22 #[.slice A xs.length c, .slice B ys.length d] w fun e w' => e = .returned (.bool (eqB xs ys)) ∧ Below w.heap.size w w' :=
  (refSame_calls xs ys A B c d w hx hy).mono fun e w' h => ⟨h.1, by obtain ⟨n, rfl⟩ := h.2; exact below_drewN' _ _⟩
theorem rd_of_row (W : World) (x : Addr) (l c : Nat) (zs : List Int) (hl : l ≤ c) (hm : c ≤ maxLen) (hz : zs.length = c) (hcell : ∀ i, i < zs.length → W.cell? (x.add i) = some (.int .u8 (zs.getD i 0))) (hw : ∀ n ∈ zs, (Lit.int .u8 n).wf = true) :
    ∃ xs : List Int, xs.length = l ∧ l ≤ c ∧ Rd W (some x) xs := by
  refine ⟨zs.take l, by simp; omega, hl, ⟨⟨rfl, by unfold maxLen at hm; simp; omega, fun _ => ⟨_, rfl, fun j p hj => ⟨[.int .u8 p], rfl, rfl, fun i u hu => ?_⟩⟩⟩, fun y hy => ?_⟩⟩
  · obtain ⟨rfl, rfl⟩ : i = 0 ∧ u = .int .u8 p := by
      rcases i with _ | i
      · simp at hu; exact ⟨rfl, hu.symm⟩
      · simp at hu
    have hjl := (List.getElem?_eq_some_iff.1 hj).1
    simp only [List.length_take] at hjl
    rw [List.getElem?_take_of_lt (by omega)] at hj
    have := hcell j (by omega)
    rw [List.getD_eq_getElem?_getD, hj] at this
    simpa [Kd.int, Kd.scalar] using this
  · have := hw y (List.mem_of_mem_take hy)
    simp [Lit.wf, IntKind.min, IntKind.max, IntKind.bits, IntKind.signed] at this
    omega
end Go.Proofs.Ytaffdpgacggllaa.V
