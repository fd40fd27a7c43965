/- Contracts of functions of package vec, the eleventh part: Grow, Concat, Cat. -/
import Derived.Test.YtaffdpgacggllaaVj
namespace Go.Proofs.Ytaffdpgacggllaa.V
open Go.RowKit Go.Proofs.YtaffdpgacggllaaW.PrintWords Go.Proofs.YtaffdpgacggllaaW.PrintLast Go.Proofs.YtaffdpgacggllaaW.PrintMore
attribute [local go_sem] max2_int min2_int max_two min_two
set_option linter.unusedVariables false
set_option linter.unusedSimpArgs false

theorem Own.cut {w : World} {base g n cap : Nat} {xs : List Int} (h : Own w base (.slice (some ⟨g, 0, none⟩) n cap) xs) (m : Nat) (hm : m ≤ n) : Own w base (.slice (some ⟨g, 0, none⟩) m cap) (xs.take m) := by
  obtain ⟨cur, h0, h1, h2, h3, h4, h5, h6⟩ := h.block
  refine Own.of_block h0 (by omega) h2 h3 ?_ (by simp; omega) h6 (byt_take h.b m)
  rw [show cur.take m = (cur.take n).take m by rw [List.take_take, Nat.min_eq_left hm], h4]
  simp [nums]
set_option maxRecDepth 100000 in
theorem grow_calls (n : Nat) (w : World) (h1 : 1 ≤ n) (hn : n ≤ 1000) :
    Calls Try.prog 95 #[.slice none 0 0, .int .i64 n] w fun e w' => ∃ v, e = .returned v ∧ Own w' w.heap.size v [] ∧ Below w.heap.size w w' := by
  have HB := Aside0.mk (Below.refl w.heap.size w)
  go_enter Try.func95, Try.ntmps95
  go_wp2_with (at_builtin; refine Kd.R_append_zeros (Kd.int .u8) (w0 := w) w.heap.size rfl (.tmp 20) (.tmp 21) 29 3 37 (.int .u8 0) 1 rfl Try.underlying29 Try.underlying3 info37 rfl (by decide) (by omega) (.slice none 0 0) [] 0 (n : Int) (fun _ => True) rfl rfl rfl (fun _ _ => trivial) (Kd.R_nil _ _ _ _ _) (by omega) HB.out (Nat.le_refl _) (by simp; omega) ?_; intro v1 w1 ho hb _ _; have ho2 : Own w1 w.heap.size v1 (List.replicate n 0) := ⟨by simpa using ho, Byt.replicate _ (by omega) (by omega)⟩; obtain ⟨g, cap, rfl, hg1, hg2⟩ := ho2.form (by simp; omega); rw [List.length_replicate] at ho2; have HO := Aside0.mk ho2; clear HB; have HB := Aside0.mk hb; clear ho ho2 hb hg2; simp only [List.length_replicate])
  go_ret
  exact ⟨_, rfl, by simpa using HO.out.cut 0 (Nat.zero_le _), HB.out⟩
set_option maxRecDepth 100000 in
set_option maxHeartbeats 1000000 in
theorem concat_calls (xs ys : List Int) (A B : Option Addr) (c d g0 : Nat) (w : World) (hx : Rd w A xs) (hy : Rd w B ys) (hx1 : 1 ≤ xs.length) (hx2 : xs.length ≤ 64) (hy2 : ys.length ≤ 64)
    (hc0 : w.cell? ⟨g0, 0, none⟩ = some (.slice A xs.length c)) (hc1 : w.cell? ⟨g0, 1, none⟩ = some (.slice B ys.length d)) (hg : g0 < w.heap.size) :
    Calls Try.prog 84 #[.slice (some ⟨g0, 0, none⟩) 2 2] w fun e w' => ∃ v, e = .returned v ∧ Own w' w.heap.size v (xs ++ ys) ∧ Below w.heap.size w w' := by
  have HX := Aside0.mk hx
  have HY := Aside0.mk hy
  clear hx hy
  go_enter Try.func84, Try.ntmps84
  go_wp2
  go_loop [3, 11] (fun n i => ∃ k : Nat, k ≤ 2 ∧ i = .int .i64 k ∧ n = .int .i64 ((if 1 ≤ k then (xs.length : Int) else 0) + (if 2 ≤ k then (ys.length : Int) else 0))) (fun _ i => 2 - (intOf i).toNat)
  case atStart => exact ⟨0, by omega, rfl, rfl⟩
  case round =>
    obtain ⟨k, hk, rfl, rfl⟩ := hrel
    rcases (show k = 0 ∨ k = 1 ∨ k = 2 by omega) with rfl | rfl | rfl
    · go_wp2
      go_round
      case rel => exact ⟨1, by omega, rfl, by simp⟩
      case measure => simp [intOf]
    · go_wp2
      go_round
      case rel => exact ⟨2, by omega, rfl, by simp⟩
      case measure => simp [intOf]
    · have hgc := grow_calls (xs.length + ys.length) w (by omega) (by omega)
      rw [Int.natCast_add] at hgc
      have HG := Aside0.mk hgc
      clear hgc
      go_wp2_with fail
      refine HG.out.mono ?_
      rintro e w1 ⟨v, rfl, ho, hb⟩
      have HO := Aside0.mk ho
      have HB := Aside0.mk hb
      clear ho hb HG
      have HC0 := Aside0.mk hc0
      have HC1 := Aside0.mk hc1
      clear hc0 hc1
      go_wp2
      go_loopw [6, 27] (fun v i wr => ∃ k : Nat, k ≤ 2 ∧ i = .int .i64 k ∧ Aside0 (Own wr w.heap.size v (if k = 0 then [] else if k = 1 then xs else xs ++ ys)) ∧ Aside0 (Below w.heap.size w wr)) (fun _ i _ => 2 - (intOf i).toNat)
      case atStart => exact ⟨0, by omega, rfl, HO, HB⟩
      case round =>
        clear HO HB
        obtain ⟨k, hk, rfl, HO, HB⟩ := hrel
        have hd0 := (HB.out.cell (p := ⟨g0, 0, none⟩) hg).trans HC0.out
        have hd1 := (HB.out.cell (p := ⟨g0, 1, none⟩) hg).trans HC1.out
        rcases (show k = 0 ∨ k = 1 ∨ k = 2 by omega) with rfl | rfl | rfl
        · replace HO : Aside0 (Own wr w.heap.size u6 []) := HO
          go_wp2_with (at_builtin; refine ap_bits (w0 := w) rfl (.tmp 31) (.tmp 32) 29 rfl Try.underlying29 u6 [] xs A c rfl rfl HO.out (HX.out.below HB.out) HB.out (by first | omega | (simp; omega)) ?_; intro v1 w1 ho hb; clear HO HB hd0 hd1; have HO := Aside0.mk ho; have HB := Aside0.mk hb; clear ho hb)
          go_roundw
          case rel => exact ⟨1, by omega, rfl, by simpa using HO, HB⟩
          case measure => simp [intOf]
        · replace HO : Aside0 (Own wr w.heap.size u6 xs) := HO
          go_wp2_with (at_builtin; refine ap_bits (w0 := w) rfl (.tmp 31) (.tmp 32) 29 rfl Try.underlying29 u6 xs ys B d rfl rfl HO.out (HY.out.below HB.out) HB.out (by first | omega | (simp; omega)) ?_; intro v1 w1 ho hb; clear HO HB hd0 hd1; have HO := Aside0.mk ho; have HB := Aside0.mk hb; clear ho hb)
          go_roundw
          case rel => exact ⟨2, by omega, rfl, by simpa using HO, HB⟩
          case measure => simp [intOf]
        · go_wp2
          go_ret
          exact ⟨_, rfl, HO.out, HB.out⟩

def catV (hi lo : List Int) : List Int := if (isV hi && isV lo) && decide (hi.length + lo.length ≤ 64) then lo ++ hi else []
def catE (hi lo : List Int) : Int := if (isV hi && isV lo) = false then 2 else if decide (hi.length + lo.length ≤ 64) = false then 19 else 0
set_option maxRecDepth 100000 in
theorem vecCat_calls (xs ys : List Int) (A B : Option Addr) (c d : Nat) (w : World) (hx : Rd w A xs) (hy : Rd w B ys) :
    Calls Try.prog 51 #[.slice A xs.length c, .slice B ys.length d] w fun e w' => ∃ v, e = .returned (.tuple #[v, .int .i64 (catE xs ys)]) ∧ Own w' w.heap.size v (catV xs ys) ∧ Below w.heap.size w w' := by
  have HX := Aside0.mk hx
  have HY := Aside0.mk hy
  have HB : Aside0 (∀ o, Below w.heap.size w (w.alloc o)) := ⟨fun o => (Below.refl _ _).alloc (Nat.le_refl _) o⟩
  clear hx hy
  by_cases h : isV xs = true
  · by_cases k : isV ys = true
    · by_cases l : xs.length + ys.length ≤ 64
      · have H := Aside0.mk h
        have K := Aside0.mk k
        have hn := isV_pos h
        have hm := isV_pos k
        have hn1 := hn.1
        have hm1 := hm.1
        have hn2 := hn.2.1
        have hm2 := hm.2.1
        have E1 : Aside0 (catV xs ys = ys ++ xs) := ⟨by simp [catV, h, k, l]⟩
        have E2 : Aside0 (catE xs ys = 0) := ⟨by simp [catE, h, k, l]⟩
        clear h k hn hm
        go_enter Try.func51, Try.ntmps51
        go_wp2_with fail
        refine (logicIs_calls _ _ _ _ HX.out).mono ?_
        rintro e w1 ⟨rfl, rfl⟩
        rw [H.out]
        go_wp2_with fail
        refine (logicIs_calls _ _ _ _ HY.out).mono ?_
        rintro e w1 ⟨rfl, rfl⟩
        rw [K.out]
        go_wp2_with fail
        refine (concat_calls ys xs B A d c w.heap.size _ (HY.out.below (HB.out _)) (HX.out.below (HB.out _)) hm1 hm2 hn2 ?c1 ?c2 ?c3).mono ?_
        case c1 => simp
        case c2 => simp
        case c3 => simp
        rintro e w1 ⟨v, rfl, ho, hb⟩
        have HO := Aside0.mk (ho.lower (by simp) : Own w1 w.heap.size v (ys ++ xs))
        have HB1 := Aside0.mk (below_step (HB.out _) hb)
        clear ho hb
        go_wp2_with fail
        go_ret2
        exact ⟨_, by rw [E2.out]; rfl, by rw [E1.out]; exact HO.out, HB1.out⟩
      · have H := Aside0.mk h
        have K := Aside0.mk k
        have hn := (isV_pos h).2.1
        have hm := (isV_pos k).2.1
        have E1 : Aside0 (catV xs ys = []) := ⟨by simp [catV, l]⟩
        have E2 : Aside0 (catE xs ys = 19) := ⟨by simp [catE, h, k, l]⟩
        clear h k
        go_enter Try.func51, Try.ntmps51
        go_wp2_with fail
        refine (logicIs_calls _ _ _ _ HX.out).mono ?_
        rintro e w1 ⟨rfl, rfl⟩
        rw [H.out]
        go_wp2_with fail
        refine (logicIs_calls _ _ _ _ HY.out).mono ?_
        rintro e w1 ⟨rfl, rfl⟩
        rw [K.out]
        go_wp2_with fail
        go_ret2
        exact ⟨_, by rw [E2.out]; rfl, by rw [E1.out]; exact Own.nil _ _, Below.refl _ _⟩
    · have k' := eq_false_of_ne_true k
      have H := Aside0.mk h
      have K := Aside0.mk k'
      have E1 : Aside0 (catV xs ys = []) := ⟨by simp [catV, k']⟩
      have E2 : Aside0 (catE xs ys = 2) := ⟨by simp [catE, k']⟩
      clear h k k'
      go_enter Try.func51, Try.ntmps51
      go_wp2_with fail
      refine (logicIs_calls _ _ _ _ HX.out).mono ?_
      rintro e w1 ⟨rfl, rfl⟩
      rw [H.out]
      go_wp2_with fail
      refine (logicIs_calls _ _ _ _ HY.out).mono ?_
      rintro e w1 ⟨rfl, rfl⟩
      rw [K.out]
      go_wp2_with fail
      go_ret2
      exact ⟨_, by rw [E2.out]; rfl, by rw [E1.out]; exact Own.nil _ _, Below.refl _ _⟩
  · have h' := eq_false_of_ne_true h
    have H := Aside0.mk h'
    have E1 : Aside0 (catV xs ys = []) := ⟨by simp [catV, h']⟩
    have E2 : Aside0 (catE xs ys = 2) := ⟨by simp [catE, h']⟩
    clear h h'
    go_enter Try.func51, Try.ntmps51
    go_wp2_with fail
    refine (logicIs_calls _ _ _ _ HX.out).mono ?_
    rintro e w1 ⟨rfl, rfl⟩
    rw [H.out]
    go_wp2_with fail
    go_ret2
    exact ⟨_, by rw [E2.out]; rfl, by rw [E1.out]; exact Own.nil _ _, Below.refl _ _⟩
end Go.Proofs.Ytaffdpgacggllaa.V
