/- Contracts of functions of package vec, the third part: repeated bits. -/
import Derived.Test.YtaffdpgacggllaaVb
namespace Go.Proofs.Ytaffdpgacggllaa.V
open Go.RowKit Go.Proofs.YtaffdpgacggllaaW.PrintWords Go.Proofs.YtaffdpgacggllaaW.PrintLast Go.Proofs.YtaffdpgacggllaaW.PrintMore
set_option linter.unusedVariables false
set_option linter.unusedSimpArgs false

theorem mul64_calls (n : Nat) (w : World) (hn : n ≤ 64) : Calls Try.prog 107 #[.int .u64 1, .int .u64 n] w fun e w' => e = .returned (.tuple #[.int .u64 0, .int .u64 n]) ∧ w = w' := by
  have e1 : Go.bits .and .u64 1 4294967295 = 1 := bits_mask .u64 64 (by decide) wraps_u64 32 (by decide) 1 (by omega) (by omega)
  have e2 : Go.bits .and .u64 (n : Int) 4294967295 = n := by
    have := bits_mask .u64 64 (by decide) wraps_u64 32 (by decide) (n : Int) (by omega) (by omega)
    rw [show ((2 : Int) ^ 32 - 1) = 4294967295 from by decide] at this
    rw [this]; omega
  have e3 : (n : Int) / 4294967296 = 0 := by omega
  have e4 : Go.bits .and .u64 0 4294967295 = 0 := bits_mask .u64 64 (by decide) wraps_u64 32 (by decide) 0 (by omega) (by omega)
  go_enter Try.func107, Try.ntmps107
  go_wp2
  go_ret2
  exact ⟨rfl, rfl⟩
theorem bitsMul_calls (n : Nat) (w : World) (hn : n ≤ 64) : Calls Try.prog 104 #[.int .u64 1, .int .u64 n] w fun e w' => e = .returned (.tuple #[.int .u64 0, .int .u64 n]) ∧ w = w' := by
  go_enter Try.func104, Try.ntmps104
  go_wp2_with (go_at_call 107; refine (mul64_calls _ _ hn).mono ?_; rintro e w' ⟨rfl, rfl⟩)
  go_ret2
  exact ⟨rfl, rfl⟩
theorem fill_more (x : Int) (j n m : Nat) (h : j + m ≤ n) : ((List.replicate j x ++ List.replicate (n - j) 0).take j ++ (List.replicate m x ++ (List.replicate j x ++ List.replicate (n - j) 0).drop (j + (List.replicate m x).length))) = List.replicate (j + m) x ++ List.replicate (n - (j + m)) 0 := by
  simp only [List.length_replicate]
  rw [List.take_append_of_le_length (by simp), List.take_of_length_le (by simp), List.drop_append, List.drop_of_length_le (by simp), List.nil_append, List.drop_replicate, ← List.append_assoc, List.replicate_append_replicate]
  congr 2
  simp
  omega
theorem nth_replicate (m k : Nat) (x : Int) (h : k < m) : nth (List.replicate m x) k = x := by
  rw [nth_eq _ _ (by simpa using h)]; simp
theorem nth_left (xs ys : List Int) (k : Nat) (h : k < xs.length) : nth (xs ++ ys) k = nth xs k := by
  rw [nth_eq _ _ (by simp; omega), nth_eq _ _ h, List.getElem_append_left h]
set_option maxHeartbeats 1000000 in
set_option maxRecDepth 100000 in
theorem repeat_calls (x : Int) (n : Nat) (A : Option Addr) (c : Nat) (w : World) (hr : Rd w A [x]) (h1 : 1 ≤ n) (hn : n ≤ 64) :
    Calls Try.prog 100 #[.slice A 1 c, .int .i64 n] w fun e w' => ∃ v, e = .returned v ∧ Own w' w.heap.size v (List.replicate n x) ∧ Below w.heap.size w w' := by
  have HR := Aside0.mk hr
  have HB0 := Aside0.mk (Below.refl w.heap.size w)
  have hx := hr.b x (by simp)
  clear hr
  go_enter Try.func100, Try.ntmps100
  go_wp2_with fail
  refine (bitsMul_calls _ _ hn).mono ?_
  rintro e w' ⟨rfl, rfl⟩
  go_wp2_with ((with_reducible refine gate_dst (N := 30) rfl ?_); refine mk_bits (w0 := w) rfl rfl 59 _ _ rfl n rfl rfl Try.underlying59 (by omega) (Below.refl _ _) ?_; intro v1 w1 ho hb; obtain ⟨g, cap, rfl, hg1, hg2⟩ := ho.form (by simp; omega); rw [List.length_replicate] at ho; have HO := Aside0.mk ho; have HB := Aside0.mk hb; clear ho hb hg2; simp only [List.length_replicate])
  refine upon_cp (w0 := w) (g := g) (n := n) (cap := cap) (off := 0) (cs := [x]) 59 59 3 Try.underlying59 _ _ _ _ _ _ HO.out (Byt.one hx.1 hx.2) (by simp [Nat.min_eq_left h1]) (fun _ => ?cp) (by simp; omega) HB.out ?_
  case cp =>
    obtain ⟨ad, e, hc⟩ := (HR.out.below HB.out).at_ 0 (by simp)
    exact ⟨rfl, ad, e, fun j hj => by obtain rfl : j = 0 := by simpa using hj
                                      exact hc⟩
  intro w2 ho hb
  clear HO HB
  have HO := Aside0.mk ho
  have HB := Aside0.mk hb
  clear ho hb
  go_wp2
  go_loopw [8] (fun i wr => ∃ k : Nat, 1 ≤ k ∧ k ≤ n ∧ i = .int .i64 k ∧ Aside0 (Own wr w.heap.size (.slice (some ⟨g, 0, none⟩) n cap) (List.replicate k x ++ List.replicate (n - k) 0)) ∧ Aside0 (Below w.heap.size w wr)) (fun i _ => n - (intOf i).toNat)
  case atStart => exact ⟨1, by omega, h1, rfl, ⟨by simpa using HO.out⟩, HB⟩
  case round =>
    clear HO HB
    obtain ⟨k, hk1, hk, rfl, HO, HB⟩ := hrel
    by_cases hlt : k < n
    · obtain ⟨_, _, hcap, _⟩ := HO.out.block
      have hkc : k ≤ cap := by omega
      have hne : ¬ cap = k := by omega
      go_wp2
      obtain ⟨m, hm⟩ : ∃ m, m = min k (n - k) := ⟨_, rfl⟩
      have hm1 : 1 ≤ m := by omega
      have hm2 : k + m ≤ n := by omega
      have HM := Aside0.mk hm
      have hs : IntKind.i64.wrap ((k : Int) + m) = k + m := IntWalk.i64_in _ (by omega)
      clear hm
      have HOd := Aside0.mk (HO.out.below (Below.refl _ _).drew)
      have HBd := Aside0.mk (HB.out.drew)
      have hcp : ∀ j, j < (List.replicate m x).length → wr.drew.cell? ((⟨g, 0, none⟩ : Addr).add j) = some (.int .u8 (nth (List.replicate m x) j)) := fun j hj => by
        have hj' : j < m := by simpa using hj
        have := (HOd.out.cell j (by omega)).1
        rw [nth_left _ _ _ (by have := HM.out; simp; omega), nth_replicate _ _ _ (by have := HM.out; omega)] at this
        rw [nth_replicate _ _ _ hj', add_plain]
        exact this
      have HCP := Aside0.mk hcp
      clear hcp
      go_region_law (refine step_cp_bits (w := wr.drew) (w0 := w) (g := g) (n := n) (cap := cap) (off := k) (cs := List.replicate m x) rfl (.tmp 41) (.tmp 44) 59 59 rfl Try.underlying59 (some ⟨g, k, none⟩) (some ⟨g, 0, none⟩) (n - k) (cap - k) k cap (by simp [Act.eval, Act.put]) (by simp [Act.eval, Act.put]) HOd.out (Byt.replicate _ hx.1 hx.2) (by rw [HM.out]; simp) (fun _ => ⟨rfl, _, rfl, HCP.out⟩) (by simp; omega) HBd.out ?_; intro w3 ho3 hb3; have HO3 := Aside0.mk ho3; have HB3 := Aside0.mk hb3; clear ho3 hb3)
      go_wp2
      go_simp
      go_roundw
      case rel => exact ⟨k + m, by omega, hm2, by omega, ⟨by have := HO3.out; rwa [fill_more x k n m hm2] at this⟩⟩
      case measure => simp [intOf, Act.put]; omega
    · have HX : Aside0 (Own wr w.heap.size (.slice (some ⟨g, 0, none⟩) n cap) (List.replicate n x)) := ⟨by have := HO.out; rw [show k = n by omega] at this; simpa using this⟩
      go_wp2
      go_ret
      exact ⟨_, rfl, HX.out, HB.out⟩

theorem unknown_calls (n : Nat) (w : World) (h1 : 1 ≤ n) (hn : n ≤ 64) :
    Calls Try.prog 89 #[.int .i64 n] w fun e w' => ∃ v, e = .returned v ∧ Own w' w.heap.size v (List.replicate n 2) ∧ Below w.heap.size w w' := by
  have HB : Aside0 (Below w.heap.size w (w.alloc (.cells #[.int .u8 2] 37))) := ⟨(Below.refl _ _).alloc (Nat.le_refl _) _⟩
  have HR : Aside0 (Rd (w.alloc (.cells #[.int .u8 2] 37)) (some ⟨w.heap.size, 0, none⟩) [2]) := ⟨Rd.lit w [2] (Byt.one (by omega) (by omega)) (by simp) _ rfl⟩
  go_enter Try.func89, Try.ntmps89
  go_wp2_with fail
  refine (repeat_calls 2 n _ _ _ HR.out h1 hn).mono ?_
  rintro e w' ⟨v, rfl, ho, hb⟩
  have HO := Aside0.mk ho
  have HB' := Aside0.mk hb
  clear ho hb
  go_wp2
  go_ret
  exact ⟨_, rfl, HO.out.lower HB.out.size, below_step HB.out HB'.out⟩
end Go.Proofs.Ytaffdpgacggllaa.V
