/- Contracts of functions of package vec, the ninth part: Resize, ToInt, moved, Left, Right. -/
import Derived.Test.YtaffdpgacggllaaVh
namespace Go.Proofs.Ytaffdpgacggllaa.V
open Go.RowKit Go.Proofs.YtaffdpgacggllaaW.PrintWords Go.Proofs.YtaffdpgacggllaaW.PrintLast Go.Proofs.YtaffdpgacggllaaW.PrintMore
attribute [local go_sem] max2_int min2_int max_two min_two
set_option linter.unusedVariables false
set_option linter.unusedSimpArgs false

def resizeV (xs : List Int) (n : Int) : List Int := if isV xs && lenB n then xs.take n.toNat ++ List.replicate (n.toNat - xs.length) 0 else []
def resizeE (xs : List Int) (n : Int) : Int := if isV xs = false then 2 else if lenB n = false then 19 else 0
theorem resize_fill (xs : List Int) (n : Nat) : (List.replicate n (0 : Int)).take 0 ++ (xs.take n ++ (List.replicate n (0 : Int)).drop (0 + (xs.take n).length)) = xs.take n ++ List.replicate (n - xs.length) 0 := by
  simp only [List.take_zero, List.nil_append, List.drop_replicate, List.length_take, Nat.zero_add]
  congr 2
  omega
theorem nth_take (xs : List Int) (n k : Nat) (h : k < n) : nth (xs.take n) k = nth xs k := by
  simp [nth, List.getD_eq_getElem?_getD, List.getElem?_take, h]
section
variable (xs : List Int) (A : Option Addr) (c : Nat) (w : World)
set_option maxRecDepth 100000 in
theorem vecResize_calls (n : Int) (hx : Rd w A xs) :
    Calls Try.prog 49 #[.slice A xs.length c, .int .i64 n] w fun e w' => ∃ v, e = .returned (.tuple #[v, .int .i64 (resizeE xs n)]) ∧ Own w' w.heap.size v (resizeV xs n) ∧ Below w.heap.size w w' := by
  have HX := Aside0.mk hx
  clear hx
  by_cases h : isV xs = true
  · by_cases k : lenB n = true
    · have H := Aside0.mk h
      have K := Aside0.mk k
      have hl : 1 ≤ n ∧ n ≤ 64 := by simpa [lenB] using k
      obtain ⟨m, rfl⟩ := Int.eq_ofNat_of_zero_le (show 0 ≤ n by omega)
      have hl1 : 1 ≤ m := by omega
      have hl2 : m ≤ 64 := by omega
      have E1 : Aside0 (resizeV xs m = xs.take m ++ List.replicate (m - xs.length) 0) := ⟨by simp [resizeV, h, k]⟩
      have E2 : Aside0 (resizeE xs m = 0) := ⟨by simp [resizeE, h, k]⟩
      clear h k hl
      go_enter Try.func49, Try.ntmps49
      go_wp2_with fail
      refine (logicIs_calls _ _ _ _ HX.out).mono ?_
      rintro e w1 ⟨rfl, rfl⟩
      rw [H.out]
      go_wp2_with fail
      refine (isLength_calls _ _).mono ?_
      rintro e w1 ⟨rfl, rfl⟩
      rw [K.out]
      go_wp2_with ((with_reducible refine gate_dst (N := 16) rfl ?_); refine mk_bits (w0 := w) rfl rfl 29 _ _ rfl m rfl rfl Try.underlying29 (by omega) (Below.refl _ _) ?_; intro v1 w1 ho hb; obtain ⟨g, cap, rfl, hg1, hg2⟩ := ho.form (by simp; omega); rw [List.length_replicate] at ho; have HO := Aside0.mk ho; have HB := Aside0.mk hb; clear ho hb hg2; simp only [List.length_replicate])
      refine upon_cp (w0 := w) (g := g) (n := m) (cap := cap) (off := 0) (cs := xs.take m) 29 29 3 Try.underlying29 _ _ _ _ _ _ HO.out (byt_take HX.out.b _) (by simp [Nat.min_comm]) (fun hp => ?cp) (by simp; omega) HB.out ?_
      case cp =>
        obtain ⟨ad, e, _⟩ := (HX.out.below HB.out).at_ 0 (by simp at hp; omega)
        refine ⟨rfl, ad, e, fun j hj => ?_⟩
        simp at hj
        obtain ⟨ad2, e2, hc⟩ := (HX.out.below HB.out).at_ j (by omega)
        rw [e] at e2
        cases e2
        rw [nth_take _ _ _ (by omega)]
        exact hc
      intro w2 ho hb
      rw [resize_fill] at ho
      clear HO HB
      have HO := Aside0.mk ho
      have HB := Aside0.mk hb
      clear ho hb
      go_wp2
      go_ret2
      exact ⟨_, by rw [E2.out]; rfl, by rw [E1.out]; exact HO.out, HB.out⟩
    · have k' := eq_false_of_ne_true k
      have H := Aside0.mk h
      have K := Aside0.mk k'
      have E1 : Aside0 (resizeV xs n = []) := ⟨by simp [resizeV, k']⟩
      have E2 : Aside0 (resizeE xs n = 19) := ⟨by simp [resizeE, h, k']⟩
      clear h k k'
      go_enter Try.func49, Try.ntmps49
      go_wp2_with fail
      refine (logicIs_calls _ _ _ _ HX.out).mono ?_
      rintro e w1 ⟨rfl, rfl⟩
      rw [H.out]
      go_wp2_with fail
      refine (isLength_calls _ _).mono ?_
      rintro e w1 ⟨rfl, rfl⟩
      rw [K.out]
      go_wp2_with fail
      go_ret2
      exact ⟨_, by rw [E2.out]; rfl, by rw [E1.out]; exact Own.nil _ _, Below.refl _ _⟩
  · have h' := eq_false_of_ne_true h
    have H := Aside0.mk h'
    have E1 : Aside0 (resizeV xs n = []) := ⟨by simp [resizeV, h']⟩
    have E2 : Aside0 (resizeE xs n = 2) := ⟨by simp [resizeE, h']⟩
    clear h h'
    go_enter Try.func49, Try.ntmps49
    go_wp2_with fail
    refine (logicIs_calls _ _ _ _ HX.out).mono ?_
    rintro e w1 ⟨rfl, rfl⟩
    rw [H.out]
    go_wp2_with fail
    go_ret2
    exact ⟨_, by rw [E2.out]; rfl, by rw [E1.out]; exact Own.nil _ _, Below.refl _ _⟩

/-- Bit i is bit i - by, or 0. -/
def movedAt (xs : List Int) (k : Int) (i : Nat) : Int := if 0 ≤ (i : Int) - k ∧ (i : Int) - k < xs.length then nth xs ((i : Int) - k).toNat else 0
def movedV (xs : List Int) (k : Int) : List Int := (List.range xs.length).map (movedAt xs k)
def movedTo (xs : List Int) (k : Int) (n : Nat) : List Int := (List.range n).map (movedAt xs k)
theorem movedTo_length (k : Int) (n : Nat) : (movedTo xs k n).length = n := by simp [movedTo]
theorem movedTo_succ (k : Int) (n : Nat) : movedTo xs k (n + 1) = movedTo xs k n ++ [movedAt xs k n] := by simp [movedTo, List.range_succ]
theorem byt_moved (h : Byt xs) (k : Int) (i : Nat) : 0 ≤ movedAt xs k i ∧ movedAt xs k i ≤ 255 := by
  unfold movedAt
  split
  · exact h.nth _
  · omega
theorem moved_calls (k : Int) (hk0 : -64 ≤ k) (hk1 : k ≤ 64) (hx : Rd w A xs) (h1 : 1 ≤ xs.length) (h64 : xs.length ≤ 64) :
    Calls Try.prog 79 #[.slice A xs.length c, .int .i64 k] w fun e w' => ∃ v, e = .returned v ∧ Own w' w.heap.size v (movedV xs k) ∧ Below w.heap.size w w' := by
  have HX := Aside0.mk hx
  clear hx
  go_enter Try.func79, Try.ntmps79
  go_wp2_with ((with_reducible refine gate_dst (N := 10) rfl ?_); refine mk_bits (w0 := w) rfl rfl 29 _ _ rfl xs.length rfl rfl Try.underlying29 (by omega) (Below.refl _ _) ?_; intro v1 w1 ho hb; obtain ⟨g, cap, rfl, hg1, hg2⟩ := ho.form (by simp; omega); rw [List.length_replicate] at ho; have HO := Aside0.mk ho; have HB := Aside0.mk hb; clear ho hb hg2; simp only [List.length_replicate])
  go_loopw [13] (fun i wr => ∃ j : Nat, j ≤ xs.length ∧ i = .int .i64 j ∧ Aside0 (Own wr w.heap.size (.slice (some ⟨g, 0, none⟩) xs.length cap) (movedTo xs k j ++ List.replicate (xs.length - j) 0)) ∧ Aside0 (Below w.heap.size w wr)) (fun i _ => xs.length - (intOf i).toNat)
  case atStart => exact ⟨0, Nat.zero_le _, rfl, ⟨by simpa [movedTo] using HO.out⟩, HB⟩
  case round =>
    clear HO HB
    obtain ⟨j, hj, rfl, HO, HB⟩ := hrel
    by_cases hlt : j < xs.length
    · obtain ⟨hc, hf⟩ := HO.out.cell j hlt
      have hbt := byt_moved xs HX.out.b k j
      by_cases g0 : 0 ≤ (j : Int) - k
      · by_cases g1 : (j : Int) - k < xs.length
        · obtain ⟨ad, e, hd⟩ := (HX.out.below HB.out).at_ ((j : Int) - k).toNat (by omega)
          have EM : Aside0 (movedAt xs k j = nth xs ((j : Int) - k).toNat) := ⟨by simp only [movedAt]; rw [if_pos ⟨g0, g1⟩]⟩
          have HBT := Aside0.mk hbt
          cases e
          clear hbt
          go_wp2
          go_roundw
          case rel => exact ⟨j + 1, by omega, by go_num, ⟨by rw [movedTo_succ, ← fill_step _ j _ (movedTo_length xs k j) hlt, EM.out]; have := HBT.out; rw [EM.out] at this; exact HO.out.put j this.1 this.2⟩, ⟨HB.out.setCell hg1 _⟩⟩
          case measure => simp [intOf]; omega
        · have EM : Aside0 (movedAt xs k j = 0) := ⟨by simp only [movedAt]; rw [if_neg (fun h => g1 h.2)]⟩
          have hgd : decide ((j : Int) - k < xs.length) = false := by simpa using g1
          clear hbt
          go_wp2
          go_roundw
          case rel => exact ⟨j + 1, by omega, by go_num, ⟨by rw [movedTo_succ, EM.out, List.append_assoc]; have := HO.out; rw [show xs.length - j = (xs.length - (j + 1)) + 1 by omega, List.replicate_succ] at this; exact this⟩, HB⟩
          case measure => simp [intOf]; omega
      · have EM : Aside0 (movedAt xs k j = 0) := ⟨by simp only [movedAt]; rw [if_neg (fun h => g0 h.1)]⟩
        have hgd : decide (0 ≤ (j : Int) - k) = false := by simpa using g0
        have hgd2 : decide (k ≤ (j : Int)) = false := by simp; omega
        clear hbt
        go_wp2
        go_roundw
        case rel => exact ⟨j + 1, by omega, by go_num, ⟨by rw [movedTo_succ, EM.out, List.append_assoc]; have := HO.out; rw [show xs.length - j = (xs.length - (j + 1)) + 1 by omega, List.replicate_succ] at this; exact this⟩, HB⟩
        case measure => simp [intOf]; omega
    · have HX : Aside0 (Own wr w.heap.size (.slice (some ⟨g, 0, none⟩) xs.length cap) (movedV xs k)) := ⟨by have := HO.out; rw [show j = xs.length by omega] at this; simpa [movedTo, movedV] using this⟩
      go_wp2
      go_ret
      exact ⟨_, rfl, HX.out, HB.out⟩
def shiftE (xs : List Int) (k : Int) : Int := if isV xs = false then 2 else if decide (0 ≤ k) = false then 19 else 0
def LeftV (xs : List Int) (k : Int) : List Int := if isV xs && decide (0 ≤ k) then movedV xs (min k 64) else []
theorem vecLeft_calls (k : Int) (hx : Rd w A xs) (hk : k ≤ 9223372036854775807) :
    Calls Try.prog 37 #[.slice A xs.length c, .int .i64 k] w fun e w' => ∃ v, e = .returned (.tuple #[v, .int .i64 (shiftE xs k)]) ∧ Own w' w.heap.size v (LeftV xs k) ∧ Below w.heap.size w w' := by
  have HX := Aside0.mk hx
  clear hx
  by_cases h : isV xs = true
  · by_cases hk : 0 ≤ k
    · have H := Aside0.mk h
      have hn := isV_pos h
      have hn1 := hn.1
      have hn2 := hn.2.1
      have E1 : Aside0 (LeftV xs k = movedV xs (min k 64)) := ⟨by simp [LeftV, h, hk]⟩
      have E2 : Aside0 (shiftE xs k = 0) := ⟨by simp [shiftE, h, hk]⟩
      clear h hn
      by_cases hk2 : k ≤ 64
      · have EM : Aside0 (min k 64 = k) := ⟨by omega⟩
        go_enter Try.func37, Try.ntmps37
        go_wp2_with fail
        refine (logicIs_calls _ _ _ _ HX.out).mono ?_
        rintro e w1 ⟨rfl, rfl⟩
        rw [H.out]
        go_wp2_with fail
        have hm := moved_calls xs A c w (k) (by omega) (by omega) HX.out hn1 hn2
        refine hm.mono ?_
        rintro e w1 ⟨v, rfl, ho, hb⟩
        have HO := Aside0.mk ho
        have HB := Aside0.mk hb
        clear ho hb
        go_wp2_with fail
        go_ret2
        exact ⟨_, by rw [E2.out]; rfl, by rw [E1.out, EM.out]; exact HO.out, HB.out⟩
      · have EM : Aside0 (min k 64 = 64) := ⟨by omega⟩
        go_enter Try.func37, Try.ntmps37
        go_wp2_with fail
        refine (logicIs_calls _ _ _ _ HX.out).mono ?_
        rintro e w1 ⟨rfl, rfl⟩
        rw [H.out]
        go_wp2_with fail
        have hm := moved_calls xs A c w (64) (by omega) (by omega) HX.out hn1 hn2
        refine hm.mono ?_
        rintro e w1 ⟨v, rfl, ho, hb⟩
        have HO := Aside0.mk ho
        have HB := Aside0.mk hb
        clear ho hb
        go_wp2_with fail
        go_ret2
        exact ⟨_, by rw [E2.out]; rfl, by rw [E1.out, EM.out]; exact HO.out, HB.out⟩
    · have hk' : decide (0 ≤ k) = false := by simpa using hk
      have H := Aside0.mk h
      have E1 : Aside0 (LeftV xs k = []) := ⟨by simp [LeftV, hk']⟩
      have E2 : Aside0 (shiftE xs k = 19) := ⟨by simp [shiftE, h, hk']⟩
      clear h hk'
      go_enter Try.func37, Try.ntmps37
      go_wp2_with fail
      refine (logicIs_calls _ _ _ _ HX.out).mono ?_
      rintro e w1 ⟨rfl, rfl⟩
      rw [H.out]
      go_wp2_with fail
      go_ret2
      exact ⟨_, by rw [E2.out]; rfl, by rw [E1.out]; exact Own.nil _ _, Below.refl _ _⟩
  · have h' := eq_false_of_ne_true h
    have H := Aside0.mk h'
    have E1 : Aside0 (LeftV xs k = []) := ⟨by simp [LeftV, h']⟩
    have E2 : Aside0 (shiftE xs k = 2) := ⟨by simp [shiftE, h']⟩
    clear h h'
    go_enter Try.func37, Try.ntmps37
    go_wp2_with fail
    refine (logicIs_calls _ _ _ _ HX.out).mono ?_
    rintro e w1 ⟨rfl, rfl⟩
    rw [H.out]
    go_wp2_with fail
    go_ret2
    exact ⟨_, by rw [E2.out]; rfl, by rw [E1.out]; exact Own.nil _ _, Below.refl _ _⟩
def RightV (xs : List Int) (k : Int) : List Int := if isV xs && decide (0 ≤ k) then movedV xs (-(min k 64)) else []
theorem vecRight_calls (k : Int) (hx : Rd w A xs) (hk : k ≤ 9223372036854775807) :
    Calls Try.prog 39 #[.slice A xs.length c, .int .i64 k] w fun e w' => ∃ v, e = .returned (.tuple #[v, .int .i64 (shiftE xs k)]) ∧ Own w' w.heap.size v (RightV xs k) ∧ Below w.heap.size w w' := by
  have HX := Aside0.mk hx
  clear hx
  by_cases h : isV xs = true
  · by_cases hk : 0 ≤ k
    · have H := Aside0.mk h
      have hn := isV_pos h
      have hn1 := hn.1
      have hn2 := hn.2.1
      have E1 : Aside0 (RightV xs k = movedV xs (-(min k 64))) := ⟨by simp [RightV, h, hk]⟩
      have E2 : Aside0 (shiftE xs k = 0) := ⟨by simp [shiftE, h, hk]⟩
      clear h hn
      by_cases hk2 : k ≤ 64
      · have EM : Aside0 (min k 64 = k) := ⟨by omega⟩
        go_enter Try.func39, Try.ntmps39
        go_wp2_with fail
        refine (logicIs_calls _ _ _ _ HX.out).mono ?_
        rintro e w1 ⟨rfl, rfl⟩
        rw [H.out]
        go_wp2_with fail
        have hm := moved_calls xs A c w (-k) (by omega) (by omega) HX.out hn1 hn2
        refine hm.mono ?_
        rintro e w1 ⟨v, rfl, ho, hb⟩
        have HO := Aside0.mk ho
        have HB := Aside0.mk hb
        clear ho hb
        go_wp2_with fail
        go_ret2
        exact ⟨_, by rw [E2.out]; rfl, by rw [E1.out, EM.out]; exact HO.out, HB.out⟩
      · have EM : Aside0 (min k 64 = 64) := ⟨by omega⟩
        go_enter Try.func39, Try.ntmps39
        go_wp2_with fail
        refine (logicIs_calls _ _ _ _ HX.out).mono ?_
        rintro e w1 ⟨rfl, rfl⟩
        rw [H.out]
        go_wp2_with fail
        have hm := moved_calls xs A c w (-64) (by omega) (by omega) HX.out hn1 hn2
        refine hm.mono ?_
        rintro e w1 ⟨v, rfl, ho, hb⟩
        have HO := Aside0.mk ho
        have HB := Aside0.mk hb
        clear ho hb
        go_wp2_with fail
        go_ret2
        exact ⟨_, by rw [E2.out]; rfl, by rw [E1.out, EM.out]; exact HO.out, HB.out⟩
    · have hk' : decide (0 ≤ k) = false := by simpa using hk
      have H := Aside0.mk h
      have E1 : Aside0 (RightV xs k = []) := ⟨by simp [RightV, hk']⟩
      have E2 : Aside0 (shiftE xs k = 19) := ⟨by simp [shiftE, h, hk']⟩
      clear h hk'
      go_enter Try.func39, Try.ntmps39
      go_wp2_with fail
      refine (logicIs_calls _ _ _ _ HX.out).mono ?_
      rintro e w1 ⟨rfl, rfl⟩
      rw [H.out]
      go_wp2_with fail
      go_ret2
      exact ⟨_, by rw [E2.out]; rfl, by rw [E1.out]; exact Own.nil _ _, Below.refl _ _⟩
  · have h' := eq_false_of_ne_true h
    have H := Aside0.mk h'
    have E1 : Aside0 (RightV xs k = []) := ⟨by simp [RightV, h']⟩
    have E2 : Aside0 (shiftE xs k = 2) := ⟨by simp [shiftE, h']⟩
    clear h h'
    go_enter Try.func39, Try.ntmps39
    go_wp2_with fail
    refine (logicIs_calls _ _ _ _ HX.out).mono ?_
    rintro e w1 ⟨rfl, rfl⟩
    rw [H.out]
    go_wp2_with fail
    go_ret2
    exact ⟨_, by rw [E2.out]; rfl, by rw [E1.out]; exact Own.nil _ _, Below.refl _ _⟩

def one1 (b : Int) : Int := if b = 1 then 1 else 0
def ones (xs : List Int) : List Int := xs.map one1
def toIntV (xs : List Int) : Int := if isV xs && decide (xs.length ≤ 31) then num (ones xs) else 0
def toIntE (xs : List Int) : Int := if isV xs = false then 2 else if decide (xs.length ≤ 31) = false then 19 else 0
theorem ones_length : (ones xs).length = xs.length := by simp [ones]
theorem ones_nth (k : Nat) (hk : k < xs.length) : nth (ones xs) k = one1 (nth xs k) := by
  rw [nth_eq _ _ (by rw [ones_length]; exact hk), nth_eq _ _ hk]; simp [ones]
theorem ones_byt : Byt (ones xs) := fun x hx => by
  simp only [ones, List.mem_map] at hx
  obtain ⟨b, _, rfl⟩ := hx
  unfold one1
  split <;> omega
theorem ones_known : knownB (ones xs) = true := List.all_eq_true.2 fun x hx => by
  simp only [ones, List.mem_map] at hx
  obtain ⟨b, _, rfl⟩ := hx
  unfold one1 le1
  split <;> simp
theorem or_bit_i64 (k : Nat) (hk : k < 31) (a : Int) (h0 : 0 ≤ a) (h1 : a < 2 ^ k) : Go.bits .or .i64 a (wrap64 (2 ^ k)) = a + 2 ^ k := by
  obtain ⟨m, rfl⟩ := Int.eq_ofNat_of_zero_le h0
  have hm : m < 2 ^ k := by exact_mod_cast h1
  have hp : 2 ^ k ≤ 2 ^ 30 := Nat.pow_le_pow_right (by decide) (by omega)
  have hc : (2 : Int) ^ k = ((2 ^ k * 1 : Nat) : Int) := by simp
  have hw : wrap64 ((2 : Int) ^ k) = ((2 ^ k * 1 : Nat) : Int) := by rw [hc]; unfold wrap64; omega
  have hx : ∀ n : Int, 0 ≤ n → n < 2 ^ 62 → IntKind.i64.wrap n = n := fun n h0 h1 => IntWalk.i64_in _ (by omega)
  rw [hw, (bits_nat .i64 62 (by decide) hx m (2 ^ k * 1) (by omega) (by omega)).2, Nat.or_comm, ← Nat.two_pow_add_eq_or_of_lt hm 1]
  simp [Int.add_comm]
set_option maxRecDepth 100000 in
theorem vecToInt_calls (hx : Rd w A xs) :
    Calls Try.prog 43 #[.slice A xs.length c] w fun e w' => e = .returned (.tuple #[.int .i64 (toIntV xs), .int .i64 (toIntE xs)]) ∧ w = w' := by
  have HX := Aside0.mk hx
  have hm := hx.le
  clear hx
  by_cases h : isV xs = true
  · by_cases k : xs.length ≤ 31
    · have H := Aside0.mk h
      have E1 : Aside0 (toIntV xs = num (ones xs)) := ⟨by simp [toIntV, h, k]⟩
      have E2 : Aside0 (toIntE xs = 0) := ⟨by simp [toIntE, h, k]⟩
      clear h hm
      go_enter Try.func43, Try.ntmps43
      go_wp2_with fail
      refine (logicIs_calls _ _ _ _ HX.out).mono ?_
      rintro e w1 ⟨rfl, rfl⟩
      rw [H.out]
      go_wp2_with fail
      go_loop [4, 17] (fun n i => ∃ j : Nat, j ≤ xs.length ∧ i = .int .i64 j ∧ n = .int .i64 (num ((ones xs).take j))) (fun _ i => xs.length - (intOf i).toNat)
      case atStart => exact ⟨0, Nat.zero_le _, rfl, rfl⟩
      case round =>
        obtain ⟨j, hj, rfl, rfl⟩ := hrel
        by_cases hlt : j < xs.length
        · obtain ⟨ad, e120, hc⟩ := HX.out.at_ j hlt
          cases e120
          have hs := num_take_succ (ones xs) j (by rw [ones_length]; exact hlt)
          rw [ones_nth _ _ hlt] at hs
          by_cases hb : nth xs j = 1
          · have hbb : (nth xs j == 1) = true := by simp [hb]
            have HS := Aside0.mk hs
            clear hs
            go_wp2
            go_round
            case rel =>
              have hn := num_bounds ((ones xs).take j) (byt_take (ones_byt xs) j) (known_take (ones_known xs) j)
              rw [List.length_take, ones_length, Nat.min_eq_left hj] at hn
              exact ⟨j + 1, by omega, by go_num, by rw [or_bit_i64 j (by omega) _ hn.1 hn.2, HS.out, hb]; simp [one1]⟩
            case measure => simp [intOf]; omega
          · have hbb : (nth xs j == 1) = false := by simp [hb]
            have HS : Aside0 (num ((ones xs).take (j + 1)) = num ((ones xs).take j)) := ⟨by rw [hs]; simp [one1, hb]⟩
            clear hs hb
            go_wp2
            go_round
            case rel => exact ⟨j + 1, by omega, by go_num, by rw [HS.out]⟩
            case measure => simp [intOf]; omega
        · have HS : num ((ones xs).take j) = num (ones xs) := by rw [show j = xs.length by omega, List.take_of_length_le (by rw [ones_length]; omega)]
          go_wp2
          go_ret2
          exact ⟨by rw [E1.out, E2.out]; rfl, rfl⟩
    · have H := Aside0.mk h
      have E1 : Aside0 (toIntV xs = 0) := ⟨by simp [toIntV, k]⟩
      have E2 : Aside0 (toIntE xs = 19) := ⟨by simp [toIntE, h, k]⟩
      clear h
      go_enter Try.func43, Try.ntmps43
      go_wp2_with fail
      refine (logicIs_calls _ _ _ _ HX.out).mono ?_
      rintro e w1 ⟨rfl, rfl⟩
      rw [H.out]
      go_wp2_with fail
      go_ret2
      exact ⟨by rw [E1.out, E2.out]; rfl, rfl⟩
  · have h' := eq_false_of_ne_true h
    have H := Aside0.mk h'
    have E1 : Aside0 (toIntV xs = 0) := ⟨by simp [toIntV, h']⟩
    have E2 : Aside0 (toIntE xs = 2) := ⟨by simp [toIntE, h']⟩
    clear h h'
    go_enter Try.func43, Try.ntmps43
    go_wp2_with fail
    refine (logicIs_calls _ _ _ _ HX.out).mono ?_
    rintro e w1 ⟨rfl, rfl⟩
    rw [H.out]
    go_wp2_with fail
    go_ret2
    exact ⟨by rw [E1.out, E2.out]; rfl, rfl⟩
end
end Go.Proofs.Ytaffdpgacggllaa.V
